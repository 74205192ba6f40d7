import PyProof.Rows.All
import HandS.ForMost
import HandS.Lambda
import HandS.HeadHook2
import HandS.TupMul
import HandS.TupAny
import HandS.Style
import HandS.IsInst
import KE.SortData
import HandS.More
import HandS.Deep
import HandS.StrMore
import HandS.Replace
import HandS.Text
import KE.DataFind
import PyProof.Rows.StrPadFill
import KE.GoesEnum
import HandS.Zip
import HandS.DictComp
import HandS.HeadWalk
import HandS.Conv
import HandS.Small
import HandS.Codes
import HandS.Head0
import HandS.Head1
import HandS.Head2
import HandS.HeadEnd
import HandS.HeadHook1
import HandS.EndTab
import PySem.Challenge.RW_sortedshelves_k90_whole_copies_joined
set_option Elab.async false
set_option linter.all false
set_option maxRecDepth 100000
set_option maxHeartbeats 0
noncomputable section
/-! A small evaluator over plain data: values without addresses, a store of cells for what may change. -/
namespace Rf
open PySem

/-- plain values; `lst` is a list that nobody changes, `ref` a cell of the store, `glb` what a module's name stands for -/
inductive D where
  | non
  | bl (b : Bool)
  | int (i : Int)
  | str (x : List Nat)
  | tup (ds : List D)
  | lst (ds : List D)
  | ref (h : Nat)
  | glb (x : Str)
  deriving Inhabited

mutual
def D.beq : D → D → Bool
  | .non, .non => true
  | .bl a, .bl b => a == b
  | .int a, .int b => a == b
  | .str a, .str b => a == b
  | .tup a, .tup b => D.beqs a b
  | .lst a, .lst b => D.beqs a b
  | .ref a, .ref b => a == b
  | .glb a, .glb b => decide (a = b)
  | _, _ => false
def D.beqs : List D → List D → Bool
  | [], [] => true
  | a :: as, b :: bs => D.beq a b && D.beqs as bs
  | _, _ => false
end
mutual
theorem D.beq_eq : ∀ {a b : D}, D.beq a b = true → a = b := fun {a b} h => by
  cases a <;> cases b <;> simp only [D.beq, Bool.false_eq_true, beq_iff_eq, decide_eq_true_eq] at h <;> first | rfl | (rw [h]) | (rw [D.beqs_eq h])
theorem D.beqs_eq : ∀ {a b : List D}, D.beqs a b = true → a = b := fun {a b} h => by
  match a, b with
  | [], [] => rfl
  | a :: as, b :: bs =>
    simp only [D.beqs, Bool.and_eq_true] at h
    rw [D.beq_eq h.1, D.beqs_eq h.2]
  | [], _ :: _ => simp [D.beqs] at h
  | _ :: _, [] => simp [D.beqs] at h
end
mutual
theorem D.beq_rfl : ∀ a : D, D.beq a a = true := fun a => by
  cases a <;> simp only [D.beq, beq_self_eq_true, decide_true] <;> exact D.beqs_rfl _
theorem D.beqs_rfl : ∀ a : List D, D.beqs a a = true := fun a => by
  match a with
  | [] => rfl
  | a :: as => simp only [D.beqs, D.beq_rfl a, D.beqs_rfl as, Bool.and_self]
end
instance : DecidableEq D := fun a b => if h : D.beq a b = true then isTrue (D.beq_eq h) else isFalse (fun e => h (e ▸ D.beq_rfl a))

/-- what may change -/
inductive Cell where
  | lst (ds : List D)
  | dct (kvs : List (D × D))
  /-- a dict that is walked -/
  | lck (kvs : List (D × D))
  | ins (c : Str) (fs : List (Str × D))
  deriving Inhabited, DecidableEq
abbrev Store := List Cell
abbrev Env := List (Option D)

/-- what an expression comes to: a value, or an error that is raised (its class, its fields) -/
inductive Res (α : Type) where
  | ok (a : α) (S : Store)
  | exc (c : Str) (fs : List D) (S : Store)
abbrev RM (α : Type) := Option (Res α)
def RM.bind {α β : Type} (m : RM α) (f : α → Store → RM β) : RM β := match m with
  | some (.ok a S) => f a S
  | some (.exc c fs S) => some (.exc c fs S)
  | none => none
@[simp] theorem RM.bind_ok {α β : Type} (a : α) (S : Store) (f : α → Store → RM β) : RM.bind (some (.ok a S)) f = f a S := rfl
@[simp] theorem RM.bind_exc {α β : Type} (c : Str) (fs : List D) (S : Store) (f : α → Store → RM β) : RM.bind (some (.exc c fs S)) f = some (.exc c fs S) := rfl
@[simp] theorem RM.bind_none {α β : Type} (f : α → Store → RM β) : RM.bind none f = none := rfl
def RM.lift {α : Type} (m : Option α) (S : Store) : RM α := m.map fun a => .ok a S
@[simp] theorem RM.lift_some {α : Type} (a : α) (S : Store) : RM.lift (some a) S = some (.ok a S) := rfl
@[simp] theorem RM.lift_none {α : Type} (S : Store) : RM.lift (none : Option α) S = none := rfl

/-! ### plain operations -/
def line : Nat := 16777216
/-- the items of a list or tuple -/
def itemsOf (S : Store) : D → Option (List D)
  | .tup ds => some ds
  | .lst ds => some ds
  | .ref h => match S[h]? with
    | some (.lst ds) => some ds
    | _ => none
  | _ => none
def truthD (S : Store) : D → Option Bool
  | .non => some false
  | .bl b => some b
  | .int i => some (i != 0)
  | .str x => if x.length ≤ line then some (!x.isEmpty) else none
  | .tup ds => some (!ds.isEmpty)
  | .lst ds => some (!ds.isEmpty)
  | .ref h => match S[h]? with
    | some (.lst ds) => some (!ds.isEmpty)
    | some (.dct kvs) => some (!kvs.isEmpty)
    | _ => none
  | _ => none
mutual
/-- data, for == and repr -/
def pyOf : D → Option PyData
  | .non => some .none
  | .bl b => some (.bool b)
  | .int i => some (.int i)
  | .str x => some (.str ⟨x.toArray⟩)
  | .tup ds => (pysOf ds).map .tuple
  | .lst ds => (pysOf ds).map .list
  | _ => none
def pysOf : List D → Option (List PyData)
  | [] => some []
  | d :: ds => match pyOf d, pysOf ds with
    | some x, some xs => some (x :: xs)
    | _, _ => none
end
/-- .. of a cell too -/
def dataOf (S : Store) : D → Option PyData
  | .ref h => match S[h]? with
    | some (.lst ds) => (pysOf ds).map .list
    | _ => none
  | d => pyOf d
/-- == of plain data (no cells), as Python has it -/
def eqD (d e : D) : Option Bool := (pyOf d).bind fun p => (pyOf e).map fun q => PyData.eqv p q
def eqDs (d e : List D) : Option Bool := (pysOf d).bind fun p => (pysOf e).map fun q => PyData.eqvAll p q
mutual
def depthD : D → Nat
  | .tup ds => depthDs ds + 1
  | .lst ds => depthDs ds + 1
  | _ => 0
def depthDs : List D → Nat
  | [] => 0
  | d :: ds => max (depthD d) (depthDs ds)
end
def eqO (x y : D) : Option Bool := if depthD x ≤ 60 ∧ depthD y ≤ 60 then eqD x y else none
/-- the cell's list as a value -/
def frozen (S : Store) : D → D
  | .ref h => match S[h]? with
    | some (.lst ds) => .lst ds
    | _ => .ref h
  | d => d
def flatD : D → Bool
  | .non => true
  | .bl _ => true
  | .int _ => true
  | .str _ => true
  | _ => false
def keyD : D → Bool
  | .int _ => true
  | .str _ => true
  | _ => false
/-- the place of an index -/
def placeOf (i : Int) (n : Nat) : Option Nat := if 0 ≤ i then (if i < n then some i.toNat else none) else if 0 ≤ i + n then some (i + n).toNat else none
/-- where a slice's end lies -/
def cutAt (n : Nat) (i : Int) : Nat := if 0 ≤ i then min i.toNat n else (i + n).toNat
def sliced {α : Type} (xs : List α) (lo hi : Option Int) : List α :=
  let a := match lo with | some i => cutAt xs.length i | none => 0
  let b := match hi with | some i => cutAt xs.length i | none => xs.length
  (xs.drop a).take (b - a)
def getK (kvs : List (D × D)) (k : D) : Option D := (kvs.find? fun kv => decide (kv.1 = k)).map (·.2)
def setK (kvs : List (D × D)) (k v : D) : List (D × D) := if kvs.any fun kv => decide (kv.1 = k) then kvs.map fun kv => if kv.1 = k then (kv.1, v) else kv else kvs ++ [(k, v)]
def putA : List (Str × D) → Str → D → List (Str × D)
  | [], f, v => [(f, v)]
  | (g, x) :: r, f, v => if g = f then (g, v) :: r else (g, x) :: putA r f v
/-- whether one text stands in another one -/
def infixB (x : List Nat) : List Nat → Bool
  | [] => x.isEmpty
  | y :: ys => x.isPrefixOf (y :: ys) || infixB x ys

/-! ### the language -/
inductive Tg where
  | nm (i : Nat)
  | tup (is : List Nat)
  deriving DecidableEq
/-- what is walked: a thing itself, range(..), enumerate(..), zip(.., ..) -/
inductive IK where
  | seq | range | enum | zip | keys
  deriving DecidableEq
/-- names of built-ins -/
inductive B where
  | len | int | abs | max | min | sum | sorted | tuple | list | dict | repr | str | isi (t : Str)
  deriving DecidableEq
mutual
inductive E where
  | var (i : Nat)
  | cst (d : D)
  | glob (x : Str)
  | tup (es : List E)
  | lst (es : List E)
  | dct (kvs : List E)
  | bin (op : Operator) (a b : E)
  | neg (a : E)
  | cmp (op : CmpOp) (a b : E)
  | chain (o1 o2 : CmpOp) (a b c : E)
  | and (a b : E)
  | or (a b : E)
  | not (a : E)
  | ite (c : T) (a b : E)
  | callG (x : Str) (es : List E)
  | callB (b : B) (es : List E)
  | meth (o : E) (m : Str) (es : List E)
  | fld (o : E) (f : Str)
  | idx (o i : E)
  | slc (o : E) (lo hi : List E)
  | rev (o : E)
  | comp (elt : E) (tg : Tg) (vs : List Nat) (ik : IK) (its : List E) (cond : List T)
  | dcomp (k v : E) (tg : Tg) (vs : List Nat) (ik : IK) (its : List E) (cond : List T)
  | tupR (es : List E)
  | mk (e : E)
  | thunk (x : Str) (e : E)
  | bad
inductive T where
  | val (e : E)
  | and (a b : T)
  | or (a b : T)
  | not (a : T)
end
inductive St where
  | asg (i : Nat) (e : E)
  | unp (is : List Nat) (e : E)
  | par (is : List Nat) (es : List E)
  | fldS (o : E) (f : Str) (e : E)
  | idxS (o i e : E)
  | aug (i : Nat) (op : Operator) (e : E)
  | expr (e : E)
  | ret (e : E)
  | retN
  | iff (c : T) (a b : List St)
  | forS (tg : Tg) (ik : IK) (its : List E) (body : List St)
  | whileS (c : T) (body : List St)
  | pass | brk | cont
  | tryS (body : List St)
  | bad
/-- a def: how many parameters, how many slots, its body -/
structure Fn where
  np : Nat
  nslots : Nat
  body : List St
  deriving Inhabited
end Rf
/-! The evaluator. -/
namespace Rf
open PySem

/-! ### operators -/
def addD (S : Store) (x y : D) : Option D := match x, y with
  | .int i, .int j => some (.int (i + j))
  | .str x, .str y => if x.length + y.length ≤ line then some (.str (x ++ y)) else none
  | .tup x, .tup y => if x.length + y.length ≤ line then some (.tup (x ++ y)) else none
  | x, y => match frozen S x, frozen S y with
    | .lst x, .lst y => if x.length + y.length ≤ line then some (.lst (x ++ y)) else none
    | _, _ => none
def mulD (S : Store) (x y : D) : Option D := match x, y with
  | .int i, .int j => if (-(2 ^ 64) < i ∧ i < 2 ^ 64) ∨ (-(2 ^ 64) < j ∧ j < 2 ^ 64) then some (.int (i * j)) else none
  | .str x, .int j => if x.length * j.toNat ≤ line ∧ j ≤ 1000000 ∧ 0 ≤ j then some (.str (List.replicate j.toNat x).flatten) else none
  | .tup x, .int j => if x.length ≤ 1000 ∧ x ≠ [] ∧ 2 ≤ j ∧ j ≤ 1000 then some (.tup (List.replicate j.toNat x).flatten) else none
  | x, .int j => match frozen S x with
    | .lst x => if x.length * j.toNat ≤ line ∧ j < 2 ^ 62 ∧ -(2 ^ 62) < j then some (.lst (List.replicate j.toNat x).flatten) else none
    | _ => none
  | _, _ => none
def opD (S : Store) (op : Operator) (x y : D) : Option D := match op with
  | .Add => addD S x y
  | .Mult => mulD S x y
  | .Sub => match x, y with
    | .int i, .int j => some (.int (i - j))
    | _, _ => none
  | .FloorDiv => match x, y with
    | .int i, .int j => if 0 < j ∧ j < 1073741824 then some (.int (i / j)) else none
    | _, _ => none
  | .Mod => match x, y with
    | .int i, .int j => if 0 < j then some (.int (i % j)) else none
    | _, _ => none
  | .Pow => match x, y with
    | .int i, .int j => if 0 ≤ j ∧ j ≤ 1000000 ∧ i.natAbs < 2 ^ 64 then some (.int (i ^ j.toNat)) else none
    | _, _ => none
  | _ => none
/-- x in y -/
def inSeq (x : D) (ds : List D) : Option Bool := if flatD x && ds.all flatD then some (ds.any fun d => eqD d x == some true) else none
def inD (S : Store) (x y : D) : Option Bool := match frozen S y with
  | .str z => match x with
    | .str [c] => some (decide (c ∈ z))
    | _ => none
  | .tup ds => inSeq x ds
  | .lst ds => inSeq x ds
  | .ref h => match S[h]? with
    | some (.dct kvs) => if keyD x then some (getK kvs x).isSome else none
    | _ => none
  | _ => none
def cmpD (S : Store) (op : CmpOp) (x y : D) : Option Bool := match op with
  | .Eq => eqO (frozen S x) (frozen S y)
  | .NotEq => (eqO (frozen S x) (frozen S y)).map (!·)
  | .Lt => match x, y with
    | .int i, .int j => some (decide (i < j))
    | .str i, .str j => some (decide (i < j))
    | _, _ => none
  | .LtE => match x, y with
    | .int i, .int j => some (decide (i ≤ j))
    | _, _ => none
  | .Gt => match x, y with
    | .int i, .int j => some (decide (j < i))
    | _, _ => none
  | .GtE => match x, y with
    | .int i, .int j => some (decide (j ≤ i))
    | _, _ => none
  | .Is => if y = .non then some (decide (x = .non)) else none
  | .IsNot => if y = .non then some (!decide (x = .non)) else none
  | .In => inD S x y
  | .NotIn => (inD S x y).map (!·)
/-- o[i] -/
def idxD (S : Store) (o i : D) : Option D := match frozen S o with
  | .str x => match i with
    | .int i => if x.length ≤ line then (placeOf i x.length).bind fun k => (x[k]?).map fun c => .str [c] else none
    | _ => none
  | .tup ds => match i with
    | .int i => (placeOf i ds.length).bind fun k => ds[k]?
    | _ => none
  | .lst ds => match i with
    | .int i => (placeOf i ds.length).bind fun k => ds[k]?
    | _ => none
  | .ref h => match S[h]? with
    | some (.dct kvs) => if keyD i then getK kvs i else none
    | _ => none
  | _ => none
/-- o[lo:hi] -/
def slcD (S : Store) (o : D) (lo hi : Option Int) : Option D := match frozen S o with
  | .str x => if x.length ≤ line then some (.str (sliced x lo hi)) else none
  | .tup ds => some (.tup (sliced ds lo hi))
  | .lst ds => some (.lst (sliced ds lo hi))
  | _ => none
def intsOf : List D → Option (List Int)
  | [] => some []
  | .int i :: ds => (intsOf ds).map (i :: ·)
  | _ => none
def strsOf : List D → Option (List (List Nat))
  | [] => some []
  | .str x :: ds => (strsOf ds).map (x :: ·)
  | _ => none
/-- pairs of a number and a text -/
def isOf : List D → Option (List (Int × List Nat))
  | [] => some []
  | .tup [.int i, .str x] :: ds => (isOf ds).map ((i, x) :: ·)
  | _ => none
def isLe (a b : Int × List Nat) : Bool := decide (a.1 < b.1) || (decide (a.1 = b.1) && !decide (b.2 < a.2))
def isiD (S : Store) (t : Str) : D → Option Bool
  | .non => some false
  | .bl _ => some (decide (t = "bool") || decide (t = "int"))
  | .int _ => some (decide (t = "int"))
  | .str _ => some (decide (t = "str"))
  | .tup _ => some (decide (t = "tuple"))
  | .lst _ => some (decide (t = "list"))
  | .ref h => match S[h]? with
    | some (.lst _) => some (decide (t = "list"))
    | some (.dct _) => some (decide (t = "dict"))
    | _ => none
  | _ => none
def tyName (x : Str) : Bool := decide (x = "int") || decide (x = "bool") || decide (x = "str") || decide (x = "tuple") || decide (x = "list") || decide (x = "dict")
/-- what a turned row comes to -/
def revD (S : Store) (x : D) : Option D := match frozen S x with
  | .str z => if z.length ≤ line then some (.str z.reverse) else none
  | .tup ds => some (.tup ds.reverse)
  | .lst ds => some (.lst ds.reverse)
  | _ => none
/-! built-ins called -/
def lenD (S : Store) : List D → Option D
  | [d] => match frozen S d with
    | .str x => if x.length ≤ line then some (.int x.length) else none
    | .tup ds => some (.int ds.length)
    | .lst ds => some (.int ds.length)
    | .ref h => match S[h]? with
      | some (.dct kvs) => some (.int kvs.length)
      | _ => none
    | _ => none
  | _ => none
def intD : List D → Option D
  | [.int i] => some (.int i)
  | [.bl b] => some (.int (if b then 1 else 0))
  | _ => none
def absD : List D → Option D
  | [.int i] => some (.int (if i < 0 then -i else i))
  | _ => none
def maxD : List D → Option D
  | [.int i, .int j] => some (.int (if j > i then j else i))
  | _ => none
def minD : List D → Option D
  | [.int i, .int j] => some (.int (if j < i then j else i))
  | _ => none
def sumD (S : Store) : List D → Option D
  | [d] => match frozen S d with
    | .lst ds => (intsOf ds).map fun ns => .int ns.sum
    | _ => none
  | _ => none
def sortedD (S : Store) : List D → Option D
  | [d] => match frozen S d with
    | .lst ds => if ds.length ≤ line then (match isOf ds, strsOf ds, intsOf ds with
      | some ps, _, _ => some (.lst ((ps.mergeSort isLe).map fun p => .tup [.int p.1, .str p.2]))
      | _, some xs, _ => some (.lst ((xs.mergeSort fun a b => !decide (b < a)).map .str))
      | _, _, some ns => some (.lst ((ns.mergeSort fun a b => decide (a ≤ b)).map .int))
      | _, _, _ => none) else none
    | _ => none
  | _ => none
def tupleD (S : Store) : List D → Option D
  | [d] => match frozen S d with
    | .lst ds => some (.tup ds)
    | .tup ds => some (.tup ds)
    | _ => none
  | _ => none
def listD (S : Store) : List D → Option D
  | [d] => match frozen S d with
    | .lst ds => some (.lst ds)
    | .tup ds => some (.lst ds)
    | _ => none
  | _ => none
def reprD : List D → Option D
  | [d] => match pyOf d with
    | some x => if x.showable && x.layable0 && x.intsShort 13 && decide (x.depth ≤ 60) then some (.str x.shown.cps.toList) else none
    | none => none
  | _ => none
def isiL (S : Store) (t : Str) : List D → Option D
  | [d] => if tyName t then (isiD S t d).map .bl else none
  | _ => none
def bltD (S : Store) (b : B) (ds : List D) : Option D := match b with
  | .len => lenD S ds
  | .int => intD ds
  | .abs => absD ds
  | .max => maxD ds
  | .min => minD ds
  | .sum => sumD S ds
  | .sorted => sortedD S ds
  | .tuple => tupleD S ds
  | .list => listD S ds
  | .repr => reprD ds
  | .isi t => isiL S t ds
  | .dict => none
  | .str => none
def joinL (sep : List Nat) : List (List Nat) → List Nat
  | [] => []
  | [x] => x
  | x :: xs => x ++ sep ++ joinL sep xs
/-- the methods of built-in types -/
inductive Mt where
  | lAppend | lExtend | lInsert | lPop | lIndex | lRemove | lCount | tCount | dGet | sJoin | sLjust | sIndex
  deriving DecidableEq
def mtOf (S : Store) (d : D) (m : Str) : Option Mt := match frozen S d with
  | .lst _ => if m = "append" then some .lAppend else if m = "extend" then some .lExtend else if m = "insert" then some .lInsert else if m = "pop" then some .lPop
    else if m = "index" then some .lIndex else if m = "remove" then some .lRemove else if m = "count" then some .lCount else none
  | .tup _ => if m = "count" then some .tCount else none
  | .str _ => if m = "join" then some .sJoin else if m = "ljust" then some .sLjust else if m = "index" then some .sIndex else none
  | .ref h => match S[h]? with
    | some (.dct _) => if m = "get" then some .dGet else none
    | _ => none
  | _ => none
def clsOf (S : Store) (d : D) (m : Str) : Option Str := match d with
  | .ref h => match S[h]? with
    | some (.ins c fs) => if (fs.lookup m).isNone then some c else none
    | _ => none
  | _ => none
/-- data that can be compared -/
def dataOk (x : D) (ds : List D) : Bool := (pyOf x).isSome && (pysOf ds).isSome && decide (depthD x ≤ 60) && decide (depthDs ds ≤ 60)
def isIt (x d : D) : Bool := eqD d x == some true
/-- a cell's list is changed -/
def lstSet (S : Store) (o : D) (f : List D → Option (D × List D)) : RM D := match o with
  | .ref h => match S[h]? with
    | some (.lst ds) => (f ds).map fun r => .ok r.1 (S.set h (.lst r.2))
    | _ => none
  | _ => none
/-- a list or tuple is read -/
def lstGet (S : Store) (o : D) (f : List D → Option D) : RM D := match frozen S o with
  | .lst ds => (f ds).map fun r => .ok r S
  | _ => none
def tupGet (S : Store) (o : D) (f : List D → Option D) : RM D := match o with
  | .tup ds => (f ds).map fun r => .ok r S
  | _ => none
def countIn (x : D) (ds : List D) : Option D := if dataOk x ds then some (.int (ds.countP (isIt x))) else none
def joinD (S : Store) (o d : D) : Option D := match o with
  | .str sep => match frozen S d with
    | .lst ds => (strsOf ds).bind fun xs => if (xs.map (·.length)).sum + xs.length * sep.length ≤ line then some (.str (joinL sep xs)) else none
    | _ => none
  | _ => none
def mtD (S : Store) (t : Mt) (o : D) (as : List D) : RM D := match t with
  | .lAppend => (match as with
    | [d] => lstSet S o fun ds => if ds.length < line then some (.non, ds ++ [d]) else none
    | _ => none)
  | .lExtend => (match as with
    | [d] => (match frozen S d with
      | .lst es => lstSet S o fun ds => if ds.length + es.length ≤ line then some (.non, ds ++ es) else none
      | _ => none)
    | _ => none)
  | .lInsert => (match as with
    | [.int i, d] => lstSet S o fun ds => if ds.length < line ∧ 0 ≤ i ∧ i < 2 ^ 63 then some (.non, ds.take i.toNat ++ [d] ++ ds.drop i.toNat) else none
    | _ => none)
  | .lPop => (match as with
    | [.int i] => lstSet S o fun ds => (placeOf i ds.length).bind fun k => (ds[k]?).map fun d => (d, ds.eraseIdx k)
    | [] => lstSet S o fun ds => (ds[ds.length - 1]?).map fun d => (d, ds.dropLast)
    | _ => none)
  | .lIndex => (match as with
    | [x] => lstGet S o fun ds => if dataOk x ds then (ds.findIdx? (isIt x)).map fun (k : Nat) => .int (k : Nat) else none
    | _ => none)
  | .lRemove => (match as with
    | [x] => lstSet S o fun ds => if dataOk x ds then (ds.findIdx? (isIt x)).map fun k => (.non, ds.eraseIdx k) else none
    | _ => none)
  | .lCount => (match as with
    | [x] => lstGet S o (countIn x)
    | _ => none)
  | .tCount => (match as with
    | [x] => tupGet S o (countIn x)
    | _ => none)
  | .dGet => (match o, as with
    | .ref h, [k, d] => (match S[h]? with
      | some (.dct kvs) => if keyD k then some (.ok ((getK kvs k).getD d) S) else none
      | _ => none)
    | _, _ => none)
  | .sJoin => (match as with
    | [d] => RM.lift (joinD S o d) S
    | _ => none)
  | .sLjust => (match o, as with
    | .str x, [.int n, .str [c]] => if x.length ≤ 1000000 ∧ 0 ≤ n ∧ n ≤ 1000000 then some (.ok (.str (x ++ List.replicate (n.toNat - x.length) c)) S) else none
    | _, _ => none)
  | .sIndex => (match o, as with
    | .str x, [.str [c]] => if x.length ≤ line then (x.findIdx? (· == c)).map fun (k : Nat) => .ok (.int (k : Nat)) S else none
    | _, _ => none)
/-! ### what is walked -/
def upTo (lo : Int) (n : Nat) : List D := (List.range n).map fun i => .int (lo + (i : Nat))
def signsOf (x : List Nat) : List D := x.map fun c => .str [c]
/-- the things that a source hands out -/
def seqOf (S : Store) (d : D) : Option (List D) := match d with
  | .str x => some (signsOf x)
  | .ref h => match S[h]? with
    | some (.lst ds) => some ds
    | _ => none
  | .tup ds => some ds
  | .lst ds => some ds
  | _ => none
def enumFrom (i : Nat) : List D → List D
  | [] => []
  | d :: ds => .tup [.int i, d] :: enumFrom (i + 1) ds
def zipD : List D → List D → List D
  | a :: as, b :: bs => .tup [a, b] :: zipD as bs
  | _, _ => []
def walkOf (S : Store) : IK → List D → Option (List D)
  | .seq, [d] => seqOf S d
  | .range, [.int j] => if -(2 ^ 62) ≤ j ∧ j < 2 ^ 62 then some (upTo 0 j.toNat) else none
  | .range, [.int i, .int j] => if -(2 ^ 62) ≤ i ∧ i < 2 ^ 62 ∧ -(2 ^ 62) ≤ j ∧ j < 2 ^ 62 then some (upTo i (j - i).toNat) else none
  | .enum, [d] => (seqOf S d).map (enumFrom 0)
  | .zip, [d, e] => match seqOf S d, seqOf S e with
    | some x, some y => some (zipD x y)
    | _, _ => none
  | .keys, [.ref h] => match S[h]? with
    | some (.lck kvs) => some (kvs.map (·.1))
    | _ => none
  | _, _ => none
/-- what is walked is a pair made for the turn -/
def pairK : IK → Bool
  | .enum => true
  | .zip => true
  | _ => false
def setAll (ρ : Env) : List Nat → List D → Env
  | i :: is, d :: ds => setAll (ρ.set i (some d)) is ds
  | _, _ => ρ
/-- a target takes a value -/
def bindTo (pr : Bool) (tg : Tg) (d : D) (ρ : Env) : Option Env := match tg with
  | .nm i => if pr then none else some (ρ.set i (some d))
  | .tup is => match d with
    | .tup ds => if ds.length = is.length then some (setAll ρ is ds) else none
    | _ => none
/-- a pair made for the turn goes to several names alone -/
def tgK (ik : IK) (tg : Tg) : Bool := match tg with
  | .nm _ => !pairK ik
  | .tup _ => true
def walkT (S : Store) (ik : IK) (ds : List D) (tg : Tg) : Option (List D) := if tgK ik tg then walkOf S ik ds else none
/-- a dict is walked by its keys, and locked meanwhile -/
def realK (S : Store) : IK → List D → IK
  | .seq, [.ref h] => match S[h]? with
    | some (.dct _) => .keys
    | _ => .seq
  | ik, _ => ik
def lockS (S : Store) : IK → List D → Store
  | .keys, [.ref h] => match S[h]? with
    | some (.dct kvs) => S.set h (.lck kvs)
    | _ => S
  | _, _ => S
def unlockS (S : Store) : IK → List D → Option Store
  | .keys, [.ref h] => match S[h]? with
    | some (.lck kvs) => some (S.set h (.dct kvs))
    | _ => none
  | _, _ => some S
def wipeE (ρ : Env) : List Nat → Env
  | [] => ρ
  | v :: vs => (wipeE ρ vs).set v none

/-! ### expressions -/
structure Ctx where
  glob : Str → Option D
  thk : Str → Bool
  fld : Str → Str → Bool
  call : Str → List D → Store → RM D
  meth : Str → Str → List D → Store → RM D
/-- a comprehension's turns: same tells that what is walked stands as it stood -/
def compRun (same : Store → Bool) (f : D → Store → RM (Option D)) : List D → List D → Store → RM (List D)
  | [], acc, S => if same S = true then some (.ok acc S) else none
  | d :: ds, acc, S => if same S = true then RM.bind (f d S) fun o S1 => match o with
    | some x => if acc.length < line then compRun same f ds (acc ++ [x]) S1 else none
    | none => compRun same f ds acc S1
    else none
def dcompRun (same : Store → Bool) (f : D → Store → RM (Option (D × D))) : List D → List (D × D) → Store → RM (List (D × D))
  | [], acc, S => if same S = true then some (.ok acc S) else none
  | d :: ds, acc, S => if same S = true then RM.bind (f d S) fun o S1 => match o with
    | some x => if acc.length < line ∧ keyD x.1 = true then dcompRun same f ds (setK acc x.1 x.2) S1 else none
    | none => dcompRun same f ds acc S1
    else none
/-- keys and values by turns -/
def pairUp : List D → Option (List (D × D))
  | [] => some []
  | k :: v :: r => (pairUp r).map ((k, v) :: ·)
  | _ => none
mutual
def ev (C : Ctx) : E → Env → Store → RM D
  | .var i, ρ, S => match ρ[i]? with
    | some (some d) => some (.ok d S)
    | _ => none
  | .cst d, _, S => some (.ok d S)
  | .glob x, _, S => RM.lift (C.glob x) S
  | .tup es, ρ, S => RM.bind (evs C es ρ S) fun ds S1 => some (.ok (.tup ds) S1)
  | .lst es, ρ, S => RM.bind (evs C es ρ S) fun ds S1 => some (.ok (.lst ds) S1)
  | .dct kvs, ρ, S => RM.bind (evs C kvs ρ S) fun ds S1 => match pairUp ds with
    | some ps => if ps.all (fun p => keyD p.1) && decide (ps.length ≤ 15) then some (.ok (.ref S1.length) (S1 ++ [.dct (ps.foldl (fun m p => setK m p.1 p.2) [])])) else none
    | none => none
  | .bin op a b, ρ, S => RM.bind (ev C a ρ S) fun x S1 => RM.bind (ev C b ρ S1) fun y S2 => RM.lift (opD S2 op x y) S2
  | .neg a, ρ, S => RM.bind (ev C a ρ S) fun x S1 => match x with
    | .int i => some (.ok (.int (-i)) S1)
    | _ => none
  | .cmp op a b, ρ, S => RM.bind (ev C a ρ S) fun x S1 => RM.bind (ev C b ρ S1) fun y S2 => RM.lift ((cmpD S2 op x y).map .bl) S2
  | .chain o1 o2 a b c, ρ, S => RM.bind (ev C a ρ S) fun x S1 => RM.bind (ev C b ρ S1) fun y S2 => RM.bind (RM.lift (cmpD S2 o1 x y) S2) fun k S3 => if k then RM.bind (ev C c ρ S3) fun z S4 => RM.lift ((cmpD S4 o2 y z).map .bl) S4 else some (.ok (.bl false) S3)
  | .and a b, ρ, S => RM.bind (ev C a ρ S) fun x S1 => match x with
    | .bl true => ev C b ρ S1
    | .bl false => some (.ok (.bl false) S1)
    | _ => none
  | .or a b, ρ, S => RM.bind (ev C a ρ S) fun x S1 => match x with
    | .bl false => ev C b ρ S1
    | .bl true => some (.ok (.bl true) S1)
    | _ => none
  | .not a, ρ, S => RM.bind (ev C a ρ S) fun x S1 => match x with
    | .bl b => some (.ok (.bl (!b)) S1)
    | _ => none
  | .ite c a b, ρ, S => RM.bind (evT C c ρ S) fun k S1 => if k then ev C a ρ S1 else ev C b ρ S1
  | .callG x es, ρ, S => RM.bind (evs C es ρ S) fun ds S1 => C.call x ds S1
  | .callB b es, ρ, S => RM.bind (evs C es ρ S) fun ds S1 => RM.lift (bltD S1 b ds) S1
  | .meth o m es, ρ, S => RM.bind (ev C o ρ S) fun d S1 => RM.bind (evs C es ρ S1) fun ds S2 => match clsOf S1 d m with
    | some c => C.meth c m (d :: ds) S2
    | none => match mtOf S1 d m with
      | some t => mtD S2 t d ds
      | none => none
  | .fld o f, ρ, S => RM.bind (ev C o ρ S) fun d S1 => match d with
    | .ref h => match S1[h]? with
      | some (.ins c fs) => if C.fld c f then RM.lift (fs.lookup f) S1 else none
      | _ => none
    | _ => none
  | .idx o i, ρ, S => RM.bind (ev C o ρ S) fun x S1 => RM.bind (ev C i ρ S1) fun y S2 => RM.lift (idxD S2 x y) S2
  | .slc o lo hi, ρ, S => RM.bind (ev C o ρ S) fun x S1 => RM.bind (evs C lo ρ S1) fun l S2 => RM.bind (evs C hi ρ S2) fun h S3 => match l, h with
    | [], [] => RM.lift (slcD S3 x none none) S3
    | [.int a], [] => RM.lift (slcD S3 x (some a) none) S3
    | [], [.int b] => RM.lift (slcD S3 x none (some b)) S3
    | [.int a], [.int b] => RM.lift (slcD S3 x (some a) (some b)) S3
    | _, _ => none
  | .rev o, ρ, S => RM.bind (ev C o ρ S) fun x S1 => RM.lift (revD S1 x) S1
  | .comp elt tg vs ik its cond, ρ, S => RM.bind (evs C its ρ S) fun ds S1 => let ik := realK S1 ik ds; match walkT (lockS S1 ik ds) ik ds tg with
    | some xs => RM.bind (compRun (fun S => walkOf S ik ds == some xs) (fun d S => match bindTo (pairK ik) tg d (wipeE ρ vs) with
        | some ρ1 => RM.bind (evTs C cond ρ1 S) fun k S3 => if k then RM.bind (ev C elt ρ1 S3) fun x S4 => some (.ok (some x) S4) else some (.ok none S3)
        | none => none) xs [] (lockS S1 ik ds)) fun acc S5 => match unlockS S5 ik ds with
          | some S6 => some (.ok (.lst acc) S6)
          | none => none
    | none => none
  | .dcomp ke ve tg vs ik its cond, ρ, S => RM.bind (evs C its ρ S) fun ds S1 => let ik := realK S1 ik ds; match walkT (lockS S1 ik ds) ik ds tg with
    | some xs => RM.bind (dcompRun (fun S => walkOf S ik ds == some xs) (fun d S => match bindTo (pairK ik) tg d (wipeE ρ vs) with
        | some ρ1 => RM.bind (evTs C cond ρ1 S) fun k S3 => if k then RM.bind (ev C ke ρ1 S3) fun x S4 => RM.bind (ev C ve ρ1 S4) fun y S5 => some (.ok (some (x, y)) S5) else some (.ok none S3)
        | none => none) xs [] (lockS S1 ik ds)) fun acc S5 => match unlockS S5 ik ds with
          | some S6 => some (.ok (.ref S6.length) (S6 ++ [.dct acc]))
          | none => none
    | none => none
  | .tupR es, ρ, S => RM.bind (evs C es ρ S) fun ds S1 => match walkOf S1 .range ds with
    | some xs => if xs.length ≤ line then some (.ok (.tup xs) S1) else none
    | none => none
  | .mk e, ρ, S => RM.bind (ev C e ρ S) fun d S1 => match d with
    | .lst ds => some (.ok (.ref S1.length) (S1 ++ [.lst ds]))
    | _ => none
  | .thunk x e, ρ, S => RM.bind (ev C e ρ S) fun d S1 => if C.thk x then some (.ok (.tup [d, .non]) S1) else none
  | .bad, _, _ => none
def evs (C : Ctx) : List E → Env → Store → RM (List D)
  | [], _, S => some (.ok [] S)
  | e :: es, ρ, S => RM.bind (ev C e ρ S) fun d S1 => RM.bind (evs C es ρ S1) fun ds S2 => some (.ok (d :: ds) S2)
def evT (C : Ctx) : T → Env → Store → RM Bool
  | .val e, ρ, S => RM.bind (ev C e ρ S) fun d S1 => RM.lift (truthD S1 d) S1
  | .and a b, ρ, S => RM.bind (evT C a ρ S) fun k S1 => if k then evT C b ρ S1 else some (.ok false S1)
  | .or a b, ρ, S => RM.bind (evT C a ρ S) fun k S1 => if k then some (.ok true S1) else evT C b ρ S1
  | .not a, ρ, S => RM.bind (evT C a ρ S) fun k S1 => some (.ok (!k) S1)
def evTs (C : Ctx) : List T → Env → Store → RM Bool
  | [], _, S => some (.ok true S)
  | c :: cs, ρ, S => RM.bind (evT C c ρ S) fun k S1 => if k then evTs C cs ρ S1 else some (.ok false S1)
end

/-! ### statements -/
inductive SO where
  | nx (ρ : Env) (S : Store)
  | rt (d : D) (S : Store)
  | bk (ρ : Env) (S : Store)
  | ct (ρ : Env) (S : Store)
  | exc (ρ : Env) (c : Str) (fs : List D) (S : Store)
def RM.toS {α : Type} (m : RM α) (ρ : Env) (f : α → Store → Option SO) : Option SO := match m with
  | some (.ok a S) => f a S
  | some (.exc c fs S) => some (.exc ρ c fs S)
  | none => none
@[simp] theorem RM.toS_ok {α : Type} (a : α) (S : Store) (ρ : Env) (f : α → Store → Option SO) : RM.toS (some (.ok a S)) ρ f = f a S := rfl
@[simp] theorem RM.toS_none {α : Type} (ρ : Env) (f : α → Store → Option SO) : RM.toS none ρ f = none := rfl
/-- what follows a statement that is simply over -/
def SO.then (o : Option SO) (f : Env → Store → Option SO) : Option SO := match o with
  | some (.nx ρ S) => f ρ S
  | o => o
@[simp] theorem SO.then_nx (ρ : Env) (S : Store) (f : Env → Store → Option SO) : SO.then (some (.nx ρ S)) f = f ρ S := rfl
@[simp] theorem SO.then_rt (d : D) (S : Store) (f : Env → Store → Option SO) : SO.then (some (.rt d S)) f = some (.rt d S) := rfl
@[simp] theorem SO.then_none (f : Env → Store → Option SO) : SO.then none f = none := rfl
/-- a loop over things: same tells that what is walked stands as it stood -/
def forRun (same : Store → Bool) (tk : D → Env → Option Env) (body : Env → Store → Option SO) : List D → Env → Store → Option SO
  | [], ρ, S => if same S = true then some (.nx ρ S) else none
  | d :: ds, ρ, S => if same S = true then match tk d ρ with
    | none => none
    | some ρ1 => match body ρ1 S with
      | some (.nx ρ2 S2) => forRun same tk body ds ρ2 S2
      | some (.ct ρ2 S2) => forRun same tk body ds ρ2 S2
      | some (.bk ρ2 S2) => some (.nx ρ2 S2)
      | o => o
    else none
def whileRun (c : Env → Store → RM Bool) (body : Env → Store → Option SO) (ρ : Env) (S : Store) : Option SO :=
  match c ρ S with
  | none => none
  | some (.exc x fs S1) => some (.exc ρ x fs S1)
  | some (.ok false S1) => some (.nx ρ S1)
  | some (.ok true S1) => match body ρ S1 with
    | some (.nx ρ2 S2) => whileRun c body ρ2 S2
    | some (.ct ρ2 S2) => whileRun c body ρ2 S2
    | some (.bk ρ2 S2) => some (.nx ρ2 S2)
    | o => o
partial_fixpoint
mutual
def exec (C : Ctx) : St → Env → Store → Option SO
  | .asg i e, ρ, S => RM.toS (ev C e ρ S) ρ fun d S1 => some (.nx (ρ.set i (some d)) S1)
  | .unp is e, ρ, S => RM.toS (ev C e ρ S) ρ fun d S1 => match bindTo false (.tup is) d ρ with
    | some ρ1 => some (.nx ρ1 S1)
    | none => none
  | .par is es, ρ, S => RM.toS (evs C es ρ S) ρ fun ds S1 => if ds.length = is.length then some (.nx (setAll ρ is ds) S1) else none
  | .fldS o f e, ρ, S => RM.toS (ev C e ρ S) ρ fun d S1 => RM.toS (ev C o ρ S1) ρ fun x S2 => match x with
    | .ref h => match S2[h]? with
      | some (.ins c fs) => if fs.length < 900 && C.fld c f then some (.nx ρ (S2.set h (.ins c (putA fs f d)))) else none
      | _ => none
    | _ => none
  | .idxS o i e, ρ, S => RM.toS (ev C e ρ S) ρ fun d S1 => RM.toS (ev C o ρ S1) ρ fun x S2 => RM.toS (ev C i ρ S2) ρ fun k S3 => match x with
    | .ref h => match S3[h]?, k with
      | some (.lst ds), .int j => match placeOf j ds.length with
        | some n => some (.nx ρ (S3.set h (.lst (ds.set n d))))
        | none => none
      | some (.dct kvs), k => if keyD k && decide (kvs.length < line) then some (.nx ρ (S3.set h (.dct (setK kvs k d)))) else none
      | _, _ => none
    | _ => none
  | .aug i op e, ρ, S => match ρ[i]? with
    | some (some x) => RM.toS (ev C e ρ S) ρ fun y S1 => match op, x, y with
      | .Add, .int a, .int b => some (.nx (ρ.set i (some (.int (a + b)))) S1)
      | .Sub, .int a, .int b => some (.nx (ρ.set i (some (.int (a - b)))) S1)
      | _, _, _ => none
    | _ => none
  | .expr e, ρ, S => RM.toS (ev C e ρ S) ρ fun _ S1 => some (.nx ρ S1)
  | .ret e, ρ, S => RM.toS (ev C e ρ S) ρ fun d S1 => some (.rt d S1)
  | .retN, ρ, S => some (.rt .non S)
  | .iff c a b, ρ, S => RM.toS (evT C c ρ S) ρ fun k S1 => if k then execs C a ρ S1 else execs C b ρ S1
  | .forS tg ik its body, ρ, S => RM.toS (evs C its ρ S) ρ fun ds S1 => match walkT S1 ik ds tg with
    | some xs => forRun (fun S => walkOf S ik ds == some xs) (bindTo (pairK ik) tg) (execs C body) xs ρ S1
    | none => none
  | .whileS c body, ρ, S => whileRun (evT C c) (execs C body) ρ S
  | .pass, ρ, S => some (.nx ρ S)
  | .brk, ρ, S => some (.bk ρ S)
  | .cont, ρ, S => some (.ct ρ S)
  | .tryS body, ρ, S => match execs C body ρ S with
    | some (.exc _ _ _ _) => none
    | o => o
  | .bad, _, _ => none
def execs (C : Ctx) : List St → Env → Store → Option SO
  | [], ρ, S => some (.nx ρ S)
  | s :: ss, ρ, S => SO.then (exec C s ρ S) (execs C ss)
end
/-! ### calls -/
mutual
def below (k : Nat) : D → Bool
  | .ref h => decide (h < k)
  | .tup ds => belows k ds
  | .lst ds => belows k ds
  | _ => true
def belows (k : Nat) : List D → Bool
  | [] => true
  | d :: ds => below k d && belows k ds
end
/-- behind a call: where nothing that stood has changed and the answer names nothing new, the store as it was -/
def trunc (S : Store) (d : D) (S' : Store) : Store := if below S.length d = true ∧ S'.take S.length = S then S else S'
def runFn (C : Ctx) (F : Fn) (args : List D) (S : Store) : RM D :=
  if args.length = F.np then match execs C F.body (args.map some ++ List.replicate (F.nslots - F.np) none) S with
    | some (.rt d S') => some (.ok d (trunc S d S'))
    | some (.nx _ S') => some (.ok .non (trunc S .non S'))
    | some (.exc _ c fs S') => some (.exc c fs S')
    | _ => none
  else none
/-- a def as code, or as what it does -/
inductive Fun where
  | code (F : Fn)
  | nat (f : Ctx → List D → Store → RM D)
def runFun (C : Ctx) (F : Fun) (args : List D) (S : Store) : RM D := match F with
  | .code F => runFn C F args S
  | .nat f => f C args S
structure Prog where
  fns : Str → Option Fun
  meths : Str → Str → Option Fun
  clss : Str → Bool
  flds : Str → Str → Bool
  glob : Str → Option D
  thk : Str → Bool
/-- the calls of a program, to a depth -/
def ctx (P : Prog) : Nat → Ctx
  | 0 => ⟨P.glob, P.thk, P.flds, fun _ _ _ => none, fun _ _ _ _ => none⟩
  | n + 1 => ⟨P.glob, P.thk, P.flds,
    fun x ds S => match P.clss x with
      | true => match P.meths x "__init__" with
        | some F => RM.bind (runFun (ctx P n) F (.ref S.length :: ds) (S ++ [.ins x []])) fun d S1 => if d = .non then some (.ok (.ref S.length) S1) else none
        | none => none
      | false => match P.fns x with
        | some F => runFun (ctx P n) F ds S
        | none => none,
    fun c m ds S => match P.meths c m with
      | some F => runFun (ctx P n) F ds S
      | none => none⟩
end Rf
/-! From the text's tree to the evaluator's language. -/
namespace Rf
open PySem

/-- what is known of the place where an expression stands -/
structure SC where
  /-- the names of the slots -/
  N : List Str
  /-- the scope -/
  sc : Scope
  /-- a module's name that is not a built-in -/
  usr : Str → Bool
  /-- displays and comprehensions become cells -/
  mkc : Bool
  /-- a lambda may be handed to a def that calls it -/
  lam : Bool
/-- what an expression comes to: as a value, as a test, as what is walked; fresh: a new list -/
structure CO where
  v : E
  t : T
  k : IK
  its : List E
  fresh : Bool
def CO.of (e : E) : CO := ⟨e, .val e, .seq, [e], false⟩
def CO.bad : CO := CO.of .bad
def slotOf (N : List Str) (x : Str) : Option Nat := N.findIdx? fun y => decide (y = x)
def visB (sc : Scope) (x : Str) : Bool := match sc.names.lookup x with
  | some .local => true
  | some .cell => true
  | some .free => true
  | _ => false
def glB (sc : Scope) (x : Str) : Bool := match sc.names.lookup x with
  | some .globalImplicit => true
  | _ => false
def nameOk (x : Str) : Bool := !(x == ("__debug__" : Str)) && !(x == ("__classdict__" : Str)) && decide (x ≠ "__name__")
def constE : Const → E
  | .none => .cst .non
  | .bool b => .cst (.bl b)
  | .int i => .cst (.int i)
  | .str s => if s.cps.toList.all (fun c => decide (c < 0x110000)) then .cst (.str s.cps.toList) else .bad
  | _ => .bad
def nameE (C : SC) (x : Str) : E := if nameOk x then (if visB C.sc x then (match slotOf C.N x with
    | some i => .var i
    | none => .bad) else if glB C.sc x && C.usr x then .glob x else .bad) else .bad
def bltOf (x : Str) : Option B :=
  if x = "len" then some .len else if x = "int" then some .int else if x = "abs" then some .abs else if x = "max" then some .max else if x = "min" then some .min
  else if x = "sum" then some .sum else if x = "sorted" then some .sorted else if x = "tuple" then some .tuple else if x = "list" then some .list else if x = "dict" then some .dict
  else if x = "repr" then some .repr else if x = "str" then some .str else none
def iterOf (x : Str) (n : Nat) : Option IK :=
  if x = "range" then (if n = 1 ∨ n = 2 then some .range else none) else if x = "enumerate" then (if n = 1 then some .enum else none) else if x = "zip" then (if n = 2 then some .zip else none) else none
def isGl (C : SC) (x : Str) : Bool := nameOk x && glB C.sc x && !C.usr x
def callE (C : SC) (x : Str) (es : List CO) : CO :=
  if nameOk x && glB C.sc x then
    if C.usr x then CO.of (.callG x (es.map (·.v)))
    else match bltOf x with
      | some b => if b = .tuple && (es.map (·.k)) == [.range] then CO.of (.tupR (es.flatMap (·.its))) else { CO.of (.callB b (es.map (·.v))) with fresh := decide (b = .list) || decide (b = .sorted) }
      | none => match iterOf x es.length with
        | some k => ⟨.bad, .val .bad, k, es.map (·.v), false⟩
        | none => CO.bad
  else CO.bad
/-- the types that isinstance asks -/
def tysOf (C : SC) : Expr → Option Str
  | .Name x _ => if isGl C x && tyName x then some x else none
  | _ => none
def starless : Expr → Bool
  | .Starred _ _ => false
  | _ => true
def namesOf : List Expr → Option (List Str)
  | [] => some []
  | .Name x _ :: es => (namesOf es).map (x :: ·)
  | _ => none
def locB (sc : Scope) (x : Str) : Bool := match sc.names.lookup x with
  | some .local => true
  | some .cell => true
  | _ => false
def tgOf (C : SC) (sc : Scope) : Expr → Option Tg
  | .Name x _ => if locB sc x then (slotOf C.N x).map .nm else none
  | .Tuple es _ _ => match namesOf es with
    | some xs => if xs.all (locB sc) then (xs.mapM (slotOf C.N)).map .tup else none
    | none => none
  | _ => none
/-- the names that a comprehension's block has for itself -/
def ownOf (scope : Scope) : List Str := (scope.names.filter fun y => decide (y.2 = .local) || decide (y.2 = .cell)).map (·.1)
def mkE (C : SC) (c : CO) : CO := if C.mkc && c.fresh then { CO.of (.mk c.v) with k := c.k, its := c.its } else c
def andC : List CO → CO
  | [] => CO.bad
  | [a] => { CO.of a.v with t := a.t }
  | a :: r => let b := andC r; ⟨.and a.v b.v, .and a.t b.t, .seq, [.and a.v b.v], false⟩
def orC : List CO → CO
  | [] => CO.bad
  | [a] => { CO.of a.v with t := a.t }
  | a :: r => let b := orC r; ⟨.or a.v b.v, .or a.t b.t, .seq, [.or a.v b.v], false⟩
/-- comparisons that are carried -/
def opOk (op : CmpOp) (b : Expr) : Bool := match op with
  | .Is => (match b with
    | .Constant .none _ _ => true
    | _ => false)
  | .IsNot => (match b with
    | .Constant .none _ _ => true
    | _ => false)
  | .In => (match b with
    | .Set _ _ _ => false
    | _ => true)
  | .NotIn => (match b with
    | .Set _ _ _ => false
    | _ => true)
  | _ => true
/-- not super() -/
def baseOk : Expr → Bool
  | .Call (.Name _ _) [] [] _ => false
  | _ => true
/-- no set display -/
def noSet : Expr → Bool
  | .Set _ _ _ => false
  | _ => true
/-- keys and values by turns -/
def turnsE : List CO → List CO → List E
  | k :: ks, v :: vs => k.v :: v.v :: turnsE ks vs
  | _, _ => []
def noParams (a : Arguments) : Bool := a.posonlyargs.isEmpty && a.args.isEmpty && a.kwonlyargs.isEmpty && a.vararg.isNone && a.kwarg.isNone && a.defaults.isEmpty && a.kw_defaults.isEmpty
mutual
def cX (C : SC) : Expr → CO
  | .Name x _ => CO.of (nameE C x)
  | .Constant c _ _ => CO.of (constE c)
  | .Tuple es _ _ => if es.all starless && decide (es.length ≤ 1000) then CO.of (.tup ((cXs C es).map (·.v))) else CO.bad
  | .List es _ => if es.all starless && decide (es.length ≤ 1000) then mkE C { CO.of (.lst ((cXs C es).map (·.v))) with fresh := true } else CO.bad
  | .Dict ks vs _ => if ks.all (·.isSome) && ks.length == vs.length && decide (ks.length ≤ 15) then CO.of (.dct (turnsE (cOs C ks) (cXs C vs))) else CO.bad
  | .BinOp a op b _ => CO.of (.bin op (cX C a).v (cX C b).v)
  | .UnaryOp .Not a _ => let c := cX C a; ⟨.not c.v, .not c.t, .seq, [.not c.v], false⟩
  | .UnaryOp .USub a _ => CO.of (.neg (cX C a).v)
  | .BoolOp .And vs _ => andC (cXs C vs)
  | .BoolOp .Or vs _ => orC (cXs C vs)
  | .IfExp c a b _ => { CO.of (.ite (cX C c).t (cX C a).v (cX C b).v) with t := .val .bad }
  | .Compare a [op] [b] _ => if opOk op b then CO.of (.cmp op (cX C a).v (cX C b).v) else CO.bad
  | .Compare a [o1, o2] [b, c] _ => if opOk o2 c then CO.of (.chain o1 o2 (cX C a).v (cX C b).v (cX C c).v) else CO.bad
  | .Call (.Name x _) [.Lambda params body scope _] [] _ => if C.lam && nameOk x && glB C.sc x && LamX.lamSB C.sc scope && noParams params then CO.of (.thunk x (cX { C with sc := scope, mkc := false, lam := false } body).v) else CO.bad
  | .Call (.Name x _) args [] _ => if args.all starless then (if x = "isinstance" then (match args with
        | [a, t] => if isGl C x then (match tysOf C t with
          | some ts => CO.of (.callB (.isi ts) [(cX C a).v])
          | none => CO.bad) else CO.bad
        | _ => CO.bad) else callE C x (cXs C args)) else CO.bad
  | .Call (.Attribute o m ap) args [] pos => if args.all starless && baseOk o && (ap.endLine == pos.line) && decide (args.length < 20) then CO.of (.meth (cX C o).v m ((cXs C args).map (·.v))) else CO.bad
  | .Attribute o f _ => if baseOk o then CO.of (.fld (cX C o).v f) else CO.bad
  | .Subscript o (.Slice lo hi none _) _ => CO.of (.slc (cX C o).v ((cO C lo).map (·.v)) ((cO C hi).map (·.v)))
  | .Subscript o (.Slice none none (some (.UnaryOp .USub (.Constant (.int i) _ _) _)) _) _ => if i = 1 then CO.of (.rev (cX C o).v) else CO.bad
  | .Subscript o i _ => CO.of (.idx (cX C o).v (cX C i).v)
  | .ListComp elt [⟨tg, iter, ifs, as⟩] scope _ =>
    if as = 0 then
      let C2 : SC := { C with sc := L2.relS scope C.sc, mkc := false, lam := false }
      match tgOf C scope tg, (ownOf scope).mapM (slotOf C.N) with
      | some t, some vs => if L2.blkC C.N C.sc scope ((ownOf scope).zip vs) && decide (ifs.length ≤ 1) && noSet iter then mkE C { CO.of (.comp (cX C2 elt).v t vs (cX C iter).k (cX C iter).its ((cXs C2 ifs).map (·.t))) with fresh := true } else CO.bad
      | _, _ => CO.bad
    else CO.bad
  | .DictComp ke ve [⟨tg, iter, ifs, as⟩] scope _ =>
    if as = 0 then
      let C2 : SC := { C with sc := L2.relS scope C.sc, mkc := false, lam := false }
      match tgOf C scope tg, (ownOf scope).mapM (slotOf C.N) with
      | some t, some vs => if L2.blkC C.N C.sc scope ((ownOf scope).zip vs) && decide (ifs.length ≤ 1) && noSet iter then CO.of (.dcomp (cX C2 ke).v (cX C2 ve).v t vs (cX C iter).k (cX C iter).its ((cXs C2 ifs).map (·.t))) else CO.bad
      | _, _ => CO.bad
    else CO.bad
  | _ => CO.bad
def cXs (C : SC) : List Expr → List CO
  | [] => []
  | e :: es => cX C e :: cXs C es
def cO (C : SC) : Option Expr → List CO
  | none => []
  | some e => [cX C e]
def cOs (C : SC) : List (Option Expr) → List CO
  | [] => []
  | e :: es => cO C e ++ cOs C es
end
/-! ### statements -/
def muts : List Str := ["append", "extend", "insert", "pop", "remove", "sort", "clear", "reverse"]
mutual
/-- the names whose lists a block changes -/
def mutS : Stmt → List Str
  | .Expr (.Call (.Attribute (.Name x _) m _) _ _ _) _ => if muts.any (fun y => decide (y = m)) then [x] else []
  | .Assign [.Subscript (.Name x _) _ _] _ _ => [x]
  | .For _ _ b o _ => mutSs b ++ mutSs o
  | .While _ b o _ => mutSs b ++ mutSs o
  | .If _ b o _ => mutSs b ++ mutSs o
  | .Try b _ o f _ => mutSs b ++ mutSs o ++ mutSs f
  | _ => []
def mutSs : List Stmt → List Str
  | [] => []
  | s :: ss => mutS s ++ mutSs ss
end
def asgE (C : SC) (ms : List Str) (x : Str) (c : CO) : E := if c.fresh && ms.any (fun y => decide (y = x)) then .mk c.v else c.v
/-- the scope of a comprehension -/
def compScope : Expr → Option Scope
  | .ListComp _ _ s _ => some s
  | .SetComp _ _ s _ => some s
  | .DictComp _ _ _ s _ => some s
  | _ => none
def isSl : Expr → Bool
  | .Slice _ _ _ _ => true
  | _ => false
def isDC : Expr → Bool
  | .DictComp _ _ _ _ _ => true
  | _ => false
/-- name = [..] where the name is stored as the comprehension's block ends -/
def swB (sc : Scope) (x : Str) (px : Pos) (e : Expr) : Bool := match compScope e with
  | some s => sc.names.lookup x == some .local && px.line == e.pos.line && !(s.names.any fun (n, k) => n == x && (k == .local || k == .cell))
  | none => false
/-- in which order a, b = x, y is stored: none where the model tells nothing; the names where it goes from the right -/
def swapK (sc : Scope) (ts vs : List Expr) : Option (Option (List Str)) :=
  if (!(ts.length == 2 || ts.length == 3) || vs.length != ts.length) = true then some none
  else
    let line := (ts.head?.map (·.pos.line)).getD 0
    let names := ts.filterMap fun
      | .Name id pos => if sc.names.lookup id == some .local && pos.line == line then some id else none
      | _ => none
    if (names.length != ts.length || names.eraseDups.length != names.length) = true then some none
    else if vs.all (foldedForSure 8) = true then some none
    else if vs.all (constantsAlone 8) = true then none
    else some (some names)
mutual
def cS (C : SC) (ms : List Str) : Stmt → St
  | .Expr (.Constant (.str _) _ _) _ => .pass
  | .Expr e _ => if (compScope e).isSome then .bad else .expr (cX C e).v
  | .Return none _ => .retN
  | .Return (some e) _ => .ret (cX C e).v
  | .Pass _ => .pass
  | .Break _ => .brk
  | .Continue _ => .cont
  | .If c a b _ => .iff (cX C c).t (cSs C ms a) (cSs C ms b)
  | .While c b [] _ => .whileS (cX C c).t (cSs C ms b)
  | .For tg it b [] _ => if noSet it then (match tgOf C C.sc tg with
    | some t => .forS t (cX C it).k (cX C it).its (cSs C ms b)
    | none => .bad) else .bad
  | .AugAssign (.Name x _) op e _ => if locB C.sc x then (match slotOf C.N x with
    | some i => .aug i op (cX C e).v
    | none => .bad) else .bad
  | .Assign [.Name x px] e _ => if locB C.sc x && !(isDC e && swB C.sc x px e) then (match slotOf C.N x with
    | some i => .asg i (asgE C ms x (cX C e))
    | none => .bad) else .bad
  | .Assign [.Attribute o f _] e _ => .fldS (cX C o).v f (cX C e).v
  | .Assign [.Subscript o i _] e _ => if isSl i then .bad else .idxS (cX C o).v (cX C i).v (cX C e).v
  | .Assign [.Tuple ts _ _] (.Tuple es _ _) _ => if es.all starless && decide (ts.length = es.length) && decide (es.length ≤ 1000) then (match namesOf ts, swapK C.sc ts es with
    | some xs, some (some ys) => match xs.mapM (slotOf C.N) with
      | some is => if decide (ys = xs) then .par is ((xs.zip (cXs C es)).map fun p => asgE C ms p.1 p.2) else .bad
      | none => .bad
    | some xs, some none => match xs.mapM (slotOf C.N) with
      | some is => if xs.all (locB C.sc) then .unp is (.tup ((xs.zip (cXs C es)).map fun p => asgE C ms p.1 p.2)) else .bad
      | none => .bad
    | _, _ => .bad) else .bad
  | .Assign [.Tuple ts _ _] e _ => match namesOf ts with
    | some xs => match xs.mapM (slotOf C.N) with
      | some is => if xs.all (locB C.sc) then .unp is (cX C e).v else .bad
      | none => .bad
    | none => .bad
  | _ => .bad
def cSs (C : SC) (ms : List Str) : List Stmt → List St
  | [] => []
  | s :: ss => cS C ms s :: cSs C ms ss
end
/-! ### the slots of a def: its parameters, its own names, those of its comprehensions -/
mutual
def nX : Expr → List Str
  | .Tuple es _ _ => nXs es
  | .List es _ => nXs es
  | .Dict ks vs _ => nOs ks ++ nXs vs
  | .BinOp a _ b _ => nX a ++ nX b
  | .UnaryOp _ a _ => nX a
  | .BoolOp _ vs _ => nXs vs
  | .IfExp c a b _ => nX c ++ nX a ++ nX b
  | .Compare a _ bs _ => nX a ++ nXs bs
  | .Call f args _ _ => nX f ++ nXs args
  | .Attribute o _ _ => nX o
  | .Subscript o i _ => nX o ++ nX i
  | .Slice a b c _ => nO a ++ nO b ++ nO c
  | .ListComp elt [⟨_, iter, ifs, _⟩] scope _ => nX iter ++ ownOf scope ++ nX elt ++ nXs ifs
  | .DictComp ke ve [⟨_, iter, ifs, _⟩] scope _ => nX iter ++ ownOf scope ++ nX ke ++ nX ve ++ nXs ifs
  | _ => []
def nXs : List Expr → List Str
  | [] => []
  | e :: es => nX e ++ nXs es
def nO : Option Expr → List Str
  | none => []
  | some e => nX e
def nOs : List (Option Expr) → List Str
  | [] => []
  | e :: es => nO e ++ nOs es
end
mutual
def nS : Stmt → List Str
  | .Expr e _ => nX e
  | .Return (some e) _ => nX e
  | .If c a b _ => nX c ++ nSs a ++ nSs b
  | .While c b _ _ => nX c ++ nSs b
  | .For _ it b _ _ => nX it ++ nSs b
  | .AugAssign _ _ e _ => nX e
  | .Assign ts e _ => nXs ts ++ nX e
  | _ => []
def nSs : List Stmt → List Str
  | [] => []
  | s :: ss => nS s ++ nSs ss
end
def uniq : List Str → List Str → List Str
  | acc, [] => acc
  | acc, x :: xs => if acc.any (fun y => decide (y = x)) then uniq acc xs else uniq (acc ++ [x]) xs
def paramsOf (a : Arguments) : List Str := (a.posonlyargs ++ a.args).map (·.arg)
def slotsOf (a : Arguments) (sc : Scope) (body : List Stmt) : List Str := uniq [] (paramsOf a ++ (sc.names.filter fun y => decide (y.2 = .local) || decide (y.2 = .cell)).map (·.1) ++ nSs body)
/-- a def's code -/
def codeOf (usr : Str → Bool) (mkc lam : Bool) (a : Arguments) (sc : Scope) (body : List Stmt) : Fn :=
  let N := slotsOf a sc body
  ⟨(paramsOf a).length, N.length, cSs ⟨N, sc, usr, mkc, lam⟩ (mutSs body) body⟩
end Rf
/-! Plain data and what stands for it in the heap. -/
namespace Rf
open PySem PySem.Spec PyProof.Rows L2

/-- the written part, the module's names -/
structure Wd where
  K : PySem.W.Frag
  mg : Str → Option Value
/-- what every state of HandS bears: the written part is untracked, nothing is too long -/
structure Fine (K : PySem.W.Frag) (H : Hp) : Prop where
  low : ∀ a o, K.lookup a = some o → H a = none
  ll : ∀ a xs, Rd H a (.lst xs) → xs.length ≤ sizeLine
  tl : ∀ a xs, Rd H a (.tup xs) → xs.length ≤ sizeLine
theorem fine_of {X : Cx} {pins : List (Addr × Obj)} {σ : L2.St} {H : Hp} {s : Shared} (I : Inv X pins σ H s) : Fine X.K H where
  low := fun a o e => (I.bs a o (I.ok.mod.kin a o e)).2
  ll := fun a xs h => by
    obtain ⟨its, _, _, z⟩ := I.list (.inl h)
    exact z
  tl := fun a xs h => by
    obtain ⟨its, _, _, z⟩ := I.tuple (.inl h)
    exact z
def tupO (K : PySem.W.Frag) (H : Hp) (a : Addr) (vs : List V) : Prop :=
  (∃ o, H a = some (.frz o (.tup vs)) ∧ o.dict = none) ∨
    ∃ (o : Obj) (its : Array Value) (n : Nat), K.lookup a = some o ∧ o.cls = .type "tuple" ∧ o.dict = none ∧ o.data = .seq its n ∧ its.size ≤ sizeLine ∧ Vals vs its.toList
theorem tupO.sq {K : PySem.W.Frag} {H : Hp} {a : Addr} {vs : List V} (h : tupO K H a vs) : SqT K H a vs := by
  rcases h with ⟨o, h, _⟩ | ⟨o, its, n, h1, h2, _, h3, h4, h5⟩
  · exact .inl (.inr ⟨o, h⟩)
  · exact .inr ⟨o, its, n, h1, h2, h3, h4, h5⟩
theorem tupO.len {K : PySem.W.Frag} {H : Hp} {a : Addr} {vs : List V} (h : tupO K H a vs) (f : Fine K H) : vs.length ≤ sizeLine := by
  rcases h with ⟨o, h, _⟩ | ⟨o, its, n, h1, h2, _, h3, h4, h5⟩
  · exact f.tl a vs (.inr ⟨o, h⟩)
  · rw [h5.length]; simpa using h4
mutual
/-- μ: the cells' addresses; ν: addresses that no value of ours names -/
def VR (W : Wd) (μ ν : List Addr) (H : Hp) : D → V → Prop
  | .non, v => v = .non
  | .bl b, v => v = .bl b
  | .int i, v => v = .int i
  | .str x, v => v = .str ⟨x.toArray⟩ ∧ ∀ c ∈ x, c < 0x110000
  | .tup ds, v => ∃ a vs, v = .ref a ∧ tupO W.K H a vs ∧ a ∉ μ ∧ VRs W μ ν H ds vs
  | .lst ds, v => ∃ a vs, v = .ref a ∧ Rd H a (.lst vs) ∧ a ∉ μ ∧ a ∉ ν ∧ VRs W μ ν H ds vs
  | .ref h, v => ∃ a, μ[h]? = some a ∧ v = .ref a
  | .glb x, v => ∃ a, W.mg x = some (.ref a) ∧ v = .ref a
def VRs (W : Wd) (μ ν : List Addr) (H : Hp) : List D → List V → Prop
  | [], vs => vs = []
  | d :: ds, vs => ∃ v r, vs = v :: r ∧ VR W μ ν H d v ∧ VRs W μ ν H ds r
end
theorem VRs.nil {W : Wd} {μ ν : List Addr} {H : Hp} : VRs W μ ν H [] [] := rfl
theorem VRs.cons {W : Wd} {μ ν : List Addr} {H : Hp} {d : D} {v : V} {ds : List D} {vs : List V} (h : VR W μ ν H d v) (t : VRs W μ ν H ds vs) : VRs W μ ν H (d :: ds) (v :: vs) := ⟨v, vs, rfl, h, t⟩
theorem VRs.length {W : Wd} {μ ν : List Addr} {H : Hp} : ∀ {ds : List D} {vs : List V}, VRs W μ ν H ds vs → ds.length = vs.length
  | [], vs, h => by cases (show vs = [] from h); rfl
  | d :: ds, vs, h => by
    obtain ⟨v, r, rfl, _, h⟩ := h
    simp [VRs.length h]
theorem VRs.get {W : Wd} {μ ν : List Addr} {H : Hp} : ∀ {ds : List D} {vs : List V} {i : Nat} {d : D}, VRs W μ ν H ds vs → ds[i]? = some d → ∃ v, vs[i]? = some v ∧ VR W μ ν H d v
  | [], _, _, _, _, e => by simp at e
  | d :: ds, vs, 0, x, h, e => by
    obtain ⟨v, r, rfl, h1, _⟩ := h
    simp at e; subst e
    exact ⟨v, rfl, h1⟩
  | d :: ds, vs, i + 1, x, h, e => by
    obtain ⟨v, r, rfl, _, h2⟩ := h
    obtain ⟨w, q1, q2⟩ := VRs.get (i := i) (d := x) h2 (by simpa using e)
    exact ⟨w, by simpa using q1, q2⟩
theorem VRs.append {W : Wd} {μ ν : List Addr} {H : Hp} : ∀ {ds es : List D} {vs ws : List V}, VRs W μ ν H ds vs → VRs W μ ν H es ws → VRs W μ ν H (ds ++ es) (vs ++ ws)
  | [], _, vs, _, h, g => by cases (show vs = [] from h); exact g
  | d :: ds, es, vs, ws, h, g => by
    obtain ⟨v, r, rfl, h1, h2⟩ := h
    exact .cons h1 (VRs.append h2 g)
theorem VRs.take {W : Wd} {μ ν : List Addr} {H : Hp} (n : Nat) : ∀ {ds : List D} {vs : List V}, VRs W μ ν H ds vs → VRs W μ ν H (ds.take n) (vs.take n) := by
  induction n with
  | zero => intro ds vs _; simp [VRs]
  | succ n ih =>
    intro ds vs h
    match ds, h with
    | [], h => cases (show vs = [] from h); simp [VRs]
    | d :: ds, h =>
      obtain ⟨v, r, rfl, h1, h2⟩ := h
      exact .cons h1 (ih h2)
theorem VRs.drop {W : Wd} {μ ν : List Addr} {H : Hp} (n : Nat) : ∀ {ds : List D} {vs : List V}, VRs W μ ν H ds vs → VRs W μ ν H (ds.drop n) (vs.drop n) := by
  induction n with
  | zero => intro ds vs h; simpa using h
  | succ n ih =>
    intro ds vs h
    match ds, h with
    | [], h => cases (show vs = [] from h); simp [VRs]
    | d :: ds, h =>
      obtain ⟨v, r, rfl, h1, h2⟩ := h
      simpa using ih h2
theorem VRs.set {W : Wd} {μ ν : List Addr} {H : Hp} {d : D} {v : V} (h : VR W μ ν H d v) : ∀ {ds : List D} {vs : List V} (i : Nat), VRs W μ ν H ds vs → VRs W μ ν H (ds.set i d) (vs.set i v)
  | [], vs, _, g => by cases (show vs = [] from g); simp [VRs]
  | x :: ds, vs, 0, g => by
    obtain ⟨w, r, rfl, _, g⟩ := g
    exact .cons h g
  | x :: ds, vs, i + 1, g => by
    obtain ⟨w, r, rfl, g1, g2⟩ := g
    exact .cons g1 (VRs.set h i g2)
theorem VRs.reverse {W : Wd} {μ ν : List Addr} {H : Hp} : ∀ {ds : List D} {vs : List V}, VRs W μ ν H ds vs → VRs W μ ν H ds.reverse vs.reverse
  | [], vs, g => by cases (show vs = [] from g); simp [VRs]
  | x :: ds, vs, g => by
    obtain ⟨w, r, rfl, g1, g2⟩ := g
    simp only [List.reverse_cons]
    exact (VRs.reverse g2).append (.cons g1 .nil)
theorem VRs.eraseIdx {W : Wd} {μ ν : List Addr} {H : Hp} : ∀ {ds : List D} {vs : List V} (i : Nat), VRs W μ ν H ds vs → VRs W μ ν H (ds.eraseIdx i) (vs.eraseIdx i)
  | [], vs, _, g => by cases (show vs = [] from g); simp [VRs]
  | x :: ds, vs, 0, g => by
    obtain ⟨w, r, rfl, _, g⟩ := g
    simpa using g
  | x :: ds, vs, i + 1, g => by
    obtain ⟨w, r, rfl, g1, g2⟩ := g
    simpa using VRs.cons g1 (VRs.eraseIdx i g2)
theorem VRs.rep {W : Wd} {μ ν : List Addr} {H : Hp} {ds : List D} {vs : List V} (h : VRs W μ ν H ds vs) : ∀ k : Nat, VRs W μ ν H (List.replicate k ds).flatten (List.replicate k vs).flatten
  | 0 => by simp [VRs]
  | k + 1 => by simpa [List.replicate_succ] using h.append (VRs.rep h k)
theorem VRs.dropLast {W : Wd} {μ ν : List Addr} {H : Hp} {ds : List D} {vs : List V} (h : VRs W μ ν H ds vs) : VRs W μ ν H ds.dropLast vs.dropLast := by
  rw [List.dropLast_eq_take, List.dropLast_eq_take, h.length]
  exact h.take _
/-! ### what stands stays -/
/-- all that is tracked but the cells and the tables -/
def Ext (μ μ' : List Addr) (H H' : Hp) : Prop := (∃ t, μ' = μ ++ t) ∧ (∀ b o, H b = some o → b ∉ μ → (∀ ps, o ≠ .tbl ps) → H' b = some o ∧ b ∉ μ') ∧ ∀ b o u, H b = some (.frz o u) → H' b = some (.frz o u)
/-- .. whatever becomes of what is locked -/
def Ext0 (μ μ' : List Addr) (H H' : Hp) : Prop := (∃ t, μ' = μ ++ t) ∧ ∀ b o, H b = some o → b ∉ μ → (∀ ps, o ≠ .tbl ps) → H' b = some o ∧ b ∉ μ'
theorem Ext.refl (μ : List Addr) (H : Hp) : Ext μ μ H H := ⟨⟨[], by simp⟩, fun b o h n _ => ⟨h, n⟩, fun _ _ _ h => h⟩
theorem Ext.trans {μ μ1 μ2 : List Addr} {H H1 H2 : Hp} (a : Ext μ μ1 H H1) (b : Ext μ1 μ2 H1 H2) : Ext μ μ2 H H2 := by
  obtain ⟨⟨t, rfl⟩, a, a2⟩ := a
  obtain ⟨⟨u, rfl⟩, b, b2⟩ := b
  exact ⟨⟨t ++ u, by rw [List.append_assoc]⟩, fun c o h n m => b c o (a c o h n m).1 (a c o h n m).2 m, fun c o v h => b2 c o v (a2 c o v h)⟩
/-- a state in which the cells are tracked -/
structure Trk (W : Wd) (μ : List Addr) (H : Hp) : Prop where
  fine : Fine W.K H
  trk : ∀ b ∈ μ, H b ≠ none
mutual
theorem VR.ext0 {W : Wd} {μ μ' ν : List Addr} {H H' : Hp} (x : Ext0 μ μ' H H') (lo : Trk W μ' H') : ∀ {d : D} {v : V}, VR W μ ν H d v → VR W μ' ν H' d v := fun {d v} h => by
  match d, h with
  | .non, h => exact h
  | .bl b, h => exact h
  | .int i, h => exact h
  | .str s, h => exact h
  | .tup ds, h =>
    obtain ⟨a, vs, e, t, n, r⟩ := h
    rcases t with ⟨o, t, hd⟩ | ⟨o, its, k, t1, t3⟩
    · have q := x.2 a _ t n (fun ps z => by cases z)
      exact ⟨a, vs, e, .inl ⟨o, q.1, hd⟩, q.2, VRs.ext0 x lo r⟩
    · exact ⟨a, vs, e, .inr ⟨o, its, k, t1, t3⟩, fun z => lo.trk a z (lo.fine.low a o t1), VRs.ext0 x lo r⟩
  | .lst ds, h =>
    obtain ⟨a, vs, e, t, n, m, r⟩ := h
    rcases t with t | ⟨o, t⟩
    · have q := x.2 a _ t n (fun ps z => by cases z)
      exact ⟨a, vs, e, .inl q.1, q.2, m, VRs.ext0 x lo r⟩
    · have q := x.2 a _ t n (fun ps z => by cases z)
      exact ⟨a, vs, e, .inr ⟨o, q.1⟩, q.2, m, VRs.ext0 x lo r⟩
  | .ref k, h =>
    obtain ⟨a, e, f⟩ := h
    obtain ⟨t, rfl⟩ := x.1
    exact ⟨a, by rw [List.getElem?_append_left (List.getElem?_eq_some_iff.mp e).1]; exact e, f⟩
  | .glb y, h => exact h
theorem VRs.ext0 {W : Wd} {μ μ' ν : List Addr} {H H' : Hp} (x : Ext0 μ μ' H H') (lo : Trk W μ' H') : ∀ {ds : List D} {vs : List V}, VRs W μ ν H ds vs → VRs W μ' ν H' ds vs := fun {ds vs} h => by
  match ds, h with
  | [], h => exact h
  | d :: ds, h =>
    obtain ⟨v, r, e, h1, h2⟩ := h
    exact ⟨v, r, e, VR.ext0 x lo h1, VRs.ext0 x lo h2⟩
end
theorem Ext.lo {μ μ' : List Addr} {H H' : Hp} (x : Ext μ μ' H H') : Ext0 μ μ' H H' := ⟨x.1, x.2.1⟩
theorem VR.ext {W : Wd} {μ μ' ν : List Addr} {H H' : Hp} (x : Ext μ μ' H H') (lo : Trk W μ' H') {d : D} {v : V} (h : VR W μ ν H d v) : VR W μ' ν H' d v := VR.ext0 x.lo lo h
theorem VRs.ext {W : Wd} {μ μ' ν : List Addr} {H H' : Hp} (x : Ext μ μ' H H') (lo : Trk W μ' H') {ds : List D} {vs : List V} (h : VRs W μ ν H ds vs) : VRs W μ' ν H' ds vs := VRs.ext0 x.lo lo h
mutual
/-- fewer addresses are kept apart -/
theorem VR.weak {W : Wd} {μ ν ν' : List Addr} {H : Hp} (s : ∀ a ∈ ν', a ∈ ν) : ∀ {d : D} {v : V}, VR W μ ν H d v → VR W μ ν' H d v := fun {d v} h => by
  match d, h with
  | .non, h => exact h
  | .bl b, h => exact h
  | .int i, h => exact h
  | .str x, h => exact h
  | .tup ds, h =>
    obtain ⟨a, vs, e, t, n, r⟩ := h
    exact ⟨a, vs, e, t, n, VRs.weak s r⟩
  | .lst ds, h =>
    obtain ⟨a, vs, e, t, n, m, r⟩ := h
    exact ⟨a, vs, e, t, n, fun z => m (s a z), VRs.weak s r⟩
  | .ref k, h => exact h
  | .glb y, h => exact h
theorem VRs.weak {W : Wd} {μ ν ν' : List Addr} {H : Hp} (s : ∀ a ∈ ν', a ∈ ν) : ∀ {ds : List D} {vs : List V}, VRs W μ ν H ds vs → VRs W μ ν' H ds vs := fun {ds vs} h => by
  match ds, h with
  | [], h => exact h
  | d :: ds, h =>
    obtain ⟨v, r, e, h1, h2⟩ := h
    exact ⟨v, r, e, VR.weak s h1, VRs.weak s h2⟩
end
mutual
/-- an address that was kept apart becomes a cell's -/
theorem VR.cell {W : Wd} {μ ν : List Addr} {H : Hp} {p : Addr} (hp : ∀ o u, H p ≠ some (.frz o u)) (hk : Trk W (μ ++ [p]) H) : ∀ {d : D} {v : V}, VR W μ (p :: ν) H d v → VR W (μ ++ [p]) ν H d v := fun {d v} h => by
  match d, h with
  | .non, h => exact h
  | .bl b, h => exact h
  | .int i, h => exact h
  | .str x, h => exact h
  | .tup ds, h =>
    obtain ⟨a, vs, e, t, n, r⟩ := h
    refine ⟨a, vs, e, t, fun z => ?_, VRs.cell hp hk r⟩
    rcases List.mem_append.mp z with z | z
    · exact n z
    · have z : a = p := by simpa using z
      rcases t with ⟨o, t, _⟩ | ⟨o, its, k, t1, _⟩
      · rw [z] at t; exact hp _ _ t
      · exact hk.trk a (by simp [z]) (hk.fine.low a o t1)
  | .lst ds, h =>
    obtain ⟨a, vs, e, t, n, m, r⟩ := h
    refine ⟨a, vs, e, t, fun z => ?_, fun z => m (List.mem_cons_of_mem _ z), VRs.cell hp hk r⟩
    rcases List.mem_append.mp z with z | z
    · exact n z
    · exact m (by simp only [List.mem_singleton] at z; rw [z]; exact List.mem_cons_self)
  | .ref k, h =>
    obtain ⟨a, e, f⟩ := h
    exact ⟨a, by rw [List.getElem?_append_left (List.getElem?_eq_some_iff.mp e).1]; exact e, f⟩
  | .glb y, h => exact h
theorem VRs.cell {W : Wd} {μ ν : List Addr} {H : Hp} {p : Addr} (hp : ∀ o u, H p ≠ some (.frz o u)) (hk : Trk W (μ ++ [p]) H) : ∀ {ds : List D} {vs : List V}, VRs W μ (p :: ν) H ds vs → VRs W (μ ++ [p]) ν H ds vs := fun {ds vs} h => by
  match ds, h with
  | [], h => exact h
  | d :: ds, h =>
    obtain ⟨v, r, e, h1, h2⟩ := h
    exact ⟨v, r, e, VR.cell hp hk h1, VRs.cell hp hk h2⟩
end
mutual
/-- fewer cells, where none of the others is named -/
theorem VR.cut {W : Wd} {μ μ' ν : List Addr} {H : Hp} (hs : ∀ a ∈ μ, a ∈ μ') (hg : ∀ i, i < μ.length → μ'[i]? = μ[i]?) : ∀ {d : D} {v : V}, below μ.length d = true → VR W μ' ν H d v → VR W μ ν H d v := fun {d v} b h => by
  match d, h with
  | .non, h => exact h
  | .bl b, h => exact h
  | .int i, h => exact h
  | .str x, h => exact h
  | .tup ds, h =>
    obtain ⟨a, vs, e, t, n, r⟩ := h
    exact ⟨a, vs, e, t, fun z => n (hs a z), VRs.cut hs hg (by simpa [below] using b) r⟩
  | .lst ds, h =>
    obtain ⟨a, vs, e, t, n, m, r⟩ := h
    exact ⟨a, vs, e, t, fun z => n (hs a z), m, VRs.cut hs hg (by simpa [below] using b) r⟩
  | .ref k, h =>
    obtain ⟨a, e, f⟩ := h
    exact ⟨a, by rw [← hg k (by simpa [below] using b)]; exact e, f⟩
  | .glb y, h => exact h
theorem VRs.cut {W : Wd} {μ μ' ν : List Addr} {H : Hp} (hs : ∀ a ∈ μ, a ∈ μ') (hg : ∀ i, i < μ.length → μ'[i]? = μ[i]?) : ∀ {ds : List D} {vs : List V}, belows μ.length ds = true → VRs W μ' ν H ds vs → VRs W μ ν H ds vs := fun {ds vs} b h => by
  match ds, h with
  | [], h => exact h
  | d :: ds, h =>
    obtain ⟨v, r, e, h1, h2⟩ := h
    simp only [belows, Bool.and_eq_true] at b
    exact ⟨v, r, e, VR.cut hs hg b.1 h1, VRs.cut hs hg b.2 h2⟩
end
mutual
theorem VR.below {W : Wd} {μ ν : List Addr} {H : Hp} : ∀ {d : D} {v : V}, VR W μ ν H d v → Rf.below μ.length d = true := fun {d v} h => by
  match d, h with
  | .non, h => rfl
  | .bl b, h => rfl
  | .int i, h => rfl
  | .str x, h => rfl
  | .tup ds, h =>
    obtain ⟨a, vs, e, t, n, r⟩ := h
    simpa [Rf.below] using VRs.below r
  | .lst ds, h =>
    obtain ⟨a, vs, e, t, n, m, r⟩ := h
    simpa [Rf.below] using VRs.below r
  | .ref k, h =>
    obtain ⟨a, e, f⟩ := h
    simpa [Rf.below] using (List.getElem?_eq_some_iff.mp e).1
  | .glb y, h => rfl
theorem VRs.below {W : Wd} {μ ν : List Addr} {H : Hp} : ∀ {ds : List D} {vs : List V}, VRs W μ ν H ds vs → Rf.belows μ.length ds = true := fun {ds vs} h => by
  match ds, h with
  | [], h => rfl
  | d :: ds, h =>
    obtain ⟨v, r, e, h1, h2⟩ := h
    simp only [Rf.belows, VR.below h1, VRs.below h2, Bool.and_self]
end
/-! ### cells -/
def keyV : D → Option Key
  | .int i => some (.inl i)
  | .str x => some (.inr ⟨x.toArray⟩)
  | _ => none
def keyR (k : D) (q : Key) : Prop := keyV k = some q ∧ ∀ x, k = .str x → ∀ c ∈ x, c < 0x110000
def KRs (W : Wd) (μ ν : List Addr) (H : Hp) : List (D × D) → List (Key × V) → Prop
  | [], kvs => kvs = []
  | (k, d) :: ds, kvs => ∃ q v r, kvs = (q, v) :: r ∧ keyR k q ∧ VR W μ ν H d v ∧ KRs W μ ν H ds r
def FRs (W : Wd) (μ ν : List Addr) (H : Hp) : List (Str × D) → List (Str × V) → Prop
  | [], fs => fs = []
  | (f, d) :: ds, fs => ∃ v r, fs = (f, v) :: r ∧ VR W μ ν H d v ∧ FRs W μ ν H ds r
def CR (W : Wd) (μ ν : List Addr) (H : Hp) (a : Addr) : Cell → Prop
  | .lst ds => ∃ vs, H a = some (.lst vs) ∧ VRs W μ ν H ds vs
  | .dct kvs => ∃ kv, H a = some (.dK kv) ∧ KRs W μ ν H kvs kv
  | .lck kvs => ∃ o kv, H a = some (.frz o (.dK kv)) ∧ KRs W μ ν H kvs kv
  | .ins c fs => ∃ C dx gs, W.mg c = some (.ref C) ∧ H a = some (.ins C dx gs) ∧ FRs W μ ν H fs gs
theorem KRs.map {W : Wd} {μ ν μ' ν' : List Addr} {H H' : Hp} (f : ∀ d v, VR W μ ν H d v → VR W μ' ν' H' d v) : ∀ {ds : List (D × D)} {kv : List (Key × V)}, KRs W μ ν H ds kv → KRs W μ' ν' H' ds kv
  | [], _, h => h
  | (k, d) :: ds, _, h => by
    obtain ⟨q, v, r, e, h1, h2, h3⟩ := h
    exact ⟨q, v, r, e, h1, f _ _ h2, KRs.map f h3⟩
theorem FRs.map {W : Wd} {μ ν μ' ν' : List Addr} {H H' : Hp} (f : ∀ d v, VR W μ ν H d v → VR W μ' ν' H' d v) : ∀ {ds : List (Str × D)} {fs : List (Str × V)}, FRs W μ ν H ds fs → FRs W μ' ν' H' ds fs
  | [], _, h => h
  | (k, d) :: ds, _, h => by
    obtain ⟨v, r, e, h2, h3⟩ := h
    exact ⟨v, r, e, f _ _ h2, FRs.map f h3⟩
theorem VRs.map {W : Wd} {μ ν μ' ν' : List Addr} {H H' : Hp} (f : ∀ d v, VR W μ ν H d v → VR W μ' ν' H' d v) : ∀ {ds : List D} {vs : List V}, VRs W μ ν H ds vs → VRs W μ' ν' H' ds vs
  | [], _, h => h
  | d :: ds, _, h => by
    obtain ⟨v, r, e, h2, h3⟩ := h
    exact ⟨v, r, e, f _ _ h2, VRs.map f h3⟩
theorem CR.map {W : Wd} {μ ν μ' ν' : List Addr} {H H' : Hp} {a : Addr} (f : ∀ d v, VR W μ ν H d v → VR W μ' ν' H' d v) (e : H' a = H a) : ∀ {c : Cell}, CR W μ ν H a c → CR W μ' ν' H' a c
  | .lst ds, ⟨vs, h1, h2⟩ => ⟨vs, by rw [e]; exact h1, h2.map f⟩
  | .dct kvs, ⟨kv, h1, h2⟩ => ⟨kv, by rw [e]; exact h1, h2.map f⟩
  | .lck kvs, ⟨o, kv, h1, h2⟩ => ⟨o, kv, by rw [e]; exact h1, h2.map f⟩
  | .ins c fs, ⟨C, dx, gs, h0, h1, h2⟩ => ⟨C, dx, gs, h0, by rw [e]; exact h1, h2.map f⟩
theorem CR.some {W : Wd} {μ ν : List Addr} {H : Hp} {a : Addr} {c : Cell} (h : CR W μ ν H a c) : ∃ o, H a = some o := by
  cases c with
  | lst ds => obtain ⟨vs, h, _⟩ := h; exact ⟨_, h⟩
  | dct kvs => obtain ⟨kv, h, _⟩ := h; exact ⟨_, h⟩
  | lck kvs => obtain ⟨o, kv, h, _⟩ := h; exact ⟨_, h⟩
  | ins c fs => obtain ⟨C, dx, gs, _, h, _⟩ := h; exact ⟨_, h⟩
/-- neither a table of code objects nor a thing told of the heap -/
def Plain : HO → Prop
  | .tbl _ => False
  | .ext _ => False
  | _ => True
theorem cell_pl {W : Wd} {μ ν : List Addr} {H : Hp} {a : Addr} {c : Cell} (h : CR W μ ν H a c) : ∃ o, H a = some o ∧ Plain o := by
  cases c with
  | lst ds => obtain ⟨vs, h, _⟩ := h; exact ⟨_, h, trivial⟩
  | dct kvs => obtain ⟨kv, h, _⟩ := h; exact ⟨_, h, trivial⟩
  | lck kvs => obtain ⟨o, kv, h, _⟩ := h; exact ⟨_, h, trivial⟩
  | ins c fs => obtain ⟨C, dx, gs, _, h, _⟩ := h; exact ⟨_, h, trivial⟩
/-- defs that make lambdas, where they stand -/
def lamAt : List (Str × Option Str) := [("answer_to", none)]
/-- where such a def stands: its code object, the table, the lambdas' name -/
def lamOf (K : PySem.W.Frag) (p : Str × Option Str) : Option (Addr × Addr × Str) := match K.lookup (He.fAd K p) with
  | some ⟨_, _, .func fd, _⟩ => (match fd.code with
    | .ref c => (match K.lookup c with
      | some ⟨_, _, .fields vs, _⟩ => (match vs.toList.drop 11 with
        | .ref P :: _ => some (c, P, fd.qualname ++ ".<locals>." ++ "<lambda>")
        | _ => none)
      | _ => none)
    | _ => none)
  | _ => none
def tabOf (K : PySem.W.Frag) (p : Str × Option Str) : Option (Addr × Str) := (lamOf K p).map fun q => (q.2.1, q.2.2)
/-- the tables of the code objects of lambdas -/
def tabT (K : PySem.W.Frag) : List (Addr × Str) := lamAt.filterMap (tabOf K)
theorem tabs_upd {T : List (Addr × Str)} {H : Hp} {p : Addr} {o : HO} (hp : ∀ u, H p = some u → Plain u) (t : LamX.Tabs T H) : LamX.Tabs T (upd H p o) := fun q hq => by
  obtain ⟨ps, h1, h2, h3⟩ := t q hq
  refine ⟨ps, by rw [upd_ne (fun z => by rw [z] at h1; exact (hp _ h1).elim)]; exact h1, h2, fun pos cv hc => ?_⟩
  obtain ⟨c, e1, e2⟩ := h3 pos cv hc
  exact ⟨c, e1, by rw [upd_ne (fun z => by rw [z] at e2; exact (hp _ e2).elim)]; exact e2⟩
theorem none_pl {H : Hp} {p : Addr} (hp : H p = none) : ∀ u, H p = some u → Plain u := fun u e => by rw [hp] at e; cases e
theorem some_pl {H : Hp} {p : Addr} {o : HO} (hp : H p = some o) (h : Plain o) : ∀ u, H p = some u → Plain u := fun u e => by rw [hp] at e; cases e; exact h
/-- the store -/
structure StR (W : Wd) (μ ν : List Addr) (S : Store) (H : Hp) : Prop where
  fine : Fine W.K H
  len : μ.length = S.length
  nd : μ.Nodup
  dis : ∀ b ∈ ν, b ∉ μ
  trn : ∀ b ∈ ν, ∃ o, H b = some o ∧ Plain o
  cells : ∀ (i : Nat) (c : Cell) (a : Addr), S[i]? = some c → μ[i]? = some a → CR W μ ν H a c
  tab : LamX.Tabs (tabT W.K) H
theorem StR.cell {W : Wd} {μ ν : List Addr} {S : Store} {H : Hp} (h : StR W μ ν S H) {b : Addr} (hb : b ∈ μ) : ∃ (i : Nat) (c : Cell), μ[i]? = some b ∧ S[i]? = some c ∧ CR W μ ν H b c := by
  obtain ⟨i, hi, e⟩ := List.getElem_of_mem hb
  have hi2 : i < S.length := by rw [← h.len]; exact hi
  have e2 : μ[i]? = some b := by rw [List.getElem?_eq_getElem hi, e]
  exact ⟨i, S[i], e2, List.getElem?_eq_getElem hi2, h.cells i _ b (List.getElem?_eq_getElem hi2) e2⟩
theorem StR.trk {W : Wd} {μ ν : List Addr} {S : Store} {H : Hp} (h : StR W μ ν S H) : Trk W μ H := ⟨h.fine, fun b hb => by
  obtain ⟨i, c, _, _, q⟩ := h.cell hb
  obtain ⟨o, e⟩ := q.some
  rw [e]; simp⟩
theorem StR.notIn {W : Wd} {μ ν : List Addr} {S : Store} {H : Hp} (h : StR W μ ν S H) {p : Addr} (hp : H p = none) : p ∉ μ := fun z => h.trk.trk p z hp
theorem StR.notInN {W : Wd} {μ ν : List Addr} {S : Store} {H : Hp} (h : StR W μ ν S H) {p : Addr} (hp : H p = none) : p ∉ ν := fun z => by
  obtain ⟨o, e, _⟩ := h.trn p z
  rw [e] at hp; cases hp
/-- something new is tracked that is no cell -/
theorem Ext.laid {μ : List Addr} {H : Hp} {p : Addr} {o : HO} (hp : H p = none) : Ext μ μ H (upd H p o) := ⟨⟨[], by simp⟩, fun b u h n _ => ⟨by rw [upd_ne (ne_of_none h hp)]; exact h, n⟩, fun b o u h => by rw [upd_ne (ne_of_none h hp)]; exact h⟩
theorem StR.laid {W : Wd} {μ ν : List Addr} {S : Store} {H : Hp} {p : Addr} {o : HO} (h : StR W μ ν S H) (hp : H p = none) (f : Fine W.K (upd H p o)) : StR W μ ν S (upd H p o) := by
  have tk : Trk W μ (upd H p o) := ⟨f, fun b hb => by
    by_cases e : b = p
    · rw [e, upd_same]; simp
    · rw [upd_ne e]; exact h.trk.trk b hb⟩
  refine ⟨f, h.len, h.nd, h.dis, fun b hb => ?_, fun i c a e1 e2 => ?_, tabs_upd (none_pl hp) h.tab⟩
  · obtain ⟨u, q, m⟩ := h.trn b hb
    exact ⟨u, by rw [upd_ne (ne_of_none q hp)]; exact q, m⟩
  · refine (h.cells i c a e1 e2).map (fun d v r => r.ext (Ext.laid hp) tk) ?_
    rw [upd_ne]
    intro z
    exact h.notIn hp (z ▸ List.mem_of_getElem? e2)
/-- a new cell -/
theorem StR.grow {W : Wd} {μ ν : List Addr} {S : Store} {H : Hp} {p : Addr} {c : Cell} (h : StR W μ (p :: ν) S H) (hn : p ∉ ν) (hp : ∀ o u, H p ≠ some (.frz o u)) (hc : CR W (μ ++ [p]) ν H p c) : StR W (μ ++ [p]) ν (S ++ [c]) H := by
  have np : p ∉ μ := h.dis p List.mem_cons_self
  obtain ⟨o, ho, _⟩ := h.trn p List.mem_cons_self
  have tk : Trk W (μ ++ [p]) H := ⟨h.fine, fun b hb => by
    rcases List.mem_append.mp hb with z | z
    · exact h.trk.trk b z
    · have z : b = p := by simpa using z
      rw [z, ho]; simp⟩
  refine ⟨h.fine, by simp [h.len], ?_, fun b hb z => ?_, fun b hb => h.trn b (List.mem_cons_of_mem _ hb), fun i c' a e1 e2 => ?_, h.tab⟩
  · rw [List.nodup_append]
    exact ⟨h.nd, by simp, fun a ha b hb e => by simp only [List.mem_singleton] at hb; exact np (by rw [← hb, ← e]; exact ha)⟩
  · rcases List.mem_append.mp z with z | z
    · exact h.dis b (List.mem_cons_of_mem _ hb) z
    · have z : b = p := by simpa using z
      exact hn (z ▸ hb)
  · by_cases hi : i < S.length
    · rw [List.getElem?_append_left hi] at e1
      rw [List.getElem?_append_left (by rw [h.len]; exact hi)] at e2
      exact (h.cells i c' a e1 e2).map (fun d v r => r.cell hp tk) rfl
    · have e : i = S.length := by
        have q := (List.getElem?_eq_some_iff.mp e1).1
        simp at q; omega
      subst e
      rw [List.getElem?_append_right (Nat.le_refl _)] at e1
      rw [← h.len, List.getElem?_append_right (Nat.le_refl _)] at e2
      simp at e1 e2
      subst e1 e2
      exact hc
end Rf
/-! Operators on what stands for plain data. -/
namespace Rf
open PySem PySem.Spec PyProof.Rows L2

/-! ### behind each rule the state is fine -/
section
variable {X : Cx}
theorem PEfine {e : Expr} {t t' : TE} (h : PE X e t) (i : ∀ σ H Q, Fine X.K H → t' σ H Q → t σ H fun v H' => Fine X.K H' → Q v H') : PE X e t' :=
  ⟨fun pins s σ H Q I q => thn (h.run pins s σ H _ I (i σ H Q (fine_of I) q)) fun u s' ⟨v, H', I', r, z⟩ => ⟨v, H', I', r, z (fine_of I')⟩⟩
theorem PTfine {e : Expr} {t t' : TT} (h : PT X e t) (i : ∀ σ H Q, Fine X.K H → t' σ H Q → t σ H fun v H' => Fine X.K H' → Q v H') : PT X e t' :=
  ⟨fun pins s σ H Q I q => thn (h.run pins s σ H _ I (i σ H Q (fine_of I) q)) fun u s' ⟨H', I', z⟩ => ⟨H', I', z (fine_of I')⟩⟩
theorem PAfine {es : List Expr} {t t' : TA} (h : PA X es t) (i : ∀ σ H Q, Fine X.K H → t' σ H Q → t σ H fun v H' => Fine X.K H' → Q v H') : PA X es t' :=
  ⟨fun pos pins s σ H Q I q => thn (h.run pos pins s σ H _ I (i σ H Q (fine_of I) q)) fun u s' ⟨v, H', I', r, z⟩ => ⟨v, H', I', r, z (fine_of I')⟩⟩
theorem OpFine {f : Value → Value → Sem Value} {r r' : R2} (h : OpR X f r) (i : ∀ x y H Q, Fine X.K H → r' x y H Q → r x y H fun v H' => Fine X.K H' → Q v H') : OpR X f r' := fun pins s σ H x y v u Q I rx ry q =>
  thn (h pins s σ H x y v u _ I rx ry (i x y H Q (fine_of I) q)) fun u s' ⟨v, H', I', r, z⟩ => ⟨v, H', I', r, z (fine_of I')⟩
theorem CallFine {f : Value} {r r' : List V → Hp → VK → Prop} (h : CallR X f r) (i : ∀ xs H Q, Fine X.K H → r' xs H Q → r xs H fun v H' => Fine X.K H' → Q v H') : CallR X f r' := fun pins s σ H xs us Q I rx q =>
  thn (h pins s σ H xs us _ I rx (i xs H Q (fine_of I) q)) fun u s' ⟨v, H', I', r, z⟩ => ⟨v, H', I', r, z (fine_of I')⟩
end
/-! ### lists and tuples, read and laid -/
section
variable {X : Cx} {pins : List (Addr × Obj)} {σ : L2.St} {H : Hp} {s : Shared} {l : Addr} {xs : List V}
theorem lstRd (I : Inv X pins σ H s) (h : Rd H l (.lst xs)) : xs.length ≤ sizeLine ∧ ∃ (its : List Value) (n : Nat), Vals xs its ∧ xs.length = its.length ∧ s.heap.get? l = some { cls := .type "list", data := .seq its.toArray n } := by
  obtain ⟨z, its, n, r, e⟩ := h.ok I.hok
  exact ⟨z, its, n, r, r.length, e⟩
abbrev tupObj (its : List Value) : Obj := { cls := .type "tuple", data := .seq its.toArray }
theorem newTup {its : List Value} (I : Inv X pins σ H s) (r : Vals xs its) (z : xs.length ≤ sizeLine) :
    Inv X pins σ (upd H s.heap.objs.size (.frz (tupObj its) (.tup xs))) { s with heap := s.heap.push (tupObj its) } :=
  I.laid (t' := s.toks) (fun _ _ q => Heap.get?_push_of_some _ q) (Nat.le_refl _) ⟨Heap.get?_push_size _ rfl, z, its, r, IsTup.new _ _⟩
/-- the wish for a new tuple -/
def NewT (H : Hp) (vs : List V) (Q : VK) : Prop := ∀ p o, H p = none → o.dict = none → Q (.ref p) (upd H p (.frz o (.tup vs)))
def NewL (H : Hp) (vs : List V) (Q : VK) : Prop := ∀ p, H p = none → Q (.ref p) (upd H p (.lst vs))
end
section
variable {X : Cx} {es : List Expr} {t : TA} {pos : Pos}
theorem pe_tupF {k : Nat} (h : PA X es t) : PE X (.Tuple es k pos) (fun σ H Q => t σ H fun xs H1 => xs.length ≤ sizeLine ∧ NewT H1 xs Q) := by
  refine ⟨fun pins s σ H Q I hq => wpAny_Tuple_spliced (thn (h.run pos pins s σ H _ I hq) ?_)⟩
  intro us s1 hh
  obtain ⟨xs, H1, I1, r, z, q⟩ := hh
  exact ⟨by rw [← r.length]; exact z, .ref _, _, newTup I1 r z, rfl, q _ _ (I1.hok.fresh (Nat.le_refl _)) rfl⟩
/-- t + u -/
theorem op_tupF : OpR X (binaryOp .Add) (fun x y H Q => ∃ a b xs ys, x = .ref a ∧ y = .ref b ∧ SqT X.K H a xs ∧ SqT X.K H b ys ∧ xs.length + ys.length ≤ sizeLine ∧
    (xs = [] → Q (.ref b) H) ∧ (ys = [] → Q (.ref a) H) ∧ NewT H (xs ++ ys) Q) := by
  intro pins s σ H x y v u Q I rx ry h
  obtain ⟨a, b, xs, ys, rfl, rfl, ha, hb, hz, q0, q1, q2⟩ := h
  by_cases hx : xs = []
  · exact op_catA pins s σ H _ _ v u Q I rx ry ⟨a, b, xs, ys, rfl, rfl, ha, hb, hz, q0, fun z => absurd hx z, fun z => absurd hx z⟩
  · cases rx; cases ry
    obtain ⟨its, r1, p1, _⟩ := I.tuple ha
    obtain ⟨jts, r2, p2, _⟩ := I.tuple hb
    refine HT.cat_tup p1 p2 (fun z => hx (r1.nil_iff.mp z)) (fun z => ⟨.ref _, H, I, rfl, q1 (r2.nil_iff.mp z)⟩) (fun _ => ?_) (by rw [← r1.length, ← r2.length]; exact hz)
    exact ⟨.ref _, _, newTup I (r1.append r2) (by rw [List.length_append]; exact hz), rfl, q2 _ _ I.fresh rfl⟩
/-- tuple(xs), tuple(t) -/
theorem call_tupF : CallR X (.type "tuple") (fun xs H Q => ∃ p ys, xs = [.ref p] ∧ ((SqL X.K H p ys ∧ NewT H ys Q) ∨ (SqT X.K H p ys ∧ Q (.ref p) H))) := by
  intro pins s σ H xs us Q I r h
  obtain ⟨p, ys, rfl, ⟨hq, q⟩ | ⟨hq, q⟩⟩ := h
  · obtain ⟨u, rfl, rx⟩ := vals1 r
    cases rx
    obtain ⟨its, r2, pl, hz⟩ := I.list hq
    refine call_tuple_list pl.isList (fun h2 kp => ?_) (by have := r2.length; simp only [List.size_toArray] <;> omega)
    have I1 : Inv X pins σ H { s with heap := h2 } := I.kept (t' := s.toks) kp
    exact ⟨.ref _, _, newTup I1 r2 hz, rfl, q _ _ I1.fresh rfl⟩
  · exact call_tuple_of pins s σ H _ us Q I r ⟨p, ys, rfl, .inr ⟨hq, q⟩⟩
/-- t[lo:hi] -/
theorem sl_tupF : SlR X (fun x lo hi H Q => ∃ a xs, x = .ref a ∧ SqT X.K H a xs ∧
    (HT.sIx xs.length 0 lo = 0 ∧ HT.sIx xs.length xs.length hi = xs.length → Q (.ref a) H) ∧ NewT H (cutV xs lo hi) Q) := by
  intro pins s σ H x v vl vu lo hi sl Q I rx hs pl pu h
  obtain ⟨a, xs, rfl, hx, q1, q2⟩ := h
  by_cases hw : HT.sIx xs.length 0 lo = 0 ∧ HT.sIx xs.length xs.length hi = xs.length
  · exact sl_tupA pins s σ H _ v vl vu lo hi sl Q I rx hs pl pu ⟨a, xs, rfl, hx, q1, fun z => absurd hw z⟩
  · cases rx
    obtain ⟨its, r, ht, hz⟩ := I.tuple hx
    have hl : its.toArray.size = xs.length := by rw [List.size_toArray]; exact r.length.symm
    refine ⟨"tuple", _, PyProof.Rows.slot_tuple_getitem.lookup, ht.typeIs, HT.getItem_tuple_cut ht hs pl pu (by rw [hl]; exact hw) ?_ (by rw [hl]; exact hz)⟩
    rw [hl]
    exact ⟨.ref _, _, newTup I ((r.drop _).take _) (Nat.le_trans (cutV_length xs lo hi) hz), rfl, q2 _ _ I.fresh rfl⟩
/-- xs + ys -/
theorem op_lstF : OpR X (binaryOp .Add) (fun x y H Q => ∃ l b xs zs, x = .ref l ∧ y = .ref b ∧ Rd H l (.lst xs) ∧ Rd H b (.lst zs) ∧ xs.length + zs.length ≤ sizeLine ∧ NewL H (xs ++ zs) Q) := by
  intro pins s σ H x y v u Q I rx ry h
  obtain ⟨l, b, xs, zs, rfl, rfl, hl, hb, hz, q⟩ := h
  cases rx; cases ry
  obtain ⟨_, its, n, r, e1, e⟩ := lstRd I hl
  obtain ⟨_, jts, m, r2, e2, e3⟩ := lstRd I hb
  refine PySem.P.add_list e e3 ?_ (by simp only [List.size_toArray]; omega)
  rw [show its.toArray ++ jts.toArray = (its ++ jts).toArray by simp]
  exact ⟨.ref _, _, I.lnew (t' := s.toks) (r.append r2) (by simp only [List.length_append]; omega), rfl, q _ I.fresh⟩
end
/-! ### what is wanted behind an operation -/
def Done (W : Wd) (μ ν : List Addr) (H : Hp) (S' : Store) (d : D) (Q : VK) : Prop := ∀ v H' μ', Ext μ μ' H H' → StR W μ' ν S' H' → VR W μ' ν H' d v → Q v H'
abbrev Cx.W (X : Cx) : Wd := ⟨X.K, X.mg⟩
section
variable {W : Wd} {μ ν : List Addr} {H : Hp} {S : Store} {Q : VK}
theorem Done.here {d : D} {v : V} (D : Done W μ ν H S d Q) (st : StR W μ ν S H) (r : VR W μ ν H d v) : Q v H := D v H μ (Ext.refl _ _) st r
theorem Done.tup {ds : List D} {vs : List V} (D : Done W μ ν H S (.tup ds) Q) (st : StR W μ ν S H) (r : VRs W μ ν H ds vs) : NewT H vs fun v H' => Fine W.K H' → Q v H' := fun p o hp ho f => by
  have x := Ext.laid (μ := μ) (o := .frz o (.tup vs)) hp
  have st2 := st.laid hp f
  exact D _ _ μ x st2 ⟨p, vs, rfl, .inl ⟨o, upd_same, ho⟩, st.notIn hp, r.ext x st2.trk⟩
theorem Done.lst {ds : List D} {vs : List V} (D : Done W μ ν H S (.lst ds) Q) (st : StR W μ ν S H) (r : VRs W μ ν H ds vs) : NewL H vs fun v H' => Fine W.K H' → Q v H' := fun p hp f => by
  have x := Ext.laid (μ := μ) (o := .lst vs) hp
  have st2 := st.laid hp f
  exact D _ _ μ x st2 ⟨p, vs, rfl, .inl upd_same, st.notIn hp, st.notInN hp, r.ext x st2.trk⟩
end
/-- an operator on what stands for x and y -/
def rOp (W : Wd) (S : Store) (x y : D) (z : D) : R2 := fun u v H Q => ∃ μ ν, StR W μ ν S H ∧ VR W μ ν H x u ∧ VR W μ ν H y v ∧ Done W μ ν H S z Q
/-- what stands for a frozen list, or a cell's list -/
theorem frozen_lst {W : Wd} {μ ν : List Addr} {H : Hp} {S : Store} {x : D} {u : V} {ds : List D} (st : StR W μ ν S H) (r : VR W μ ν H x u) (e : frozen S x = .lst ds) : ∃ a vs, u = .ref a ∧ Rd H a (.lst vs) ∧ VRs W μ ν H ds vs := by
  cases x with
  | lst es =>
    simp only [frozen, D.lst.injEq] at e
    subst e
    obtain ⟨a, vs, rfl, h1, _, _, h2⟩ := r
    exact ⟨a, vs, rfl, h1, h2⟩
  | ref k =>
    obtain ⟨a, ha, rfl⟩ := r
    simp only [frozen] at e
    split at e
    · rename_i es hs
      cases e
      obtain ⟨vs, h1, h2⟩ := st.cells k _ a hs ha
      exact ⟨a, vs, rfl, .inl h1, h2⟩
    · cases e
  | _ => simp [frozen] at e
theorem frozen_str {S : Store} {x : D} {z : List Nat} (e : frozen S x = .str z) : x = .str z := by
  cases x with
  | ref k =>
    simp only [frozen] at e
    split at e <;> cases e
  | _ => simpa [frozen] using e
theorem frozen_tup {S : Store} {x : D} {z : List D} (e : frozen S x = .tup z) : x = .tup z := by
  cases x with
  | ref k =>
    simp only [frozen] at e
    split at e <;> cases e
  | _ => simpa [frozen] using e
theorem line_eq : line = sizeLine := by rw [sizeLine_eq]; rfl
theorem strLen (x : List Nat) : (Str.mk x.toArray).length = x.length := by simp [Str.length]
end Rf
/-! Binary operators are sound. -/
namespace Rf
open PySem PySem.Spec PyProof.Rows L2
section
variable {X : Cx} {S : Store} {x y z : D}
theorem strApp (x y : List Nat) : (⟨x.toArray⟩ : Str) ++ (⟨y.toArray⟩ : Str) = ⟨(x ++ y).toArray⟩ := by
  show (⟨x.toArray ++ y.toArray⟩ : Str) = _
  simp
theorem add_snd (h : addD S x y = some z) : OpR X (binaryOp .Add) (rOp (Cx.W X) S x y z) := by
  unfold addD at h
  split at h
  · cases h
    refine OpFine op_add fun u v H Q f q => ?_
    obtain ⟨μ, ν, st, rfl, rfl, D⟩ := q
    exact ⟨_, _, rfl, rfl, fun _ => D.here st rfl⟩
  · split at h
    · rename_i a b hl
      cases h
      refine OpFine op_add_str fun u v H Q f q => ?_
      obtain ⟨μ, ν, st, ⟨rfl, k1⟩, ⟨rfl, k2⟩, D⟩ := q
      refine ⟨_, _, rfl, rfl, ?_, fun _ => ?_⟩
      · rw [strLen, strLen, ← line_eq]; exact hl
      · rw [strApp]; exact D.here st ⟨rfl, fun c hc => (List.mem_append.mp hc).elim (k1 c) (k2 c)⟩
    · cases h
  · split at h
    · rename_i a b hl
      cases h
      refine OpFine op_tupF fun u v H Q f q => ?_
      obtain ⟨μ, ν, st, rx, ry, D⟩ := q
      obtain ⟨p, vs, rfl, tx, np, rx⟩ := rx
      obtain ⟨p2, ws, rfl, ty, np2, ry⟩ := ry
      refine ⟨p, p2, vs, ws, rfl, rfl, tx.sq, ty.sq, ?_, fun e _ => ?_, fun e _ => ?_, D.tup st (rx.append ry)⟩
      · rw [← rx.length, ← ry.length, ← line_eq]; exact hl
      · refine D.here st ?_
        have e2 : a = [] := by have := rx.length; rw [e] at this; exact List.eq_nil_of_length_eq_zero this
        rw [e2]; exact ⟨p2, ws, rfl, ty, np2, ry⟩
      · refine D.here st ?_
        have e2 : b = [] := by have := ry.length; rw [e] at this; exact List.eq_nil_of_length_eq_zero this
        rw [e2, List.append_nil]; exact ⟨p, vs, rfl, tx, np, rx⟩
    · cases h
  · split at h
    · rename_i a b e1 e2
      split at h
      · rename_i hl
        cases h
        refine OpFine op_lstF fun u v H Q f q => ?_
        obtain ⟨μ, ν, st, rx, ry, D⟩ := q
        obtain ⟨p, vs, rfl, h1, rx⟩ := frozen_lst st rx e1
        obtain ⟨p2, ws, rfl, h2, ry⟩ := frozen_lst st ry e2
        refine ⟨p, p2, vs, ws, rfl, rfl, h1, h2, ?_, D.lst st (rx.append ry)⟩
        rw [← rx.length, ← ry.length, ← line_eq]; exact hl
      · cases h
    · cases h
/-- t * k -/
theorem op_mulTF : OpR X (binaryOp .Mult) (fun x y H Q => ∃ l k xs, x = .ref l ∧ y = .int k ∧ SqT X.K H l xs ∧ xs ≠ [] ∧ 2 ≤ k ∧ k ≤ 1000 ∧ xs.length ≤ 1000 ∧ NewT H (List.replicate k.toNat xs).flatten Q) := by
  intro pins s σ H x y v u Q I rx ry h
  obtain ⟨l, k, xs, rfl, rfl, hT, hne, h1, h2, hz, q⟩ := h
  cases rx
  obtain ⟨t, rfl⟩ := ry
  obtain ⟨its, r, ⟨⟨cls, dd, data, sl⟩, ho, hc, n, hd⟩, hs⟩ := I.tuple hT
  simp only at hc hd
  subst hc hd
  have hle : its.length = xs.length := r.length.symm
  have hi : its.toArray.isEmpty = false := by
    cases its with
    | nil => exact absurd (List.eq_nil_of_length_eq_zero hle.symm) hne
    | cons a b => rfl
  have hsz : its.toArray.size = xs.length := by rw [List.size_toArray, hle]
  have hm : ((its.toArray.size : Nat) : Int) * k ≤ 1000000 := by
    rw [hsz]
    exact Int.le_trans (Int.mul_le_mul_of_nonneg_right (c := k) (b := 1000) (by omega) (by omega)) (by omega)
  have fl : (List.replicate k.toNat its).flatten.length ≤ sizeLine := by
    rw [PyProof.Rows.lm_len_rep_flat, hle, sizeLine_eq]
    exact Nat.le_trans (Nat.mul_le_mul (by omega : k.toNat ≤ 1000) hz) (by omega)
  have c0 : (decide (k < -(2 ^ 63)) || decide (k ≥ 2 ^ 63)) = false := by simp only [Bool.or_eq_false_iff, decide_eq_false_iff_not]; omega
  have c1 : (its.toArray.isEmpty || k == 1) = false := by rw [hi, Bool.false_or]; exact beq_eq_false_iff_ne.mpr (by omega)
  have c2 : (decide (k ≤ 0) || its.toArray.isEmpty) = false := by rw [hi, Bool.or_false]; exact decide_eq_false (by omega)
  have c4 : Builtin.Tuple.tupleTooMany (((its.toArray.size : Nat) : Int) * k) = false := by
    unfold Builtin.Tuple.tupleTooMany
    exact decide_eq_false (by rw [sizeLine_eq]; omega)
  have run := tuple_mulW l its.toArray n dd sl k t c0 c1 c2 (by omega) c4 (by rw [size_rep, List.size_toArray]; exact fl)
  refine wpAny_binaryOp_repeat_ref (T := "tuple") (U := "int") (by decide) ⟨_, ho, rfl⟩ (fun s' => typeIs_int s' k t) noFill_tuple_mul F.fills_int_mul F.slot_int_rmul repeat_tuple F.slot_int_index.lookup ?_
  refine call_meets F.slot_int_rmul (typeIs_int s k t) F.entry_int_rmul (F.args_int_rmul_2 _ _) (int_rmul_tuple k t l its.toArray n dd sl) ⟨ho, rfl, ⟨_, ho, rfl⟩, ?_⟩
  refine call_meets F.slot_tuple_mul ⟨_, ho, rfl⟩ F.entry_tuple_mul (F.args_tuple_mul_2 _ _) run ⟨ho, ?_⟩
  rw [size_rep]
  exact ⟨.ref _, _, newTup I (r.rep k.toNat) (by rw [PyProof.Rows.lm_len_rep_flat, ← hle, ← PyProof.Rows.lm_len_rep_flat]; exact fl), rfl, q _ _ I.fresh rfl⟩
/-- xs * k -/
theorem op_mulLF : OpR X (binaryOp .Mult) (fun x y H Q => ∃ l k xs, x = .ref l ∧ y = .int k ∧ Rd H l (.lst xs) ∧ -(2 ^ 63) ≤ k ∧ k < 2 ^ 63 ∧ xs.length * k.toNat ≤ sizeLine ∧ NewL H (List.replicate k.toNat xs).flatten Q) := by
  intro pins s σ H x y v u Q I rx ry h
  obtain ⟨l, k, xs, rfl, rfl, hl, h1, h2, hz, q⟩ := h
  cases rx
  obtain ⟨t, rfl⟩ := ry
  obtain ⟨_, its, n, r, e1, e⟩ := lstRd I hl
  have hlen : its.toArray.size * k.toNat ≤ sizeLine := by rw [List.size_toArray, ← e1]; exact hz
  have hcap : ¬ its.toArray.size * k.toNat > (2 ^ 63 - 1) / 8 := by
    have : (sizeLine : Nat) ≤ (2 ^ 63 - 1) / 8 := by decide
    omega
  have hfit : ¬ (!Builtin.List.listFitsIndex k) = true := by rw [fitsIndex_both h1 h2]; exact Bool.false_ne_true
  have hlong : ¬ Builtin.List.listTooLong (its.toArray.size * k.toNat) = true := by rw [notLongL hlen]; exact Bool.false_ne_true
  have hnew : List.foldl (fun x1 x2 => x1 ++ x2) #[] (List.replicate (if its.toArray.isEmpty = true then 0 else k.toNat) its.toArray) = (List.replicate k.toNat its).flatten.toArray := by
    cases its with
    | nil => simp
    | cons a r' => rw [if_neg (by simp)]; exact size_rep _ _
  refine wpAny_binaryOp_repeat_ref (T := "list") (U := "int") (by decide) ⟨_, e, rfl⟩ (fun s' => typeIs_int s' k t) noFill_list_mul F.fills_int_mul F.slot_int_rmul repeat_list F.slot_int_index.lookup ?_
  refine call_meets F.slot_int_rmul (typeIs_int s k t) F.entry_int_rmul (F.args_int_rmul_2 _ _) (int___rmul___int_list k t l its.toArray n) ⟨e, rfl, ⟨_, e, rfl⟩, ?_⟩
  refine call_meets F.slot_list_mul ⟨_, e, rfl⟩ F.entry_list_mul (F.args_list_mul_2 _ _) (AutoListH.list___mul___list_int_3 l its.toArray n k t hfit hcap hlong) ⟨e, ?_⟩
  rw [hnew]
  exact ⟨.ref _, _, I.lnew (t' := s.toks) (r.rep k.toNat) (by rw [PyProof.Rows.lm_len_rep_flat, Nat.mul_comm]; exact hz), rfl, q _ I.fresh⟩
theorem strRep (x : List Nat) : ∀ n : Nat, (List.replicate n (x.toArray : Array Nat)).foldl (· ++ ·) #[] = (List.replicate n x).flatten.toArray := fun n => by
  have h : ∀ (n : Nat) (acc : List Nat), (List.replicate n (x.toArray : Array Nat)).foldl (· ++ ·) acc.toArray = (acc ++ (List.replicate n x).flatten).toArray := by
    intro n
    induction n with
    | zero => intro acc; simp
    | succ n ih => intro acc; rw [List.replicate_succ, List.foldl_cons, List.append_toArray, ih, List.replicate_succ, List.flatten_cons, List.append_assoc]
  simpa using h n []
theorem op_mulSF : OpR X (binaryOp .Mult) (fun x y H Q => ∃ z k, x = .str ⟨(z : List Nat).toArray⟩ ∧ y = .int k ∧ 0 ≤ k ∧ k ≤ 1000000 ∧ z.length * k.toNat ≤ sizeLine ∧ Q (.str ⟨(List.replicate k.toNat z).flatten.toArray⟩) H) := by
  intro pins s σ H x y v u Q I rx ry h
  obtain ⟨z, k, rfl, rfl, h1, h2, hz, q⟩ := h
  obtain ⟨t, rfl⟩ := rx
  obtain ⟨t2, rfl⟩ := ry
  have hl : ∀ y : List Nat, (⟨y.toArray⟩ : Str).length = y.length := strLen
  have hs : sizeLine = 16777216 := sizeLine_eq
  have hle : 0 < k → z.length ≤ 16777216 := fun hk => by
    refine Nat.le_trans (Nat.le_mul_of_pos_right z.length (show 0 < k.toNat by omega)) ?_
    omega
  have e1 : ∀ j : Str, (if k < 1 then Made.str Str.empty else if (k == 1 || (⟨z.toArray⟩ : Str).length == 0) = true then Made.val (.str ⟨z.toArray⟩ t) else Made.str ⟨(List.replicate k.toNat (⟨z.toArray⟩ : Str).cps).foldl (· ++ ·) #[]⟩).post (EP X pins σ Q) s := fun j => by
    by_cases h3 : k < 1
    · rw [if_pos h3]
      have h4 : k = 0 := by omega
      subst h4
      exact ⟨by decide, .str _, H, I.tok _, ⟨_, rfl⟩, q⟩
    · rw [if_neg h3]
      split
      · rename_i h4
        refine ⟨.str ⟨z.toArray⟩, H, I, ⟨_, rfl⟩, ?_⟩
        have h5 : (List.replicate k.toNat z).flatten = z := by
          rw [Bool.or_eq_true, beq_iff_eq, beq_iff_eq, hl] at h4
          rcases h4 with h4 | h4
          · rw [h4]; simp
          · rw [List.eq_nil_of_length_eq_zero h4]; simp
        rw [h5] at q
        exact q
      · refine ⟨?_, .str _, H, I.tok _, ⟨_, rfl⟩, ?_⟩
        · rw [strRep, hl, PyProof.Rows.lm_len_rep_flat, Nat.mul_comm]; exact hz
        · rw [strRep]; exact q
  refine PySem.P.mul_str (by simp only [Bool.or_eq_false_iff, decide_eq_false_iff_not]; omega) (fun h3 h4 => ?_) (fun h3 h4 => ?_) (e1 default)
  · rw [hl]
    refine Int.not_lt.mpr (Int.le_ediv_of_mul_le (by omega) ?_)
    have h5 : ((z.length : Nat) : Int) * k = ((z.length * k.toNat : Nat) : Int) := by rw [Int.natCast_mul, Int.toNat_of_nonneg h1]
    rw [h5]
    omega
  · rw [hl]
    exact decide_eq_false (by omega)
theorem mul_snd (h : mulD S x y = some z) : OpR X (binaryOp .Mult) (rOp (Cx.W X) S x y z) := by
  unfold mulD at h
  split at h
  · split at h
    · rename_i i j hc
      cases h
      refine OpFine op_mul fun u v H Q f q => ?_
      obtain ⟨μ, ν, st, rfl, rfl, D⟩ := q
      exact ⟨_, _, rfl, rfl, hc, fun _ => D.here st rfl⟩
    · cases h
  · split at h
    · rename_i a j hc
      cases h
      refine OpFine op_mulSF fun u v H Q f q => ?_
      obtain ⟨μ, ν, st, ⟨rfl, k1⟩, rfl, D⟩ := q
      refine ⟨a, j, rfl, rfl, hc.2.2, hc.2.1, by rw [← line_eq]; exact hc.1, fun _ => D.here st ⟨rfl, fun c hc => ?_⟩⟩
      obtain ⟨l, h1, h2⟩ := List.mem_flatten.mp hc
      rw [(List.mem_replicate.mp h1).2] at h2
      exact k1 c h2
    · cases h
  · split at h
    · rename_i a j hc
      cases h
      refine OpFine op_mulTF fun u v H Q f q => ?_
      obtain ⟨μ, ν, st, rx, rfl, D⟩ := q
      obtain ⟨p, vs, rfl, tx, np, rx⟩ := rx
      refine ⟨p, j, vs, rfl, rfl, tx.sq, fun e => hc.2.1 ?_, hc.2.2.1, hc.2.2.2, by rw [← rx.length]; exact hc.1, D.tup st (rx.rep _)⟩
      have := rx.length
      rw [e] at this
      exact List.eq_nil_of_length_eq_zero this
    · cases h
  · split at h
    · rename_i a e1
      split at h
      · rename_i hc
        cases h
        refine OpFine op_mulLF fun u v H Q f q => ?_
        obtain ⟨μ, ν, st, rx, rfl, D⟩ := q
        obtain ⟨p, vs, rfl, h1, rx⟩ := frozen_lst st rx e1
        exact ⟨p, _, vs, rfl, rfl, h1, by omega, by omega, by rw [← rx.length, ← line_eq]; exact hc.1, D.lst st (rx.rep _)⟩
      · cases h
    · cases h
  · cases h
theorem op_snd {op : Operator} (h : opD S op x y = some z) : OpR X (binaryOp op) (rOp (Cx.W X) S x y z) := by
  unfold opD at h
  cases op <;> simp only [reduceCtorEq] at h
  · exact add_snd h
  · split at h
    · cases h
      refine OpFine op_sub fun u v H Q f q => ?_
      obtain ⟨μ, ν, st, rfl, rfl, D⟩ := q
      exact ⟨_, _, rfl, rfl, fun _ => D.here st rfl⟩
    · cases h
  · exact mul_snd h
  · split at h
    · split at h
      · rename_i hc
        cases h
        refine OpFine op_mod fun u v H Q f q => ?_
        obtain ⟨μ, ν, st, rfl, rfl, D⟩ := q
        exact ⟨_, _, rfl, rfl, hc, fun _ => D.here st rfl⟩
      · cases h
    · cases h
  · split at h
    · split at h
      · rename_i hc
        cases h
        refine OpFine op_pow fun u v H Q f q => ?_
        obtain ⟨μ, ν, st, rfl, rfl, D⟩ := q
        exact ⟨_, _, rfl, rfl, hc, fun _ => D.here st rfl⟩
      · cases h
    · cases h
  · split at h
    · split at h
      · rename_i hc
        cases h
        refine OpFine op_fdiv fun u v H Q f q => ?_
        obtain ⟨μ, ν, st, rfl, rfl, D⟩ := q
        exact ⟨_, _, rfl, rfl, hc, fun _ => D.here st rfl⟩
      · cases h
    · cases h
end
end Rf
/-! Comparisons, subscripts, slices are sound. -/
namespace Rf
open PySem PySem.Spec PyProof.Rows L2
/-! ### data -/
theorem vr_non {W : Wd} {μ ν : List Addr} {H : Hp} {d : D} {v : V} (r : VR W μ ν H d v) : decide (d = .non) = decide (v = .non) := by
  cases d <;> first
    | (cases r; rfl)
    | (obtain ⟨rfl, _⟩ := r; rfl)
    | (obtain ⟨a, vs, rfl, _⟩ := r; rfl)
    | (obtain ⟨a, _, rfl⟩ := r; rfl)
mutual
theorem dp_of {W : Wd} {μ ν : List Addr} {H : Hp} : ∀ {d : D} {v : V} {p : PyData}, VR W μ ν H d v → pyOf d = some p → Dp W.K H v p ∧ p.canLay0 = true ∧ p.depth = depthD d := fun {d v p} h e => by
  match d, h with
  | .non, h => cases e; cases (show v = _ from h); exact ⟨.non, rfl, rfl⟩
  | .bl b, h => cases e; cases (show v = _ from h); exact ⟨.bl b, rfl, rfl⟩
  | .int i, h => cases e; cases (show v = _ from h); exact ⟨.int i, rfl, rfl⟩
  | .str x, h =>
    cases e
    obtain ⟨rfl, k⟩ := h
    refine ⟨.str _, ?_, rfl⟩
    simp only [PyData.canLay0, PyData.strOk, Array.all_eq_true]
    intro i hi
    exact decide_eq_true (k _ (by simpa using List.getElem_mem (l := x) (by simpa using hi)))
  | .tup ds, h =>
    obtain ⟨a, vs, rfl, t, n, r⟩ := h
    simp only [pyOf, Option.map_eq_some_iff] at e
    obtain ⟨ps, e1, rfl⟩ := e
    obtain ⟨q1, q2, q3⟩ := dps_of r e1
    exact ⟨.tup t.sq q1, by simpa [PyData.canLay0] using q2, by simp only [PyData.depth, depthD, q3]⟩
  | .lst ds, h =>
    obtain ⟨a, vs, rfl, t, n, m, r⟩ := h
    simp only [pyOf, Option.map_eq_some_iff] at e
    obtain ⟨ps, e1, rfl⟩ := e
    obtain ⟨q1, q2, q3⟩ := dps_of r e1
    exact ⟨.lst (.inl t) q1, by simpa [PyData.canLay0] using q2, by simp only [PyData.depth, depthD, q3]⟩
  | .ref k, h => cases e
  | .glb y, h => cases e
theorem dps_of {W : Wd} {μ ν : List Addr} {H : Hp} : ∀ {ds : List D} {vs : List V} {ps : List PyData}, VRs W μ ν H ds vs → pysOf ds = some ps → DpAll W.K H vs ps ∧ PyData.canLayAll0 ps = true ∧ PyData.depthAll ps = depthDs ds := fun {ds vs ps} h e => by
  match ds, h with
  | [], h => cases e; cases (show vs = [] from h); exact ⟨.nil, rfl, rfl⟩
  | d :: ds, h =>
    obtain ⟨v, r, rfl, h1, h2⟩ := h
    simp only [pysOf] at e
    split at e
    · rename_i x xs e1 e2
      cases e
      obtain ⟨a1, a2, a3⟩ := dp_of h1 e1
      obtain ⟨b1, b2, b3⟩ := dps_of h2 e2
      exact ⟨.cons a1 b1, by simp [PyData.canLayAll0, a2, b2], by simp only [PyData.depthAll, depthDs, a3, b3]⟩
    · cases e
end
theorem strEq (x y : List Nat) : ((⟨x.toArray⟩ : Str) == (⟨y.toArray⟩ : Str)) = (x == y) := by
  by_cases h : x = y
  · subst h; simp
  · rw [beq_eq_false_iff_ne.mpr h]
    refine beq_eq_false_iff_ne.mpr fun e => h ?_
    injection e with e
    simpa using congrArg Array.toList e
theorem eqD_py {d e : D} {b : Bool} (h : eqD d e = some b) : ∃ p q, pyOf d = some p ∧ pyOf e = some q ∧ PyData.eqv p q = b := by
  unfold eqD at h
  obtain ⟨p, h1, h2⟩ := Option.bind_eq_some_iff.mp h
  obtain ⟨q, h3, h4⟩ := Option.map_eq_some_iff.mp h2
  exact ⟨p, q, h1, h3, h4⟩
theorem eqD_int (a b : Int) : eqD (.int a) (.int b) = some (a == b) := by simp [eqD, pyOf, PyData.eqv]
theorem eqD_str (a b : List Nat) : eqD (.str a) (.str b) = some (a == b) := by simp only [eqD, pyOf, Option.bind_some, Option.map_some, PyData.eqv, strEq]
theorem eqD_bl (a b : Bool) : eqD (.bl a) (.bl b) = some (a == b) := by simp [eqD, pyOf, PyData.eqv]
/-- what stands for a thing, its cell's list read -/
theorem dp_frozen {W : Wd} {μ ν : List Addr} {H : Hp} {S : Store} {x : D} {u : V} {p : PyData} (st : StR W μ ν S H) (r : VR W μ ν H x u) (e : pyOf (frozen S x) = some p) (hd : depthD (frozen S x) ≤ 60) :
    Dp W.K H u p ∧ SeqAt.shaped p = true := by
  have fin : ∀ q : PyData, q.canLay0 = true → q.depth ≤ 60 → SeqAt.shaped q = true := fun q h1 h2 => by
    unfold SeqAt.shaped
    rw [h1, decide_eq_true (by omega : q.depth ≤ 64)] <;> rfl
  cases x with
  | ref k =>
    obtain ⟨a, ha, rfl⟩ := r
    simp only [frozen] at e hd
    split at e
    · rename_i es hs
      obtain ⟨vs, h1, h2⟩ := st.cells k _ a hs ha
      rw [hs] at hd
      simp only [pyOf, Option.map_eq_some_iff] at e
      obtain ⟨ps, e1, rfl⟩ := e
      obtain ⟨q1, q2, q3⟩ := dps_of h2 e1
      exact ⟨.lst (.of h1) q1, fin _ (by simpa [PyData.canLay0] using q2) (by simp only [PyData.depth, q3]; simpa [depthD] using hd)⟩
    · cases e
  | _ =>
    obtain ⟨q1, q2, q3⟩ := dp_of r (by simpa [frozen] using e)
    exact ⟨q1, fin _ q2 (by rw [q3]; simpa [frozen] using hd)⟩
section
variable {X : Cx} {S : Store} {x y : D} {k : Bool}
/-- a comparison on what stands for x and y -/
abbrev rCm (X : Cx) (S : Store) (x y : D) (k : Bool) : R2 := rOp (Cx.W X) S x y (.bl k)
theorem eq_snd {n : Nat} (hr : Room n X.A) (h : eqO (frozen S x) (frozen S y) = some k) : OpR X (compareOp .Eq) (rCm X S x y k) := by
  unfold eqO at h
  split at h
  · rename_i hd
    obtain ⟨p, q, e1, e2, e3⟩ := eqD_py h
    refine OpFine (op_eqD hr.units) fun u v H Q f z => ?_
    obtain ⟨μ, ν, st, rx, ry, D⟩ := z
    obtain ⟨a1, a2⟩ := dp_frozen st rx e1 hd.1
    obtain ⟨b1, b2⟩ := dp_frozen st ry e2 hd.2
    exact ⟨p, q, a1, b1, a2, b2, fun _ => by rw [e3]; exact D.here st rfl⟩
  · cases h
theorem ne_snd {n : Nat} (hr : Room n X.A) (h : eqO (frozen S x) (frozen S y) = some k) : OpR X (compareOp .NotEq) (rCm X S x y (!k)) := by
  unfold eqO at h
  split at h
  · rename_i hd
    obtain ⟨p, q, e1, e2, e3⟩ := eqD_py h
    refine OpFine (op_neD hr.units) fun u v H Q f z => ?_
    obtain ⟨μ, ν, st, rx, ry, D⟩ := z
    obtain ⟨a1, a2⟩ := dp_frozen st rx e1 hd.1
    obtain ⟨b1, b2⟩ := dp_frozen st ry e2 hd.2
    exact ⟨p, q, a1, b1, a2, b2, fun _ => by rw [e3]; exact D.here st rfl⟩
  · cases h
/-! ### in -/
theorem flat_v {W : Wd} {μ ν : List Addr} {H : Hp} {d : D} {v : V} (r : VR W μ ν H d v) (f : flatD d = true) : flatV v = true := by
  cases d with
  | non => cases r; rfl
  | bl b => cases r; rfl
  | int i => cases r; rfl
  | str x => obtain ⟨rfl, _⟩ := r; rfl
  | _ => cases f
theorem flats_v {W : Wd} {μ ν : List Addr} {H : Hp} : ∀ {ds : List D} {vs : List V}, VRs W μ ν H ds vs → ds.all flatD = true → vs.all flatV = true
  | [], _, h, _ => by cases h; rfl
  | d :: ds, _, h, f => by
    obtain ⟨v, r, rfl, h1, h2⟩ := h
    simp only [List.all_cons, Bool.and_eq_true] at f ⊢
    exact ⟨flat_v h1 f.1, flats_v h2 f.2⟩
theorem eqV_d {W : Wd} {μ ν : List Addr} {H : Hp} {d e : D} {v w : V} (r : VR W μ ν H d v) (q : VR W μ ν H e w) (f : flatD d = true) (g : flatD e = true) : (eqD d e == some true) = eqV v w := by
  cases d <;> cases f <;> cases e <;> cases g <;> (first | (obtain ⟨rfl, _⟩ := r) | cases r) <;> (first | (obtain ⟨rfl, _⟩ := q) | cases q) <;> simp only [eqD, eqV, pyOf, Option.bind_some, Option.map_some, PyData.eqv, strEq] <;> first | rfl | simp
theorem inV_d {W : Wd} {μ ν : List Addr} {H : Hp} {x : D} {u : V} (rx : VR W μ ν H x u) (fx : flatD x = true) : ∀ {ds : List D} {vs : List V}, VRs W μ ν H ds vs → ds.all flatD = true → (ds.any fun d => eqD d x == some true) = inV u vs
  | [], _, h, _ => by cases h; rfl
  | d :: ds, _, h, f => by
    obtain ⟨v, r, rfl, h1, h2⟩ := h
    simp only [List.all_cons, Bool.and_eq_true] at f
    have ih := inV_d rx fx h2 f.2
    unfold inV at ih ⊢
    rw [List.any_cons, List.any_cons, eqV_d h1 rx f.1 fx, ih]
/-- what stands for a list or tuple -/
theorem seq_at {W : Wd} {μ ν : List Addr} {H : Hp} {S : Store} {x : D} {u : V} {ds : List D} (st : StR W μ ν S H) (r : VR W μ ν H x u) (e : frozen S x = .lst ds ∨ frozen S x = .tup ds) : ∃ a vs, u = .ref a ∧ (SqL W.K H a vs ∨ SqT W.K H a vs) ∧ VRs W μ ν H ds vs := by
  rcases e with e | e
  · obtain ⟨a, vs, h1, h2, h3⟩ := frozen_lst st r e
    exact ⟨a, vs, h1, .inl (.inl h2), h3⟩
  · have e2 := frozen_tup e
    subst e2
    obtain ⟨a, vs, h1, h2, _, h3⟩ := r
    exact ⟨a, vs, h1, .inr h2.sq, h3⟩
theorem inSeq_of {x : D} {ds : List D} (h : inSeq x ds = some k) : flatD x = true ∧ ds.all flatD = true ∧ (ds.any fun d => eqD d x == some true) = k := by
  unfold inSeq at h
  split at h
  · rename_i f
    cases h
    simp only [Bool.and_eq_true] at f
    exact ⟨f.1, f.2, rfl⟩
  · cases h
/-- what stands for a dict's cell -/
theorem dct_at {W : Wd} {μ ν : List Addr} {H : Hp} {S : Store} {n : Nat} {u : V} {kvs : List (D × D)} (st : StR W μ ν S H) (r : VR W μ ν H (.ref n) u) (e : S[n]? = some (.dct kvs)) : ∃ a kv, u = .ref a ∧ μ[n]? = some a ∧ H a = some (.dK kv) ∧ KRs W μ ν H kvs kv := by
  obtain ⟨a, ha, rfl⟩ := r
  obtain ⟨kv, h1, h2⟩ := st.cells n _ a e ha
  exact ⟨a, kv, rfl, ha, h1, h2⟩
theorem key_of {W : Wd} {μ ν : List Addr} {H : Hp} {x : D} {u : V} (r : VR W μ ν H x u) (h : keyD x = true) : ∃ q, keyV x = some q ∧ u = kV q := by
  cases x <;> cases h
  · cases r; exact ⟨_, rfl, rfl⟩
  · obtain ⟨rfl, _⟩ := r; exact ⟨_, rfl, rfl⟩
theorem keyV_inj {x y : D} {q : Key} (h1 : keyV x = some q) (h2 : keyV y = some q) : x = y := by
  cases x <;> simp [keyV] at h1 <;> cases y <;> simp [keyV] at h2 <;> subst h1 <;> simp at h2
  · rw [h2]
  · rw [h2]
theorem getK_rel {W : Wd} {μ ν : List Addr} {H : Hp} {x : D} {q : Key} (hq : keyV x = some q) : ∀ {kvs : List (D × D)} {kv : List (Key × V)}, KRs W μ ν H kvs kv →
    (∀ d, getK kvs x = some d → ∃ v, valV kv q = some v ∧ VR W μ ν H d v) ∧ (getK kvs x = none → valV kv q = none)
  | [], _, h => by cases (show _ = [] from h); exact ⟨fun d e => by simp [getK] at e, fun _ => rfl⟩
  | (k, d) :: ds, _, h => by
    obtain ⟨q2, v, r, rfl, ⟨h1, _⟩, h2, h3⟩ := h
    obtain ⟨i1, i2⟩ := getK_rel hq h3
    by_cases e : k = x
    · subst e
      rw [h1] at hq; cases hq
      refine ⟨fun d' e' => ?_, fun e' => ?_⟩
      · simp [getK] at e'; subst e'
        exact ⟨v, valV_pos rfl, h2⟩
      · simp [getK] at e'
    · have ne : q2 ≠ q := fun z => e (keyV_inj (z ▸ h1) hq)
      have g1 : getK ((k, d) :: ds) x = getK ds x := by simp [getK, List.find?_cons, e]
      rw [g1, valV_neg ne]
      exact ⟨i1, i2⟩
theorem in_snd {n : Nat} (hr : Room n X.A) (neg : Bool) (h : inD S x y = some k) : OpR X (compareOp (if neg then .NotIn else .In)) (rCm X S x y (if neg then !k else k)) := by
  unfold inD at h
  split at h
  · rename_i z e
    have e2 := frozen_str e
    subst e2
    split at h
    · rename_i c
      cases h
      cases neg with
      | false =>
        refine OpFine op_in_sign fun u v H Q f w => ?_
        obtain ⟨μ, ν, st, ⟨rfl, _⟩, ⟨rfl, _⟩, D⟩ := w
        exact ⟨c, _, rfl, rfl, fun _ => D.here st (by simp [VR])⟩
      | true =>
        refine OpFine op_notIn_sign fun u v H Q f w => ?_
        obtain ⟨μ, ν, st, ⟨rfl, _⟩, ⟨rfl, _⟩, D⟩ := w
        exact ⟨c, _, rfl, rfl, fun _ => D.here st (by simp [VR])⟩
    · cases h
  · rename_i ds e
    obtain ⟨f1, f2, f3⟩ := inSeq_of h
    subst f3
    cases neg with
    | false =>
      refine OpFine op_in_seq fun u v H Q f w => ?_
      obtain ⟨μ, ν, st, rx, ry, D⟩ := w
      obtain ⟨a, vs, rfl, h2, h3⟩ := seq_at st ry (.inr e)
      exact ⟨a, vs, rfl, h2, flat_v rx f1, flats_v h3 f2, fun _ => D.here st (by show V.bl _ = _; rw [inV_d rx f1 h3 f2] <;> rfl)⟩
    | true =>
      refine OpFine op_notIn_seq fun u v H Q f w => ?_
      obtain ⟨μ, ν, st, rx, ry, D⟩ := w
      obtain ⟨a, vs, rfl, h2, h3⟩ := seq_at st ry (.inr e)
      exact ⟨a, vs, rfl, h2, flat_v rx f1, flats_v h3 f2, fun _ => D.here st (by show V.bl _ = _; rw [inV_d rx f1 h3 f2] <;> rfl)⟩
  · rename_i ds e
    obtain ⟨f1, f2, f3⟩ := inSeq_of h
    subst f3
    cases neg with
    | false =>
      refine OpFine op_in_seq fun u v H Q f w => ?_
      obtain ⟨μ, ν, st, rx, ry, D⟩ := w
      obtain ⟨a, vs, rfl, h2, h3⟩ := seq_at st ry (.inl e)
      exact ⟨a, vs, rfl, h2, flat_v rx f1, flats_v h3 f2, fun _ => D.here st (by show V.bl _ = _; rw [inV_d rx f1 h3 f2] <;> rfl)⟩
    | true =>
      refine OpFine op_notIn_seq fun u v H Q f w => ?_
      obtain ⟨μ, ν, st, rx, ry, D⟩ := w
      obtain ⟨a, vs, rfl, h2, h3⟩ := seq_at st ry (.inl e)
      exact ⟨a, vs, rfl, h2, flat_v rx f1, flats_v h3 f2, fun _ => D.here st (by show V.bl _ = _; rw [inV_d rx f1 h3 f2] <;> rfl)⟩
  · rename_i m e
    split at h
    · rename_i kvs hs
      split at h
      · rename_i hk
        cases h
        have hy : y = .ref m := by
          cases y with
          | ref j =>
            simp only [frozen] at e
            split at e
            · cases e
            · exact e
          | _ => simpa [frozen] using e
        subst hy
        intro pins s σ H u v uv vv Q I ru rv w
        obtain ⟨μ, ν, st, rx, ry, D⟩ := w
        obtain ⟨a, kv, rfl, _, h2, h3⟩ := dct_at st ry hs
        obtain ⟨q, hq, rfl⟩ := key_of rx hk
        obtain rfl : vv = Value.ref a := rv
        have g := DGet.k (k := q) h2
        have e3 : (valV kv q).isSome = (getK kvs x).isSome := by
          obtain ⟨i1, i2⟩ := getK_rel hq h3
          cases e4 : getK kvs x with
          | none => rw [i2 e4] <;> rfl
          | some d => obtain ⟨w', h5, _⟩ := i1 d e4; rw [h5]; rfl
        cases neg with
        | false => exact d_in (hu_of hr) I g ru fun s' I' => ⟨.bl _, H, I', rfl, by rw [e3]; exact D.here st rfl⟩
        | true => exact d_notIn (hu_of hr) I g ru fun s' I' => ⟨.bl _, H, I', rfl, by rw [e3]; exact D.here st rfl⟩
      · cases h
    · cases h
  · cases h
theorem cmp_snd {n : Nat} {op : CmpOp} (hr : Room n X.A) (h : cmpD S op x y = some k) : OpR X (compareOp op) (rCm X S x y k) := by
  unfold cmpD at h
  cases op <;> simp only at h
  · exact eq_snd hr h
  · obtain ⟨b, e, rfl⟩ := Option.map_eq_some_iff.mp h
    exact ne_snd hr e
  · split at h
    · cases h
      refine OpFine op_lt fun u v H Q f q => ?_
      obtain ⟨μ, ν, st, rfl, rfl, D⟩ := q
      exact ⟨_, _, rfl, rfl, fun _ => D.here st rfl⟩
    · cases h
      refine OpFine op_lt_str fun u v H Q f q => ?_
      obtain ⟨μ, ν, st, ⟨rfl, _⟩, ⟨rfl, _⟩, D⟩ := q
      exact ⟨_, _, rfl, rfl, fun _ => D.here st (by simp [VR])⟩
    · cases h
  · split at h
    · cases h
      refine OpFine op_le fun u v H Q f q => ?_
      obtain ⟨μ, ν, st, rfl, rfl, D⟩ := q
      exact ⟨_, _, rfl, rfl, fun _ => D.here st rfl⟩
    · cases h
  · split at h
    · cases h
      refine OpFine op_gt fun u v H Q f q => ?_
      obtain ⟨μ, ν, st, rfl, rfl, D⟩ := q
      exact ⟨_, _, rfl, rfl, fun _ => D.here st rfl⟩
    · cases h
  · split at h
    · cases h
      refine OpFine op_ge fun u v H Q f q => ?_
      obtain ⟨μ, ν, st, rfl, rfl, D⟩ := q
      exact ⟨_, _, rfl, rfl, fun _ => D.here st rfl⟩
    · cases h
  · split at h
    · rename_i e
      subst e
      cases h
      refine OpFine op_isN fun u v H Q f q => ?_
      obtain ⟨μ, ν, st, rx, rfl, D⟩ := q
      refine ⟨rfl, fun _ => D.here st ?_⟩
      show V.bl _ = _
      rw [vr_non rx] <;> rfl
    · cases h
  · split at h
    · rename_i e
      subst e
      cases h
      refine OpFine op_notN fun u v H Q f q => ?_
      obtain ⟨μ, ν, st, rx, rfl, D⟩ := q
      refine ⟨rfl, fun _ => D.here st ?_⟩
      show V.bl _ = _
      rw [vr_non rx] <;> rfl
    · cases h
  · exact in_snd hr false h
  · obtain ⟨b, e, rfl⟩ := Option.map_eq_some_iff.mp h
    exact in_snd hr true e
end
end Rf
/-! Subscripts, slices, turned rows are sound. -/
namespace Rf
open PySem PySem.Spec PyProof.Rows L2
theorem place_ix {i : Int} {n : Nat} : placeOf i n = ixN n i := by
  unfold placeOf ixN
  by_cases h : 0 ≤ i
  · rw [if_pos h, if_pos h]
  · rw [if_neg h, if_neg h]
    by_cases h2 : 0 ≤ i + n
    · rw [if_pos h2, if_pos (by omega)]
    · rw [if_neg h2, if_neg (by omega)]
theorem cut_sIx (n d : Nat) (i : Int) : cutAt n i = HT.sIx n d (some i) := by
  unfold cutAt HT.sIx
  by_cases h : 0 ≤ i
  · rw [if_pos h]; simp only [if_neg (show ¬ i < 0 by omega)]
  · rw [if_neg h]; simp only [if_pos (show i < 0 by omega)]
theorem sliced_eq {α : Type} (xs : List α) (lo hi : Option Int) : sliced xs lo hi = (xs.drop (HT.sIx xs.length 0 lo)).take (HT.sIx xs.length xs.length hi - HT.sIx xs.length 0 lo) := by
  unfold sliced
  cases lo <;> cases hi <;> simp only [HT.sIx_none] <;> (try rw [cut_sIx xs.length 0]) <;> (try rw [cut_sIx xs.length xs.length]) <;> rfl
theorem VRs.sliced {W : Wd} {μ ν : List Addr} {H : Hp} {ds : List D} {vs : List V} (h : VRs W μ ν H ds vs) (lo hi : Option Int) : VRs W μ ν H (Rf.sliced ds lo hi) (cutV vs lo hi) := by
  rw [sliced_eq]
  unfold cutV
  rw [h.length]
  exact (h.drop _).take _
section
variable {X : Cx} {S : Store} {x y z : D}
theorem IxFine {r r' : R2} (h : IxR X r) (i : ∀ x y H Q, Fine X.K H → r' x y H Q → r x y H fun v H' => Fine X.K H' → Q v H') : IxR X r' := fun value slice pins s σ H x y v u Q I rx ry q hs =>
  thn (h value slice pins s σ H x y v u _ I rx ry (i x y H Q (fine_of I) q) hs) fun u s' ⟨v, H', I', r, z⟩ => ⟨v, H', I', r, z (fine_of I')⟩
theorem SlFine {r r' : V → Option Int → Option Int → Hp → VK → Prop} (h : SlR X r) (i : ∀ x l u H Q, Fine X.K H → r' x l u H Q → r x l u H fun v H' => Fine X.K H' → Q v H') : SlR X r' := fun pins s σ H x v vl vu lo hi sl Q I rx hs pl pu q => by
  obtain ⟨T, id, h1, h2, h3⟩ := h pins s σ H x v vl vu lo hi sl _ I rx hs pl pu (i x lo hi H Q (fine_of I) q)
  exact ⟨T, id, h1, h2, thn h3 fun u s' ⟨v, H', I', r, z⟩ => ⟨v, H', I', r, z (fine_of I')⟩⟩
theorem get_at {W : Wd} {μ ν : List Addr} {H : Hp} {ds : List D} {vs : List V} {i : Int} (r : VRs W μ ν H ds vs) (h : ((placeOf i ds.length).bind fun k => ds[k]?) = some z) : ∃ v, atI vs i = some v ∧ VR W μ ν H z v := by
  obtain ⟨k, h1, h2⟩ := Option.bind_eq_some_iff.mp h
  obtain ⟨v, h3, h4⟩ := r.get h2
  refine ⟨v, ?_, h4⟩
  unfold atI
  rw [← r.length, ← place_ix, h1]
  exact h3
theorem ix_snd (hu : X.A.units + 1 < cLine) (h : idxD S x y = some z) : IxR X (rOp (Cx.W X) S x y z) := by
  unfold idxD at h
  split at h
  · rename_i w e
    have e2 := frozen_str e
    subst e2
    split at h
    · rename_i i
      split at h
      · rename_i hl
        obtain ⟨k, h1, h2⟩ := Option.bind_eq_some_iff.mp h
        obtain ⟨c, h3, rfl⟩ := Option.map_eq_some_iff.mp h2
        refine IxFine ix_str fun u v H Q f q => ?_
        obtain ⟨μ, ν, st, ⟨rfl, kk⟩, rfl, D⟩ := q
        refine ⟨_, i, c, rfl, rfl, ?_, ?_, fun _ => D.here st ⟨rfl, fun a ha => ?_⟩⟩
        · rw [strLen, ← line_eq]; exact hl
        · show atI w.toArray.toList i = some c
          unfold atI
          rw [← place_ix]
          simp only [List.size_toArray, Array.length_toList]
          rw [h1]
          exact h3
        · simp at ha; subst ha
          exact kk _ (List.mem_of_getElem? h3)
      · cases h
    · cases h
  · rename_i ds e
    split at h
    · rename_i i
      refine IxFine ix_tup fun u v H Q f q => ?_
      obtain ⟨μ, ν, st, rx, rfl, D⟩ := q
      have e2 := frozen_tup e
      subst e2
      obtain ⟨p, vs, rfl, tx, np, rx⟩ := rx
      obtain ⟨w, h1, h2⟩ := get_at rx h
      exact ⟨p, vs, i, w, rfl, rfl, tx.sq, h1, fun _ => D.here st h2⟩
    · cases h
  · rename_i ds e
    split at h
    · rename_i i
      refine IxFine ix_list fun u v H Q f q => ?_
      obtain ⟨μ, ν, st, rx, rfl, D⟩ := q
      obtain ⟨p, vs, rfl, tx, rx⟩ := frozen_lst st rx e
      obtain ⟨w, h1, h2⟩ := get_at rx h
      exact ⟨p, vs, i, w, rfl, rfl, .inl tx, h1, fun _ => D.here st h2⟩
    · cases h
  · rename_i m e
    split at h
    · rename_i kvs hs
      split at h
      · rename_i hk
        have hx : x = .ref m := by
          cases x with
          | ref j =>
            simp only [frozen] at e
            split at e
            · cases e
            · exact e
          | _ => simpa [frozen] using e
        subst hx
        intro value slice pins s σ H u v uv vv Q I ru rv w hsl
        obtain ⟨μ, ν, st, rx, ry, D⟩ := w
        obtain ⟨a, kv, rfl, _, h2, h3⟩ := dct_at st rx hs
        obtain ⟨q, hq, rfl⟩ := key_of ry hk
        obtain ⟨w', h5, h6⟩ := (getK_rel hq h3).1 z h
        obtain rfl : uv = Value.ref a := ru
        have g : DGet H a (kV q) (some w') := by rw [← h5]; exact DGet.k h2
        exact tail_any (dict_typeIs I g) PySem.F.slot_dict_getitem.lookup (d_getItem hu I g rv fun w2 s' I' r' => ⟨w', H, I', r', D.here st h6⟩) hsl
      · cases h
    · cases h
  · cases h
/-- o[lo:hi] on what stands for o -/
def rSl (W : Wd) (S : Store) (x : D) (l h : Option Int) (z : D) : V → Option Int → Option Int → Hp → VK → Prop := fun u lo hi H Q => lo = l ∧ hi = h ∧ ∃ μ ν, StR W μ ν S H ∧ VR W μ ν H x u ∧ Done W μ ν H S z Q
theorem sl_snd {lo hi : Option Int} (h : slcD S x lo hi = some z) : SlR X (rSl (Cx.W X) S x lo hi z) := by
  unfold slcD at h
  split at h
  · rename_i w e
    have e2 := frozen_str e
    subst e2
    split at h
    · rename_i hl
      cases h
      refine SlFine sl_str fun u l r H Q f q => ?_
      obtain ⟨rfl, rfl, μ, ν, st, ⟨rfl, kk⟩, D⟩ := q
      refine ⟨_, rfl, by rw [strLen, ← line_eq]; exact hl, fun _ => D.here st ⟨?_, fun c hc => kk c ?_⟩⟩
      · rw [sliced_eq]
        unfold cutS
        rw [strLen]
      · rw [sliced_eq] at hc
        exact List.mem_of_mem_drop (List.mem_of_mem_take hc)
    · cases h
  · rename_i ds e
    have e2 := frozen_tup e
    subst e2
    cases h
    refine SlFine sl_tupF fun u l r H Q f q => ?_
    obtain ⟨rfl, rfl, μ, ν, st, rx, D⟩ := q
    obtain ⟨p, vs, rfl, tx, np, rx⟩ := rx
    refine ⟨p, vs, rfl, tx.sq, fun hw _ => D.here st ?_, D.tup st (rx.sliced _ _)⟩
    have e3 : sliced ds l r = ds := by
      rw [sliced_eq, rx.length, hw.1, hw.2, List.drop_zero, Nat.sub_zero, ← rx.length, List.take_length]
    rw [e3]
    exact ⟨p, vs, rfl, tx, np, rx⟩
  · rename_i ds e
    cases h
    refine SlFine sl_list fun u l r H Q f q => ?_
    obtain ⟨rfl, rfl, μ, ν, st, rx, D⟩ := q
    obtain ⟨p, vs, rfl, tx, rx⟩ := frozen_lst st rx e
    exact ⟨p, vs, rfl, .inl tx, D.lst st (rx.sliced _ _)⟩
  · cases h
/-! ### [::-1] -/
theorem rev_pick (xs : Array Value) : ((List.range xs.size).filterMap fun (m : Nat) => xs[(((xs.size : Int) - 1) + (m : Int) * (-1)).toNat]?).toArray = xs.toList.reverse.toArray := by
  have e2 : (List.range xs.size).filterMap (fun (m : Nat) => xs[(((xs.size : Int) - 1) + (m : Int) * (-1)).toNat]?) = ((List.range xs.size).map fun k => xs.size - 1 - k).filterMap fun k => xs[k]? := by
    rw [List.filterMap_map]
    refine congrArg (fun f => List.filterMap f (List.range xs.size)) (funext fun m => ?_)
    show xs[(((xs.size : Int) - 1) + (m : Int) * (-1)).toNat]? = xs[xs.size - 1 - m]?
    rw [show (((xs.size : Int) - 1) + (m : Int) * (-1)).toNat = xs.size - 1 - m by omega]
  rw [e2, PySem.W.krv_range, List.filterMap_reverse, PySem.W.krv_all]
theorem tup_turned {prog : Program} {w : World} {A : Around} {E : Value → Shared → Prop} {s : Shared} {t sl : Addr} {items : Array Value} {vs : Value} {Q : Value → Shared → Prop} (ht : IsTup s.heap t items) (hs : s.heap.IsSliceOf sl .none .none vs) (pv : IsPart vs (some (-1)))
    (h : Q (.ref s.heap.objs.size) { s with heap := s.heap.push (tupObj items.toList.reverse) }) (hsz : items.size ≤ sizeLine) : wpAny (model prog w) A (getItem (.ref t) (.ref sl)) Q E s := by
  have hok : sizeOk (.seq items.toList.reverse.toArray) := by show items.toList.reverse.toArray.size ≤ sizeLine; simpa using hsz
  obtain ⟨os, hos, hcs, hds⟩ := id hs
  unfold getItem
  try with_reducible refine wpAny_holding ?_
  first | refine wpAny_bind (wpAny_pure ?_) | skip
  refine wpAny_bind (wpAny_sequenceKey ht.typeIs (by decide) (wpAny_bind (wpAny_callSpecial?_slot (name := Str.ofString "__getitem__") ht.typeIs slot_tuple_getitem ?_)))
  refine wpAny_call_entry slot_tuple_getitem ht.typeIs entry_tuple_getitem ?_ (args_tuple_getitem _ _)
  show wpAny _ _ (Builtin.Tuple.tupleItemsOf (.ref t) >>= _) _ _ s
  refine wpAny_bind (tupleItemsOf_ ht (wpAny_bind (wpAny_typeOf (show s.TypeIs (.ref sl) "slice" from ⟨os, hos, hcs⟩) ?_)))
  rw [if_pos (by decide)]
  have adj : Builtin.Slice.sliceAdjust none none (-1) ((items.size : Nat) : Int) = (((items.size : Nat) : Int) - 1, -1) := by
    unfold Builtin.Slice.sliceAdjust
    simp
  have plc : Builtin.Slice.slicePlaces (((items.size : Nat) : Int) - 1) (-1) (-1) = items.size := by
    unfold Builtin.Slice.slicePlaces
    rw [if_neg (by decide)]
    split <;> simp <;> omega
  refine wpAny_bind ?_
  unfold Builtin.Slice.sliceApplied Builtin.Slice.sliceFields
  refine wpAny_bind (wpAny_bind (wpAny_field hos hds (x := .none) rfl (wpAny_bind (wpAny_field hos hds (x := .none) rfl (wpAny_bind (wpAny_field hos hds (x := vs) rfl (wpAny_pure ?_)))))))
  refine wpAny_bind (HT.slicePart_ pv ?_)
  show wpAny _ _ (if ((-1 : Int) == 0) = true then _ else _) _ _ s
  rw [if_neg (by decide)]
  refine wpAny_bind (HT.slicePart_ .none (wpAny_bind (HT.slicePart_ .none (wpAny_bind (wpAny_pure ?_)))))
  show wpAny _ _ (match Builtin.Slice.sliceAdjust none none (-1) ((items.size : Nat) : Int) with | (lo, hi) => pure (lo, (-1 : Int), Builtin.Slice.slicePlaces lo hi (-1))) _ _ s
  rw [adj]
  show wpAny _ _ (pure (((items.size : Nat) : Int) - 1, (-1 : Int), Builtin.Slice.slicePlaces (((items.size : Nat) : Int) - 1) (-1) (-1))) _ _ s
  rw [plc]
  refine wpAny_pure ?_
  have hno : ¬ ((((items.size : Nat) : Int) - 1 == 0 && (-1 : Int) == 1 && items.size == items.size) = true) := by simp
  show wpAny _ _ (if (((items.size : Nat) : Int) - 1 == 0 && (-1 : Int) == 1 && items.size == items.size) = true then _ else _) _ _ s
  rw [if_neg hno, rev_pick]
  first
    | exact wpAny_bind (m := Builtin.Tuple.tupleExact _) (wpAny_newObj_type (wpAny_pure ⟨_, rfl, wpAny_pure h⟩) hok)
    | exact wpAny_bind (m := Builtin.Tuple.tupleExact _) (wpAny_newObj_type (wpAny_bind (wpAny_pure (wpAny_pure ⟨_, rfl, wpAny_pure h⟩))) hok)
    | exact wpAny_bind (wpAny_bind (m := Builtin.Tuple.tupleExact _) (wpAny_newObj_type (wpAny_pure (wpAny_pure ⟨_, rfl, wpAny_pure h⟩)) hok))
    | exact wpAny_bind (wpAny_bind (m := Builtin.Tuple.tupleExact _) (wpAny_newObj_type (wpAny_pure ⟨_, rfl, wpAny_pure h⟩) hok))
end
theorem str_rev (x : List Nat) : (Builtin.Str.strSliceIndices none none (-1) x.length).filterMap (fun k => x[k]?) = x.reverse ∧ (Builtin.Str.strSliceIndices none none (-1) x.length).length = x.length := by
  have e : Builtin.Str.strSliceIndices none none (-1) x.length = (List.range x.length).reverse := by
    unfold Builtin.Str.strSliceIndices
    show sliceRange ((x.length : Int) - 1) (-1) (-1) = _
    rw [PySem.W.krv_sliceRange, PySem.W.krv_range]
  rw [e]
  refine ⟨?_, by simp⟩
  rw [List.filterMap_reverse]
  have := PySem.W.krv_all x.toArray
  simp only [List.size_toArray, List.getElem?_toArray] at this
  rw [this]
section
variable {X : Cx} {S : Store} {x z : D} {e : Expr} {te : TE} {k : Nat} {p1 p2 p3 pos : Pos}
/-- o[::-1] -/
theorem pe_rev (he : PE X e te) (h : revD S x = some z) :
    PE X (.Subscript e (.Slice none none (some (.UnaryOp .USub (.Constant (.int 1) k p1) p2)) p3) pos) (fun σ H Q => te σ H fun u H1 => ∃ μ ν, StR (Cx.W X) μ ν S H1 ∧ VR (Cx.W X) μ ν H1 x u ∧ Done (Cx.W X) μ ν H1 S z Q) := by
  refine ⟨fun pins s σ H Q I q => Subscript_ (thn (he.run pins s σ H _ I q) fun v s1 ⟨u, H1, I1, r1, μ, ν, st, rx, D⟩ => ?_)⟩
  have hst : PO X (some (.UnaryOp .USub (.Constant (.int 1) k p1) p2)) (tPart (tUn (rU fun i => .int (-i)) (tC (.int 1)))) := po_some (pe_un un_neg pe_int)
  refine wpAny_Slice (thn (po_none.run pins s1 σ H1 (fun o H2 => o = none ∧ H2 = H1) I1 ⟨rfl, rfl⟩) fun vl s2 ⟨l, H2, I2, pl, el, e2⟩ => ?_)
  subst el e2
  refine thn (po_none.run pins s2 σ H2 (fun o H3 => o = none ∧ H3 = H2) I2 ⟨rfl, rfl⟩) fun vu s3 ⟨l3, H3, I3, pu, eu, e3⟩ => ?_
  subst eu e3
  refine thn (hst.run pins s3 σ H3 (fun o H4 => o = some (-1) ∧ H4 = H3) I3 ⟨1, rfl, -1, rfl, rfl, rfl⟩) fun vs s4 ⟨o, H4, I4, ps, eo, e4⟩ => ?_
  subst eo e4
  cases pl
  cases pu
  have I5 : Inv X pins σ H4 { s4 with heap := s4.heap.push { cls := .type "slice", data := .fields #[.none, .none, vs] } } := I4.kept (t' := s4.toks) fun b ob q => Heap.get?_push_of_some _ q
  have iss := Heap.IsSliceOf.new s4.heap .none .none vs
  have fin : ∀ {T id : String}, typeLookup (.type T) "__getitem__" = pure (some (.builtin id)) → ({ s4 with heap := s4.heap.push { cls := .type "slice", data := .fields #[.none, .none, vs] } } : Shared).TypeIs v T →
      wpAny (model X.prog X.w) X.A (getItem v (.ref s4.heap.objs.size)) (EP X pins σ Q) X.xe { s4 with heap := s4.heap.push { cls := .type "slice", data := .fields #[.none, .none, vs] } } →
      wpAny (model X.prog X.w) X.A (subscriptTail e (.Slice none none (some (.UnaryOp .USub (.Constant (.int 1) k p1) p2)) p3) v (.ref s4.heap.objs.size)) (EP X pins σ Q) X.xe { s4 with heap := s4.heap.push { cls := .type "slice", data := .fields #[.none, .none, vs] } } := fun h1 h2 h3 =>
    tail_any (ops := [v, .ref s4.heap.objs.size]) h2 h1 h3 (by with_unfolding_all rfl)
  have wish : ∀ {v' : V} {u' : Value} {H' : Hp} {s' : Shared}, Inv X pins σ H' s' → RelV v' u' → (Fine X.K H' → Q v' H') → EP X pins σ Q u' s' := fun J r q => ⟨_, _, J, r, q (fine_of J)⟩
  unfold revD at h
  split at h
  · rename_i w e1
    have e2 := frozen_str e1
    subst e2
    split at h
    · rename_i hl
      cases h
      obtain ⟨rfl, kk⟩ := rx
      obtain ⟨t, rfl⟩ := r1
      obtain ⟨w1, w2⟩ := str_rev w
      refine fin PySem.F.slot_str_getitem.lookup (typeIs_str _ _ _) ?_
      obtain ⟨st', rfl, h6⟩ := IsPart.raw ps
      refine wpAny_getItem_str_slice (l := none) (u := none) (st := st') iss (by rw [h6] <;> rfl) ?_
      show Made.post (if ((st'.map (·.1)).getD 1 == 1 && (Builtin.Str.strSliceIndices none none ((st'.map (·.1)).getD 1) (⟨w.toArray⟩ : Str).length).length == (⟨w.toArray⟩ : Str).length) = true then Made.val (.str ⟨w.toArray⟩ t)
        else Made.str ⟨((Builtin.Str.strSliceIndices none none ((st'.map (·.1)).getD 1) (⟨w.toArray⟩ : Str).length).filterMap ((⟨w.toArray⟩ : Str).cps[·]?)).toArray⟩) _ _
      rw [h6]
      rw [if_neg (by simp)]
      have e5 : ((Builtin.Str.strSliceIndices none none ((some (-1 : Int)).getD 1) (⟨w.toArray⟩ : Str).length).filterMap ((⟨w.toArray⟩ : Str).cps[·]?)) = w.reverse := by
        rw [strLen]
        have : ((⟨w.toArray⟩ : Str).cps[·]?) = fun k : Nat => w[k]? := by funext k; simp
        rw [this]
        exact w1
      rw [e5]
      exact ⟨by rw [strLen, List.length_reverse, ← line_eq]; exact hl, wish (v' := .str ⟨w.reverse.toArray⟩) (I5.tok _) ⟨_, rfl⟩ fun f => D.here st ⟨rfl, fun c hc => kk c (List.mem_reverse.mp hc)⟩⟩
    · cases h
  · rename_i ds e1
    have e2 := frozen_tup e1
    subst e2
    cases h
    obtain ⟨p, xs, rfl, tx, np, rx⟩ := rx
    obtain rfl : v = Value.ref p := r1
    obtain ⟨its, r, ht, hz⟩ := I5.tuple tx.sq
    refine fin slot_tuple_getitem.lookup ht.typeIs (tup_turned ht iss ps ?_ (by rw [List.size_toArray, ← r.length]; exact hz))
    have J := newTup I5 r.reverse (by rw [List.length_reverse]; exact hz)
    exact wish (v' := .ref _) J rfl fun f => D.tup st rx.reverse _ _ I5.fresh rfl f
  · rename_i ds e1
    cases h
    obtain ⟨p, xs, rfl, tx, rx⟩ := frozen_lst st rx e1
    obtain rfl : v = Value.ref p := r1
    obtain ⟨its, r, ht, hz⟩ := I5.list (.inl tx)
    refine fin PySem.slot_list_getitem.lookup ht.isList.typeIs (wpAny_getItem_list_slice ht.isList iss .none .none ps (by decide) ?_ (by have := r.length; rw [List.size_toArray]; omega))
    rw [PySem.W.krv_pick]
    have J := Inv.lnew (t' := s4.toks) I5 r.reverse (by rw [List.length_reverse]; exact hz)
    exact wish (v' := .ref _) J rfl fun f => D.lst st rx.reverse _ I5.fresh f
  · cases h
end
end Rf
/-! What repr shows is a text of code points. -/
namespace Rf
open PySem PySem.Spec PyProof.Rows L2
def okS (x : Str) : Prop := ∀ c ∈ x.cps.toList, c < 0x110000
theorem char_lt (c : Char) : c.toNat < 0x110000 := by
  have h := c.valid
  unfold UInt32.isValidChar Nat.isValidChar at h
  unfold Char.toNat
  omega
theorem okS_of (s : String) : okS (Str.ofString s) := by
  intro c hc
  rw [Str.ofString_eq_toList] at hc
  simp at hc
  obtain ⟨a, _, rfl⟩ := hc
  exact char_lt a
theorem okS.app {x y : Str} (h : okS x) (g : okS y) : okS (x ++ y) := by
  intro c hc
  have e : (x ++ y).cps = x.cps ++ y.cps := rfl
  rw [e] at hc
  simp at hc
  rcases hc with hc | hc
  · exact h c (by simpa using hc)
  · exact g c (by simpa using hc)
theorem reprChar_ok {q c : Nat} (hq : q < 0x110000) (hc : c < 0x110000) : ∀ d ∈ Builtin.Str.reprChar q c, d < 0x110000 := by
  have hx : ∀ w, ∀ d ∈ List.replicate (w - ((Nat.toDigits 16 c).map Char.toNat).length) 48 ++ (Nat.toDigits 16 c).map Char.toNat, d < 0x110000 := fun w d hd => by
    rcases List.mem_append.mp hd with hd | hd
    · rw [(List.mem_replicate.mp hd).2]; omega
    · obtain ⟨a, _, rfl⟩ := List.mem_map.mp hd
      exact char_lt a
  intro d hd
  unfold Builtin.Str.reprChar at hd
  simp only at hd
  split at hd
  · simp at hd; omega
  · split at hd
    · simp at hd; omega
    · split at hd
      · simp at hd; omega
      · split at hd
        · simp at hd; omega
        · split at hd
          · simp at hd; omega
          · split at hd
            · rcases List.mem_append.mp hd with hd | hd
              · simp at hd; omega
              · exact hx 2 d hd
            · split at hd
              · rcases List.mem_append.mp hd with hd | hd
                · simp at hd; omega
                · exact hx 4 d hd
              · rcases List.mem_append.mp hd with hd | hd
                · simp at hd; omega
                · exact hx 8 d hd
theorem foldl_ok {q : Nat} (hq : q < 0x110000) : ∀ (l : List Nat) (acc : Array Nat), (∀ c ∈ l, c < 0x110000) → (∀ c ∈ acc.toList, c < 0x110000) →
    ∀ c ∈ (l.foldl (fun out c => out ++ (Builtin.Str.reprChar q c).toArray) acc).toList, c < 0x110000
  | [], _, _, h => h
  | c :: r, acc, hl, h => by
    refine foldl_ok hq r _ (fun d hd => hl d (List.mem_cons_of_mem _ hd)) fun d hd => ?_
    simp at hd
    rcases hd with hd | hd
    · exact h d (by simpa using hd)
    · exact reprChar_ok hq (hl c List.mem_cons_self) d hd
theorem okS_repr {x : Str} (h : okS x) : okS (reprText x) := by
  intro c hc
  have hq : reprQuote x < 0x110000 := by
    unfold reprQuote
    split <;> omega
  unfold reprText at hc
  rw [← Array.foldl_toList] at hc
  simp only [Array.toList_push] at hc
  rcases List.mem_append.mp hc with hc | hc
  · exact foldl_ok hq _ _ h (by simpa using hq) c hc
  · simp at hc; omega
theorem okS_join (sep : Str) (hs : okS sep) : ∀ ts : List Str, (∀ t ∈ ts, okS t) → okS (Str.join sep ts)
  | [], _ => fun c hc => by simp [Str.join] at hc <;> exact absurd hc (by simp [Str.empty])
  | [x], h => by
    have := h x List.mem_cons_self
    simpa [Str.join] using this
  | x :: y :: r, h => by
    have e : Str.join sep (x :: y :: r) = x ++ sep ++ Str.join sep (y :: r) := rfl
    rw [e]
    exact ((h x List.mem_cons_self).app hs).app (okS_join sep hs (y :: r) fun t ht => h t (List.mem_cons_of_mem _ ht))
theorem okS_text : ∀ (ts : List Str) (k : Nat) (acc : Str), okS acc → (∀ t ∈ ts, okS t) → okS (textFrom k acc ts)
  | [], _, _, h, _ => h
  | t :: ts, k, acc, h, g => by
    refine okS_text ts (k + 1) _ ((h.app ?_).app (g t List.mem_cons_self)) fun u hu => g u (List.mem_cons_of_mem _ hu)
    split <;> exact okS_of _
mutual
theorem okS_shown : ∀ {p : PyData}, p.canLay0 = true → okS p.shown := fun {p} h => by
  match p, h with
  | .none, _ => exact okS_of _
  | .bool b, _ => show okS (if b then ("True" : Str) else ("False" : Str)); cases b <;> exact okS_of _
  | .int i, _ => exact okS_of _
  | .str x, h =>
    refine okS_repr fun c hc => ?_
    have h0 : x.cps.all (· < 0x110000) = true := by simpa only [PyData.canLay0, PyData.strOk] using h
    have := (Array.all_eq_true_iff_forall_mem.mp h0) c (Array.mem_toList_iff.mp hc)
    simpa using this
  | .list xs, h => exact (okS_text _ 0 _ (okS_of _) (okS_all (by simpa only [PyData.canLay0] using h))).app (okS_of _)
  | .tuple xs, h =>
    refine ((okS_of "(").app (okS_join _ (okS_of _) _ (okS_all (by simpa only [PyData.canLay0] using h)))).app ?_
    split <;> exact okS_of _
  | .dict kvs, h => simp only [PyData.canLay0] at h; cases h
theorem okS_all : ∀ {ps : List PyData}, PyData.canLayAll0 ps = true → ∀ t ∈ PyData.shownAll ps, okS t := fun {ps} h => by
  match ps, h with
  | [], _ => intro t ht; cases ht
  | p :: ps, h =>
    have h' : p.canLay0 = true ∧ PyData.canLayAll0 ps = true := by simpa only [PyData.canLayAll0, Bool.and_eq_true] using h
    intro t ht
    rcases List.mem_cons.mp ht with e | ht
    · rw [e]; exact okS_shown h'.1
    · exact okS_all h'.2 t ht
end
end Rf
/-! Built-ins called are sound. -/
namespace Rf
open PySem PySem.Spec PyProof.Rows L2
open PySem.W (dataLe alike alikeAll Sortable EachIs sorted_data AllAlike dataLt dataLt_pair dataLt_int dataLt_str dataLe_int)
/-- what the built-in's name stands for -/
def B.val : B → Value
  | .len => .builtin "len"
  | .int => .type "int"
  | .abs => .builtin "abs"
  | .max => .builtin "max"
  | .min => .builtin "min"
  | .sum => .builtin "sum"
  | .sorted => .builtin "sorted"
  | .tuple => .type "tuple"
  | .list => .type "list"
  | .dict => .type "dict"
  | .repr => .builtin "repr"
  | .str => .type "str"
  | .isi _ => .none
theorem KRs.length {W : Wd} {μ ν : List Addr} {H : Hp} : ∀ {ds : List (D × D)} {kv : List (Key × V)}, KRs W μ ν H ds kv → ds.length = kv.length
  | [], _, h => by cases (show _ = [] from h); rfl
  | (k, d) :: ds, _, h => by
    obtain ⟨q, v, r, rfl, _, _, h3⟩ := h
    simp [KRs.length h3]
/-- a call on what stands for the things -/
def rBl (W : Wd) (S : Store) (ds : List D) (z : D) : List V → Hp → VK → Prop := fun us H Q => ∃ μ ν, StR W μ ν S H ∧ VRs W μ ν H ds us ∧ Done W μ ν H S z Q
theorem VRs.one {W : Wd} {μ ν : List Addr} {H : Hp} {d : D} {us : List V} (h : VRs W μ ν H [d] us) : ∃ u, us = [u] ∧ VR W μ ν H d u := by
  obtain ⟨u, r, rfl, h1, h2⟩ := h
  cases (show r = [] from h2)
  exact ⟨u, rfl, h1⟩
theorem VRs.two {W : Wd} {μ ν : List Addr} {H : Hp} {d e : D} {us : List V} (h : VRs W μ ν H [d, e] us) : ∃ u v, us = [u, v] ∧ VR W μ ν H d u ∧ VR W μ ν H e v := by
  obtain ⟨u, r, rfl, h1, h2⟩ := h
  obtain ⟨v, rfl, h3⟩ := VRs.one h2
  exact ⟨u, v, rfl, h1, h3⟩
theorem ints_at {W : Wd} {μ ν : List Addr} {H : Hp} : ∀ {ds : List D} {vs : List V} {ns : List Int}, VRs W μ ν H ds vs → intsOf ds = some ns → vs = ns.map V.int
  | [], vs, ns, h, e => by cases e; exact h
  | d :: ds, vs, ns, h, e => by
    obtain ⟨v, r, rfl, h1, h2⟩ := h
    cases d <;> simp only [intsOf, reduceCtorEq] at e
    obtain ⟨ms, e1, rfl⟩ := Option.map_eq_some_iff.mp e
    rw [ints_at h2 e1, (show v = _ from h1)] <;> rfl
section
variable {X : Cx} {S : Store} {ds : List D} {x y z : D}
theorem len_snd (h : lenD S ds = some z) : CallR X (.builtin "len") (rBl (Cx.W X) S ds z) := by
  unfold lenD at h
  split at h <;> try cases h
  rename_i d
  split at h
  · rename_i w e
    have e2 := frozen_str e
    subst e2
    split at h
    · rename_i hl
      cases h
      refine CallFine call_len_str fun us H Q f q => ?_
      obtain ⟨μ, ν, st, rq, D⟩ := q
      obtain ⟨u, rfl, rfl, _⟩ := rq.one
      exact ⟨_, rfl, by rw [strLen, ← line_eq]; exact hl, fun _ => D.here st (by rw [strLen] <;> rfl)⟩
    · cases h
  · rename_i es e
    cases h
    refine CallFine call_len_seq fun us H Q f q => ?_
    obtain ⟨μ, ν, st, rq, D⟩ := q
    obtain ⟨u, rfl, rx⟩ := rq.one
    obtain ⟨p, vs, rfl, tx, rx⟩ := seq_at st rx (.inr e)
    exact ⟨p, vs, rfl, tx, fun _ => D.here st (by rw [← rx.length] <;> rfl)⟩
  · rename_i es e
    cases h
    refine CallFine call_len_seq fun us H Q f q => ?_
    obtain ⟨μ, ν, st, rq, D⟩ := q
    obtain ⟨u, rfl, rx⟩ := rq.one
    obtain ⟨p, vs, rfl, tx, rx⟩ := seq_at st rx (.inl e)
    exact ⟨p, vs, rfl, tx, fun _ => D.here st (by rw [← rx.length] <;> rfl)⟩
  · rename_i m e
    split at h
    · rename_i kvs hs
      cases h
      have hx : d = .ref m := by
        cases d with
        | ref j =>
          simp only [frozen] at e
          split at e
          · cases e
          · exact e
        | _ => simpa [frozen] using e
      subst hx
      intro pins s σ H us vs Q I r q
      obtain ⟨μ, ν, st, rq, D⟩ := q
      obtain ⟨u, rfl, rx⟩ := rq.one
      obtain ⟨v, rfl, rv⟩ := vals1 r
      obtain ⟨a, kv, rfl, _, h2, h3⟩ := dct_at st rx hs
      obtain rfl : v = Value.ref a := rv
      refine d_len I (.inl h2) fun t s' I' => ⟨.int kv.length, H, I', ⟨t, rfl⟩, D.here st ?_⟩
      show V.int _ = V.int _
      rw [KRs.length h3]
    · cases h
  · cases h
theorem int_snd (h : intD ds = some z) : CallR X (.type "int") (rBl (Cx.W X) S ds z) := by
  unfold intD at h
  split at h <;> try cases h
  all_goals
    refine CallFine call_int1 fun us H Q f q => ?_
    obtain ⟨μ, ν, st, rq, D⟩ := q
    obtain ⟨u, rfl, rfl⟩ := rq.one
  · exact .inl ⟨_, rfl, fun _ => D.here st rfl⟩
  · exact .inr ⟨_, rfl, fun _ => D.here st rfl⟩
theorem abs_snd (h : absD ds = some z) : CallR X (.builtin "abs") (rBl (Cx.W X) S ds z) := by
  unfold absD at h
  split at h <;> try cases h
  refine CallFine call_abs fun us H Q f q => ?_
  obtain ⟨μ, ν, st, rq, D⟩ := q
  obtain ⟨u, rfl, rfl⟩ := rq.one
  exact ⟨_, rfl, fun _ => D.here st rfl⟩
theorem max_snd (hc : X.calm = true) (h : maxD ds = some z) : CallR X (.builtin "max") (rBl (Cx.W X) S ds z) := by
  unfold maxD at h
  split at h <;> try cases h
  refine CallFine (call_max2 hc) fun us H Q f q => ?_
  obtain ⟨μ, ν, st, rq, D⟩ := q
  obtain ⟨u, v, rfl, rfl, rfl⟩ := rq.two
  exact ⟨_, _, rfl, fun _ => D.here st rfl⟩
theorem min_snd (hc : X.calm = true) (h : minD ds = some z) : CallR X (.builtin "min") (rBl (Cx.W X) S ds z) := by
  unfold minD at h
  split at h <;> try cases h
  refine CallFine (call_min2 hc) fun us H Q f q => ?_
  obtain ⟨μ, ν, st, rq, D⟩ := q
  obtain ⟨u, v, rfl, rfl, rfl⟩ := rq.two
  exact ⟨_, _, rfl, fun _ => D.here st rfl⟩
theorem sum_snd (hc : X.calm = true) (h : sumD S ds = some z) : CallR X (.builtin "sum") (rBl (Cx.W X) S ds z) := by
  unfold sumD at h
  split at h <;> try cases h
  rename_i d
  split at h
  · rename_i es e
    obtain ⟨ns, e1, rfl⟩ := Option.map_eq_some_iff.mp h
    refine CallFine (cr_sum hc) fun us H Q f q => ?_
    obtain ⟨μ, ν, st, rq, D⟩ := q
    obtain ⟨u, rfl, rx⟩ := rq.one
    obtain ⟨p, vs, rfl, tx, rx⟩ := frozen_lst st rx e
    exact ⟨p, ns, rfl, .inl (by rw [← ints_at rx e1]; exact tx), fun _ => D.here st rfl⟩
  · cases h
theorem tuple_snd (h : tupleD S ds = some z) : CallR X (.type "tuple") (rBl (Cx.W X) S ds z) := by
  unfold tupleD at h
  split at h <;> try cases h
  rename_i d
  split at h
  · rename_i es e
    cases h
    refine CallFine call_tupF fun us H Q f q => ?_
    obtain ⟨μ, ν, st, rq, D⟩ := q
    obtain ⟨u, rfl, rx⟩ := rq.one
    obtain ⟨p, vs, rfl, tx, rx⟩ := frozen_lst st rx e
    exact ⟨p, vs, rfl, .inl ⟨.inl tx, D.tup st rx⟩⟩
  · rename_i es e
    cases h
    have e2 := frozen_tup e
    subst e2
    refine CallFine call_tupF fun us H Q f q => ?_
    obtain ⟨μ, ν, st, rq, D⟩ := q
    obtain ⟨u, rfl, rx⟩ := rq.one
    obtain ⟨p, vs, rfl, tx, np, rx'⟩ := id rx
    exact ⟨p, vs, rfl, .inr ⟨tx.sq, fun _ => D.here st rx⟩⟩
  · cases h
/-- .. whose answer is a new list -/
def rBlN (W : Wd) (S : Store) (ds es : List D) : List V → Hp → VK → Prop := fun us H Q => ∃ μ ν, StR W μ ν S H ∧ VRs W μ ν H ds us ∧ ∀ vs, VRs W μ ν H es vs → NewL H vs fun v H' => Fine W.K H' → Q v H'
theorem rBlN.done {W : Wd} {S : Store} {ds es : List D} {us : List V} {H : Hp} {Q : VK} (h : rBl W S ds (.lst es) us H Q) : rBlN W S ds es us H Q := by
  obtain ⟨μ, ν, st, rq, D⟩ := h
  exact ⟨μ, ν, st, rq, fun vs r => D.lst st r⟩
theorem list_sndN (h : listD S ds = some z) : ∃ es, z = .lst es ∧ CallR X (.type "list") (rBlN (Cx.W X) S ds es) := by
  unfold listD at h
  split at h <;> try cases h
  rename_i d
  split at h
  · rename_i es e
    cases h
    refine ⟨es, rfl, CallFine call_list_of fun us H Q f q => ?_⟩
    obtain ⟨μ, ν, st, rq, D⟩ := q
    obtain ⟨u, rfl, rx⟩ := rq.one
    obtain ⟨p, vs, rfl, tx, rx⟩ := seq_at st rx (.inl e)
    exact ⟨p, vs, rfl, tx, D vs rx⟩
  · rename_i es e
    cases h
    refine ⟨es, rfl, CallFine call_list_of fun us H Q f q => ?_⟩
    obtain ⟨μ, ν, st, rq, D⟩ := q
    obtain ⟨u, rfl, rx⟩ := rq.one
    obtain ⟨p, vs, rfl, tx, rx⟩ := seq_at st rx (.inr e)
    exact ⟨p, vs, rfl, tx, D vs rx⟩
  · cases h
theorem list_snd (h : listD S ds = some z) : CallR X (.type "list") (rBl (Cx.W X) S ds z) := by
  obtain ⟨es, rfl, c⟩ := list_sndN (X := X) h
  exact fun pins s σ H us vs Q I r q => c pins s σ H us vs Q I r (rBlN.done q)
/-! ### sorted -/
theorem str_lt (x y : List Nat) : decide ((⟨x.toArray⟩ : Str).cps.toList < (⟨y.toArray⟩ : Str).cps.toList) = decide (x < y) := by simp
/-- what is sorted, as data -/
theorem sorted_of {β : Type} {enc : β → PyData} {dec : β → D} {le : β → β → Bool} {bs : List β} {es : List D} (hes : es = bs.map dec) (hp : ∀ b, pyOf (dec b) = some (enc b)) (hle : dataLe false enc = le)
    (hal : ∀ b b', alike (enc b) (enc b') = true) (hk : Sortable (bs.map enc)) (hd : ∀ b, (enc b).depth ≤ 60) {n : Nat} (hr : Room n X.A) (hl : es.length ≤ line) (e : frozen S x = .lst es) :
    CallR X (.builtin "sorted") (rBlN (Cx.W X) S [x] ((bs.mergeSort le).map dec)) := by
  intro pins s σ H us vs Q I r q
  obtain ⟨μ, ν, st, rq, D⟩ := q
  obtain ⟨u, rfl, rx⟩ := rq.one
  obtain ⟨v, rfl, rv⟩ := vals1 r
  obtain ⟨p, ws, rfl, tx, rw1⟩ := frozen_lst st rx e
  obtain rfl : v = Value.ref p := rv
  obtain ⟨its, r2, hl2, hz⟩ := I.list (.inl tx)
  subst hes
  have each : ∀ {bs : List β} {ws : List V} {its : List Value}, VRs (Cx.W X) μ ν H (bs.map dec) ws → Vals ws its → EachIs (fun v b => ∃ y, RelV y v ∧ VR (Cx.W X) μ ν H (dec b) y) its bs := by
    intro bs
    induction bs with
    | nil => intro ws its h1 h2; cases (show ws = [] from h1); cases h2; exact .nil
    | cons b bs ih =>
      intro ws its h1 h2
      obtain ⟨y, r, rfl, h3, h4⟩ := h1
      cases h2 with
      | cons h5 h6 => exact .cons ⟨y, h5, h3⟩ (ih h4 h6)
  have back : ∀ {bs : List β} {its : List Value}, EachIs (fun v b => ∃ y, RelV y v ∧ VR (Cx.W X) μ ν H (dec b) y) its bs → ∃ ys, Vals ys its ∧ VRs (Cx.W X) μ ν H (bs.map dec) ys := by
    intro bs its h
    induction h with
    | nil => exact ⟨[], .nil, rfl⟩
    | cons h1 _ ih =>
      obtain ⟨y, h2, h3⟩ := h1
      obtain ⟨ys, h4, h5⟩ := ih
      exact ⟨y :: ys, .cons h2 h4, .cons h3 h5⟩
  have hlen : bs.length ≤ sizeLine := by rw [← line_eq]; simpa using hl
  refine sorted_data (enc := enc) hl2.isList (each rw1 r2) ((each rw1 r2).mono fun v b ⟨y, h1, h2⟩ => Dp.reads I _ y v (dp_of h2 (hp b)).1 h1) (AllAlike.of hal) hk hlen (fun b _ => ?_) fun out ho eo => ?_
  · have := hr.units
    have := hd b
    omega
  · rw [hle] at eo
    obtain ⟨ys, h1, h2⟩ := back eo
    obtain ⟨ep, he⟩ := sortedAll_at s.heap its out.toArray
    have hz2 : ys.length ≤ sizeLine := by rw [h1.length, ho]; exact hlen
    have J : Inv X pins σ (upd H (s.heap.objs.size + 1) (.lst ys)) { s with heap := sortedAll s.heap its out.toArray } :=
      I.laid (t' := s.toks) (fun _ _ => sortedAll_old) (Nat.le_succ _) ⟨hz2, out, ep, h1, he⟩
    exact ⟨.ref _, _, J, rfl, D ys h2 _ (I.hok.fresh (Nat.le_succ _)) (fine_of J)⟩
theorem isOf_map : ∀ {es : List D} {ps : List (Int × List Nat)}, isOf es = some ps → es = ps.map fun p => .tup [.int p.1, .str p.2]
  | [], _, h => by cases h; rfl
  | d :: ds, ps, h => by
    unfold isOf at h
    split at h
    · rename_i heq; cases heq
    · rename_i i x ds' heq
      cases heq
      obtain ⟨qs, h1, rfl⟩ := Option.map_eq_some_iff.mp h
      rw [isOf_map h1] <;> rfl
    · cases h
theorem strsOf_map : ∀ {es : List D} {ps : List (List Nat)}, strsOf es = some ps → es = ps.map .str
  | [], _, h => by cases h; rfl
  | d :: ds, ps, h => by
    cases d <;> simp only [strsOf, reduceCtorEq] at h
    obtain ⟨qs, h1, rfl⟩ := Option.map_eq_some_iff.mp h
    rw [strsOf_map h1] <;> rfl
theorem intsOf_map : ∀ {es : List D} {ps : List Int}, intsOf es = some ps → es = ps.map .int
  | [], _, h => by cases h; rfl
  | d :: ds, ps, h => by
    cases d <;> simp only [intsOf, reduceCtorEq] at h
    obtain ⟨qs, h1, rfl⟩ := Option.map_eq_some_iff.mp h
    rw [intsOf_map h1] <;> rfl
theorem le_is : dataLe false (fun p : Int × List Nat => PyData.tuple [.int p.1, .str ⟨p.2.toArray⟩]) = isLe := by
  funext a b
  show (!dataLt (.tuple [.int b.1, .str ⟨b.2.toArray⟩]) (.tuple [.int a.1, .str ⟨a.2.toArray⟩])) = _
  rw [dataLt_pair (by simp [alike]) (by simp [alike]), dataLt_int, dataLt_str]
  simp only [PyData.eqv, strEq]
  unfold isLe
  by_cases h1 : b.1 = a.1
  · rw [if_pos (by simp [h1])]
    by_cases h2 : b.2 = a.2
    · rw [if_pos (by simp [h2])]
      simp [h1, h2]
    · rw [if_neg (by simp [h2]), str_lt]
      simp [h1]
  · rw [if_neg (by simp [h1])]
    by_cases h3 : b.1 < a.1
    · have h4 : ¬ a.1 < b.1 := by omega
      simp [h3, h4, Ne.symm h1]
    · have h4 : a.1 < b.1 := by omega
      simp [h3, h4]
theorem sorted_sndN {n : Nat} (hr : Room n X.A) (h : sortedD S ds = some z) : ∃ es, z = .lst es ∧ CallR X (.builtin "sorted") (rBlN (Cx.W X) S ds es) := by
  unfold sortedD at h
  split at h <;> try cases h
  rename_i d
  split at h
  · rename_i es e
    split at h
    · rename_i hl
      split at h
      · rename_i ps e1
        cases h
        exact ⟨_, rfl, sorted_of (bs := ps) (dec := fun p => .tup [.int p.1, .str p.2]) (enc := fun p => .tuple [.int p.1, .str ⟨p.2.toArray⟩]) (isOf_map e1) (fun b => rfl) le_is (fun b b' => by simp [alike, alikeAll]) (.tuples fun b => ⟨_, _, rfl⟩)
          (fun b => by simp [PyData.depth, PyData.depthAll]) hr hl e⟩
      · rename_i xs e1 _
        cases h
        refine ⟨_, rfl, sorted_of (bs := xs) (dec := .str) (enc := fun p => .str ⟨p.toArray⟩) (strsOf_map e1) (fun b => rfl) ?_ (fun b b' => by simp [alike]) (.others fun b => ⟨by simp, by simp⟩) (fun b => by simp [PyData.depth]) hr hl e⟩
        funext a b
        show (!dataLt (.str ⟨b.toArray⟩) (.str ⟨a.toArray⟩)) = _
        rw [dataLt_str, str_lt]
      · rename_i ns e1 _ _
        cases h
        exact ⟨_, rfl, sorted_of (bs := ns) (dec := .int) (enc := fun p => .int p) (intsOf_map e1) (fun b => rfl) (dataLe_int fun p => p) (fun b b' => by simp [alike]) (.others fun b => ⟨by simp, by simp⟩) (fun b => by simp [PyData.depth]) hr hl e⟩
      · cases h
    · cases h
  · cases h
/-! ### repr -/
theorem sorted_snd {n : Nat} (hr : Room n X.A) (h : sortedD S ds = some z) : CallR X (.builtin "sorted") (rBl (Cx.W X) S ds z) := by
  obtain ⟨es, rfl, c⟩ := sorted_sndN (X := X) hr h
  exact fun pins s σ H us vs Q I r q => c pins s σ H us vs Q I r (rBlN.done q)
theorem repr_snd {n : Nat} (hr : Room n X.A) (hg : X.A.guards = some []) (h : reprD ds = some z) : CallR X (.builtin "repr") (rBl (Cx.W X) S ds z) := by
  unfold reprD at h
  split at h <;> try cases h
  rename_i d
  split at h
  · rename_i p e
    split at h
    · rename_i hk
      cases h
      simp only [Bool.and_eq_true, decide_eq_true_eq] at hk
      obtain ⟨⟨⟨k1, k2⟩, k3⟩, k4⟩ := hk
      have hz := PyData.shown_le_of_layable0 k2 k3
      have hz2 : p.shown.length ≤ sizeLine := by rw [sizeLine_eq]; omega
      intro pins s σ H us vs Q I r q
      obtain ⟨μ, ν, st, rq, D⟩ := q
      obtain ⟨u, rfl, rx⟩ := rq.one
      obtain ⟨v, rfl, rv⟩ := vals1 r
      obtain ⟨dp, c0, _⟩ := dp_of rx e
      obtain ⟨as, rd⟩ := Dp.reads I _ u v dp rv
      have hu := hr.units
      have fin : ∀ h' tk t, (∀ b o, s.heap.get? b = some o → h'.get? b = some o) → EP X pins σ Q (.str p.shown t) { s with heap := h', toks := tk } := fun h' tk t kp =>
        ⟨.str p.shown, H, I.kept kp, ⟨t, rfl⟩, D.here st ⟨rfl, okS_shown c0⟩⟩
      cases rd with
      | none => exact PySem.P.repr_of_none (fin _ _ _ fun _ _ e => e)
      | bool b =>
        refine PySem.P.repr_of_bool ?_
        have := fin s.heap (s.toks + 1) s.toks fun _ _ e => e
        cases b <;> exact this
      | int i t => exact PySem.P.repr_of_int (by simpa [PyData.showable] using k1) (fin _ _ _ fun _ _ e => e)
      | str x t => exact PySem.P.repr_of_str (fin _ _ _ fun _ _ e => e) hz2
      | list h1 h2 h3 h4 => exact repr_of_reads' (Reads.list h1 h2 h3 h4) k1 (PyData.noDict_hsm (PyData.hasDict_of_layable k2)) hg (by omega) (fun _ _ e => e) (fun h' u tk kp => fin h' tk u kp) hz2
      | tuple h1 h2 h3 h4 => exact repr_of_reads' (Reads.tuple h1 h2 h3 h4) k1 (PyData.noDict_hsm (PyData.hasDict_of_layable k2)) hg (by omega) (fun _ _ e => e) (fun h' u tk kp => fin h' tk u kp) hz2
      | dict _ _ _ _ _ => simp [PyData.canLay0] at c0
    · cases h
  · cases h
/-! ### isinstance -/
/-- the built-in type of a name -/
def tyStr (t : Str) : String := if t = "int" then "int" else if t = "bool" then "bool" else if t = "str" then "str" else if t = "tuple" then "tuple" else if t = "list" then "list" else "dict"
/-- the types of what the evaluator's things stand for -/
def ofTy (T : String) (t : Str) : Bool := if T = "bool" then decide (t = "bool") || decide (t = "int") else decide (t = Str.ofString T)
theorem kit_of_ty : ∀ T ∈ ["NoneType", "bool", "int", "str", "tuple", "list", "dict"], ∀ c ∈ ["int", "bool", "str", "tuple", "list", "dict"], kitB T c = some (if T = "bool" then (c == "bool" || c == "int") else c == T) := by decide +kernel
theorem tyStr_of {t : Str} (h : tyName t = true) : t = Str.ofString (tyStr t) ∧ tyStr t ∈ ["int", "bool", "str", "tuple", "list", "dict"] := by
  unfold tyName at h
  simp only [Bool.or_eq_true, decide_eq_true_eq] at h
  rcases h with ((((h | h) | h) | h) | h) | h <;> subst h <;> exact ⟨by decide +kernel, by decide +kernel⟩
theorem tyx {W : Wd} {μ ν : List Addr} {H : Hp} {u : V} {t : Str} {b : Bool} (st : StR W μ ν S H) (r : VR W μ ν H x u) (hn : tyName t = true) (hi : isiD S t x = some b) : ∃ T : String, TyX W.K H u (.type T) ∧ kitB T (tyStr t) = some b := by
  obtain ⟨e, m⟩ := tyStr_of hn
  have fin : ∀ T : String, T ∈ ["NoneType", "bool", "int", "str", "tuple", "list", "dict"] → b = (if T = "bool" then (tyStr t == "bool" || tyStr t == "int") else tyStr t == T) → kitB T (tyStr t) = some b := fun T h1 h2 => by rw [kit_of_ty T h1 _ m, h2]
  have same : ∀ c : String, c ∈ ["int", "bool", "str", "tuple", "list", "dict"] → (decide (t = Str.ofString c)) = (tyStr t == c) := by
    revert m
    intro m c hc
    have key : ∀ a ∈ ["int", "bool", "str", "tuple", "list", "dict"], ∀ c ∈ ["int", "bool", "str", "tuple", "list", "dict"], decide (Str.ofString a = Str.ofString c) = (a == c) := by decide +kernel
    rw [show decide (t = Str.ofString c) = decide (Str.ofString (tyStr t) = Str.ofString c) by rw [← e]]
    exact key _ m c hc
  have nn : tyStr t ≠ "NoneType" := by
    intro z
    rw [z] at m
    revert m
    decide
  cases x with
  | non => cases (show u = _ from r); cases hi; exact ⟨_, .base .non, fin _ (by decide) (by simp [nn])⟩
  | bl y => cases (show u = _ from r); cases hi; exact ⟨_, .base (.bl y), fin _ (by decide) (by rw [same "bool" (by decide), same "int" (by decide)] <;> rfl)⟩
  | int i => cases (show u = _ from r); cases hi; exact ⟨_, .base (.int i), fin _ (by decide) (by rw [same "int" (by decide)] <;> rfl)⟩
  | str y => obtain ⟨rfl, _⟩ := r; cases hi; exact ⟨_, .base (.str _), fin _ (by decide) (by rw [same "str" (by decide)] <;> rfl)⟩
  | tup es =>
    obtain ⟨a, vs, rfl, tx, _, _⟩ := r
    cases hi
    refine ⟨"tuple", ?_, fin _ (by decide) (by rw [same "tuple" (by decide)] <;> rfl)⟩
    rcases tx with ⟨o, h, _⟩ | ⟨o, its, n, h1, h2, _⟩
    · exact .fTuple h
    · exact .kTuple h1 h2
  | lst es =>
    obtain ⟨a, vs, rfl, tx, _, _⟩ := r
    cases hi
    refine ⟨"list", ?_, fin _ (by decide) (by rw [same "list" (by decide)] <;> rfl)⟩
    rcases tx with h | ⟨o, h⟩
    · exact .base (.lst h)
    · exact .base (.frz h)
  | ref k =>
    obtain ⟨a, ha, rfl⟩ := r
    simp only [isiD] at hi
    split at hi
    · rename_i es hs
      cases hi
      obtain ⟨vs, h1, _⟩ := st.cells k _ a hs ha
      exact ⟨"list", .base (.lst h1), fin _ (by decide) (by rw [same "list" (by decide)] <;> rfl)⟩
    · rename_i es hs
      cases hi
      obtain ⟨vs, h1, _⟩ := st.cells k _ a hs ha
      exact ⟨"dict", .base (.dK h1), fin _ (by decide) (by rw [same "dict" (by decide)] <;> rfl)⟩
    · cases hi
  | glb y => cases hi
/-- isinstance(x, T) -/
theorem isi_snd {t : Str} (h : isiL S t ds = some z) : CallR X (.builtin "isinstance") (fun us H Q => ∃ us', us = us' ++ [.ty (tyStr t)] ∧ rBl (Cx.W X) S ds z us' H Q) := by
  unfold isiL at h
  split at h <;> try cases h
  rename_i d
  split at h
  · rename_i hn
    obtain ⟨b, hb, rfl⟩ := Option.map_eq_some_iff.mp h
    refine CallFine call_isi fun us H Q f q => ?_
    obtain ⟨us', rfl, μ, ν, st, rq, D⟩ := q
    obtain ⟨u, rfl, rx⟩ := rq.one
    obtain ⟨T, h1, h2⟩ := tyx st rx hn hb
    exact ⟨u, .ty (tyStr t), .type T, .type (tyStr t), b, rfl, .ty _, h1, kit_ty h2, fun _ => D.here st rfl⟩
  · cases h
end
end Rf
/-! Methods of built-in types are sound. -/
namespace Rf
open PySem PySem.Spec PyProof.Rows L2
/-! ### a cell is written -/
theorem Ext.write {μ : List Addr} {H : Hp} {a : Addr} {o : HO} (ha : a ∈ μ) (hn : ∀ o u, H a ≠ some (.frz o u)) : Ext μ μ H (upd H a o) :=
  ⟨⟨[], by simp⟩, fun b u h n _ => ⟨by rw [upd_ne (fun z : b = a => n (by rw [z]; exact ha))]; exact h, n⟩, fun b q u h => by rw [upd_ne (fun z : b = a => hn q u (by rw [← z]; exact h))]; exact h⟩
theorem StR.tkw {W : Wd} {μ ν : List Addr} {S : Store} {H : Hp} {a : Addr} {o : HO} (h : StR W μ ν S H) (f : Fine W.K (upd H a o)) : Trk W μ (upd H a o) := ⟨f, fun b hb => by
  by_cases e : b = a
  · rw [e, upd_same]; simp
  · rw [upd_ne e]; exact h.trk.trk b hb⟩
theorem StR.write0 {W : Wd} {μ ν : List Addr} {S : Store} {H : Hp} {a : Addr} {i : Nat} {o : HO} {c : Cell} (h : StR W μ ν S H) (ha : μ[i]? = some a) (f : Fine W.K (upd H a o)) (hc : CR W μ ν (upd H a o) a c) : StR W μ ν (S.set i c) (upd H a o) := by
  have hm : a ∈ μ := List.mem_of_getElem? ha
  have tk := h.tkw f
  refine ⟨f, by rw [List.length_set]; exact h.len, h.nd, h.dis, fun b hb => ?_, fun j c' b e1 e2 => ?_, tabs_upd (fun u e => by obtain ⟨k, c0, q1, q2, q3⟩ := h.cell hm; obtain ⟨o', q4, q5⟩ := cell_pl q3; rw [q4] at e; cases e; exact q5) h.tab⟩
  · obtain ⟨u, q, m⟩ := h.trn b hb
    exact ⟨u, by rw [upd_ne (fun z : b = a => h.dis b hb (by rw [z]; exact hm))]; exact q, m⟩
  · by_cases e : j = i
    · subst e
      rw [ha] at e2
      cases e2
      have hl : j < S.length := by rw [← h.len]; exact (List.getElem?_eq_some_iff.mp ha).1
      rw [List.getElem?_set_self hl] at e1
      cases e1
      exact hc
    · rw [List.getElem?_set_ne (Ne.symm e)] at e1
      refine (h.cells j c' b e1 e2).map (fun d v r => VR.ext0 ⟨⟨[], by simp⟩, fun b u h n _ => ⟨by rw [upd_ne (fun z : b = a => n (by rw [z]; exact hm))]; exact h, n⟩⟩ tk r) ?_
      rw [upd_ne]
      intro z
      subst z
      obtain ⟨h1, e3⟩ := List.getElem?_eq_some_iff.mp ha
      obtain ⟨h2, e4⟩ := List.getElem?_eq_some_iff.mp e2
      exact e ((List.getElem_inj h.nd).mp (e4.trans e3.symm))
theorem StR.write {W : Wd} {μ ν : List Addr} {S : Store} {H : Hp} {a : Addr} {i : Nat} {o : HO} {c : Cell} (h : StR W μ ν S H) (ha : μ[i]? = some a) (hn : ∀ o u, H a ≠ some (.frz o u)) (f : Fine W.K (upd H a o)) (hc : CR W μ ν (upd H a o) a c) : StR W μ ν (S.set i c) (upd H a o) := h.write0 ha f hc
/-- a cell's list is written anew -/
theorem Done.set {W : Wd} {μ ν : List Addr} {H : Hp} {S : Store} {Q : VK} {i : Nat} {a : Addr} {ds : List D} {vs : List V} {z : D} {v : V} (D : Done W μ ν H (S.set i (.lst ds)) z Q) (st : StR W μ ν S H) (ha : μ[i]? = some a) {us : List V} (hs : H a = some (.lst us)) (r : VRs W μ ν H ds vs) (rz : VR W μ ν H z v)
    (f : Fine W.K (upd H a (.lst vs))) : Q v (upd H a (.lst vs)) := by
  have hm : a ∈ μ := List.mem_of_getElem? ha
  have hn : ∀ o u, H a ≠ some (.frz o u) := fun o u z => by rw [hs] at z; cases z
  have x := Ext.write (H := H) (o := .lst vs) hm hn
  have tk := st.tkw f
  exact D _ _ μ x (st.write ha hn f ⟨vs, upd_same, r.ext x tk⟩) (rz.ext x tk)
/-! ### the tags -/
def Mt.T : Mt → String
  | .lAppend | .lExtend | .lInsert | .lPop | .lIndex | .lRemove | .lCount => "list"
  | .tCount => "tuple"
  | .dGet => "dict"
  | .sJoin | .sLjust | .sIndex => "str"
def Mt.id : Mt → String
  | .lAppend => "list.append"
  | .lExtend => "list.extend"
  | .lInsert => "list.insert"
  | .lPop => "list.pop"
  | .lIndex => "list.index"
  | .lRemove => "list.remove"
  | .lCount => "list.count"
  | .tCount => "tuple.count"
  | .dGet => "dict.get"
  | .sJoin => "str.join"
  | .sLjust => "str.ljust"
  | .sIndex => "str.index"
def Mt.nm : Mt → String
  | .lAppend => "append"
  | .lExtend => "extend"
  | .lInsert => "insert"
  | .lPop => "pop"
  | .lIndex => "index"
  | .lRemove => "remove"
  | .lCount => "count"
  | .tCount => "count"
  | .dGet => "get"
  | .sJoin => "join"
  | .sLjust => "ljust"
  | .sIndex => "index"
theorem Mt.pa (t : Mt) : PlainAttrs t.T := by
  cases t
  · exact F.plainAttrs_list
  · exact F.plainAttrs_list
  · exact F.plainAttrs_list
  · exact F.plainAttrs_list
  · exact F.plainAttrs_list
  · exact F.plainAttrs_list
  · exact F.plainAttrs_list
  · exact F.plainAttrs_tuple
  · exact F.plainAttrs_dict
  · exact F.plainAttrs_str
  · exact F.plainAttrs_str
  · exact F.plainAttrs_str
theorem Mt.slot (t : Mt) : Slot t.T (Str.ofString t.nm) t.id := by
  cases t
  · exact F.slot_list_append
  · exact F.slot_list_extend
  · exact F.slot_list_insert
  · exact F.slot_list_pop
  · exact F.slot_list_index
  · exact F.slot_list_remove
  · exact F.slot_list_count
  · exact F.slot_tuple_count
  · exact F.slot_dict_get
  · exact F.slot_str_join
  · exact F.slot_str_ljust
  · exact F.slot_str_index
theorem Mt.ty (t : Mt) : typeOf (.builtin t.id) = pure (.type "method_descriptor") := by
  cases t
  · exact F.type_list_append
  · exact F.type_list_extend
  · exact F.type_list_insert
  · exact F.type_list_pop
  · exact F.type_list_index
  · exact F.type_list_remove
  · exact F.type_list_count
  · exact F.type_tuple_count
  · exact F.type_dict_get
  · exact F.type_str_join
  · exact F.type_str_ljust
  · exact F.type_str_index
theorem mtOf_nm {S : Store} {d : D} {m : Str} {t : Mt} (h : mtOf S d m = some t) : m = Str.ofString t.nm := by
  unfold mtOf at h
  repeat' split at h
  all_goals first | (cases h; assumption) | cases h
/-- the value's type -/
theorem mt_type {X : Cx} {pins : List (Addr × Obj)} {σ : L2.St} {H : Hp} {s : Shared} {μ ν : List Addr} {S : Store} {d : D} {m : Str} {t : Mt} {v : V} {u : Value} (I : Inv X pins σ H s) (st : StR (Cx.W X) μ ν S H) (r : VR (Cx.W X) μ ν H d v) (rv : RelV v u)
    (h : mtOf S d m = some t) : s.TypeIs u t.T ∧ ∀ a, u = .ref a → ∃ ob, s.heap.get? a = some ob ∧ ob.dict = none := by
  unfold mtOf at h
  split at h
  · rename_i ds e
    obtain ⟨a, vs, rfl, tx, rx⟩ := frozen_lst st r e
    obtain rfl : u = Value.ref a := rv
    have hT : t.T = "list" := by
      repeat' split at h
      all_goals first | (cases h; rfl) | cases h
    obtain ⟨_, its, n, _, _, e2⟩ := lstRd I tx
    rw [hT]
    exact ⟨⟨_, e2, rfl⟩, fun b e3 => by cases e3; exact ⟨_, e2, rfl⟩⟩
  · rename_i ds e
    have e2 := frozen_tup e
    subst e2
    obtain ⟨a, vs, rfl, tx, _, rx⟩ := r
    obtain rfl : u = Value.ref a := rv
    have hT : t.T = "tuple" := by
      repeat' split at h
      all_goals first | (cases h; rfl) | cases h
    rw [hT]
    rcases tx with ⟨o, h1, h2⟩ | ⟨o, its, n, h1, h2, h3, h4, _⟩
    · obtain ⟨ho, _, _, _, p⟩ := (show ObjOk X.prog X.w H s.heap a (.frz o (.tup vs)) from I.hok a _ h1)
      obtain ⟨o', g1, g2, g3⟩ := p
      rw [ho] at g1
      cases g1
      exact ⟨⟨o, ho, g2⟩, fun b e3 => by cases e3; exact ⟨o, ho, h2⟩⟩
    · exact ⟨⟨o, I.kIn a o h1, h2⟩, fun b e3 => by cases e3; exact ⟨o, I.kIn a o h1, h3⟩⟩
  · rename_i z e
    have e2 := frozen_str e
    subst e2
    obtain ⟨rfl, _⟩ := r
    obtain ⟨k, rfl⟩ := rv
    have hT : t.T = "str" := by
      repeat' split at h
      all_goals first | (cases h; rfl) | cases h
    rw [hT]
    exact ⟨typeIs_str _ _ _, fun b e3 => nomatch e3⟩
  · rename_i j e
    split at h
    · rename_i kvs hs
      have hx : d = .ref j := by
        cases d with
        | ref j =>
          simp only [frozen] at e
          split at e
          · cases e
          · exact e
        | _ => simpa [frozen] using e
      subst hx
      obtain ⟨a, kv, rfl, _, h2, h3⟩ := dct_at st r hs
      obtain rfl : u = Value.ref a := rv
      have hT : t.T = "dict" := by
        repeat' split at h
        all_goals first | (cases h; rfl) | cases h
      rw [hT]
      obtain ⟨_, _, _, _, o, _, _, e, ex, _⟩ := I.hok a _ h2
      exact ⟨⟨o, e, ex.1⟩, fun b e3 => by cases e3; exact ⟨o, e, ex.2.1⟩⟩
    · cases h
  · cases h
/-! ### texts -/
section
open Builtin Builtin.Str PySem.StrLaws
theorem occ_pre (s sub : Str) (hi limit : Nat) : ∀ (l : List Nat) (st : Array Nat × Nat), ∃ t, (forIn l st (occBody s sub hi limit)).run.fst.toList = st.fst.toList ++ t
  | [], st => ⟨[], by simp⟩
  | a :: l, st => by
    rw [List.forIn_cons]
    unfold occBody
    split
    · obtain ⟨t, h⟩ := occ_pre s sub hi limit l (st.fst.push a, a + sub.length)
      refine ⟨a :: t, ?_⟩
      show (forIn l (st.fst.push a, a + sub.length) (occBody s sub hi limit)).run.fst.toList = _
      rw [h]
      simp
    · exact occ_pre s sub hi limit l st
theorem occ_first (s sub : Str) (hi lo j : Nat) : ∀ (m cur : Nat), lo ≤ cur → cur ≤ j → j < cur + m → At s sub hi j → (∀ k, cur ≤ k → k < j → ¬ At s sub hi k) →
    ∃ rest, (forIn (List.range' cur m) ((#[] : Array Nat), lo) (occBody s sub hi 1)).run.fst.toList = j :: rest
  | 0, cur, _, h1, h2, _, _ => by omega
  | m + 1, cur, h0, h1, h2, hA, hn => by
    rw [List.range'_succ, List.forIn_cons]
    unfold occBody
    split
    · rename_i hc
      by_cases e : cur = j
      · subst e
        obtain ⟨t, h⟩ := occ_pre s sub hi 1 (List.range' (cur + 1) m) (#[cur], cur + sub.length)
        refine ⟨t, ?_⟩
        show (forIn (List.range' (cur + 1) m) ((#[] : Array Nat).push cur, cur + sub.length) (occBody s sub hi 1)).run.fst.toList = _
        exact h
      · exact absurd ⟨hc.1.2, hc.2⟩ (hn cur (Nat.le_refl _) (by omega))
    · rename_i hc
      have e : cur ≠ j := fun e => by
        subst e
        exact hc ⟨⟨⟨by simp, h0⟩, hA.1⟩, hA.2⟩
      exact occ_first s sub hi lo j m (cur + 1) (by omega) (by omega) (by omega) hA fun k k1 k2 => hn k (by omega) k2
theorem index_of {x : List Nat} {c j : Nat} (h : x.findIdx? (· == c) = some j) : ∃ rest, occurrences ⟨x.toArray⟩ ⟨#[c]⟩ 0 (Str.mk x.toArray).length 1 = j :: rest := by
  rw [occ_eq]
  obtain ⟨h1, h2, h3⟩ := List.findIdx?_eq_some_iff_getElem.mp h
  have at_ : ∀ k, At ⟨x.toArray⟩ ⟨#[c]⟩ (Str.mk x.toArray).length k ↔ x[k]? = some c := fun k => by
    have := subAt_one ⟨x.toArray⟩ c k
    simpa [At] using this
  refine occ_first _ _ _ _ _ _ 0 (Nat.le_refl _) (Nat.zero_le _) (by rw [strLen]; omega) ((at_ j).mpr ?_) fun k _ k2 hA => ?_
  · rw [List.getElem?_eq_getElem h1]
    simpa using h2
  · have := (at_ k).mp hA
    have hk := h3 k k2
    rw [List.getElem?_eq_getElem (by omega)] at this
    simp at this
    simp [this] at hk
end
theorem joinL_cons (sep x : List Nat) (xs : List (List Nat)) : joinL sep (x :: xs) = x ++ (xs.map (sep ++ ·)).flatten := by
  induction xs generalizing x with
  | nil => simp [joinL]
  | cons y ys ih => simp [joinL, ih y]
theorem glued_of (sep : List Nat) (xs : List (List Nat)) : Txt.join ⟨sep.toArray⟩ (xs.map fun x => ⟨x.toArray⟩) = ⟨(joinL sep xs).toArray⟩ := by
  unfold Txt.join Builtin.Str.glued
  cases xs with
  | nil => rfl
  | cons x xs =>
    rw [joinL_cons]
    simp only [List.map_cons, List.drop_succ_cons, List.drop_zero, List.headD_cons]
    have key : ∀ (l : List (List Nat)) (acc : List Nat), (l.map fun x => (⟨x.toArray⟩ : Str)).foldl (fun acc p => acc ++ sep.toArray ++ p.cps) acc.toArray = (acc ++ (l.map (sep ++ ·)).flatten).toArray := by
      intro l
      induction l with
      | nil => intro acc; simp
      | cons y ys ih =>
        intro acc
        simp only [List.map_cons, List.foldl_cons]
        have : acc.toArray ++ sep.toArray ++ y.toArray = (acc ++ sep ++ y).toArray := by simp
        rw [this, ih]
        simp
    rw [key]
/-! ### the calls -/
section
variable {X : Cx} {S S' : Store} {o z : D} {ds : List D}
def rMt (W : Wd) (S : Store) (d : D) (ds : List D) (z : D) (S' : Store) : V → List V → Hp → VK → Prop := fun x xs H Q => ∃ μ ν, StR W μ ν S H ∧ VR W μ ν H d x ∧ VRs W μ ν H ds xs ∧ Done W μ ν H S' z Q
theorem MtFine {id : String} {r r' : V → List V → Hp → VK → Prop} (h : MtM X id r) (i : ∀ x xs H Q, Fine X.K H → r' x xs H Q → r x xs H fun v H' => Fine X.K H' → Q v H') : MtR X id r' := fun pins s σ H x xs v us Q I rx rs q =>
  thn (h pins s σ H x xs v us _ I rx rs (i x xs H Q (fine_of I) q)) fun u s' ⟨v, H', I', r, z⟩ => ⟨v, H', I', r, z (fine_of I')⟩
theorem lstSet_of {f : List D → Option (D × List D)} (h : lstSet S o f = some (.ok z S')) : ∃ i es es', o = .ref i ∧ S[i]? = some (.lst es) ∧ f es = some (z, es') ∧ S' = S.set i (.lst es') := by
  unfold lstSet at h
  split at h
  · rename_i i
    split at h
    · rename_i es e
      obtain ⟨⟨z', es'⟩, h1, h2⟩ := Option.map_eq_some_iff.mp h
      cases h2
      exact ⟨i, es, es', rfl, e, h1, rfl⟩
    · cases h
  · cases h
theorem lst_at {W : Wd} {μ ν : List Addr} {H : Hp} {i : Nat} {es : List D} {u : V} (st : StR W μ ν S H) (r : VR W μ ν H (.ref i) u) (e : S[i]? = some (.lst es)) : ∃ a vs, u = .ref a ∧ μ[i]? = some a ∧ H a = some (.lst vs) ∧ VRs W μ ν H es vs := by
  obtain ⟨a, ha, rfl⟩ := r
  obtain ⟨vs, h1, h2⟩ := st.cells i _ a e ha
  exact ⟨a, vs, rfl, ha, h1, h2⟩
theorem m_append (h : mtD S .lAppend o ds = some (.ok z S')) : MtR X "list.append" (rMt (Cx.W X) S o ds z S') := by
  simp only [mtD] at h
  split at h <;> try cases h
  rename_i d
  obtain ⟨i, es, es', rfl, e, h1, rfl⟩ := lstSet_of h
  split at h1 <;> try cases h1
  rename_i hl
  refine MtFine mt_append fun x xs H Q f q => ?_
  obtain ⟨μ, ν, st, rx, rs, D⟩ := q
  obtain ⟨v, rfl, rv⟩ := rs.one
  obtain ⟨a, vs, rfl, ha, h2, h3⟩ := lst_at st rx e
  exact ⟨a, vs, v, rfl, rfl, h2, by rw [← h3.length, ← line_eq]; exact hl, fun f' => D.set st ha h2 (h3.append (.cons rv .nil)) rfl f'⟩
theorem m_insert (h : mtD S .lInsert o ds = some (.ok z S')) : MtR X "list.insert" (rMt (Cx.W X) S o ds z S') := by
  simp only [mtD] at h
  split at h <;> try cases h
  rename_i k d
  obtain ⟨i, es, es', rfl, e, h1, rfl⟩ := lstSet_of h
  split at h1 <;> try cases h1
  rename_i hl
  refine MtFine mt_insert fun x xs H Q f q => ?_
  obtain ⟨μ, ν, st, rx, rs, D⟩ := q
  obtain ⟨v, w, rfl, rfl, rw1⟩ := rs.two
  obtain ⟨a, vs, rfl, ha, h2, h3⟩ := lst_at st rx e
  exact ⟨a, vs, k, w, rfl, rfl, h2, by rw [← h3.length, ← line_eq]; exact hl.1, hl.2.1, hl.2.2, fun f' => D.set st ha h2 (((h3.take _).append (.cons rw1 .nil)).append (h3.drop _)) rfl f'⟩
/-- xs.extend(ys), ys changed or not -/
theorem mt_extendF : MtM X "list.extend" (fun x vs H Q => ∃ l b xs zs, x = .ref l ∧ vs = [.ref b] ∧ H l = some (.lst xs) ∧ Rd H b (.lst zs) ∧ xs.length + zs.length ≤ sizeLine ∧ Q .non (upd H l (.lst (xs ++ zs)))) := by
  intro pins s σ H x vs v us Q I rx rv h
  obtain ⟨l, b, xs, zs, rfl, rfl, hH, hB, hz, q⟩ := h
  cases rx
  obtain ⟨u, rfl, ru⟩ := rv.one
  cases ru
  obtain ⟨z, its, n, r, hl, e⟩ := I.lstM hH
  obtain ⟨z2, its2, n2, r2, hl2, e2⟩ := lstRd I hB
  have hsz : its.toArray.size + its2.toArray.size ≤ sizeLine := by rw [List.size_toArray, List.size_toArray]; omega
  have hlong : ¬ (!its.toArray.isEmpty && Builtin.List.listTooLong (its.toArray.size + its2.toArray.size)) = true := by
    rw [notLongL hsz, Bool.and_false]
    exact Bool.false_ne_true
  refine call_meets F.slot_list_extend ⟨_, e, rfl⟩ F.entry_list_extend (F.args_list_extend_2 _ _)
    (AutoSeq1.list_extend_list_list_0 l its.toArray n b its2.toArray n2 hlong (by rw [List.size_toArray]; omega) (by omega)) ⟨e, e2, ?_⟩
  refine ⟨.non, _, I.lset (its' := its ++ its2) hH e (by simp) (r.append r2) ?_, rfl, q⟩
  rw [List.length_append]
  omega
theorem m_extend (h : mtD S .lExtend o ds = some (.ok z S')) : MtR X "list.extend" (rMt (Cx.W X) S o ds z S') := by
  simp only [mtD] at h
  split at h <;> try cases h
  rename_i d
  split at h <;> try cases h
  rename_i fs ef
  obtain ⟨i, es, es', rfl, e, h1, rfl⟩ := lstSet_of h
  split at h1 <;> try cases h1
  rename_i hl
  refine MtFine mt_extendF fun x xs H Q f q => ?_
  obtain ⟨μ, ν, st, rx, rs, D⟩ := q
  obtain ⟨v, rfl, rv⟩ := rs.one
  obtain ⟨a, vs, rfl, ha, h2, h3⟩ := lst_at st rx e
  obtain ⟨b, ws, rfl, h4, h5⟩ := frozen_lst st rv ef
  exact ⟨a, b, vs, ws, rfl, rfl, h2, h4, by rw [← h3.length, ← h5.length, ← line_eq]; exact hl, fun f' => D.set st ha h2 (h3.append h5) rfl f'⟩
theorem place_seq {i : Int} {n k : Nat} (h : placeOf i n = some k) (hn : n ≤ sizeLine) : seqIndex? i n = some k ∧ -(2 ^ 63) ≤ i ∧ i < 2 ^ 63 := by
  rw [place_ix] at h
  obtain ⟨h1, h2, h3, h4⟩ := ixN_seq h
  have := sizeLine_eq
  exact ⟨h1, by omega, by omega⟩
theorem m_pop (h : mtD S .lPop o ds = some (.ok z S')) : MtR X "list.pop" (rMt (Cx.W X) S o ds z S') := by
  simp only [mtD] at h
  split at h <;> try cases h
  · rename_i j
    obtain ⟨i, es, es', rfl, e, h1, rfl⟩ := lstSet_of h
    obtain ⟨k, h4, h5⟩ := Option.bind_eq_some_iff.mp h1
    obtain ⟨d, h6, h7⟩ := Option.map_eq_some_iff.mp h5
    cases h7
    refine MtFine mt_popAt fun x xs H Q f q => ?_
    obtain ⟨μ, ν, st, rx, rs, D⟩ := q
    obtain ⟨v, rfl, rfl⟩ := rs.one
    obtain ⟨a, vs, rfl, ha, h2, h3⟩ := lst_at st rx e
    obtain ⟨w, h8, h9⟩ := h3.get h6
    obtain ⟨p1, p2, p3⟩ := place_seq (h3.length ▸ h4) (f.ll a vs (.inl h2))
    exact ⟨a, vs, j, k, w, rfl, rfl, h2, p2, p3, p1, h8, fun f' => D.set st ha h2 (h3.eraseIdx k) h9 f'⟩
  · obtain ⟨i, es, es', rfl, e, h1, rfl⟩ := lstSet_of h
    obtain ⟨d, h6, h7⟩ := Option.map_eq_some_iff.mp h1
    cases h7
    refine MtFine mt_pop fun x xs H Q f q => ?_
    obtain ⟨μ, ν, st, rx, rs, D⟩ := q
    cases (show xs = [] from rs)
    obtain ⟨a, vs, rfl, ha, h2, h3⟩ := lst_at st rx e
    obtain ⟨w, h8, h9⟩ := h3.get h6
    exact ⟨a, vs, w, rfl, rfl, h2, by rw [← h3.length]; exact h8, fun f' => D.set st ha h2 h3.dropLast h9 f'⟩
/-! ### by == -/
theorem dataOk_of {x : D} {es : List D} (h : dataOk x es = true) : ∃ p ps, pyOf x = some p ∧ pysOf es = some ps ∧ depthD x ≤ 60 ∧ depthDs es ≤ 60 := by
  unfold dataOk at h
  simp only [Bool.and_eq_true, decide_eq_true_eq] at h
  obtain ⟨p, h1⟩ := Option.isSome_iff_exists.mp h.1.1.1
  obtain ⟨ps, h2⟩ := Option.isSome_iff_exists.mp h.1.1.2
  exact ⟨p, ps, h1, h2, h.1.2, h.2⟩
theorem isIt_py {x d : D} {p q : PyData} (hx : pyOf x = some p) (hd : pyOf d = some q) : isIt x d = PyData.eqv q p := by
  unfold isIt eqD
  rw [hd, hx]
  simp
theorem find_py {x : D} {p : PyData} (hx : pyOf x = some p) : ∀ {es : List D} {ps : List PyData}, pysOf es = some ps → ps.findIdx? (fun y => PyData.eqv y p) = es.findIdx? (isIt x) ∧ ps.countP (fun y => PyData.eqv y p) = es.countP (isIt x)
  | [], ps, h => by cases h; exact ⟨rfl, rfl⟩
  | d :: ds, ps, h => by
    simp only [pysOf] at h
    split at h
    · rename_i q qs e1 e2
      cases h
      obtain ⟨h1, h2⟩ := find_py hx e2
      rw [List.findIdx?_cons, List.findIdx?_cons, List.countP_cons, List.countP_cons, isIt_py hx e1, h1, h2]
      exact ⟨rfl, rfl⟩
    · cases h
theorem plain_all : ∀ {ps : List PyData}, PyData.canLayAll0 ps = true → PyData.plainAll ps = true
  | [], _ => rfl
  | p :: ps, h => by
    have h' : p.canLay0 = true ∧ PyData.canLayAll0 ps = true := by simpa only [PyData.canLayAll0, Bool.and_eq_true] using h
    simp only [PyData.plainAll, PyData.plain_of_canLay0 p h'.1, plain_all h'.2, Bool.and_self]
/-- the list or tuple and the thing, read -/
theorem both_read {pins : List (Addr × Obj)} {σ : L2.St} {H : Hp} {s : Shared} {μ ν : List Addr} {x : D} {es : List D} {p : PyData} {ps : List PyData} {v : V} {u : Value} {vs : List V} {its : List Value} (I : Inv X pins σ H s)
    (hx : pyOf x = some p) (hs : pysOf es = some ps) (h1 : depthD x ≤ 60) (rv : VR (Cx.W X) μ ν H x v) (ru : RelV v u) (rs : VRs (Cx.W X) μ ν H es vs) (ri : Vals vs its) {n : Nat} (hr : Room n X.A) :
    (∃ as, ReadsAll s.heap its ps as) ∧ (∃ bs, Reads s.heap u p bs) ∧ PyData.plainAll ps = true ∧ p.plain = true ∧ X.A.units + 1 + min (PyData.depthAll ps) p.depth < cLine := by
  obtain ⟨a1, a2, a3⟩ := dp_of rv hx
  obtain ⟨b1, b2, _⟩ := dps_of rs hs
  refine ⟨Dp.readsAll I ps vs its b1 ri, Dp.reads I p v u a1 ru, plain_all b2, PyData.plain_of_canLay0 p a2, ?_⟩
  have := hr.units
  have := Nat.min_le_right (PyData.depthAll ps) p.depth
  omega
theorem lstGet_of {f : List D → Option D} (h : lstGet S o f = some (.ok z S')) : ∃ es, frozen S o = .lst es ∧ f es = some z ∧ S' = S := by
  unfold lstGet at h
  split at h
  · rename_i es e
    obtain ⟨z', h1, h2⟩ := Option.map_eq_some_iff.mp h
    cases h2
    exact ⟨es, e, h1, rfl⟩
  · cases h
theorem m_lcount {n : Nat} (hr : Room n X.A) (h : mtD S .lCount o ds = some (.ok z S')) : MtR X "list.count" (rMt (Cx.W X) S o ds z S') := by
  simp only [mtD] at h
  split at h <;> try cases h
  rename_i d
  obtain ⟨es, e, h1, rfl⟩ := lstGet_of h
  unfold countIn at h1
  split at h1 <;> try cases h1
  rename_i hk
  obtain ⟨p, ps, k1, k2, k3, k4⟩ := dataOk_of hk
  intro pins s σ H x xs v us Q I rx rs q
  obtain ⟨μ, ν, st, ro, rq, D⟩ := q
  obtain ⟨w, rfl, rw1⟩ := rq.one
  obtain ⟨u, rfl, ru⟩ := vals1 rs
  obtain ⟨a, vs, rfl, h2, h3⟩ := frozen_lst st ro e
  obtain rfl : v = Value.ref a := rx
  obtain ⟨its, ri, pl, _⟩ := I.list (.inl h2)
  obtain ⟨⟨as, r1⟩, ⟨bs, r2⟩, r3, r4, r5⟩ := both_read I k1 k2 k3 rw1 ru h3 ri hr
  refine SeqAt.count_list_data pl.isList (by simpa using r1) r2 r3 r4 r5 ?_
  exact ⟨.int _, H, I.tok _, ⟨_, rfl⟩, D.here st (by rw [(find_py k1 k2).2] <;> rfl)⟩
theorem m_tcount {n : Nat} (hr : Room n X.A) (h : mtD S .tCount o ds = some (.ok z S')) : MtR X "tuple.count" (rMt (Cx.W X) S o ds z S') := by
  simp only [mtD] at h
  split at h <;> try cases h
  rename_i d
  unfold tupGet at h
  split at h <;> try cases h
  rename_i es
  obtain ⟨z', h1, h2⟩ := Option.map_eq_some_iff.mp h
  cases h2
  unfold countIn at h1
  split at h1 <;> try cases h1
  rename_i hk
  obtain ⟨p, ps, k1, k2, k3, k4⟩ := dataOk_of hk
  intro pins s σ H x xs v us Q I rx rs q
  obtain ⟨μ, ν, st, ro, rq, D⟩ := q
  obtain ⟨w, rfl, rw1⟩ := rq.one
  obtain ⟨u, rfl, ru⟩ := vals1 rs
  obtain ⟨a, vs, rfl, h2, _, h3⟩ := ro
  obtain rfl : v = Value.ref a := rx
  obtain ⟨its, ri, pl, _⟩ := I.tuple h2.sq
  obtain ⟨⟨as, r1⟩, ⟨bs, r2⟩, r3, r4, r5⟩ := both_read I k1 k2 k3 rw1 ru h3 ri hr
  refine SeqAt.count_tuple_data pl (by simpa using r1) r2 r3 r4 r5 ?_
  exact ⟨.int _, H, I.tok _, ⟨_, rfl⟩, D.here st (by rw [(find_py k1 k2).2] <;> rfl)⟩
theorem m_lindex {n : Nat} (hr : Room n X.A) (h : mtD S .lIndex o ds = some (.ok z S')) : MtR X "list.index" (rMt (Cx.W X) S o ds z S') := by
  simp only [mtD] at h
  split at h <;> try cases h
  rename_i d
  obtain ⟨es, e, h1, rfl⟩ := lstGet_of h
  split at h1 <;> try cases h1
  rename_i hk
  obtain ⟨j, hj, rfl⟩ := Option.map_eq_some_iff.mp h1
  obtain ⟨p, ps, k1, k2, k3, k4⟩ := dataOk_of hk
  rw [← (find_py k1 k2).1] at hj
  obtain ⟨j1, j2, j3⟩ := List.findIdx?_eq_some_iff_getElem.mp hj
  intro pins s σ H x xs v us Q I rx rs q
  obtain ⟨μ, ν, st, ro, rq, D⟩ := q
  obtain ⟨w, rfl, rw1⟩ := rq.one
  obtain ⟨a, vs, rfl, h2, h3⟩ := frozen_lst st ro e
  obtain ⟨a1, a2, a3⟩ := dp_of rw1 k1
  obtain ⟨b1, b2, b3⟩ := dps_of h3 k2
  have fin : ∀ q : PyData, q.canLay0 = true → q.depth ≤ 61 → SeqAt.shaped q = true := fun q h1 h2 => by
    unfold SeqAt.shaped
    rw [h1, decide_eq_true (by omega : q.depth ≤ 64)] <;> rfl
  refine mt_indexD (by have := hr.un; omega) pins s σ H _ _ v us Q I rx rs ⟨a, w, p, ps, j, ps[j], rfl, rfl, .lst (.inl h2) b1, a1, fin _ (by simpa [PyData.canLay0] using b2) (by simp only [PyData.depth]; omega), fin _ a2 (by omega),
    List.getElem?_eq_getElem j1, by simpa using j2, fun m z' hm hz => ?_, D.here st rfl⟩
  have := j3 m hm
  rw [List.getElem?_eq_getElem (by omega)] at hz
  cases hz
  simpa using this
theorem m_lremove {n : Nat} (hr : Room n X.A) (h : mtD S .lRemove o ds = some (.ok z S')) : MtR X "list.remove" (rMt (Cx.W X) S o ds z S') := by
  simp only [mtD] at h
  split at h <;> try cases h
  rename_i d
  obtain ⟨i, es, es', rfl, e, h1, rfl⟩ := lstSet_of h
  split at h1 <;> try cases h1
  rename_i hk
  obtain ⟨j, hj, hj2⟩ := Option.map_eq_some_iff.mp h1
  cases hj2
  obtain ⟨p, ps, k1, k2, k3, k4⟩ := dataOk_of hk
  rw [← (find_py k1 k2).1] at hj
  intro pins s σ H x xs v us Q I rx rs q
  obtain ⟨μ, ν, st, ro, rq, D⟩ := q
  obtain ⟨w, rfl, rw1⟩ := rq.one
  obtain ⟨u, rfl, ru⟩ := vals1 rs
  obtain ⟨a, vs, rfl, ha, h2, h3⟩ := lst_at st ro e
  obtain rfl : v = Value.ref a := rx
  obtain ⟨z, its, n', ri, hl, e2⟩ := I.lstM h2
  obtain ⟨⟨as, r1⟩, ⟨bs, r2⟩, r3, r4, r5⟩ := both_read I k1 k2 k3 rw1 ru h3 ri hr
  refine SeqAt.remove_list_data (vs := its.toArray) ⟨_, e2, rfl, n', rfl⟩ (by simpa using r1) r2 r3 r4 r5 hj (by rw [List.size_toArray]; omega) ?_
  have J : Inv X pins σ (upd H a (.lst (vs.eraseIdx j))) { s with heap := s.heap.update a (Obj.mapSeq fun ys => ys.eraseIdxIfInBounds j), toks := s.toks } :=
    I.lset (its' := its.eraseIdx j) h2 e2 (by simp [List.eraseIdxIfInBounds_toArray]) (ri.eraseIdx j) (by have := len_erase vs j; omega)
  exact ⟨.non, _, J, rfl, D.set st ha h2 (h3.eraseIdx j) rfl (fine_of J)⟩
theorem m_dget {n : Nat} (hr : Room n X.A) (h : mtD S .dGet o ds = some (.ok z S')) : MtR X "dict.get" (rMt (Cx.W X) S o ds z S') := by
  simp only [mtD] at h
  split at h <;> try cases h
  rename_i i k d
  split at h <;> try cases h
  rename_i kvs e
  split at h <;> try cases h
  rename_i hk
  intro pins s σ H x xs v us Q I rx rs q
  obtain ⟨μ, ν, st, ro, rq, D⟩ := q
  obtain ⟨w1, w2, rfl, rw1, rw2⟩ := rq.two
  obtain ⟨u1, u2, rfl, ru1, ru2⟩ := vals2 rs
  obtain ⟨a, kv, rfl, ha, h2, h3⟩ := dct_at st ro e
  obtain rfl : v = Value.ref a := rx
  obtain ⟨q, hq, rfl⟩ := key_of rw1 hk
  refine d_get2 (hu_of hr) I (DGet.k h2) ru1 ru2 fun w' s' I' rw' => ⟨_, H, I', rw', D.here st ?_⟩
  obtain ⟨g1, g2⟩ := getK_rel hq h3
  cases e4 : getK kvs k with
  | none => rw [g2 e4]; exact rw2
  | some d' =>
    obtain ⟨y, h5, h6⟩ := g1 d' e4
    rw [h5]; exact h6
/-! ### texts' methods -/
theorem strs_at {W : Wd} {μ ν : List Addr} {H : Hp} : ∀ {es : List D} {vs : List V} {xs : List (List Nat)}, VRs W μ ν H es vs → strsOf es = some xs → vs = (xs.map fun x => (⟨x.toArray⟩ : Str)).map V.str ∧ ∀ x ∈ xs, ∀ c ∈ x, c < 0x110000
  | [], vs, ns, h, e => by cases e; exact ⟨h, by simp⟩
  | d :: ds, vs, ns, h, e => by
    obtain ⟨v, r, rfl, h1, h2⟩ := h
    cases d <;> simp only [strsOf, reduceCtorEq] at e
    obtain ⟨ms, e1, rfl⟩ := Option.map_eq_some_iff.mp e
    obtain ⟨g1, g2⟩ := strs_at h2 e1
    obtain ⟨rfl, h4⟩ := h1
    refine ⟨by rw [g1] <;> rfl, fun x hx => ?_⟩
    rcases List.mem_cons.mp hx with e | hx
    · rw [e]; exact h4
    · exact g2 x hx
theorem joinL_ok {sep : List Nat} {xs : List (List Nat)} (hs : ∀ c ∈ sep, c < 0x110000) (hx : ∀ x ∈ xs, ∀ c ∈ x, c < 0x110000) : ∀ c ∈ joinL sep xs, c < 0x110000 := by
  cases xs with
  | nil => simp [joinL]
  | cons x xs =>
    rw [joinL_cons]
    intro c hc
    rcases List.mem_append.mp hc with hc | hc
    · exact hx x List.mem_cons_self c hc
    · obtain ⟨l, hl, hc⟩ := List.mem_flatten.mp hc
      obtain ⟨y, hy, rfl⟩ := List.mem_map.mp hl
      rcases List.mem_append.mp hc with hc | hc
      · exact hs c hc
      · exact hx y (List.mem_cons_of_mem _ hy) c hc
theorem m_join (h : mtD S .sJoin o ds = some (.ok z S')) : MtR X "str.join" (rMt (Cx.W X) S o ds z S') := by
  simp only [mtD] at h
  split at h <;> try cases h
  rename_i d
  unfold RM.lift at h
  obtain ⟨z', h0, h1⟩ := Option.map_eq_some_iff.mp h
  cases h1
  unfold joinD at h0
  split at h0 <;> try cases h0
  rename_i sep
  split at h0 <;> try cases h0
  rename_i es e
  obtain ⟨xs, h2, h3⟩ := Option.bind_eq_some_iff.mp h0
  split at h3 <;> try cases h3
  rename_i hl
  refine MtFine (mt_join (X := X)) fun x us H Q f q => ?_
  obtain ⟨μ, ν, st, ro, rq, D⟩ := q
  obtain ⟨w, rfl, rw1⟩ := rq.one
  obtain ⟨a, vs, rfl, h4, h5⟩ := frozen_lst st rw1 e
  obtain ⟨rfl, hs⟩ := ro
  obtain ⟨rfl, hx⟩ := strs_at h5 h2
  refine ⟨_, a, xs.map fun x => ⟨x.toArray⟩, rfl, rfl, .inl (.inl h4), ?_, fun _ => ?_⟩
  · have : ((xs.map fun x => (⟨x.toArray⟩ : Str)).map (·.length)) = xs.map (·.length) := by
      rw [List.map_map]
      exact List.map_congr_left fun x _ => strLen x
    rw [this, List.length_map, strLen]
    exact hl
  · rw [glued_of]
    exact D.here st ⟨rfl, joinL_ok hs hx⟩
theorem m_ljust (h : mtD S .sLjust o ds = some (.ok z S')) : MtR X "str.ljust" (rMt (Cx.W X) S o ds z S') := by
  simp only [mtD] at h
  split at h <;> try cases h
  rename_i x n c
  split at h <;> try cases h
  rename_i hk
  intro pins s σ H y xs v us Q I rx rs q
  obtain ⟨μ, ν, st, ro, rq, D⟩ := q
  obtain ⟨w1, w2, rfl, rfl, rw2⟩ := rq.two
  obtain ⟨u1, u2, rfl, ⟨t1, rfl⟩, ru2⟩ := vals2 rs
  obtain ⟨rfl, hc⟩ := rw2
  obtain ⟨t2, rfl⟩ := ru2
  obtain ⟨rfl, hx⟩ := ro
  obtain ⟨t3, rfl⟩ := rx
  have hp : PadOk n = true := by
    have := sizeLine_eq
    have h1 : (decide (n < -(2 ^ 63 : Int)) || decide (n ≥ 2 ^ 63)) = false := by
      rw [decide_eq_false (by omega), decide_eq_false (by omega)] <;> rfl
    have h2 : Builtin.Str.tooLong n.toNat = false := decide_eq_false (by omega)
    unfold PadOk fitsSsize
    rw [h1, h2] <;> rfl
  refine ljust_fill hp (by rfl) fun t' k => ⟨.str _, H, I.tok k, ⟨t', rfl⟩, D.here st ?_⟩
  have e1 : Txt.ljustF ⟨x.toArray⟩ n c = ⟨(x ++ List.replicate (n.toNat - x.length) c).toArray⟩ := by
    apply Str.ext'
    apply Array.toList_inj.mp
    rw [ljustF_list]
    simp [strLen]
  refine ⟨by rw [← e1] <;> rfl, fun a ha => ?_⟩
  rcases List.mem_append.mp ha with ha | ha
  · exact hx a ha
  · rw [(List.mem_replicate.mp ha).2]
    exact hc c (by simp)
theorem m_sindex (h : mtD S .sIndex o ds = some (.ok z S')) : MtR X "str.index" (rMt (Cx.W X) S o ds z S') := by
  simp only [mtD] at h
  split at h <;> try cases h
  rename_i x c
  split at h <;> try cases h
  rename_i hk
  obtain ⟨j, hj, hj2⟩ := Option.map_eq_some_iff.mp h
  cases hj2
  obtain ⟨rest, hi⟩ := index_of hj
  refine MtFine (mt_sindex (X := X)) fun y us H Q f q => ?_
  obtain ⟨μ, ν, st, ro, rq, D⟩ := q
  obtain ⟨w, rfl, rfl, _⟩ := rq.one
  obtain ⟨rfl, hx⟩ := ro
  exact ⟨_, _, j, rest, rfl, rfl, hi, fun _ => D.here st rfl⟩
/-- a method of a built-in type called is sound -/
theorem mt_snd {n : Nat} {t : Mt} (hr : Room n X.A) (h : mtD S t o ds = some (.ok z S')) : MtR X t.id (rMt (Cx.W X) S o ds z S') := by
  cases t
  · exact m_append h
  · exact m_extend h
  · exact m_insert h
  · exact m_pop h
  · exact m_lindex hr h
  · exact m_lremove hr h
  · exact m_lcount hr h
  · exact m_tcount hr h
  · exact m_dget hr h
  · exact m_join h
  · exact m_ljust h
  · exact m_sindex h
end
end Rf
/-! What stands for a state of the evaluator; what a program's defs promise. -/
namespace Rf
open PySem PySem.Spec PyProof.Rows L2

/-! ### slots -/
def ER (W : Wd) (μ ν : List Addr) (H : Hp) (ρ : Env) (σ : L2.St) : Prop := ρ.length = σ.length ∧ ∀ (i : Nat) (d : D), ρ[i]? = some (some d) → ∃ v, σ[i]? = some (some v) ∧ VR W μ ν H d v
theorem ER.ext {W : Wd} {μ μ' ν : List Addr} {H H' : Hp} {ρ : Env} {σ : L2.St} (h : ER W μ ν H ρ σ) (x : Ext μ μ' H H') (lo : Trk W μ' H') : ER W μ' ν H' ρ σ := ⟨h.1, fun i d e => by
  obtain ⟨v, h1, h2⟩ := h.2 i d e
  exact ⟨v, h1, h2.ext x lo⟩⟩
theorem ER.set {W : Wd} {μ ν : List Addr} {H : Hp} {ρ : Env} {σ : L2.St} {d : D} {v : V} (h : ER W μ ν H ρ σ) (i : Nat) (r : VR W μ ν H d v) : ER W μ ν H (ρ.set i (some d)) (σ.set i (some v)) := ⟨by simp [h.1], fun j e he => by
  by_cases ij : i = j
  · subst ij
    obtain ⟨hl, _⟩ := List.getElem?_eq_some_iff.mp he
    rw [List.length_set] at hl
    rw [List.getElem?_set_self hl] at he
    cases he
    exact ⟨v, by rw [List.getElem?_set_self (by rw [← h.1]; exact hl)], r⟩
  · rw [List.getElem?_set_ne ij] at he ⊢
    exact h.2 j e he⟩
theorem wipeE_length (ρ : Env) : ∀ vs : List Nat, (wipeE ρ vs).length = ρ.length
  | [] => rfl
  | v :: vs => by unfold wipeE; rw [List.length_set, wipeE_length ρ vs]
theorem ER.wipe {W : Wd} {μ ν : List Addr} {H : Hp} {ρ : Env} {σ : L2.St} (h : ER W μ ν H ρ σ) : ∀ vs : List Nat, ER W μ ν H (wipeE ρ vs) (L2.wipe σ vs)
  | [] => h
  | v :: vs => by
    have ih := ER.wipe h vs
    refine ⟨by rw [wipeE_length, L2.wipe_length]; exact h.1, fun j e he => ?_⟩
    unfold wipeE at he
    unfold L2.wipe
    by_cases ij : v = j
    · subst ij
      obtain ⟨hl, _⟩ := List.getElem?_eq_some_iff.mp he
      rw [List.length_set] at hl
      rw [List.getElem?_set_self hl] at he
      cases he
    · rw [List.getElem?_set_ne ij] at he ⊢
      exact ih.2 j e he
theorem ER.setAll {W : Wd} {μ ν : List Addr} {H : Hp} : ∀ {ds : List D} {vs : List V} {ρ : Env} {σ : L2.St} (is : List Nat), ER W μ ν H ρ σ → VRs W μ ν H ds vs → ER W μ ν H (setAll ρ is ds) ((is.zip vs).foldl (fun σ p => σ.set p.1 (some p.2)) σ)
  | [], vs, ρ, σ, is, h, r => by
    cases (show vs = [] from r)
    cases is <;> simpa [Rf.setAll] using h
  | d :: ds, vs, ρ, σ, [], h, r => by simpa [Rf.setAll] using h
  | d :: ds, vs, ρ, σ, i :: is, h, r => by
    obtain ⟨v, r', rfl, h1, h2⟩ := r
    exact ER.setAll is (h.set i h1) h2
/-! ### an address is kept apart -/
mutual
theorem VR.apart {W : Wd} {μ ν : List Addr} {H : Hp} {p : Addr} (hp : H p = none) : ∀ {d : D} {v : V}, VR W μ ν H d v → VR W μ (p :: ν) H d v := fun {d v} h => by
  match d, h with
  | .non, h => exact h
  | .bl b, h => exact h
  | .int i, h => exact h
  | .str x, h => exact h
  | .tup ds, h =>
    obtain ⟨a, vs, e, t, n, r⟩ := h
    exact ⟨a, vs, e, t, n, VRs.apart hp r⟩
  | .lst ds, h =>
    obtain ⟨a, vs, e, t, n, m, r⟩ := h
    refine ⟨a, vs, e, t, n, fun z => ?_, VRs.apart hp r⟩
    rcases List.mem_cons.mp z with z | z
    · rw [z] at t
      rcases t with t | ⟨o, t⟩ <;> (rw [hp] at t; cases t)
    · exact m z
  | .ref k, h => exact h
  | .glb y, h => exact h
theorem VRs.apart {W : Wd} {μ ν : List Addr} {H : Hp} {p : Addr} (hp : H p = none) : ∀ {ds : List D} {vs : List V}, VRs W μ ν H ds vs → VRs W μ (p :: ν) H ds vs := fun {ds vs} h => by
  match ds, h with
  | [], h => exact h
  | d :: ds, h =>
    obtain ⟨v, r, e, h1, h2⟩ := h
    exact ⟨v, r, e, VR.apart hp h1, VRs.apart hp h2⟩
end
theorem ER.apart {W : Wd} {μ ν : List Addr} {H : Hp} {ρ : Env} {σ : L2.St} {p : Addr} (hp : H p = none) (h : ER W μ ν H ρ σ) : ER W μ (p :: ν) H ρ σ := ⟨h.1, fun i d e => by
  obtain ⟨v, h1, h2⟩ := h.2 i d e
  exact ⟨v, h1, h2.apart hp⟩⟩
theorem ER.weak {W : Wd} {μ ν ν' : List Addr} {H : Hp} {ρ : Env} {σ : L2.St} (s : ∀ a ∈ ν', a ∈ ν) (h : ER W μ ν H ρ σ) : ER W μ ν' H ρ σ := ⟨h.1, fun i d e => by
  obtain ⟨v, h1, h2⟩ := h.2 i d e
  exact ⟨v, h1, h2.weak s⟩⟩
theorem StR.weak {W : Wd} {μ ν ν' : List Addr} {S : Store} {H : Hp} (s : ∀ a ∈ ν', a ∈ ν) (h : StR W μ ν S H) : StR W μ ν' S H :=
  ⟨h.fine, h.len, h.nd, fun b hb => h.dis b (s b hb), fun b hb => h.trn b (s b hb), fun i c a e1 e2 => (h.cells i c a e1 e2).map (fun d v r => r.weak s) rfl, h.tab⟩
/-- something new is laid, and kept apart -/
theorem StR.apart {W : Wd} {μ ν : List Addr} {S : Store} {H : Hp} {p : Addr} {o : HO} (h : StR W μ ν S H) (hp : H p = none) (ho : Plain o) (f : Fine W.K (upd H p o)) : StR W μ (p :: ν) S (upd H p o) := by
  have st := h.laid hp f
  have x := Ext.laid (μ := μ) (o := o) hp
  refine ⟨f, h.len, h.nd, fun b hb => ?_, fun b hb => ?_, fun i c a e1 e2 => ?_, tabs_upd (none_pl hp) h.tab⟩
  · rcases List.mem_cons.mp hb with z | z
    · rw [z]; exact h.notIn hp
    · exact h.dis b z
  · rcases List.mem_cons.mp hb with z | z
    · exact ⟨o, by rw [z, upd_same], ho⟩
    · exact st.trn b z
  · refine (h.cells i c a e1 e2).map (fun d v r => (r.apart hp).ext x st.trk) ?_
    rw [upd_ne]
    intro z
    exact h.notIn hp (z ▸ List.mem_of_getElem? e2)
/-! ### what is wanted -/
def DoneS (W : Wd) (μ ν : List Addr) (H : Hp) (S' : Store) (ds : List D) (Q : List V → Hp → Prop) : Prop := ∀ vs H' μ', Ext μ μ' H H' → StR W μ' ν S' H' → VRs W μ' ν H' ds vs → Q vs H'
def DoneT (W : Wd) (μ ν : List Addr) (H : Hp) (S' : Store) (b : Bool) (Q : Bool → Hp → Prop) : Prop := ∀ H' μ', Ext μ μ' H H' → StR W μ' ν S' H' → Q b H'
/-- a new list, kept apart -/
def DoneF (W : Wd) (μ ν : List Addr) (H : Hp) (S' : Store) (ds : List D) (Q : VK) : Prop := ∀ p vs H' μ', (∀ o, H p = some o → ∃ ps, o = .tbl ps) → p ∉ ν → H' p = some (.lst vs) → Ext μ μ' H H' → StR W μ' (p :: ν) S' H' → VRs W μ' (p :: ν) H' ds vs → Q (.ref p) H'
theorem Done.mono {W : Wd} {μ μ1 ν : List Addr} {H H1 : Hp} {S' : Store} {z : D} {Q : VK} (D : Done W μ ν H S' z Q) (x : Ext μ μ1 H H1) : Done W μ1 ν H1 S' z Q := fun v H' μ' x' => D v H' μ' (x.trans x')
theorem DoneS.mono {W : Wd} {μ μ1 ν : List Addr} {H H1 : Hp} {S' : Store} {z : List D} {Q : List V → Hp → Prop} (D : DoneS W μ ν H S' z Q) (x : Ext μ μ1 H H1) : DoneS W μ1 ν H1 S' z Q := fun v H' μ' x' => D v H' μ' (x.trans x')
theorem DoneT.mono {W : Wd} {μ μ1 ν : List Addr} {H H1 : Hp} {S' : Store} {b : Bool} {Q : Bool → Hp → Prop} (D : DoneT W μ ν H S' b Q) (x : Ext μ μ1 H H1) : DoneT W μ1 ν H1 S' b Q := fun H' μ' x' => D H' μ' (x.trans x')
/-- as a value -/
theorem Done.fresh {W : Wd} {μ ν : List Addr} {H : Hp} {S' : Store} {ds : List D} {Q : VK} (D : Done W μ ν H S' (.lst ds) Q) : DoneF W μ ν H S' ds Q := fun p vs H' μ' hp hn e x st r => by
  have w : ∀ a ∈ ν, a ∈ p :: ν := fun a h => List.mem_cons_of_mem _ h
  exact D _ H' μ' x (st.weak w) ⟨p, vs, rfl, .inl e, st.dis p List.mem_cons_self, hn, r.weak w⟩
/-- as a new cell -/
theorem Done.cell {W : Wd} {μ ν : List Addr} {H : Hp} {S' : Store} {ds : List D} {Q : VK} (D : Done W μ ν H (S' ++ [.lst ds]) (.ref S'.length) Q) : DoneF W μ ν H S' ds Q := fun p vs H' μ' hp hn e x st r => by
  have nf : ∀ o u, H' p ≠ some (.frz o u) := fun o u z => by rw [e] at z; cases z
  have tk : Trk W (μ' ++ [p]) H' := ⟨st.fine, fun b hb => by
    rcases List.mem_append.mp hb with z | z
    · exact st.trk.trk b z
    · have z : b = p := by simpa using z
      rw [z, e]; simp⟩
  have st2 := st.grow (c := .lst ds) hn nf ⟨vs, e, r.cell nf tk⟩
  refine D _ H' _ ?_ st2 ⟨p, ?_, rfl⟩
  · obtain ⟨⟨t, rfl⟩, x2⟩ := x
    refine ⟨⟨t ++ [p], by simp⟩, fun b o h n m => ?_, x2.2⟩
    obtain ⟨h1, h2⟩ := x2.1 b o h n m
    refine ⟨h1, fun z => ?_⟩
    rcases List.mem_append.mp z with z | z
    · exact h2 z
    · have z : b = p := by simpa using z
      rw [z] at h
      obtain ⟨ps, e⟩ := hp _ h
      exact m ps e
  · rw [← st.len, List.getElem?_append_right (Nat.le_refl _)]
    simp
/-- a new list is laid -/
theorem DoneF.lay {W : Wd} {μ ν : List Addr} {H : Hp} {S : Store} {ds : List D} {vs : List V} {Q : VK} (D : DoneF W μ ν H S ds Q) (st : StR W μ ν S H) (r : VRs W μ ν H ds vs) : NewL H vs fun v H' => Fine W.K H' → Q v H' := fun p hp f => by
  have x := Ext.laid (μ := μ) (o := .lst vs) hp
  have st2 := st.apart hp (o := .lst vs) trivial f
  exact D p vs _ μ (fun o z => by rw [hp] at z; cases z) (st.notInN hp) upd_same x st2 ((r.apart hp).ext x st2.trk)
section
def rE (W : Wd) (ρ : Env) (S : Store) (z : D) (S' : Store) : TE := fun σ H Q => ∃ μ ν, StR W μ ν S H ∧ ER W μ ν H ρ σ ∧ Done W μ ν H S' z Q
def rEs (W : Wd) (ρ : Env) (S : Store) (z : List D) (S' : Store) : TA := fun σ H Q => ∃ μ ν, StR W μ ν S H ∧ ER W μ ν H ρ σ ∧ DoneS W μ ν H S' z Q
def rT (W : Wd) (ρ : Env) (S : Store) (b : Bool) (S' : Store) : TT := fun σ H Q => ∃ μ ν, StR W μ ν S H ∧ ER W μ ν H ρ σ ∧ DoneT W μ ν H S' b Q
def rF (W : Wd) (ρ : Env) (S : Store) (ds : List D) (S' : Store) : TE := fun σ H Q => ∃ μ ν, StR W μ ν S H ∧ ER W μ ν H ρ σ ∧ DoneF W μ ν H S' ds Q
/-- a call on what stands for the things; the store behind it -/
def rCl (W : Wd) (S : Store) (ds : List D) (z : D) (S' : Store) : List V → Hp → VK → Prop := fun us H Q => ∃ μ ν, StR W μ ν S H ∧ VRs W μ ν H ds us ∧ Done W μ ν H S' z Q
end
/-! ### the program's promises -/
structure Bd where
  prog : Program
  w : World
  K : PySem.W.Frag
  mg : Str → Option Value
  base : Heap
abbrev Bd.W (B : Bd) : Wd := ⟨B.K, B.mg⟩
abbrev Cx.bd (X : Cx) : Bd := ⟨X.prog, X.w, X.K, X.mg, X.base⟩
def CallAll (B : Bd) (k : Nat) (u : Value) (r : List V → Hp → VK → Prop) : Prop := ∀ X : Cx, Cx.bd X = B → Room k X.A → X.A.guards = some [] → CallR X u r
/-- x(call) hands back (call(), None) where nothing is raised: a try around y(call), and y's try around (b(), None) -/
structure ThkOk (B : Bd) (x : Str) : Prop where
  ex : ∃ (y a b : Str) (g1 g2 : Addr) (st1 st2 : Stmt) (fd1 fd2 : FuncData) (p1 p2 p3 p4 p5 q1 q2 q3 q4 q5 q6 : Pos) (j k : Nat) (h1 h2 : ExceptHandler) (hs1 hs2 : List ExceptHandler),
    B.mg x = some (.ref g1) ∧ PySem.W.keepIn B.K (.ref g1) = true ∧ C8.Fun B.K x x st1 g1 fd1 ∧ FnScope [a] [a] (C8.fnScope st1) ∧ L2.Binds B.K fd1 [a] [] ∧
    C8.fnBody st1 = [.Try [.Return (some (.Call (.Name y p1) [.Name a p2] [] p3)) p4] (h1 :: hs1) [] [] p5] ∧ (C8.fnScope st1).names.lookup y = some .globalImplicit ∧
    B.mg y = some (.ref g2) ∧ PySem.W.keepIn B.K (.ref g2) = true ∧ C8.Fun B.K y y st2 g2 fd2 ∧ FnScope [b] [b] (C8.fnScope st2) ∧ L2.Binds B.K fd2 [b] [] ∧
    C8.fnBody st2 = [.Try [.Return (some (.Tuple [.Call (.Name b q1) [] [] q2, .Constant .none j q3] k q4)) q5] (h2 :: hs2) [] [] q6] ∧
    (y == ("__debug__" : Str)) = false ∧ (a == ("__debug__" : Str)) = false ∧ (a == ("__classdict__" : Str)) = false ∧ (b == ("__debug__" : Str)) = false ∧ (b == ("__classdict__" : Str)) = false
structure FnsOk (B : Bd) (P : Prog) (n : Nat) : Prop where
  glob : ∀ x d, P.glob x = some d → ∃ u v, B.mg x = some u ∧ RelV v u ∧ ∀ μ ν H, Trk B.W μ H → VR B.W μ ν H d v
  fld : ∀ c f C, P.flds c f = true → B.mg c = some (.ref C) → Cls B.K C ∧ NoAttr B.K C f
  call : ∀ x ds S z S', (ctx P n).call x ds S = some (.ok z S') → ∃ u, B.mg x = some u ∧ PySem.W.keepIn B.K u = true ∧ CallAll B (8 * n) u (rCl B.W S ds z S')
  thk : ∀ x, P.thk x = true → ThkOk B x
  meth : ∀ c m ds S z S', (ctx P n).meth c m ds S = some (.ok z S') → ∃ C f, B.mg c = some (.ref C) ∧ Cls B.K C ∧ Meth B.K C m f ∧ CallAll B (8 * n) (.ref f) (rCl B.W S ds z S')
structure Good (P : Prog) (n : Nat) (C : SC) (X : Cx) : Prop where
  N : X.N = C.N
  nd : C.N.Nodup
  sc : X.env.scope = C.sc
  fnk : C.sc.kind = .function
  calm : X.calm = true
  blt : ∀ x, C.usr x = false → X.mg x = none
  room : Room (8 * n) X.A
  grd : X.A.guards = some []
  fns : FnsOk (Cx.bd X) P n
  lam : C.lam = true → ∃ c T, X.env.code = .ref c ∧ LamX.TabB X.base X.mg c T ∧ (T, X.env.qual ++ "<lambda>") ∈ tabT X.K ∧ (∀ p ∈ tabT X.K, p.1 = T → p.2 = X.env.qual ++ "<lambda>") ∧ Room (8 * n + 6) X.A
section
variable {P : Prog} {n : Nat} {C : SC} {X : Cx}
theorem Good.gl (G : Good P n C X) {x : Str} (h : glB C.sc x = true) : Gl X x := by
  unfold Gl Env.kindOf
  rw [G.sc]
  unfold glB at h
  split at h
  · assumption
  · cases h
theorem Good.vis (G : Good P n C X) {x : Str} (h : visB C.sc x = true) : Vis X.env.scope x := by
  rw [G.sc]
  unfold visB at h
  unfold Vis
  split at h
  · exact .inl (by assumption)
  · exact .inr (.inl (by assumption))
  · exact .inr (.inr (by assumption))
  · cases h
theorem loc_of {sc : Scope} {x : Str} (h : locB sc x = true) : sc.names.lookup x = some .local ∨ sc.names.lookup x = some .cell := by
  unfold locB at h
  split at h
  · exact .inl (by assumption)
  · exact .inr (by assumption)
  · cases h
theorem slot_of {N : List Str} {x : Str} {i : Nat} (h : slotOf N x = some i) : N[i]? = some x := by
  unfold slotOf at h
  obtain ⟨h1, h2, _⟩ := List.findIdx?_eq_some_iff_getElem.mp h
  rw [List.getElem?_eq_getElem h1]
  simpa using h2
theorem nameOk_of {x : Str} (h : nameOk x = true) : (x == ("__debug__" : Str)) = false ∧ (x == ("__classdict__" : Str)) = false ∧ x ≠ "__name__" := by
  unfold nameOk at h
  simp only [Bool.and_eq_true, Bool.not_eq_true', decide_eq_true_eq] at h
  exact ⟨h.1.1, h.1.2, h.2⟩
end
/-! ### inversion -/
theorem bind_ok {α β : Type} {m : RM α} {f : α → Store → RM β} {z : β} {S' : Store} (h : RM.bind m f = some (.ok z S')) : ∃ a S1, m = some (.ok a S1) ∧ f a S1 = some (.ok z S') := by
  unfold RM.bind at h
  split at h
  · exact ⟨_, _, rfl, h⟩
  · cases h
  · cases h
theorem lift_ok {α : Type} {m : Option α} {S : Store} {z : α} {S' : Store} (h : RM.lift m S = some (.ok z S')) : m = some z ∧ S' = S := by
  unfold RM.lift at h
  obtain ⟨a, h1, h2⟩ := Option.map_eq_some_iff.mp h
  cases h2
  exact ⟨h1, rfl⟩
end Rf
/-! enumerate and zip over lists, tuples and texts, for HandS's loops. -/
namespace Rf
open PySem PySem.Spec PyProof.Rows L2

/-- an iterator that hands out tuples made for the turn -/
def Jw (go : Nat → Hp → Prop) (stop : Nat → Hp → Prop) (ok : Nat → Hp → List V → Prop) : It :=
  ⟨go, fun i H v H' => ∃ T vs, v = .ref T ∧ H T = none ∧ H' = upd H T (.tup vs) ∧ ok i H vs, stop⟩
theorem turnW {P : Program} {w : World} {K : PySem.W.Frag} {elts : List Expr} {kk : Nat} {tpos : Pos} {it : Addr} {fp wr : List Addr} {tn : Nat → Heap → Prop} {go stop : Nat → Hp → Prop} {ok : Nat → Hp → List V → Prop}
    (mem : it ∈ fp) (sub : ∀ b ∈ wr, b ∈ fp) (obj : ∀ i h, tn i h → ∀ b ∈ fp, ∃ o, h.get? b = some o ∧ ∀ v, o.data ≠ .cell v) (keep : ∀ i h h', tn i h → (∀ b ∈ fp, ∀ o, h.get? b = some o → h'.get? b = some o) → tn i h')
    (at_ : ∀ (X : Cx), X.prog = P → X.w = w → X.K = K → X.A.handled = none → ∀ (i : Nat) (pins : List (Addr × Obj)) (s : Shared) (σ : L2.St) (H : Hp), Inv X pins σ H s → (∀ b ∈ fp, H b = none) → tn i s.heap → (go i H ∨ stop i H) →
      ∃ n fpW Pt St Mid, WalksT P w X.A it fpW wr n Pt St Mid ∧ St i s.heap ∧ (go i H → i < n) ∧ (stop i H → i = n) ∧ (∀ h', St (i + 1) h' → (∀ b, b ∉ wr → ∀ o, s.heap.get? b = some o → h'.get? b = some o) → tn (i + 1) h') ∧
        ∀ vals : Array Value, go i H → Pt i vals → ∃ vs, Vals vs vals.toList ∧ vs.length ≤ sizeLine ∧ ok i H vs)
    (self : ∀ (A : Around) (i : Nat) (s : Shared) (Q : Value → Shared → Prop) (E : Value → Shared → Prop), tn i s.heap → Q (.ref it) s → wpAny (model P w) A (pyIter (.ref it)) Q E s) :
    Turn P w K (.Tuple elts kk tpos) (Jw go stop ok) fp it tn where
  mem := mem
  obj := obj
  keep := keep
  item := by
    intro X hP hw hK hc i pins s σ H E I hf st hg
    subst hP hw hK
    obtain ⟨n, fpW, Pt, St, Mid, W, hS, h1, _, h3, h4⟩ := at_ X rfl rfl rfl (I.ok.hd hc) i pins s σ H I (fun b hb => (hf b hb).1) st (.inl hg)
    refine W.item i s _ _ (h1 hg) hS fun T vals h' tk hPt hle hT hMid hk => ?_
    obtain ⟨vs, rv, hz, hok⟩ := h4 vals hg hPt
    refine ⟨.ref T, rfl, W.go elts kk tpos i T { s with heap := h', toks := tk } _ _ hMid fun h'' hS2 hk2 => ?_⟩
    have hT2 : h''.IsTuple T vals := by
      obtain ⟨o, e, r⟩ := hT
      exact ⟨o, hk2 T o (W.apart _ _ _ hMid) e, r⟩
    have new : ObjOk X.prog X.w (upd H T (.tup vs)) h'' T (.tup vs) := ⟨hz, vals.toList, rv, by rw [Array.toArray_toList]; exact hT2⟩
    have kk : ∀ b o, b ∉ wr → s.heap.get? b = some o → h''.get? b = some o := fun b o hb q => hk2 b o hb (hk b o hb q)
    have I1 : Inv X pins σ (upd H T (.tup vs)) { s with heap := h'', toks := tk } := I.turnedNew (ch := wr) kk (fun b hb => hf b (sub b hb)) hle new
    refine ⟨.ref T, _, I1, rfl, ⟨T, vs, rfl, I.hok.fresh hle, rfl, hok⟩, h3 h'' hS2 fun b hb o q => kk b o hb q, fun b hb => ?_⟩
    obtain ⟨o, e, _⟩ := obj i s.heap st b hb
    rw [upd_ne (Nat.ne_of_lt (Nat.lt_of_lt_of_le (Heap.lt_size e) hle))]
    exact (hf b hb).1
  done := by
    intro X hP hw hK hc i pins s σ H E I hf st hg
    subst hP hw hK
    obtain ⟨n, fpW, Pt, St, Mid, W, hS, _, h2, _, _⟩ := at_ X rfl rfl rfl (I.ok.hd hc) i pins s σ H I (fun b hb => (hf b hb).1) st (.inr hg)
    have e := h2 hg
    subst e
    exact W.done s _ _ hS fun h' tk hk => ⟨rfl, I.turnedL (ch := wr) hk fun b hb => hf b (sub b hb)⟩
  self := self
/-! ### sources -/
inductive Sk where
  | l (a : Addr)
  | t (a : Addr)
  | s (x : Str)
def Sk.val : Sk → V
  | .l a => .ref a
  | .t a => .ref a
  | .s x => .str x
def Sk.hold (K : PySem.W.Frag) (H : Hp) : Sk → List V → Prop
  | .l a, xs => SqL K H a xs
  | .t a, xs => SqT K H a xs
  | .s x, xs => xs = x.cps.toList.map fun c => V.str ⟨#[c]⟩
def Sk.ad : Sk → List Addr
  | .l a => [a]
  | .t a => [a]
  | .s _ => []
def Sk.it (k : Sk) (it : Addr) (i : Nat) (h : Heap) : Prop := match k with
  | .l a => h.IsListIter it a i
  | .t a => h.IsTupleIter it a i
  | .s x => ∃ t, h.IsStrIter it (strIterType x) x t i
theorem Sk.it_obj {k : Sk} {it : Addr} {i : Nat} {h : Heap} (x : k.it it i h) : ∃ o, h.get? it = some o ∧ ∀ v, o.data ≠ .cell v := by
  cases k with
  | l a => obtain ⟨o, e, _, d⟩ := x; exact ⟨o, e, fun v z => by rw [d] at z; cases z⟩
  | t a => obtain ⟨o, e, _, d⟩ := x; exact ⟨o, e, fun v z => by rw [d] at z; cases z⟩
  | s y => obtain ⟨t, o, e, _, d⟩ := x; exact ⟨o, e, fun v z => by rw [d] at z; cases z⟩
theorem Sk.it_keep {k : Sk} {it : Addr} {i : Nat} {h h' : Heap} (x : k.it it i h) (e : ∀ o, h.get? it = some o → h'.get? it = some o) : k.it it i h' := by
  cases k with
  | l a => obtain ⟨o, q, r⟩ := x; exact ⟨o, e o q, r⟩
  | t a => obtain ⟨o, q, r⟩ := x; exact ⟨o, e o q, r⟩
  | s y => obtain ⟨t, o, q, r⟩ := x; exact ⟨t, o, e o q, r⟩
section
variable {X : Cx} {pins : List (Addr × Obj)} {σ : L2.St} {H : Hp} {s : Shared}
theorem Sk.inj (I : Inv X pins σ H s) {k : Sk} {xs ys : List V} (h : k.hold X.K H xs) (h' : k.hold X.K H ys) : xs = ys := by
  cases k with
  | l a => exact I.list_inj h h'
  | t a => exact I.tuple_inj h h'
  | s x => exact (show xs = _ from h).trans (show ys = _ from h').symm
theorem Sk.draws (I : Inv X pins σ H s) (hh : X.A.handled = none) {k : Sk} {it : Addr} {i : Nat} {xs : List V} (h : k.hold X.K H xs) (hi : k.it it i s.heap) (ne : it ∉ k.ad) :
    ∃ P St, Draws X.prog X.w X.A.in1 it (it :: k.ad) xs.length P St ∧ St i s.heap ∧ (∀ j v, P j v → ∃ x, xs[j]? = some x ∧ RelV x v) ∧ ∀ j h', St j h' → k.it it j h' := by
  have fin : ∀ {its : List Value}, Vals xs its → ∀ (j : Nat) (v : Value), its.toArray[j]? = some v → ∃ x, xs[j]? = some x ∧ RelV x v := fun {its} rv j v e => by
    have e2 : its[j]? = some v := by rw [← e]; simp
    have hj : j < xs.length := by rw [rv.length]; exact (List.getElem?_eq_some_iff.mp e2).1
    obtain ⟨u, h1, h2⟩ := rv.get (List.getElem?_eq_getElem hj)
    rw [e2] at h1
    cases h1
    exact ⟨_, List.getElem?_eq_getElem hj, h2⟩
  cases k with
  | l a =>
    obtain ⟨its, rv, pl, _⟩ := I.list h
    have na : a ≠ it := fun z => ne (by simp [Sk.ad, z])
    have D := Draws.list (prog := X.prog) (w := X.w) (A := X.A.in1) hh it a na its.toArray
    rw [show its.toArray.size = xs.length by rw [List.size_toArray, rv.length]] at D
    exact ⟨_, _, D, ⟨hi, pl.isList⟩, fin rv, fun j h' q => q.1⟩
  | t a =>
    obtain ⟨its, rv, pl, _⟩ := I.tuple h
    have na : a ≠ it := fun z => ne (by simp [Sk.ad, z])
    have D := Draws.tuple (prog := X.prog) (w := X.w) (A := X.A.in1) hh it a na its.toArray
    rw [show its.toArray.size = xs.length by rw [List.size_toArray, rv.length]] at D
    exact ⟨_, _, D, ⟨hi, pl⟩, fin rv, fun j h' q => q.1⟩
  | s x =>
    obtain ⟨t, hi⟩ := hi
    have D := Draws.text (prog := X.prog) (w := X.w) (A := X.A.in1) hh it x t
    obtain rfl : xs = _ := h
    rw [show x.cps.size = (x.cps.toList.map fun c => V.str ⟨#[c]⟩).length by simp] at D
    refine ⟨_, _, D, hi, fun j v q => ?_, fun j h' q => ⟨t, q⟩⟩
    obtain ⟨c, u, e, rfl⟩ := q
    exact ⟨.str ⟨#[c]⟩, by simp [e], ⟨u, rfl⟩⟩
/-- a source begins -/
theorem Sk.begins (I : Inv X pins σ H s) {k : Sk} {xs : List V} {v : Value} (h : k.hold X.K H xs) (r : RelV k.val v) : ∃ o Hq, Begins v o Hq ∧ Hq s.heap ∧ ∀ (it : Addr) (h' : Heap), h'.get? it = some o → k.it it 0 h' := by
  cases k with
  | l a =>
    obtain ⟨its, rv, pl, _⟩ := I.list h
    obtain rfl : v = Value.ref a := r
    exact ⟨_, _, begins_list a its.toArray, pl.isList, fun it h' e => ⟨_, e, rfl, rfl⟩⟩
  | t a =>
    obtain ⟨its, rv, pl, _⟩ := I.tuple h
    obtain rfl : v = Value.ref a := r
    exact ⟨_, _, begins_tuple a its.toArray, pl, fun it h' e => ⟨_, e, rfl, rfl⟩⟩
  | s x =>
    obtain ⟨t, rfl⟩ := (show ∃ t, v = Value.str x t from r)
    exact ⟨_, _, begins_text x t, trivial, fun it h' e => ⟨t, _, e, rfl, rfl⟩⟩
theorem Sk.ad_lt (I : Inv X pins σ H s) {k : Sk} {xs : List V} (h : k.hold X.K H xs) : ∀ b ∈ k.ad, b < s.heap.objs.size := by
  cases k with
  | l a =>
    obtain ⟨its, rv, pl, _⟩ := I.list h
    intro b hb
    have hb : b = a := by simpa [Sk.ad] using hb
    rw [hb]; exact pl.lt
  | t a =>
    obtain ⟨its, rv, ⟨o, e, _⟩, _⟩ := I.tuple h
    intro b hb
    have hb : b = a := by simpa [Sk.ad] using hb
    rw [hb]; exact Heap.lt_size e
  | s x => intro b hb; simp [Sk.ad] at hb
end
/-! ### enumerate -/
def Jen (K : PySem.W.Frag) (k : Sk) : It :=
  Jw (fun i H => ∃ xs, k.hold K H xs ∧ i < xs.length) (fun i H => ∃ xs, k.hold K H xs ∧ i = xs.length) (fun i H vs => ∃ x, vs = [.int (i : Nat), x] ∧ ∀ xs, k.hold K H xs → xs[i]? = some x)
theorem turn_enumK {P : Program} {w : World} {K : PySem.W.Frag} {elts : List Expr} {kk : Nat} {tpos : Pos} (k : Sk) (e it : Addr) (hne : e ≠ it) (h1 : e ∉ k.ad) (h2 : it ∉ k.ad) :
    Turn P w K (.Tuple elts kk tpos) (Jen K k) [e, it] e (fun i h => (∃ old, IsEnum h e it ((0 : Int) + ((i : Nat) : Int)) old) ∧ k.it it i h) := by
  refine turnW (wr := [e, it]) (by simp) (fun b hb => hb) (fun i h st b hb => ?_) (fun i h h' st kp => ?_) (fun X hP hw hK hh i pins s σ H I hn st hg => ?_) fun A i s Q E st h => ?_
  · obtain ⟨⟨old, he⟩, hi⟩ := st
    have e' : b = e ∨ b = it := by simpa using hb
    rcases e' with z | z
    · rw [z]; exact ⟨_, he, fun v q => nomatch q⟩
    · rw [z]; exact Sk.it_obj hi
  · obtain ⟨⟨old, he⟩, hi⟩ := st
    exact ⟨⟨old, kp e (by simp) _ he⟩, Sk.it_keep hi fun o q => kp it (by simp) o q⟩
  · subst hP hw hK
    obtain ⟨⟨old, he⟩, hi⟩ := st
    obtain ⟨xs, hx⟩ : ∃ xs, k.hold X.K H xs := by
      rcases hg with ⟨xs, q, _⟩ | ⟨xs, q, _⟩ <;> exact ⟨xs, q⟩
    obtain ⟨Pd, Sd, D, hS, hP, hT⟩ := Sk.draws I hh hx hi h2
    have W := WalksT.enumFrom (prog := X.prog) (w := X.w) (A := X.A) 0 D e hne (by simp [hne, h1]) (by simp)
    refine ⟨xs.length, _, _, _, _, W, ⟨⟨old, he⟩, hS⟩, fun ⟨ys, q, r⟩ => by rw [Sk.inj I hx q]; exact r, fun ⟨ys, q, r⟩ => by rw [Sk.inj I hx q]; exact r, fun h' q _ => ⟨q.1, hT _ _ q.2⟩, fun vals _ ⟨t, x, q, ev⟩ => ?_⟩
    obtain ⟨y, hy, ry⟩ := hP i x q
    subst ev
    refine ⟨[.int (i : Nat), y], .cons ⟨t, by simp⟩ (.cons ry .nil), ?_, y, rfl, fun zs hz => by rw [Sk.inj I hz hx]; exact hy⟩
    rw [sizeLine_eq]
    show 2 ≤ 16777216
    omega
  · obtain ⟨⟨_, he⟩, _⟩ := st
    exact wpAny_pyIter_enum he h
theorem meets_enum1 {v : Value} {o : Obj} {H : Heap → Prop} (B : Begins v o H) :
    Meets (Builtin.«enumerate.__new__» ⟨[.type "enumerate", v], []⟩) (fun _ R s => H s.heap ∧
      R (.ok (.ret (.ref (s.heap.push o).objs.size))) { s with heap := (s.heap.push o).push { cls := .type "enumerate", data := .fields #[.none, .bool false, .ref s.heap.objs.size, rawInt 0, .none, .none] } }) :=
  .of_wp fun prog w A R s h => by
    obtain ⟨hp, g, d, tk, os⟩ := s; obtain ⟨h1, h⟩ := h
    have hsub := sub_enumerate
    have q1 : ∀ {A' : Around} {E : Value → Shared → Prop} {Q : Value → Shared → Prop}, Q (.ref hp.objs.size) ⟨hp.push o, g, d, tk, os⟩ → wpAny (model prog w) A' (pyIter v) Q E ⟨hp, g, d, tk, os⟩ :=
      fun q => B.iter prog w _ _ ⟨hp, g, d, tk, os⟩ _ h1 q
    wp_walk using q1
    refine wpAny_stack_any fun st => wpAny_pure ?_
    split
    · rename_i c _ _ _ _ _
      cases (c == Value.type "enumerate")
      · wp_walk using q1
        exact ⟨_, rfl, h⟩
      · wp_walk using q1
        exact ⟨_, rfl, h⟩
    · wp_walk using q1
      exact ⟨_, rfl, h⟩
section
variable {prog : Program} {w : World} {A : Around} {E : Value → Shared → Prop} {s : Shared}
theorem enum_begins1 {v : Value} {o : Obj} {H : Heap → Prop} {Q : Value → Shared → Prop} (B : Begins v o H) (h1 : H s.heap)
    (h : ∀ h', IsEnum h' (s.heap.objs.size + 1) s.heap.objs.size 0 .none → h'.get? s.heap.objs.size = some o → h'.objs.size = s.heap.objs.size + 2 →
      (∀ b o, s.heap.get? b = some o → h'.get? b = some o) → Q (.ref (s.heap.objs.size + 1)) { s with heap := h' }) :
    wpAny (model prog w) A (call (.type "enumerate") [v]) Q E s := by
  refine callType_new F.called_enumerate (by decide) (F.typeCall_enumerate_1 _) (F.newCall_enumerate_1 _) (fun obj => F.args_object_init_2 obj _) F.entry_enumerate_new
    (meets_enum1 B) ⟨h1, ?_⟩
  have hz : (s.heap.push o).objs.size = s.heap.objs.size + 1 := Heap.size_push ..
  show _ ∧ _
  rw [hz]
  have he : IsEnum ((s.heap.push o).push { cls := .type "enumerate", data := .fields #[.none, .bool false, .ref s.heap.objs.size, rawInt 0, .none, .none] }) (s.heap.objs.size + 1) s.heap.objs.size 0 .none := by
    have := Heap.get?_push_size (s.heap.push o) (o := { cls := .type "enumerate", data := .fields #[.none, .bool false, .ref s.heap.objs.size, rawInt 0, .none, .none] }) rfl
    rw [hz] at this; exact this
  refine ⟨⟨_, he, rfl⟩, h _ he (Heap.get?_push_of_some _ (Heap.get?_push_size _ B.free)) (by rw [Heap.size_push, hz]) fun b o x => Heap.get?_push_of_some _ (Heap.get?_push_of_some _ x)⟩
end
def iEnK (K : PySem.W.Frag) (ta : TA) : TI := fun σ H R => ta σ H fun vs H1 => ∃ k xs, vs = [k.val] ∧ Sk.hold K H1 k xs ∧ R (Jen K k) H1
theorem pi_enumK {X : Cx} {e : Expr} {ta : TA} {p pos tpos : Pos} {elts : List Expr} {kk : Nat} (hg : Gl X "enumerate") (hm : X.mg "enumerate" = none) (ha : PA X [e] ta) (hs : starEach [e] X.env = [(false, eval e X.env)]) :
    PI X (.Tuple elts kk tpos) (.Call (.Name "enumerate" p) [e] [] pos) (iEnK X.K ta) := by
  refine ⟨fun pins s σ H R I h => ?_⟩
  refine Call_ (ld_blt I hg hm boot_enumerate (PyProof.Rows.callWith_type1 (thn (ha.run pos pins s σ H _ I h) fun us s1 ⟨vs, H1, I1, r1, k, xs, ex, hx, q⟩ => ?_) hs rfl))
  subst ex
  obtain ⟨v, rfl, rv⟩ := vals1 r1
  obtain ⟨o, Hq, B, hq, hit⟩ := Sk.begins I1 hx rv
  have la := Sk.ad_lt I1 hx
  refine enum_begins1 B hq fun h' he ho hsz hk => wpAny_pyIter_enum he ?_
  have I2 : Inv X pins σ H1 { s1 with heap := h' } := I1.kept (t' := s1.toks) hk
  refine ⟨s1.heap.objs.size + 1, [s1.heap.objs.size + 1, s1.heap.objs.size], _, _, H1, rfl, I2, turn_enumK k (s1.heap.objs.size + 1) s1.heap.objs.size (Nat.succ_ne_self _) (fun z => ?_) (fun z => ?_), ⟨⟨.none, by simpa using he⟩, hit _ _ ho⟩, fun b hb => ?_, q⟩
  · exact absurd (la _ z) (Nat.not_lt.mpr (Nat.le_succ _))
  · exact absurd (la _ z) (Nat.lt_irrefl _)
  · have e' : b = s1.heap.objs.size + 1 ∨ b = s1.heap.objs.size := by simpa using hb
    have hle : s1.heap.objs.size ≤ b := by
      rcases e' with z | z
      · rw [z]; exact Nat.le_add_right _ _
      · rw [z]; exact Nat.le_refl _
    exact I1.fpOk hle (I1.hok.fresh hle)
/-! ### zip of two -/
def Jz2 (K : PySem.W.Frag) (k1 k2 : Sk) : It :=
  Jw (fun i H => ∃ xs ys, k1.hold K H xs ∧ k2.hold K H ys ∧ i < xs.length ∧ i < ys.length) (fun i H => ∃ xs ys, k1.hold K H xs ∧ k2.hold K H ys ∧ i = min xs.length ys.length)
    (fun i H vs => ∃ x y, vs = [x, y] ∧ (∀ xs, k1.hold K H xs → xs[i]? = some x) ∧ ∀ ys, k2.hold K H ys → ys[i]? = some y)
theorem turn_zipK {P : Program} {w : World} {K : PySem.W.Frag} {elts : List Expr} {kk : Nat} {tpos : Pos} (k1 k2 : Sk) {z TI TO i1 i2 : Addr} (D : ZipSep2 z TI TO i1 i2 (i1 :: k1.ad) (i2 :: k2.ad)) (n1 : i1 ∉ k1.ad) (n2 : i2 ∉ k2.ad) :
    Turn P w K (.Tuple elts kk tpos) (Jz2 K k1 k2) [z, TI, TO, i1, i2] z (fun i h => IsZip h z TI TO .none ∧ IsTupOf2 h TI (.ref i1) (.ref i2) ∧ (∃ x y, IsTupOf2 h TO x y) ∧ k1.it i1 i h ∧ k2.it i2 i h) := by
  refine turnW (wr := [z, TO, i1, i2]) (by simp) (fun b hb => ?_) (fun i h st b hb => ?_) (fun i h h' st kp => ?_) (fun X hP hw hK hh i pins s σ H I hn st hg => ?_) fun A i s Q E st h => ?_
  · have e' : b = z ∨ b = TO ∨ b = i1 ∨ b = i2 := by simpa using hb
    rcases e' with q | q | q | q <;> simp [q]
  · obtain ⟨hz, hTI, ⟨x, y, hTO⟩, h1, h2⟩ := st
    have e' : b = z ∨ b = TI ∨ b = TO ∨ b = i1 ∨ b = i2 := by simpa using hb
    rcases e' with q | q | q | q | q
    · rw [q]; exact ⟨_, hz, fun v q => nomatch q⟩
    · rw [q]; exact ⟨_, hTI, fun v q => nomatch q⟩
    · rw [q]; exact ⟨_, hTO, fun v q => nomatch q⟩
    · rw [q]; exact Sk.it_obj h1
    · rw [q]; exact Sk.it_obj h2
  · obtain ⟨hz, hTI, ⟨x, y, hTO⟩, h1, h2⟩ := st
    exact ⟨kp z (by simp) _ hz, kp TI (by simp) _ hTI, ⟨x, y, kp TO (by simp) _ hTO⟩, Sk.it_keep h1 fun o q => kp i1 (by simp) o q, Sk.it_keep h2 fun o q => kp i2 (by simp) o q⟩
  · subst hP hw hK
    obtain ⟨hz, hTI, ⟨x0, y0, hTO⟩, h1, h2⟩ := st
    obtain ⟨xs, ys, hx, hy⟩ : ∃ xs ys, k1.hold X.K H xs ∧ k2.hold X.K H ys := by
      rcases hg with ⟨xs, ys, q, r, _⟩ | ⟨xs, ys, q, r, _⟩ <;> exact ⟨xs, ys, q, r⟩
    obtain ⟨P1, S1, D1, hS1, hP1, hT1⟩ := Sk.draws I hh hx h1 n1
    obtain ⟨P2, S2, D2, hS2, hP2, hT2⟩ := Sk.draws I hh hy h2 n2
    have W := WalksT.zipD2 (prog := X.prog) (w := X.w) (A := X.A) D D1 D2
    refine ⟨min xs.length ys.length, _, _, _, _, W, ⟨hz, hTI, ⟨x0, y0, hTO⟩, hS1, hS2⟩, fun ⟨as, bs, q, r, l1, l2⟩ => ?_, fun ⟨as, bs, q, r, l⟩ => ?_, fun h' q kp => ⟨q.1, q.2.1, q.2.2.1, hT1 _ _ q.2.2.2.1, hT2 _ _ q.2.2.2.2⟩, fun vals _ ⟨x, y, q, r, ev⟩ => ?_⟩
    · rw [Sk.inj I hx q, Sk.inj I hy r]; omega
    · rw [Sk.inj I hx q, Sk.inj I hy r]; exact l
    · obtain ⟨a, ha, ra⟩ := hP1 i x q
      obtain ⟨b, hb, rb⟩ := hP2 i y r
      subst ev
      refine ⟨[a, b], .cons ra (.cons rb .nil), ?_, a, b, rfl, fun zs hz => by rw [Sk.inj I hz hx]; exact ha, fun zs hz => by rw [Sk.inj I hz hy]; exact hb⟩
      rw [sizeLine_eq]
      show 2 ≤ 16777216
      omega
  · exact wpAny_pyIter_zip st.1 h
def iZpK (K : PySem.W.Frag) (ta : TA) : TI := fun σ H R => ta σ H fun vs H1 => ∃ k1 k2 xs ys, vs = [k1.val, k2.val] ∧ Sk.hold K H1 k1 xs ∧ Sk.hold K H1 k2 ys ∧ R (Jz2 K k1 k2) H1
theorem pi_zipK {X : Cx} {e e2 : Expr} {ta : TA} {p pos tpos : Pos} {elts : List Expr} {kk : Nat} (hg : Gl X "zip") (hm : X.mg "zip" = none) (ha : PA X [e, e2] ta)
    (hs : starEach [e, e2] X.env = (false, eval e X.env) :: starEach [e2] X.env) (hpl : (backTo pos (starEach [e2] X.env)).any (·.1) = false) :
    PI X (.Tuple elts kk tpos) (.Call (.Name "zip" p) [e, e2] [] pos) (iZpK X.K ta) := by
  refine ⟨fun pins s σ H R I h => ?_⟩
  refine Call_ (ld_blt I hg hm PyProof.Rows.boot_zip (PyProof.Rows.callWith_type1 (thn (ha.run pos pins s σ H _ I h) fun us s1 ⟨vs, H1, I1, r1, k1, k2, xs, ys, ex, hx, hy, q⟩ => ?_) hs hpl))
  subst ex
  obtain ⟨v1, v2, rfl, rv1, rv2⟩ := vals2 r1
  obtain ⟨o1, Hq1, B1, hq1, hit1⟩ := Sk.begins I1 hx rv1
  obtain ⟨o2, Hq2, B2, hq2, hit2⟩ := Sk.begins I1 hy rv2
  have la1 := Sk.ad_lt I1 hx
  have la2 := Sk.ad_lt I1 hy
  refine zip_begins2 B1 B2 hq1 hq2 fun h' hz hTI hTO ho1 ho2 hsz hk => wpAny_pyIter_zip hz ?_
  have I2 : Inv X pins σ H1 { s1 with heap := h' } := I1.kept (t' := s1.toks) hk
  refine ⟨s1.heap.objs.size + 4, [s1.heap.objs.size + 4, s1.heap.objs.size + 2, s1.heap.objs.size + 3, s1.heap.objs.size, s1.heap.objs.size + 1], _, _, H1, rfl, I2, turn_zipK k1 k2 (zip_sep2 la1 la2) (fun z => ?_) (fun z => ?_), ⟨hz, hTI, ⟨_, _, hTO⟩, hit1 _ _ ho1, hit2 _ _ ho2⟩, fun c hcm => ?_, q⟩
  · exact absurd (la1 _ z) (Nat.lt_irrefl _)
  · exact absurd (la2 _ z) (Nat.not_lt.mpr (Nat.le_succ _))
  · have e' : c = s1.heap.objs.size + 4 ∨ c = s1.heap.objs.size + 2 ∨ c = s1.heap.objs.size + 3 ∨ c = s1.heap.objs.size ∨ c = s1.heap.objs.size + 1 := by simpa using hcm
    have hle : s1.heap.objs.size ≤ c := by
      rcases e' with z | z | z | z | z
      · rw [z]; exact Nat.le_add_right _ _
      · rw [z]; exact Nat.le_add_right _ _
      · rw [z]; exact Nat.le_add_right _ _
      · rw [z]; exact Nat.le_refl _
      · rw [z]; exact Nat.le_add_right _ _
    exact I1.fpOk hle (I1.hok.fresh hle)
end Rf
/-! Targets and what is walked. -/
namespace Rf
open PySem PySem.Spec PyProof.Rows L2

/-! ### targets -/
def LocX (X : Cx) (x : Str) : Prop := Loc X.env.scope x ∧ (X.fn x = true ∨ X.env.scope.names.lookup x = some .local)
def putsV (σ : L2.St) (is : List Nat) (vs : List V) : L2.St := (is.zip vs).foldl (fun σ p => σ.set p.1 (some p.2)) σ
def gAll (is : List Nat) : TGs := fun vs σ H Q => vs.length = is.length ∧ Q (putsV σ is vs) H
def gOf (K : PySem.W.Frag) : Tg → TG
  | .nm i => gName i
  | .tup is => gTup K is.length (gAll is)
theorem mapM_cons {α β : Type} {f : α → Option β} {a : α} {as : List α} {bs : List β} (h : (a :: as).mapM f = some bs) : ∃ b r, bs = b :: r ∧ f a = some b ∧ as.mapM f = some r := by
  rw [List.mapM_cons] at h
  simp only [Option.bind_eq_bind, Option.pure_def] at h
  obtain ⟨b, h1, h2⟩ := Option.bind_eq_some_iff.mp h
  obtain ⟨r, h3, h4⟩ := Option.bind_eq_some_iff.mp h2
  cases h4
  exact ⟨b, r, rfl, h1, h3⟩
theorem names_each : ∀ {es : List Expr} {xs : List Str} {env : PySem.Env}, namesOf es = some xs → (assignEach es env).length = xs.length ∧ (assignEach es env).findIdx? (·.1) = none
  | [], xs, env, h => by cases h; exact ⟨rfl, rfl⟩
  | e :: es, xs, env, h => by
    cases e <;> simp only [namesOf, reduceCtorEq] at h
    obtain ⟨ys, h1, rfl⟩ := Option.map_eq_some_iff.mp h
    obtain ⟨i1, i2⟩ := names_each (env := env) h1
    refine ⟨by simp [assignEach, i1], ?_⟩
    simp [assignEach, List.findIdx?_cons, i2]
section
variable {X : Cx} {N : List Str}
theorem pgs_all (hN : X.N = N) (nd : N.Nodup) : ∀ {es : List Expr} {xs : List Str} {is : List Nat}, namesOf es = some xs → (∀ x ∈ xs, LocX X x) → xs.mapM (slotOf N) = some is → PGs X es (gAll is)
  | [], xs, is, h, _, hm => by
    cases h
    cases hm
    exact ⟨fun pins s σ H vs us Q I r h => pgs_nil.run pins s σ H vs us Q I r ⟨List.eq_nil_of_length_eq_zero h.1, h.2⟩⟩
  | e :: es, xs, is, h, hl, hm => by
    cases e <;> simp only [namesOf, reduceCtorEq] at h
    rename_i x p
    obtain ⟨ys, h1, rfl⟩ := Option.map_eq_some_iff.mp h
    obtain ⟨i, js, rfl, h2, h3⟩ := mapM_cons hm
    have hx := hl x List.mem_cons_self
    have ih := pgs_all hN nd h1 (fun y hy => hl y (List.mem_cons_of_mem _ hy)) h3
    have hi : X.N[i]? = some x := by rw [hN]; exact slot_of h2
    have h := pgs_cons (pg_name (pos := p) (by rw [hN]; exact nd) hi hx.1 hx.2) ih
    refine ⟨fun pins s σ H vs us Q I r q => h.run pins s σ H vs us Q I r ?_⟩
    obtain ⟨q1, q2⟩ := q
    cases vs with
    | nil => simp at q1
    | cons v vr => exact ⟨v, vr, rfl, by simpa using q1, q2⟩
theorem pg_of (hc : X.calm = true) (hN : X.N = N) (nd : N.Nodup) {C : SC} {sc : Scope} {tgE : Expr} {tg : Tg} (hCN : C.N = N) (h : tgOf C sc tgE = some tg) (hl : ∀ x, locB sc x = true → LocX X x) : PG X tgE (gOf X.K tg) := by
  subst hCN
  unfold tgOf at h
  split at h
  · rename_i x p
    split at h
    · rename_i hx
      obtain ⟨i, h1, rfl⟩ := Option.map_eq_some_iff.mp h
      have hi : X.N[i]? = some x := by rw [hN]; exact slot_of h1
      exact pg_name (by rw [hN]; exact nd) hi (hl x hx).1 (hl x hx).2
    · cases h
  · rename_i es k p
    split at h
    · rename_i xs hx
      split at h
      · rename_i ha
        obtain ⟨is, h1, rfl⟩ := Option.map_eq_some_iff.mp h
        have hlen : is.length = xs.length := by
          clear hx ha h
          induction xs generalizing is with
          | nil => cases h1; rfl
          | cons x xs ih =>
            obtain ⟨i, js, rfl, _, h3⟩ := mapM_cons h1
            simp [ih _ h3]
        refine pg_tup hc (pgs_all hN nd hx (fun x hm => hl x (List.all_eq_true.mp ha x hm)) h1) ?_ (names_each hx).2
        rw [(names_each hx).1, hlen]
      · cases h
    · cases h
  · cases h
end
/-- which slots a target sets -/
def Tg.slots : Tg → List Nat
  | .nm i => [i]
  | .tup is => is
theorem wipe_get (σ : L2.St) : ∀ (vs : List Nat) (j : Nat), (L2.wipe σ vs)[j]? = if j ∈ vs then (if j < σ.length then some none else none) else σ[j]?
  | [], j => by simp [L2.wipe]
  | v :: vs, j => by
    unfold L2.wipe
    rw [List.getElem?_set, L2.wipe_length, wipe_get σ vs j]
    by_cases e : v = j
    · subst e; simp
    · rw [if_neg e]
      have : (j ∈ v :: vs) ↔ j ∈ vs := by simp [Ne.symm e]
      simp only [this]
theorem wipe_set {σ : L2.St} {vs : List Nat} {i : Nat} {v : Option V} (h : i ∈ vs) : L2.wipe (σ.set i v) vs = L2.wipe σ vs := by
  apply List.ext_getElem?
  intro j
  rw [wipe_get, wipe_get, List.length_set]
  by_cases e : j ∈ vs
  · rw [if_pos e, if_pos e]
  · rw [if_neg e, if_neg e, List.getElem?_set_ne (fun z : i = j => e (by rw [← z]; exact h))]
theorem wipe_puts {vs : List Nat} : ∀ {is : List Nat} {ws : List V} {σ : L2.St}, (∀ i ∈ is, i ∈ vs) → L2.wipe (putsV σ is ws) vs = L2.wipe σ vs
  | [], ws, σ, _ => by simp [putsV]
  | i :: is, [], σ, _ => by simp [putsV]
  | i :: is, w :: ws, σ, h => by
    have : putsV σ (i :: is) (w :: ws) = putsV (σ.set i (some w)) is ws := rfl
    rw [this, wipe_puts (fun j hj => h j (List.mem_cons_of_mem _ hj)), wipe_set (h i List.mem_cons_self)]
theorem wipe_idem (σ : L2.St) (vs : List Nat) : L2.wipe (L2.wipe σ vs) vs = L2.wipe σ vs := by
  apply List.ext_getElem?
  intro j
  rw [wipe_get, wipe_get, L2.wipe_length]
  by_cases e : j ∈ vs
  · rw [if_pos e, if_pos e]
  · rw [if_neg e, if_neg e]
/-- what comes at a turn -/
def YR (W : Wd) (μ ν : List Addr) (H : Hp) (pr : Bool) (d : D) (x : V) (H' : Hp) : Prop :=
  if pr = true then ∃ T ys es, d = .tup es ∧ x = .ref T ∧ H T = none ∧ H' = upd H T (.tup ys) ∧ VRs W μ ν H es ys else H' = H ∧ VR W μ ν H d x
/-- a target takes what comes -/
theorem bind_snd {W : Wd} {μ ν : List Addr} {H H' : Hp} {S : Store} {ρ ρ1 : Env} {σ : L2.St} {pr : Bool} {tg : Tg} {d : D} {x : V} {Q : L2.St → Hp → Prop} (st : StR W μ ν S H) (er : ER W μ ν H ρ σ) (y : YR W μ ν H pr d x H') (h : bindTo pr tg d ρ = some ρ1)
    (q : ∀ σ', Ext μ μ H H' → (Fine W.K H' → StR W μ ν S H' ∧ ER W μ ν H' ρ1 σ') → (∀ vs, (∀ i ∈ tg.slots, i ∈ vs) → L2.wipe σ' vs = L2.wipe σ vs) → Q σ' H') : gOf W.K tg x σ H' Q := by
  cases tg with
  | nm i =>
    simp only [bindTo] at h
    split at h
    · cases h
    · rename_i hp
      cases h
      unfold YR at y
      rw [if_neg hp] at y
      obtain ⟨rfl, r⟩ := y
      exact q _ (Ext.refl _ _) (fun _ => ⟨st, er.set i r⟩) fun vs hv => wipe_set (hv i (by simp [Tg.slots]))
  | tup is =>
    simp only [bindTo] at h
    split at h
    · rename_i es
      split at h
      · rename_i hl
        cases h
        unfold YR at y
        split at y
        · obtain ⟨T, ys, es', ed, rfl, hT, rfl, r⟩ := y
          cases ed
          refine ⟨T, ys, rfl, .inl (.inl upd_same), by rw [← r.length]; exact hl, by rw [← r.length]; exact hl, q _ (Ext.laid hT) (fun f => ?_) fun vs hv => wipe_puts hv⟩
          have st2 := st.laid hT f
          exact ⟨st2, (er.setAll is r).ext (Ext.laid hT) st2.trk⟩
        · obtain ⟨rfl, r⟩ := y
          obtain ⟨a, vs, rfl, ta, na, r⟩ := r
          exact ⟨a, vs, rfl, ta.sq, by rw [← r.length]; exact hl, by rw [← r.length]; exact hl, q _ (Ext.refl _ _) (fun _ => ⟨st, er.setAll is r⟩) fun vs hv => wipe_puts hv⟩
      · cases h
    · cases h
theorem PGfine {X : Cx} {tg : Expr} {g : TG} (h : PG X tg g) : PG X tg (fun v σ H Q => Fine X.K H → g v σ H fun σ' H' => Fine X.K H' → Q σ' H') :=
  ⟨fun pins s σ H v u Q I r q => thn (h.run pins s σ H v u _ I r (q (fine_of I))) fun _ s' ⟨σ', H', I', z⟩ => ⟨σ', H', I', z (fine_of I')⟩⟩
/-! ### how what is walked goes on -/
structure Goes (W : Wd) (J : It) (An : Hp → Prop) (ik : IK) (ds : List D) (us : List V) (xs : List D) : Prop where
  go : ∀ (i : Nat) (μ ν : List Addr) (S : Store) (H : Hp), StR W μ ν S H → An H → VRs W μ ν H ds us → walkOf S ik ds = some xs → i < xs.length → J.go i H
  stop : ∀ (μ ν : List Addr) (S : Store) (H : Hp), StR W μ ν S H → An H → VRs W μ ν H ds us → walkOf S ik ds = some xs → J.stop xs.length H
  new : ∀ (i : Nat) (H : Hp) (p : Addr) (o : HO), H p = none → (J.go i H → J.go i (upd H p o)) ∧ (J.stop i H → J.stop i (upd H p o))
  same : ∀ (i : Nat) (H : Hp) (x : V) (H' : Hp), J.yld i H x H' → H' = H ∨ ∃ T vs, H T = none ∧ H' = upd H T (.tup vs)
  yld : ∀ (i : Nat) (μ ν : List Addr) (S : Store) (H : Hp) (d : D) (x : V) (H' : Hp), StR W μ ν S H → An H → VRs W μ ν H ds us → walkOf S ik ds = some xs → xs[i]? = some d → J.yld i H x H' → YR W μ ν H (pairK ik) d x H'
def iR (W : Wd) (ρ : Env) (S : Store) (ds : List D) (S1 : Store) (ik : IK) (xs : List D) : TI := fun σ H R => ∃ μ ν, StR W μ ν S H ∧ ER W μ ν H ρ σ ∧
  ∀ J An H' μ' us, Ext μ μ' H H' → StR W μ' ν S1 H' → VRs W μ' ν H' ds us → An H' → (∀ μ μ' H H', Ext μ μ' H H' → An H → An H') → Goes W J An ik ds us xs → R J H'
theorem PIimp {X : Cx} {tg iter : Expr} {wi wi' : TI} (h : PI X tg iter wi) (i : ∀ σ H R, wi' σ H R → wi σ H R) : PI X tg iter wi' := ⟨fun pins s σ H R I q => h.run pins s σ H R I (i σ H R q)⟩
/-- behind the reading the state is fine -/
theorem PIfine {X : Cx} {tg iter : Expr} {wi : TI} (h : PI X tg iter wi) : PI X tg iter (fun σ H R => wi σ H fun J H' => Fine X.K H' → R J H') := ⟨fun pins s σ H R I q => thn (h.run pins s σ H _ I q) fun v s1 h1 => thn h1 fun itv s2 ⟨it, fp, tn, J, H', e, I', T, st, f, r⟩ => ⟨it, fp, tn, J, H', e, I', T, st, f, r (fine_of I')⟩⟩
theorem SqL.new {K : PySem.W.Frag} {H : Hp} {p a : Addr} {o : HO} {xs : List V} (hp : H p = none) (h : SqL K H a xs) : SqL K (upd H p o) a xs := by
  rcases h with (h | ⟨o', h⟩) | h
  · exact .inl (.inl (by rw [upd_ne (ne_of_none h hp)]; exact h))
  · exact .inl (.inr ⟨o', by rw [upd_ne (ne_of_none h hp)]; exact h⟩)
  · exact .inr h
theorem SqT.new {K : PySem.W.Frag} {H : Hp} {p a : Addr} {o : HO} {xs : List V} (hp : H p = none) (h : SqT K H a xs) : SqT K (upd H p o) a xs := by
  rcases h with (h | ⟨o', h⟩) | h
  · exact .inl (.inl (by rw [upd_ne (ne_of_none h hp)]; exact h))
  · exact .inl (.inr ⟨o', by rw [upd_ne (ne_of_none h hp)]; exact h⟩)
  · exact .inr h
theorem Sk.hold_new {K : PySem.W.Frag} {H : Hp} {p : Addr} {o : HO} {xs : List V} {k : Sk} (hp : H p = none) (h : k.hold K H xs) : k.hold K (upd H p o) xs := by
  cases k with
  | l a => exact SqL.new hp h
  | t a => exact SqT.new hp h
  | s x => exact h
/-- a source's things -/
theorem src_of {W : Wd} {d : D} {u : V} {μ0 ν0 : List Addr} {S0 : Store} {H0 : Hp} {xs0 : List D} (st0 : StR W μ0 ν0 S0 H0) (r0 : VR W μ0 ν0 H0 d u) (h0 : seqOf S0 d = some xs0) :
    ∃ k : Sk, u = k.val ∧ ∀ (μ ν : List Addr) (S : Store) (H : Hp) (xs : List D), StR W μ ν S H → VR W μ ν H d u → seqOf S d = some xs → ∃ ws, k.hold W.K H ws ∧ VRs W μ ν H xs ws := by
  cases d with
  | str x =>
    obtain ⟨rfl, kk⟩ := r0
    refine ⟨.s ⟨x.toArray⟩, rfl, fun μ ν S H xs st r h => ?_⟩
    cases h
    refine ⟨_, rfl, ?_⟩
    clear h0 st0 r
    show VRs W μ ν H (signsOf x) ((⟨x.toArray⟩ : Str).cps.toList.map fun c => V.str ⟨#[c]⟩)
    unfold signsOf
    show VRs W μ ν H (x.map fun c => D.str [c]) (x.map fun c => V.str ⟨#[c]⟩)
    induction x with
    | nil => exact .nil
    | cons c cs ih => exact .cons ⟨rfl, fun b hb => by simp at hb; subst hb; exact kk _ List.mem_cons_self⟩ (ih fun b hb => kk b (List.mem_cons_of_mem _ hb))
  | tup ds =>
    obtain ⟨a, vs, rfl, _⟩ := r0
    refine ⟨.t a, rfl, fun μ ν S H xs st r h => ?_⟩
    cases h
    obtain ⟨a', vs', e, t, _, r⟩ := r
    cases e
    exact ⟨vs', t.sq, r⟩
  | lst ds =>
    obtain ⟨a, vs, rfl, _⟩ := r0
    refine ⟨.l a, rfl, fun μ ν S H xs st r h => ?_⟩
    cases h
    obtain ⟨a', vs', e, t, _, _, r⟩ := r
    cases e
    exact ⟨vs', .inl t, r⟩
  | ref k =>
    obtain ⟨a, _, rfl⟩ := r0
    refine ⟨.l a, rfl, fun μ ν S H xs st r h => ?_⟩
    simp only [seqOf] at h
    split at h
    · rename_i es hs
      cases h
      obtain ⟨a', vs', e, _, t, r⟩ := lst_at st r hs
      cases e
      exact ⟨vs', .inl (.inl t), r⟩
    · cases h
  | _ => cases h0
theorem enum_get : ∀ (ds : List D) (k i : Nat), (enumFrom k ds)[i]? = (ds[i]?).map fun d => .tup [.int ((k + i : Nat) : Int), d]
  | [], k, i => by simp [enumFrom]
  | d :: ds, k, 0 => by simp [enumFrom]
  | d :: ds, k, i + 1 => by
    have h : (enumFrom k (d :: ds))[i + 1]? = (enumFrom (k + 1) ds)[i]? := rfl
    rw [h, enum_get ds (k + 1) i, show (d :: ds)[i + 1]? = ds[i]? from rfl, show k + 1 + i = k + (i + 1) by omega]
theorem enum_len : ∀ (ds : List D) (k : Nat), (enumFrom k ds).length = ds.length
  | [], _ => rfl
  | d :: ds, k => by simp [enumFrom, enum_len ds (k + 1)]
theorem zip_get : ∀ (as bs : List D) (i : Nat) (z : D), (zipD as bs)[i]? = some z → ∃ a b, as[i]? = some a ∧ bs[i]? = some b ∧ z = .tup [a, b]
  | [], _, i, z, h => by simp [zipD] at h
  | _ :: _, [], i, z, h => by simp [zipD] at h
  | a :: as, b :: bs, 0, z, h => by simp [zipD] at h; exact ⟨a, b, rfl, rfl, h.symm⟩
  | a :: as, b :: bs, i + 1, z, h => zip_get as bs i z (by simpa [zipD] using h)
theorem zip_len : ∀ (as bs : List D), (zipD as bs).length = min as.length bs.length
  | [], bs => by simp [zipD]
  | _ :: _, [] => by simp [zipD]
  | a :: as, b :: bs => by simp [zipD, zip_len as bs]
section
variable {X : Cx} {tg iter : Expr} {ρ : Env} {S S1 : Store} {d : D} {ds xs : List D}
/-- a thing itself is walked -/
theorem pi_seq (he : PE X iter (rE (Cx.W X) ρ S d S1)) (h : seqOf S1 d = some xs) : PI X tg iter (iR (Cx.W X) ρ S [d] S1 .seq xs) := by
  have key : ∀ (J : It) (k : Sk) (u : V), (∀ i H, J.go i H ↔ ∃ ws, k.hold X.K H ws ∧ i < ws.length) → (∀ i H, (∃ ws, k.hold X.K H ws ∧ i = ws.length) → J.stop i H) →
      (∀ i H x H', J.yld i H x H' → H' = H ∧ ∀ ws, k.hold X.K H ws → ws[i]? = some x) → (∀ i H (p : Addr) (o : HO), H p = none → J.stop i H → J.stop i (upd H p o)) →
      (∀ (μ ν : List Addr) (S : Store) (H : Hp) (xs : List D), StR (Cx.W X) μ ν S H → VR (Cx.W X) μ ν H d u → seqOf S d = some xs → ∃ ws, k.hold X.K H ws ∧ VRs (Cx.W X) μ ν H xs ws) → Goes (Cx.W X) J (fun _ => True) .seq [d] [u] xs := by
    intro J k u h1 h2 h3 h5 h4
    refine ⟨fun i μ ν S H st _ r e hi => ?_, fun μ ν S H st _ r e => ?_, fun i H p o hp => ⟨fun q => ?_, h5 i H p o hp⟩, fun i H x H' y => .inl (h3 i H x H' y).1, fun i μ ν S H d' x H' st _ r e hd y => ?_⟩
    rotate_left 2
    · obtain ⟨ws, q1, q2⟩ := (h1 i H).mp q
      exact (h1 i _).mpr ⟨ws, Sk.hold_new hp q1, q2⟩
    rotate_left 1
    · obtain ⟨u', eu, r⟩ := r.one
      cases eu
      obtain ⟨ws, q1, q2⟩ := h4 μ ν S H xs st r e
      exact (h1 i H).mpr ⟨ws, q1, by rw [← q2.length]; exact hi⟩
    · obtain ⟨u', eu, r⟩ := r.one
      cases eu
      obtain ⟨ws, q1, q2⟩ := h4 μ ν S H xs st r e
      exact h2 _ H ⟨ws, q1, q2.length⟩
    · obtain ⟨u', eu, r⟩ := r.one
      cases eu
      obtain ⟨ws, q1, q2⟩ := h4 μ ν S H xs st r e
      obtain ⟨e1, e2⟩ := h3 i H x H' y
      obtain ⟨v, g1, g2⟩ := q2.get hd
      rw [e2 ws q1] at g1
      cases g1
      show H' = H ∧ _
      exact ⟨e1, g2⟩
  cases d with
  | str x =>
    refine PIimp (PIfine (pi_str he)) fun σ H R q => ?_
    obtain ⟨μ, ν, st, er, q⟩ := q
    refine ⟨μ, ν, st, er, fun v H' μ' x' st' r => ?_⟩
    have r' := r
    obtain ⟨rfl, kk⟩ := r
    obtain ⟨k, hk, hh⟩ := src_of st' r' h
    refine ⟨_, rfl, fun f => q _ (fun _ => True) H' μ' _ x' st' (.cons r' .nil) trivial (fun _ _ _ _ _ h => h) (key _ (.s ⟨x.toArray⟩) _ (fun i H => ?_) (fun i H ⟨ws, e1, e2⟩ => ?_) (fun i H v H' y => ?_) (fun i H p o hp q => q) fun μ ν S H xs st r e => ?_)⟩
    · constructor
      · intro (hi : i < x.toArray.size)
        exact ⟨_, rfl, by simpa using hi⟩
      · rintro ⟨ws, rfl, hi⟩
        show i < x.toArray.size
        simpa using hi
    · show x.toArray.size ≤ i
      rw [show ws = _ from e1] at e2
      simp at e2
      simp [e2]
    · obtain ⟨e1, c, hc, rfl⟩ := y
      refine ⟨e1, fun ws hw => ?_⟩
      obtain rfl : ws = _ := hw
      have hc : x[i]? = some c := by simpa using hc
      simp [hc]
    · cases k with
      | s y => cases hk; exact hh μ ν S H xs st r e
      | l a => cases hk
      | t a => cases hk
  | tup es =>
    refine PIimp (PIfine (pi_tup he)) fun σ H R q => ?_
    obtain ⟨μ, ν, st, er, q⟩ := q
    refine ⟨μ, ν, st, er, fun v H' μ' x' st' r => ?_⟩
    have r' := r
    obtain ⟨a, vs, rfl, ta, na, r⟩ := r
    refine ⟨a, rfl, ⟨vs, ta.sq⟩, fun f => q _ (fun _ => True) H' μ' _ x' st' (.cons r' .nil) trivial (fun _ _ _ _ _ h => h) (key _ (.t a) _ (fun i H => ?_) (fun i H ⟨ws, e1, e2⟩ => ⟨ws, e1, by omega⟩) (fun i H v H' y => y) (fun i H p o hp ⟨ws, q1, q2⟩ => ⟨ws, SqT.new hp q1, q2⟩) fun μ ν S H xs st r e => ?_)⟩
    · constructor
      · rintro ⟨ws, v, h1, h2⟩
        exact ⟨ws, h1, (List.getElem?_eq_some_iff.mp h2).1⟩
      · rintro ⟨ws, h1, h2⟩
        exact ⟨ws, ws[i], h1, List.getElem?_eq_getElem h2⟩
    · cases e
      obtain ⟨a', vs', e2, t, _, r⟩ := r
      cases e2
      exact ⟨vs', t.sq, r⟩
  | lst es =>
    refine PIimp (PIfine (pi_list he)) fun σ H R q => ?_
    obtain ⟨μ, ν, st, er, q⟩ := q
    refine ⟨μ, ν, st, er, fun v H' μ' x' st' r => ?_⟩
    have r' := r
    obtain ⟨a, vs, rfl, ta, na, nn, r⟩ := r
    refine ⟨a, rfl, ⟨vs, .inl ta⟩, fun f => q _ (fun _ => True) H' μ' _ x' st' (.cons r' .nil) trivial (fun _ _ _ _ _ h => h) (key _ (.l a) _ (fun i H => ?_) (fun i H ⟨ws, e1, e2⟩ => ⟨ws, e1, by omega⟩) (fun i H v H' y => y) (fun i H p o hp ⟨ws, q1, q2⟩ => ⟨ws, SqL.new hp q1, q2⟩) fun μ ν S H xs st r e => ?_)⟩
    · constructor
      · rintro ⟨ws, v, h1, h2⟩
        exact ⟨ws, h1, (List.getElem?_eq_some_iff.mp h2).1⟩
      · rintro ⟨ws, h1, h2⟩
        exact ⟨ws, ws[i], h1, List.getElem?_eq_getElem h2⟩
    · cases e
      obtain ⟨a', vs', e2, t, _, _, r⟩ := r
      cases e2
      exact ⟨vs', .inl t, r⟩
  | ref k =>
    simp only [seqOf] at h
    split at h
    · rename_i es hs
      cases h
      refine PIimp (PIfine (pi_list he)) fun σ H R q => ?_
      obtain ⟨μ, ν, st, er, q⟩ := q
      refine ⟨μ, ν, st, er, fun v H' μ' x' st' r => ?_⟩
      have r' := r
      obtain ⟨a, vs, rfl, _, ta, _⟩ := lst_at st' r hs
      refine ⟨a, rfl, ⟨vs, .inl (.inl ta)⟩, fun f => q _ (fun _ => True) H' μ' _ x' st' (.cons r' .nil) trivial (fun _ _ _ _ _ h => h) (key _ (.l a) _ (fun i H => ?_) (fun i H ⟨ws, e1, e2⟩ => ⟨ws, e1, by omega⟩) (fun i H v H' y => y) (fun i H p o hp ⟨ws, q1, q2⟩ => ⟨ws, SqL.new hp q1, q2⟩) fun μ ν S H xs st r e => ?_)⟩
      · constructor
        · rintro ⟨ws, v, h1, h2⟩
          exact ⟨ws, h1, (List.getElem?_eq_some_iff.mp h2).1⟩
        · rintro ⟨ws, h1, h2⟩
          exact ⟨ws, ws[i], h1, List.getElem?_eq_getElem h2⟩
      · simp only [seqOf] at e
        split at e
        · rename_i es hs
          cases e
          obtain ⟨a', vs', e2, _, t, r⟩ := lst_at st r hs
          cases e2
          exact ⟨vs', .inl (.inl t), r⟩
        · cases e
    · cases h
  | _ => cases h
theorem upTo_len (lo : Int) (n : Nat) : (upTo lo n).length = n := by simp [upTo]
theorem upTo_get {lo : Int} {n i : Nat} {d : D} (h : (upTo lo n)[i]? = some d) : d = .int (lo + (i : Nat)) := by
  have hi : i < n := by rw [← upTo_len lo n]; exact (List.getElem?_eq_some_iff.mp h).1
  unfold upTo at h
  rw [List.getElem?_map, List.getElem?_range hi] at h
  simpa using h.symm
theorem goes_range {W : Wd} {lo : Int} {n : Nat} {us : List V} (hw : ∀ S, walkOf S .range ds = some (upTo lo n)) : Goes W (Itr lo n) (fun _ => True) .range ds us (upTo lo n) := by
  refine ⟨fun i μ ν S H st _ r e hi => ?_, fun μ ν S H st _ r e => ?_, fun i H p o hp => ⟨fun q => q, fun q => q⟩, fun i H x H' y => .inl y.1, fun i μ ν S H d' x H' st _ r e hd y => ?_⟩
  · rw [upTo_len] at hi; exact hi
  · rw [upTo_len]; exact Nat.le_refl _
  · obtain ⟨e1, e2⟩ := y
    show H' = H ∧ _
    rw [upTo_get hd]
    exact ⟨e1, e2⟩
theorem pi_rng1 {a : Expr} {p pos : Pos} (hg : Gl X "range") (hm : X.mg "range" = none) (ha : PA X [a] (rEs (Cx.W X) ρ S ds S1)) (hs : starEach [a] X.env = [(false, eval a X.env)]) {j : Int} (hd : ds = [.int j]) (h : walkOf S1 .range ds = some xs) :
    PI X tg (.Call (.Name "range" p) [a] [] pos) (iR (Cx.W X) ρ S ds S1 .range xs) := by
  subst hd
  simp only [walkOf] at h
  split at h
  · rename_i hj
    cases h
    refine PIimp (PIfine (pi_range1 hg hm ha hs)) fun σ H R q => ?_
    obtain ⟨μ, ν, st, er, q⟩ := q
    refine ⟨μ, ν, st, er, fun vs H' μ' x' st' r => ?_⟩
    obtain ⟨v, rfl, rfl⟩ := r.one
    exact ⟨j, rfl, hj.1, hj.2, fun f => q _ (fun _ => True) H' μ' _ x' st' r trivial (fun _ _ _ _ _ h => h) (goes_range fun S => by simp only [walkOf]; rw [if_pos hj])⟩
  · cases h
theorem pi_rng2 {a b : Expr} {p pos : Pos} (hg : Gl X "range") (hm : X.mg "range" = none) (ha : PA X [a, b] (rEs (Cx.W X) ρ S ds S1)) (hs : starEach [a, b] X.env = [(false, eval a X.env), (false, eval b X.env)]) (hs2 : starEach [b] X.env = [(false, eval b X.env)]) {i j : Int}
    (hd : ds = [.int i, .int j]) (h : walkOf S1 .range ds = some xs) : PI X tg (.Call (.Name "range" p) [a, b] [] pos) (iR (Cx.W X) ρ S ds S1 .range xs) := by
  subst hd
  simp only [walkOf] at h
  split at h
  · rename_i hj
    cases h
    refine PIimp (PIfine (pi_range2 hg hm ha hs hs2)) fun σ H R q => ?_
    obtain ⟨μ, ν, st, er, q⟩ := q
    refine ⟨μ, ν, st, er, fun vs H' μ' x' st' r => ?_⟩
    obtain ⟨v, w, rfl, rfl, rfl⟩ := r.two
    exact ⟨i, j, rfl, hj, fun f => q _ (fun _ => True) H' μ' _ x' st' r trivial (fun _ _ _ _ _ h => h) (goes_range fun S => by simp only [walkOf]; rw [if_pos hj])⟩
  · cases h
theorem pi_enm {a : Expr} {p pos tpos : Pos} {elts : List Expr} {kk : Nat} (hg : Gl X "enumerate") (hm : X.mg "enumerate" = none) (ha : PA X [a] (rEs (Cx.W X) ρ S [d] S1)) (hs : starEach [a] X.env = (false, eval a X.env) :: starEach [] X.env)
    (h : walkOf S1 .enum [d] = some xs) : PI X (.Tuple elts kk tpos) (.Call (.Name "enumerate" p) [a] [] pos) (iR (Cx.W X) ρ S [d] S1 .enum xs) := by
  obtain ⟨ys, h1, rfl⟩ := Option.map_eq_some_iff.mp (show (seqOf S1 d).map (enumFrom 0) = some xs from h)
  refine PIimp (PIfine (pi_enumK hg hm ha hs)) fun σ H R q => ?_
  obtain ⟨μ, ν, st, er, q⟩ := q
  refine ⟨μ, ν, st, er, fun vs H' μ' x' st' r => ?_⟩
  obtain ⟨v, rfl, rv⟩ := r.one
  obtain ⟨k, rfl, hk⟩ := src_of st' rv h1
  obtain ⟨ws, h2, h3⟩ := hk _ _ _ _ _ st' rv h1
  have at_ : ∀ (μ ν : List Addr) (S : Store) (H : Hp), StR (Cx.W X) μ ν S H → VRs (Cx.W X) μ ν H [d] [k.val] → walkOf S .enum [d] = some (enumFrom 0 ys) → ∃ zs ws, k.hold X.K H ws ∧ VRs (Cx.W X) μ ν H zs ws ∧ enumFrom 0 zs = enumFrom 0 ys := fun μ ν S H st r e => by
    obtain ⟨u, eu, r⟩ := r.one
    cases eu
    obtain ⟨zs, e1, e2⟩ := Option.map_eq_some_iff.mp (show (seqOf S d).map (enumFrom 0) = some _ from e)
    obtain ⟨ws, q1, q2⟩ := hk μ ν S H zs st r e1
    exact ⟨zs, ws, q1, q2, e2⟩
  refine ⟨k, ws, rfl, h2, fun f => q _ (fun _ => True) H' μ' _ x' st' r trivial (fun _ _ _ _ _ h => h) ⟨fun i μ ν S H st _ r e hi => ?_, fun μ ν S H st _ r e => ?_, fun i H p o hp => ⟨fun ⟨ws, q1, q2⟩ => ⟨ws, Sk.hold_new hp q1, q2⟩, fun ⟨ws, q1, q2⟩ => ⟨ws, Sk.hold_new hp q1, q2⟩⟩, fun i H x H' ⟨T, vs, _, q1, q2, _⟩ => .inr ⟨T, vs, q1, q2⟩, fun i μ ν S H d' x H' st _ r e hd y => ?_⟩⟩
  · obtain ⟨zs, ws, q1, q2, q3⟩ := at_ μ ν S H st r e
    refine ⟨ws, q1, ?_⟩
    rw [← q3, enum_len, q2.length] at hi
    exact hi
  · obtain ⟨zs, ws, q1, q2, q3⟩ := at_ μ ν S H st r e
    exact ⟨ws, q1, by rw [← q3, enum_len, q2.length]⟩
  · obtain ⟨zs, ws, q1, q2, q3⟩ := at_ μ ν S H st r e
    obtain ⟨T, vs, rfl, hT, rfl, x, rfl, hx⟩ := y
    rw [← q3, enum_get] at hd
    obtain ⟨z, hz, rfl⟩ := Option.map_eq_some_iff.mp hd
    obtain ⟨v, g1, g2⟩ := q2.get hz
    rw [hx ws q1] at g1
    cases g1
    show ∃ _, _
    exact ⟨T, _, _, rfl, rfl, hT, rfl, .cons (by simp [VR]) (.cons g2 .nil)⟩
theorem pi_zip2 {a b : Expr} {p pos tpos : Pos} {elts : List Expr} {kk : Nat} {d2 : D} (hg : Gl X "zip") (hm : X.mg "zip" = none) (ha : PA X [a, b] (rEs (Cx.W X) ρ S [d, d2] S1)) (hs : starEach [a, b] X.env = (false, eval a X.env) :: starEach [b] X.env)
    (hpl : (backTo pos (starEach [b] X.env)).any (·.1) = false) (h : walkOf S1 .zip [d, d2] = some xs) : PI X (.Tuple elts kk tpos) (.Call (.Name "zip" p) [a, b] [] pos) (iR (Cx.W X) ρ S [d, d2] S1 .zip xs) := by
  simp only [walkOf] at h
  split at h
  · rename_i as bs ea eb
    cases h
    refine PIimp (PIfine (pi_zipK hg hm ha hs hpl)) fun σ H R q => ?_
    obtain ⟨μ, ν, st, er, q⟩ := q
    refine ⟨μ, ν, st, er, fun vs H' μ' x' st' r => ?_⟩
    obtain ⟨v1, v2, rfl, rv1, rv2⟩ := r.two
    obtain ⟨k1, rfl, hk1⟩ := src_of st' rv1 ea
    obtain ⟨k2, rfl, hk2⟩ := src_of st' rv2 eb
    obtain ⟨ws1, h2, h3⟩ := hk1 _ _ _ _ _ st' rv1 ea
    obtain ⟨ws2, h4, h5⟩ := hk2 _ _ _ _ _ st' rv2 eb
    have at_ : ∀ (μ ν : List Addr) (S : Store) (H : Hp), StR (Cx.W X) μ ν S H → VRs (Cx.W X) μ ν H [d, d2] [k1.val, k2.val] → walkOf S .zip [d, d2] = some (zipD as bs) →
        ∃ zs ws zs2 ws2, k1.hold X.K H ws ∧ VRs (Cx.W X) μ ν H zs ws ∧ k2.hold X.K H ws2 ∧ VRs (Cx.W X) μ ν H zs2 ws2 ∧ zipD zs zs2 = zipD as bs := fun μ ν S H st r e => by
      obtain ⟨u1, u2, eu, r1, r2⟩ := r.two
      cases eu
      simp only [walkOf] at e
      split at e
      · rename_i zs zs2 e1 e2
        obtain ⟨ws, q1, q2⟩ := hk1 μ ν S H zs st r1 e1
        obtain ⟨ws2, q3, q4⟩ := hk2 μ ν S H zs2 st r2 e2
        exact ⟨zs, ws, zs2, ws2, q1, q2, q3, q4, by simpa using e⟩
      · cases e
    refine ⟨k1, k2, ws1, ws2, rfl, h2, h4, fun f => q _ (fun _ => True) H' μ' _ x' st' r trivial (fun _ _ _ _ _ h => h) ⟨fun i μ ν S H st _ r e hi => ?_, fun μ ν S H st _ r e => ?_, fun i H p o hp => ⟨fun ⟨ws, ws2, q1, q2, q3⟩ => ⟨ws, ws2, Sk.hold_new hp q1, Sk.hold_new hp q2, q3⟩, fun ⟨ws, ws2, q1, q2, q3⟩ => ⟨ws, ws2, Sk.hold_new hp q1, Sk.hold_new hp q2, q3⟩⟩, fun i H x H' ⟨T, vs, _, q1, q2, _⟩ => .inr ⟨T, vs, q1, q2⟩, fun i μ ν S H d' x H' st _ r e hd y => ?_⟩⟩
    · obtain ⟨zs, ws, zs2, ws2, q1, q2, q3, q4, q5⟩ := at_ μ ν S H st r e
      rw [← q5, zip_len, q2.length, q4.length] at hi
      exact ⟨ws, ws2, q1, q3, by omega, by omega⟩
    · obtain ⟨zs, ws, zs2, ws2, q1, q2, q3, q4, q5⟩ := at_ μ ν S H st r e
      exact ⟨ws, ws2, q1, q3, by rw [← q5, zip_len, q2.length, q4.length]⟩
    · obtain ⟨zs, ws, zs2, ws2, q1, q2, q3, q4, q5⟩ := at_ μ ν S H st r e
      obtain ⟨T, vs, rfl, hT, rfl, x, y, rfl, hx, hy⟩ := y
      rw [← q5] at hd
      obtain ⟨a1, b1, g1, g2, rfl⟩ := zip_get _ _ _ _ hd
      obtain ⟨v, g3, g4⟩ := q2.get g1
      obtain ⟨w, g5, g6⟩ := q4.get g2
      rw [hx ws q1] at g3
      rw [hy ws2 q3] at g5
      cases g3
      cases g5
      show ∃ _, _
      exact ⟨T, _, _, rfl, rfl, hT, rfl, .cons g4 (.cons g6 .nil)⟩
  · cases h
end
end Rf
/-! One reading for each expression; comprehensions' turns. -/
namespace Rf
open PySem PySem.Spec PyProof.Rows L2

section
variable (C : Ctx) (W : Wd)
def uE (e : E) : TE := fun σ H Q => ∃ ρ S z S', ev C e ρ S = some (.ok z S') ∧ rE W ρ S z S' σ H Q
def uEs (es : List E) : TA := fun σ H Q => ∃ ρ S z S', evs C es ρ S = some (.ok z S') ∧ rEs W ρ S z S' σ H Q
def uT (c : T) : TT := fun σ H Q => ∃ ρ S z S', evT C c ρ S = some (.ok z S') ∧ rT W ρ S z S' σ H Q
def uTs (cs : List T) : TT := fun σ H Q => ∃ ρ S z S', evTs C cs ρ S = some (.ok z S') ∧ rT W ρ S z S' σ H Q
def uF (e : E) : TE := fun σ H Q => ∃ ρ S ds S', ev C e ρ S = some (.ok (.lst ds) S') ∧ rF W ρ S ds S' σ H Q
end
theorem PE.any {X : Cx} {e : Expr} {t : TE} (h : ∀ σ H Q, t σ H Q → ∃ t', PE X e t' ∧ t' σ H Q) : PE X e t := ⟨fun pins s σ H Q I q => by
  obtain ⟨t', h1, h2⟩ := h σ H Q q
  exact h1.run pins s σ H Q I h2⟩
theorem PT.any {X : Cx} {e : Expr} {t : TT} (h : ∀ σ H Q, t σ H Q → ∃ t', PT X e t' ∧ t' σ H Q) : PT X e t := ⟨fun pins s σ H Q I q => by
  obtain ⟨t', h1, h2⟩ := h σ H Q q
  exact h1.run pins s σ H Q I h2⟩
theorem PA.any {X : Cx} {e : List Expr} {t : TA} (h : ∀ σ H Q, t σ H Q → ∃ t', PA X e t' ∧ t' σ H Q) : PA X e t := ⟨fun pos pins s σ H Q I q => by
  obtain ⟨t', h1, h2⟩ := h σ H Q q
  exact h1.run pos pins s σ H Q I h2⟩
theorem PI.any {X : Cx} {tg e : Expr} {t : TI} (h : ∀ σ H Q, t σ H Q → ∃ t', PI X tg e t' ∧ t' σ H Q) : PI X tg e t := ⟨fun pins s σ H Q I q => by
  obtain ⟨t', h1, h2⟩ := h σ H Q q
  exact h1.run pins s σ H Q I h2⟩
theorem PS.any {X : Cx} {e : Stmt} {t : TS} (h : ∀ D σ H, t D σ H → ∃ t', PS X e t' ∧ t' D σ H) : PS X e t := ⟨fun pins s σ H D I q => by
  obtain ⟨t', h1, h2⟩ := h D σ H q
  exact h1.run pins s σ H D I h2⟩
/-! ### what is kept apart is written -/
theorem Fine.anti {K : PySem.W.Frag} {H : Hp} {T : Addr} {o : HO} (hT : H T = none) (f : Fine K (upd H T o)) : Fine K H := by
  have key : ∀ a, a ≠ T → upd H T o a = H a := fun a h => upd_ne h
  refine ⟨fun a ob e => ?_, fun a xs r => ?_, fun a xs r => ?_⟩
  · have := f.low a ob e
    by_cases h : a = T
    · rw [h, hT]
    · rw [key a h] at this; exact this
  · refine f.ll a xs ?_
    rcases r with r | ⟨q, r⟩
    · exact .inl (by rw [key a (ne_of_none r hT)]; exact r)
    · exact .inr ⟨q, by rw [key a (ne_of_none r hT)]; exact r⟩
  · refine f.tl a xs ?_
    rcases r with r | ⟨q, r⟩
    · exact .inl (by rw [key a (ne_of_none r hT)]; exact r)
    · exact .inr ⟨q, by rw [key a (ne_of_none r hT)]; exact r⟩
theorem Fine.poke {K : PySem.W.Frag} {H : Hp} {p : Addr} {o o' : HO} (f : Fine K H) (hp : H p = some o) (h1 : ∀ xs, o' = .lst xs → xs.length ≤ sizeLine) (h2 : ∀ xs, o' ≠ .tup xs) (h3 : ∀ q u, o' ≠ .frz q u) : Fine K (upd H p o') := by
  refine ⟨fun a ob e => ?_, fun a xs r => ?_, fun a xs r => ?_⟩
  · have := f.low a ob e
    by_cases h : a = p
    · rw [h, hp] at this; cases this
    · rw [upd_ne h]; exact this
  · by_cases h : a = p
    · subst h
      rcases r with r | ⟨q, r⟩
      · rw [upd_same] at r; cases r; exact h1 xs rfl
      · rw [upd_same] at r; cases r; exact absurd rfl (h3 _ _)
    · refine f.ll a xs ?_
      rcases r with r | ⟨q, r⟩
      · exact .inl (by rw [upd_ne h] at r; exact r)
      · exact .inr ⟨q, by rw [upd_ne h] at r; exact r⟩
  · by_cases h : a = p
    · subst h
      rcases r with r | ⟨q, r⟩
      · rw [upd_same] at r; cases r; exact absurd rfl (h2 _)
      · rw [upd_same] at r; cases r; exact absurd rfl (h3 _ _)
    · refine f.tl a xs ?_
      rcases r with r | ⟨q, r⟩
      · exact .inl (by rw [upd_ne h] at r; exact r)
      · exact .inr ⟨q, by rw [upd_ne h] at r; exact r⟩
mutual
theorem VR.poke {W : Wd} {μ ν : List Addr} {H : Hp} {p : Addr} {o : HO} (hn : ∀ q u, H p ≠ some (.frz q u)) : ∀ {d : D} {v : V}, VR W μ (p :: ν) H d v → VR W μ (p :: ν) (upd H p o) d v := fun {d v} h => by
  match d, h with
  | .non, h => exact h
  | .bl b, h => exact h
  | .int i, h => exact h
  | .str x, h => exact h
  | .tup ds, h =>
    obtain ⟨a, vs, e, t, n, r⟩ := h
    refine ⟨a, vs, e, ?_, n, VRs.poke hn r⟩
    rcases t with ⟨q, t, hd⟩ | t
    · exact .inl ⟨q, by rw [upd_ne (fun z : a = p => hn q _ (by rw [← z]; exact t))]; exact t, hd⟩
    · exact .inr t
  | .lst ds, h =>
    obtain ⟨a, vs, e, t, n, m, r⟩ := h
    have ne : a ≠ p := fun z => m (by rw [z]; exact List.mem_cons_self)
    refine ⟨a, vs, e, ?_, n, m, VRs.poke hn r⟩
    rcases t with t | ⟨q, t⟩
    · exact .inl (by rw [upd_ne ne]; exact t)
    · exact .inr ⟨q, by rw [upd_ne ne]; exact t⟩
  | .ref k, h => exact h
  | .glb y, h => exact h
theorem VRs.poke {W : Wd} {μ ν : List Addr} {H : Hp} {p : Addr} {o : HO} (hn : ∀ q u, H p ≠ some (.frz q u)) : ∀ {ds : List D} {vs : List V}, VRs W μ (p :: ν) H ds vs → VRs W μ (p :: ν) (upd H p o) ds vs := fun {ds vs} h => by
  match ds, h with
  | [], h => exact h
  | d :: ds, h =>
    obtain ⟨v, r, e, h1, h2⟩ := h
    exact ⟨v, r, e, VR.poke hn h1, VRs.poke hn h2⟩
end
theorem ER.poke {W : Wd} {μ ν : List Addr} {H : Hp} {ρ : Env} {σ : L2.St} {p : Addr} {o : HO} (hn : ∀ q u, H p ≠ some (.frz q u)) (h : ER W μ (p :: ν) H ρ σ) : ER W μ (p :: ν) (upd H p o) ρ σ := ⟨h.1, fun i d e => by
  obtain ⟨v, h1, h2⟩ := h.2 i d e
  exact ⟨v, h1, h2.poke hn⟩⟩
theorem StR.poke {W : Wd} {μ ν : List Addr} {S : Store} {H : Hp} {p : Addr} {o : HO} (hn : ∀ q u, H p ≠ some (.frz q u)) (h : StR W μ (p :: ν) S H) (ho : Plain o) (f : Fine W.K (upd H p o)) : StR W μ (p :: ν) S (upd H p o) := by
  refine ⟨f, h.len, h.nd, h.dis, fun b hb => ?_, fun i c a e1 e2 => ?_, tabs_upd (fun u e => by obtain ⟨o, q, m⟩ := h.trn p List.mem_cons_self; rw [q] at e; cases e; exact m) h.tab⟩
  · by_cases e : b = p
    · exact ⟨o, by rw [e, upd_same], ho⟩
    · obtain ⟨u, q, m⟩ := h.trn b hb
      exact ⟨u, by rw [upd_ne e]; exact q, m⟩
  · refine (h.cells i c a e1 e2).map (fun d v r => r.poke hn) ?_
    rw [upd_ne]
    intro z
    exact h.dis p List.mem_cons_self (z ▸ List.mem_of_getElem? e2)
theorem Ext.touch {μ μ' : List Addr} {H H' : Hp} {p : Addr} {o : HO} (hp : H p = none) (x : Ext μ μ' H H') : Ext μ μ' H (upd H' p o) :=
  ⟨x.1, fun b u h n m => ⟨by rw [upd_ne (ne_of_none h hp)]; exact (x.2.1 b u h n m).1, (x.2.1 b u h n m).2⟩, fun b q u h => by rw [upd_ne (ne_of_none h hp)]; exact x.2.2 b q u h⟩
/-! ### a list comprehension's turns -/
def lcF (C : Ctx) (pr : Bool) (tg : Tg) (ρ : Env) (elt : E) (cond : List T) (d : D) (S : Store) : RM (Option D) := match bindTo pr tg d ρ with
  | some ρ1 => RM.bind (evTs C cond ρ1 S) fun k S3 => if k then RM.bind (ev C elt ρ1 S3) fun x S4 => some (.ok (some x) S4) else some (.ok none S3)
  | none => none
section
variable {W : Wd} {C : Ctx} {J : It} {An : Hp → Prop} {ik : IK} {ds xs : List D} {us : List V} {ρ : Env} {σ : L2.St} {vs : List Nat} {tg : Tg} {elt ke ve : E} {cond : List T} {μ ν : List Addr} {S1 S5 : Store} {H1 : Hp}
/-- the target's reading, the state fine -/
def gFine (W : Wd) (tg : Tg) : TG := fun v σ H Q => Fine W.K H → gOf W.K tg v σ H fun σ' H' => Fine W.K H' → Q σ' H'
theorem drop_at {α : Type} {l : List α} {i : Nat} (h : i < l.length) : l.drop i = l[i] :: l.drop (i + 1) := List.drop_eq_getElem_cons h
theorem lc_run (G : Goes W J An ik ds us xs) (Ax : ∀ μ μ' H H', Ext μ μ' H H' → An H → An H') (htg : ∀ i ∈ tg.slots, i ∈ vs) (st : StR W μ ν S1 H1) (er : ER W μ ν H1 ρ σ) (rs : VRs W μ ν H1 ds us) (an : An H1) {acc : List D}
    (h : compRun (fun S => walkOf S ik ds == some xs) (lcF C (pairK ik) tg (wipeE ρ vs) elt cond) xs [] S1 = some (.ok acc S5)) {Qd : Hp → Prop} (p : Addr) (hD : H1 p = none)
    (q : ∀ μ' H' ws, Ext μ μ' H1 H' → An H' → StR W μ' (p :: ν) S5 H' → H' p = some (.lst ws) → VRs W μ' (p :: ν) H' acc ws → Qd H') :
    ∃ Wv : Nat → Nat → Hp → Prop, (∃ m, Wv 0 m (upd H1 p (.lst []))) ∧ ∀ i m H, Wv i m H → (J.stop i H ∧ (Fine W.K H → Qd H)) ∨ (J.go i H ∧ ∃ Nx : Hp → Prop, (∀ H', Nx H' → ∃ m', m' < m ∧ Wv (i + 1) m' H') ∧
      ∀ x H', J.yld i H x H' → gFine W tg x (wipe σ vs) H' fun σ2 H2 => wipe σ2 vs = wipe σ vs ∧ uTs C W cond σ2 H2 fun b H3 =>
        if b = true then uE C W elt σ2 H3 fun y H4 => ∃ acc, H4 p = some (.lst acc) ∧ acc.length < sizeLine ∧ Nx (upd H4 p (.lst (acc ++ [y]))) else Nx H3) := by
  have first : ∀ {l : List D} {a : List D} {S : Store}, compRun (fun S => walkOf S ik ds == some xs) (lcF C (pairK ik) tg (wipeE ρ vs) elt cond) l a S = some (.ok acc S5) → walkOf S ik ds = some xs := fun {l a S} e => by
    cases l <;> (unfold compRun at e; split at e <;> first | (rename_i e2; simpa using e2) | cases e)
  let Facts (i : Nat) (H : Hp) : Prop := ∃ accI SI μi ws, Ext μ μi H1 H ∧ An H ∧ StR W μi (p :: ν) SI H ∧ H p = some (.lst ws) ∧ VRs W μi (p :: ν) H accI ws ∧ ER W μi (p :: ν) H ρ σ ∧ VRs W μi (p :: ν) H ds us ∧
    compRun (fun S => walkOf S ik ds == some xs) (lcF C (pairK ik) tg (wipeE ρ vs) elt cond) (xs.drop i) accI SI = some (.ok acc S5)
  refine ⟨fun i m H => (¬ Fine W.K H ∧ i = 0 ∧ m = 0 ∧ (J.go 0 H ∨ J.stop 0 H)) ∨ (m = xs.length - i ∧ i ≤ xs.length ∧ Facts i H), ?_, ?_⟩
  · by_cases f : Fine W.K (upd H1 p (.lst []))
    · have x := Ext.laid (μ := μ) (o := .lst []) hD
      have st2 := st.apart hD (o := .lst []) trivial f
      exact ⟨xs.length, .inr ⟨rfl, Nat.zero_le _, [], S1, μ, [], x, Ax _ _ _ _ x an, st2, upd_same, rfl, (er.apart hD).ext x st2.trk, (rs.apart hD).ext x st2.trk, h⟩⟩
    · refine ⟨0, .inl ⟨f, rfl, rfl, ?_⟩⟩
      by_cases hl : 0 < xs.length
      · exact .inl ((G.new 0 H1 p (.lst []) hD).1 (G.go 0 μ ν S1 H1 st an rs (first h) hl))
      · have e : xs.length = 0 := by omega
        have := G.stop μ ν S1 H1 st an rs (first h)
        rw [e] at this
        exact .inr ((G.new 0 H1 p (.lst []) hD).2 this)
  · rintro i m H (⟨nf, rfl, rfl, z⟩ | ⟨rfl, hi, accI, SI, μi, ws, x, ai, sti, hDi, ri, eri, rsi, hc⟩)
    · rcases z with z | z
      · refine .inr ⟨z, fun _ => False, fun _ h => h.elim, fun v H' y f => absurd ?_ nf⟩
        rcases G.same 0 H v H' y with e | ⟨T, ws, hT, e⟩
        · rw [← e]; exact f
        · rw [e] at f; exact f.anti hT
      · exact .inl ⟨z, fun f => absurd f nf⟩
    · have hw := first hc
      by_cases hlt : i < xs.length
      · refine .inr ⟨G.go i _ _ _ H sti ai rsi hw hlt, Facts (i + 1), fun H' f => ⟨xs.length - (i + 1), by omega, .inr ⟨rfl, hlt, f⟩⟩, fun v H' y f => ?_⟩
        rw [drop_at hlt] at hc
        unfold compRun at hc
        split at hc
        · obtain ⟨o, S2, h1, h2⟩ := bind_ok hc
          unfold lcF at h1
          split at h1
          · rename_i ρ1 hb
            obtain ⟨k, S3, h3, h4⟩ := bind_ok h1
            have yr := G.yld i _ _ _ H xs[i] v H' sti ai rsi hw (List.getElem?_eq_getElem hlt) y
            refine bind_snd sti (eri.wipe vs) yr hb fun σ2 xe hst hwp f2 => ?_
            obtain ⟨st2, er2⟩ := hst f2
            refine ⟨by rw [hwp vs htg, wipe_idem], ρ1, SI, k, S3, h3, μi, p :: ν, st2, er2, fun H3 μ3 x3 st3 => ?_⟩
            have x03 := xe.trans x3
            have nD : p ∉ μi := sti.dis p List.mem_cons_self
            have hD3 : H3 p = some (.lst ws) := (x03.2.1 p _ hDi nD fun _ z => nomatch z).1
            cases k with
            | true =>
              show (if true = true then _ else _)
              rw [if_pos rfl] at h4 ⊢
              obtain ⟨x1, S4, h5, h6⟩ := bind_ok h4
              cases h6
              simp only at h2
              split at h2
              · rename_i hlen
                refine ⟨ρ1, S3, x1, S2, h5, μ3, p :: ν, st3, er2.ext x3 st3.trk, fun v4 H4 μ4 x4 st4 r4 => ?_⟩
                have x04 := x03.trans x4
                have hD4 : H4 p = some (.lst ws) := (x04.2.1 p _ hDi nD fun _ z => nomatch z).1
                have hnf : ∀ o u, H4 p ≠ some (.frz o u) := fun o u z => by rw [hD4] at z; cases z
                have hz : ws.length < sizeLine := by rw [← ri.length, ← line_eq]; exact hlen
                have f4 : Fine W.K (upd H4 p (.lst (ws ++ [v4]))) := st4.fine.poke hD4 (fun xs e => by cases e; simp; omega) (fun _ z => nomatch z) (fun _ _ z => nomatch z)
                have xx : Ext μ μ4 H1 (upd H4 p (.lst (ws ++ [v4]))) := (x.trans x04).touch hD
                exact ⟨ws, hD4, hz, accI ++ [x1], S2, μ4, ws ++ [v4], xx, Ax _ _ _ _ xx an, st4.poke hnf trivial f4, upd_same, ((ri.ext x04 st4.trk).append (.cons r4 .nil)).poke hnf, (eri.ext x04 st4.trk).poke hnf, (rsi.ext x04 st4.trk).poke hnf, h2⟩
              · cases h2
            | false =>
              show (if false = true then _ else _)
              rw [if_neg Bool.false_ne_true] at h4 ⊢
              cases h4
              have xx := x.trans x03
              exact ⟨accI, S2, μ3, ws, xx, Ax _ _ _ _ xx an, st3, hD3, ri.ext x03 st3.trk, eri.ext x03 st3.trk, rsi.ext x03 st3.trk, h2⟩
          · cases h1
        · cases hc
      · have e : i = xs.length := by omega
        subst e
        refine .inl ⟨G.stop _ _ _ H sti ai rsi hw, fun _ => ?_⟩
        rw [List.drop_length] at hc
        unfold compRun at hc
        split at hc
        · cases hc
          exact q μi H ws x ai sti hDi ri
        · cases hc
end
end Rf
/-! List comprehensions are sound. -/
namespace Rf
open PySem PySem.Spec PyProof.Rows L2

/-- what is locked while it is walked -/
def Lk (X : Cx) (μ : List Addr) (S1 : Store) (H1 : Hp) (ik : IK) (ds : List D) (An : Hp → Prop) (HL : Hp) : Prop :=
  (ik ≠ .keys ∧ HL = H1) ∨ ∃ h kvs a kv od, ik = .keys ∧ ds = [.ref h] ∧ S1[h]? = some (.dct kvs) ∧ μ[h]? = some a ∧ H1 a = some (.dK kv) ∧ (∀ o x, X.H_0 a ≠ some (.frz o x)) ∧ HL = upd H1 a (.frz od (.dK kv)) ∧ ∀ H, An H → H a = some (.frz od (.dK kv))
def iRA (X : Cx) (W : Wd) (ρ : Env) (S : Store) (ds : List D) (S1 : Store) (ik : IK) (xs : List D) : TI := fun σ H R => ∃ μ ν, StR W μ ν S H ∧ ER W μ ν H ρ σ ∧
  ∀ J An H1 μ1 us HL, Ext μ μ1 H H1 → StR W μ1 ν S1 H1 → Lk X μ1 S1 H1 ik ds An HL → StR W μ1 ν (lockS S1 ik ds) HL → VRs W μ1 ν HL ds us → ER W μ1 ν HL ρ σ → An HL → (∀ μ μ' H H', Ext μ μ' H H' → An H → An H') → Goes W J An ik ds us xs → R J HL
theorem Lk.ext0 {X : Cx} {μ ν : List Addr} {W : Wd} {S1 : Store} {H1 HL : Hp} {ik : IK} {ds : List D} {An : Hp → Prop} (l : Lk X μ S1 H1 ik ds An HL) : Ext0 μ μ H1 HL := by
  rcases l with ⟨_, rfl⟩ | ⟨h, kvs, a, kv, od, _, _, _, ha, _, _, rfl, _⟩
  · exact ⟨⟨[], by simp⟩, fun b o e n _ => ⟨e, n⟩⟩
  · have hm : a ∈ μ := List.mem_of_getElem? ha
    exact ⟨⟨[], by simp⟩, fun b u e n _ => ⟨by rw [upd_ne (fun z : b = a => n (by rw [z]; exact hm))]; exact e, n⟩⟩
/-- behind the walk it is unlocked -/
theorem Lk.over {X : Cx} {μ μi ν : List Addr} {W : Wd} {S1 S5 S6 : Store} {H1 HL H5 : Hp} {ik : IK} {ds : List D} {An : Hp → Prop} (l : Lk X μ S1 H1 ik ds An HL) (x : Ext μ μi HL H5) (an : An H5) (st : StR W μi ν S5 H5) (h : unlockS S5 ik ds = some S6) :
    ∃ H6, (H6 = H5 ∨ ∃ d od u, H5 d = some (.frz od u) ∧ (∀ o x, X.H_0 d ≠ some (.frz o x)) ∧ H6 = upd H5 d u) ∧ Ext μ μi H1 H6 ∧ StR W μi ν S6 H6 ∧ Ext0 μi μi H5 H6 ∧ ∀ b, b ∉ μi → H6 b = H5 b := by
  rcases l with ⟨hk, rfl⟩ | ⟨i, kvs, a, kv, od, rfl, rfl, hs, ha, h1, hn, rfl, hA⟩
  · have e : S6 = S5 := by
      unfold unlockS at h
      split at h
      · exact absurd rfl hk
      · cases h; rfl
    subst e
    exact ⟨H5, .inl rfl, x, st, ⟨⟨[], by simp⟩, fun b o e n _ => ⟨e, n⟩⟩, fun _ _ => rfl⟩
  · have h5 := hA H5 an
    simp only [unlockS] at h
    split at h
    · rename_i kvs' hs'
      cases h
      have hai : μi[i]? = some a := by
        obtain ⟨⟨t, rfl⟩, _⟩ := x
        rw [List.getElem?_append_left (List.getElem?_eq_some_iff.mp ha).1]; exact ha
      have hm : a ∈ μi := List.mem_of_getElem? hai
      have f6 : Fine W.K (upd H5 a (.dK kv)) := st.fine.poke h5 (fun _ z => nomatch z) (fun _ z => nomatch z) (fun _ _ z => nomatch z)
      have x0 : Ext0 μi μi H5 (upd H5 a (.dK kv)) := ⟨⟨[], by simp⟩, fun b u e n _ => ⟨by rw [upd_ne (fun z : b = a => n (by rw [z]; exact hm))]; exact e, n⟩⟩
      obtain ⟨o', kv', e1, e2⟩ := st.cells i _ a hs' hai
      rw [h5] at e1
      cases e1
      have st6 := st.write0 (c := .dct kvs') hai f6 ⟨kv, upd_same, e2.map fun d v r => VR.ext0 x0 (st.tkw f6) r⟩
      refine ⟨_, .inr ⟨a, od, _, h5, hn, rfl⟩, ⟨x.1, fun b o e n m => ?_, fun b o u e => ?_⟩, st6, x0, fun b hb => upd_ne fun z => hb (by rw [z]; exact hm)⟩
      · have ne : b ≠ a := fun z => n (by rw [z]; exact List.mem_of_getElem? ha)
        have := x.2.1 b o (by rw [upd_ne ne]; exact e) n m
        exact ⟨by rw [upd_ne ne]; exact this.1, this.2⟩
      · have ne : b ≠ a := fun z => by rw [z, h1] at e; cases e
        rw [upd_ne ne]
        exact x.2.2 b o u (by rw [upd_ne ne]; exact e)
    · cases h
def UQ (X : Cx) (P : Hp → Prop) (H' : Hp) : Prop := P H' ∨ ∃ d od u, H' d = some (.frz od u) ∧ (∀ o x, X.H_0 d ≠ some (.frz o x)) ∧ P (upd H' d u)
theorem pe_unl {X : Cx} {e : Expr} {t : TE} (h : PE X e t) : PE X e (fun σ H Q => t σ H fun v H' => UQ X (Q v) H') := ⟨fun pins s σ H Q I q => thn (h.run pins s σ H _ I q) fun u s' ⟨v, H', I', r, z⟩ => by
  rcases z with z | ⟨d, od, w, h1, h2, z⟩
  · exact ⟨v, H', I', r, z⟩
  · exact ⟨v, _, I'.unlock h1 h2, r, z⟩⟩
theorem ps_unl {X : Cx} {e : Stmt} {t : TS} (h : PS X e t) : PS X e (fun D σ H => t { D with nx := fun σ' H' => UQ X (D.nx σ') H' } σ H) := ⟨fun pins s σ H D I q => thn (h.run pins s σ H _ I q) fun f s' z => by
  cases f with
  | next =>
    obtain ⟨σ', H', I', z⟩ := z
    rcases z with z | ⟨d, od, w, h1, h2, z⟩
    · exact ⟨σ', H', I', z⟩
    · exact ⟨σ', _, I'.unlock h1 h2, z⟩
  | brk => exact z
  | cont => exact z
  | ret v => exact z⟩
/-- the value is a dict, which is locked -/
theorem pe_lk {X : Cx} {e : Expr} {t : TE} (h : PE X e t) : PE X e (fun σ H Q => t σ H fun v H1 => ∃ a kv, v = .ref a ∧ H1 a = some (.dK kv) ∧ ∀ od, (∀ o x, X.H_0 a ≠ some (.frz o x)) → Q v (upd H1 a (.frz od (.dK kv)))) :=
  ⟨fun pins s σ H Q I q => thn (h.run pins s σ H _ I q) fun u s' ⟨v, H', I', r, a, kv, e, hd, z⟩ => by
    obtain ⟨od, I2⟩ := I'.lock hd trivial
    exact ⟨v, _, I2, r, z od (I'.nofrz hd trivial)⟩⟩
section
variable {X : Cx} {tg iter : Expr} {ρ : Env} {S S1 : Store} {d : D} {ds xs : List D}
theorem pi_plain {ik : IK} (hk : ik ≠ .keys) (h : PI X tg iter (iR (Cx.W X) ρ S ds S1 ik xs)) : PI X tg iter (iRA X (Cx.W X) ρ S ds S1 ik xs) := PIimp h fun σ H R q => by
  obtain ⟨μ, ν, st, er, q⟩ := q
  have hl : lockS S1 ik ds = S1 := by
    unfold lockS
    split
    · exact absurd rfl hk
    · rfl
  exact ⟨μ, ν, st, er, fun J An H' μ' us x st' r an ax g => q J An H' μ' us H' x st' (.inl ⟨hk, rfl⟩) (by rw [hl]; exact st') r (er.ext x st'.trk) an ax g⟩
theorem KRs.get {W : Wd} {μ ν : List Addr} {H : Hp} : ∀ {kvs : List (D × D)} {kv : List (Key × V)} {i : Nat} {q : Key} {v : V}, KRs W μ ν H kvs kv → kv[i]? = some (q, v) → ∃ k d, kvs[i]? = some (k, d) ∧ keyR k q
  | [], _, _, _, _, h, e => by cases (show _ = [] from h); simp at e
  | (k, d) :: ds, _, 0, q, v, h, e => by
    obtain ⟨q', v', r, rfl, h1, _, _⟩ := h
    simp at e
    exact ⟨k, d, rfl, e.1 ▸ h1⟩
  | (k, d) :: ds, _, i + 1, q, v, h, e => by
    obtain ⟨q', v', r, rfl, _, _, h3⟩ := h
    obtain ⟨k', d', e1, e2⟩ := KRs.get (i := i) h3 (by simpa using e)
    exact ⟨k', d', by simpa using e1, e2⟩
theorem keyR_vr {W : Wd} {μ ν : List Addr} {H : Hp} {k : D} {q : Key} (h : keyR k q) : VR W μ ν H k (kV q) := by
  obtain ⟨h1, h2⟩ := h
  cases k <;> simp only [keyV, reduceCtorEq, Option.some.injEq] at h1
  · subst h1; rfl
  · subst h1; exact ⟨rfl, h2 _ rfl⟩
/-- a dict's keys are walked -/
theorem pi_keysA {h : Nat} {kvs : List (D × D)} (he : PE X iter (rE (Cx.W X) ρ S (.ref h) S1)) (hs : S1[h]? = some (.dct kvs)) : PI X tg iter (iRA X (Cx.W X) ρ S [.ref h] S1 .keys (kvs.map (·.1))) := by
  refine PIimp (PIfine (pi_keys (pe_lk he))) fun σ H R q => ?_
  obtain ⟨μ, ν, st, er, q⟩ := q
  refine ⟨μ, ν, st, er, fun v H1 μ1 x1 st1 r => ?_⟩
  have r' := r
  obtain ⟨a, kv, rfl, ha, h2, h3⟩ := dct_at st1 r hs
  refine ⟨a, kv, rfl, h2, fun od hn => ⟨a, od, rfl, .inl ⟨kv, upd_same, fun f => ?_⟩⟩⟩
  have hm : a ∈ μ1 := List.mem_of_getElem? ha
  have x0 : Ext0 μ1 μ1 H1 (upd H1 a (.frz od (.dK kv))) := ⟨⟨[], by simp⟩, fun b u e n _ => ⟨by rw [upd_ne (fun z : b = a => n (by rw [z]; exact hm))]; exact e, n⟩⟩
  have tk := st1.tkw f
  have stL : StR (Cx.W X) μ1 ν (S1.set h (.lck kvs)) (upd H1 a (.frz od (.dK kv))) := st1.write0 (c := .lck kvs) ha f ⟨od, kv, upd_same, h3.map fun d v r => VR.ext0 x0 tk r⟩
  have hl : lockS S1 .keys [.ref h] = S1.set h (.lck kvs) := by simp only [lockS, hs]
  have at_ : ∀ (μ ν : List Addr) (S : Store) (H : Hp), StR (Cx.W X) μ ν S H → H a = some (.frz od (.dK kv)) → VRs (Cx.W X) μ ν H [.ref h] [.ref a] → walkOf S .keys [.ref h] = some (kvs.map (·.1)) → ∃ kvs', kvs'.map (·.1) = kvs.map (·.1) ∧ KRs (Cx.W X) μ ν H kvs' kv := fun μ ν S H st an r e => by
    obtain ⟨u, eu, r⟩ := r.one
    cases eu
    obtain ⟨a', ha', e2⟩ := r
    cases e2
    simp only [walkOf] at e
    split at e
    · rename_i kvs' hs'
      obtain ⟨o', kv', e1, e2⟩ := st.cells h _ a hs' ha'
      rw [an] at e1
      cases e1
      exact ⟨kvs', by simpa using e, e2⟩
    · cases e
  refine q _ (fun H => H a = some (.frz od (.dK kv))) H1 μ1 [.ref a] _ x1 st1 (.inr ⟨h, kvs, a, kv, od, rfl, rfl, hs, ha, h2, hn, rfl, fun H e => e⟩) (by rw [hl]; exact stL) (.cons ⟨a, ha, rfl⟩ .nil) ⟨er.1, fun i d e => ?_⟩ upd_same (fun μ μ' H H' x e => x.2.2 a _ _ e)
    ⟨fun i μ ν S H st an r e hi => ?_, fun μ ν S H st an r e => ?_, fun i H p o hp => ⟨fun ⟨q1, q2⟩ => ⟨by rw [upd_ne (ne_of_none q1 hp)]; exact q1, q2⟩, fun ⟨q1, q2⟩ => ⟨by rw [upd_ne (ne_of_none q1 hp)]; exact q1, q2⟩⟩, fun i H x H' y => .inl y.1, fun i μ ν S H d' x H' st an r e hd y => ?_⟩
  · have er1 := er.ext x1 st1.trk
    obtain ⟨v, g1, g2⟩ := er1.2 i d e
    exact ⟨v, g1, VR.ext0 x0 tk g2⟩
  · obtain ⟨kvs', e1, e2⟩ := at_ μ ν S H st an r e
    refine ⟨an, ?_⟩
    rw [← e1, List.length_map, KRs.length e2] at hi
    exact hi
  · obtain ⟨kvs', e1, e2⟩ := at_ μ ν S H st an r e
    refine ⟨an, ?_⟩
    rw [← e1, List.length_map, KRs.length e2]
    exact Nat.le_refl _
  · obtain ⟨kvs', e1, e2⟩ := at_ μ ν S H st an r e
    obtain ⟨rfl, k, v, g1, rfl⟩ := y
    obtain ⟨k', d2, g2, g3⟩ := KRs.get e2 g1
    rw [← e1, List.getElem?_map, g2] at hd
    cases hd
    show H' = H' ∧ _
    exact ⟨rfl, keyR_vr g3⟩
end
/-- the reading of what is walked -/
def uI (C : Ctx) (X : Cx) (ik : IK) (its : List E) (tg : Tg) : TI := fun σ H R => ∃ ρ S ds S1 xs, evs C its ρ S = some (.ok ds S1) ∧ walkT (lockS S1 (realK S1 ik ds) ds) (realK S1 ik ds) ds tg = some xs ∧ iRA X (Cx.W X) ρ S ds S1 (realK S1 ik ds) xs σ H R
theorem mapM_len {α β : Type} {f : α → Option β} : ∀ {as : List α} {bs : List β}, as.mapM f = some bs → bs.length = as.length
  | [], bs, h => by cases h; rfl
  | a :: as, bs, h => by
    obtain ⟨b, r, rfl, _, h2⟩ := mapM_cons h
    simp [mapM_len h2]
theorem mapM_mem {α β : Type} {f : α → Option β} : ∀ {as : List α} {bs : List β} {a : α} {b : β}, as.mapM f = some bs → a ∈ as → f a = some b → b ∈ bs
  | [], bs, a, b, _, hm, _ => by cases hm
  | x :: as, bs, a, b, h, hm, e => by
    obtain ⟨y, r, rfl, h1, h2⟩ := mapM_cons h
    rcases List.mem_cons.mp hm with z | hm
    · subst z
      rw [h1] at e
      cases e
      exact List.mem_cons_self
    · exact List.mem_cons_of_mem _ (mapM_mem h2 hm e)
theorem mapM_each {α β : Type} {f : α → Option β} : ∀ {as : List α} {bs : List β} {b : β}, as.mapM f = some bs → b ∈ bs → ∃ a ∈ as, f a = some b
  | [], bs, b, h, hm => by cases h; cases hm
  | x :: as, bs, b, h, hm => by
    obtain ⟨y, r, rfl, h1, h2⟩ := mapM_cons h
    rcases List.mem_cons.mp hm with z | hm
    · exact ⟨x, List.mem_cons_self, by rw [z]; exact h1⟩
    · obtain ⟨a, ha, e⟩ := mapM_each h2 hm
      exact ⟨a, List.mem_cons_of_mem _ ha, e⟩
theorem own_mem {scope : Scope} {x : Str} (h : locB scope x = true) : x ∈ ownOf scope := by
  unfold ownOf
  rcases loc_of h with e | e
  · exact List.mem_map.mpr ⟨(x, .local), List.mem_filter.mpr ⟨PySem.mem_of_lookup e, by simp⟩, rfl⟩
  · exact List.mem_map.mpr ⟨(x, .cell), List.mem_filter.mpr ⟨PySem.mem_of_lookup e, by simp⟩, rfl⟩
theorem tg_slots {C : SC} {scope : Scope} {tgE : Expr} {tg : Tg} {vs : List Nat} (h : tgOf C scope tgE = some tg) (hv : (ownOf scope).mapM (slotOf C.N) = some vs) : ∀ i ∈ tg.slots, i ∈ vs := by
  unfold tgOf at h
  split at h
  · rename_i x p
    split at h
    · rename_i hx
      obtain ⟨i, h1, rfl⟩ := Option.map_eq_some_iff.mp h
      intro j hj
      have hj : j = i := by simpa [Tg.slots] using hj
      rw [hj]
      exact mapM_mem hv (own_mem hx) h1
    · cases h
  · rename_i es k p
    split at h
    · rename_i xs hx
      split at h
      · rename_i ha
        obtain ⟨is, h1, rfl⟩ := Option.map_eq_some_iff.mp h
        intro j hj
        obtain ⟨x, hm, e⟩ := mapM_each h1 hj
        exact mapM_mem hv (own_mem (List.all_eq_true.mp ha x hm)) e
      · cases h
    · cases h
  · cases h
theorem zip_snd {α β : Type} : ∀ {as : List α} {bs : List β}, bs.length = as.length → (as.zip bs).map (·.2) = bs
  | [], [], _ => rfl
  | [], _ :: _, h => by simp at h
  | _ :: _, [], h => by simp at h
  | a :: as, b :: bs, h => by simp [zip_snd (as := as) (bs := bs) (by simpa using h)]
/-- in a comprehension's block the target's names are its own -/
theorem blk_loc {X : Cx} {s : Shared} {H : Hp} {scope : Scope} {cl : List (Str × Addr)} {C : Addr} {fp : List Addr} {x : Str} (h : locB scope x = true) : LocX (X.blk s H scope (compEnvC scope cl C X.env) fp) x := by
  have key : ∀ k, k ≠ NameKind.free → scope.names.lookup x = some k → (compEnvC scope cl C X.env).scope.names.lookup x = some k := fun k hk e => L2.lookup_relS_keep hk e
  rcases loc_of h with e | e
  · exact ⟨.inl (key _ (by decide) e), .inr (key _ (by decide) e)⟩
  · refine ⟨.inr (key _ (by decide) e), .inl ?_⟩
    show (scope.names.lookup x == some .cell) = true
    rw [e]; rfl
section
variable {X : Cx} {C : Ctx} {SCx : SC} {tgE iter eltE : Expr} {ifs : List Expr} {scope : Scope} {pos : Pos} {tg : Tg} {vs : List Nat} {ik : IK} {its : List E} {elt : E} {cond : List T}
/-- what a comprehension's turns want -/
theorem lc_wish (htg : ∀ i ∈ tg.slots, i ∈ vs) {ρ : Env} {S S6 : Store} {acc : List D} {σ : L2.St} {H : Hp} {Q : VK} (h : ev C (.comp elt tg vs ik its cond) ρ S = some (.ok (.lst acc) S6)) (w : rF (Cx.W X) ρ S acc S6 σ H Q) :
    tLc (uI C X ik its tg) (gFine (Cx.W X) tg) (uTs C (Cx.W X) cond) (uE C (Cx.W X) elt) vs σ H (fun v H' => Fine X.K H' → UQ X (Q v) H') := by
  obtain ⟨μ, ν, st, er, Dn⟩ := w
  simp only [ev] at h
  obtain ⟨ds, S1, h1, h2⟩ := bind_ok h
  split at h2
  · rename_i xs hw
    obtain ⟨acc', S5, h3, h4⟩ := bind_ok h2
    split at h4
    · rename_i S6' hu
      cases h4
      refine ⟨ρ, S, ds, S1, xs, h1, hw, μ, ν, st, er, fun J An H1 μ1 us HL x1 st1 lk stL rs erL an Ax G p hp => ?_⟩
      refine lc_run G Ax htg stL erL rs an h3 p hp fun μ' H' ws x' an' st' e' r' => ?_
      obtain ⟨H6, hU, x6, st6, x0, hs6⟩ := lk.over x' an' st' hu
      have np : p ∉ μ' := st'.dis p List.mem_cons_self
      have hpo : ∀ o, H p = some o → ∃ ps, o = .tbl ps := fun o ho => by
        cases o with
        | tbl ps => exact ⟨ps, rfl⟩
        | _ =>
          exfalso
          have n0 : p ∉ μ := fun z => by
            obtain ⟨⟨t, e⟩, _⟩ := x1
            exact stL.notIn hp (by rw [e]; exact List.mem_append_left _ z)
          have q1 := x1.2.1 p _ ho n0 (fun _ z => nomatch z)
          have q2 := lk.ext0 (W := Cx.W X) (ν := ν) |>.2 p _ q1.1 q1.2 (fun _ z => nomatch z)
          rw [hp] at q2
          cases q2.1
      have fin := Dn p ws H6 μ' hpo (stL.notInN hp) (by rw [hs6 p np]; exact e') (x1.trans x6) st6 (VRs.ext0 x0 st6.trk r')
      rcases hU with rfl | ⟨d, od, u, g1, g2, rfl⟩
      · exact .inl fin
      · exact .inr ⟨d, od, u, g1, g2, fin⟩
    · cases h4
  · cases h2
theorem lc_parts (G1 : X.calm = true) (G2 : X.N = SCx.N) (G3 : SCx.N.Nodup) (ht : tgOf SCx scope tgE = some tg) :
    ∀ (s : Shared) (H : Hp) (C : Addr) (cl : List (Str × Addr)) (fp : List Addr), PG (X.blk s H scope (compEnvC scope cl C X.env) fp) tgE (gFine (Cx.W X) tg) := fun s H C cl fp =>
  PGfine (pg_of (X := X.blk s H scope (compEnvC scope cl C X.env) fp) G1 G2 G3 rfl ht fun x hx => blk_loc hx)
theorem pe_lcF (G1 : X.calm = true) (G2 : X.N = SCx.N) (G3 : SCx.N.Nodup) (G4 : X.env.scope = SCx.sc) (ht : tgOf SCx scope tgE = some tg) (hv : (ownOf scope).mapM (slotOf SCx.N) = some vs) (hb : L2.blkC SCx.N SCx.sc scope ((ownOf scope).zip vs) = true)
    (hi : PI X tgE iter (uI C X ik its tg)) (hc : ∀ (s : Shared) (H : Hp) (A : Addr) (cl : List (Str × Addr)) (fp : List Addr), PTs (X.blk s H scope (compEnvC scope cl A X.env) fp) ifs (uTs C (Cx.W X) cond))
    (he : ∀ (s : Shared) (H : Hp) (A : Addr) (cl : List (Str × Addr)) (fp : List Addr), PE (X.blk s H scope (compEnvC scope cl A X.env) fp) eltE (uE C (Cx.W X) elt)) (hs : ∀ x, foldedSetIterable iter X.env x = pure x) :
    PE X (.ListComp eltE [⟨tgE, iter, ifs, 0⟩] scope pos) (uF C (Cx.W X) (.comp elt tg vs ik its cond)) := by
  have ok := blkOk_by hb
  rw [← G2, ← G4] at ok
  have h1 := pe_lc (pos := pos) G1 (by rw [G2]; exact G3) hi ok (lc_parts G1 G2 G3 ht) hc he hs
  rw [zip_snd (mapM_len hv)] at h1
  refine PE.any fun σ H Q w => ?_
  obtain ⟨ρ, S, acc, S6, h, w⟩ := w
  exact ⟨_, pe_unl (PEfine h1 fun σ H Q f q => q), lc_wish (tg_slots ht hv) h w⟩
/-- name = [..] on one line -/
theorem ps_lcF {i : Nat} {y : Str} {py spos : Pos} (G1 : X.calm = true) (G2 : X.N = SCx.N) (G3 : SCx.N.Nodup) (G4 : X.env.scope = SCx.sc) (ht : tgOf SCx scope tgE = some tg) (hv : (ownOf scope).mapM (slotOf SCx.N) = some vs) (hb : L2.blkC SCx.N SCx.sc scope ((ownOf scope).zip vs) = true)
    (hy : X.N[i]? = some y) (hyl : X.env.scope.names.lookup y = some .local) (hsw : swapsWith (.ListComp eltE [⟨tgE, iter, ifs, 0⟩] scope pos) (some (.Name y py)) spos.line X.env = pure true)
    (hi : PI X tgE iter (uI C X ik its tg)) (hc : ∀ (s : Shared) (H : Hp) (A : Addr) (cl : List (Str × Addr)) (fp : List Addr), PTs (X.blk s H scope (compEnvC scope cl A X.env) fp) ifs (uTs C (Cx.W X) cond))
    (he : ∀ (s : Shared) (H : Hp) (A : Addr) (cl : List (Str × Addr)) (fp : List Addr), PE (X.blk s H scope (compEnvC scope cl A X.env) fp) eltE (uE C (Cx.W X) elt)) (hs : ∀ x, foldedSetIterable iter X.env x = pure x) :
    PS X (.Assign [.Name y py] (.ListComp eltE [⟨tgE, iter, ifs, 0⟩] scope pos) spos) (tAsg (uF C (Cx.W X) (.comp elt tg vs ik its cond)) (gName i)) := by
  have ok := blkOk_by hb
  rw [← G2, ← G4] at ok
  have h1 := ps_setLc (pos := pos) G1 (by rw [G2]; exact G3) hy hyl hsw hi ok (lc_parts G1 G2 G3 ht) hc he hs
  rw [zip_snd (mapM_len hv)] at h1
  have h2 : PS X _ _ := ⟨fun pins s σ H D I q => thn (h1.run pins s σ H { D with nx := fun σ' H' => Fine X.K H' → D.nx σ' H' } I q) fun f s' z => by
    cases f with
    | next => obtain ⟨σ', H', I', z⟩ := z; exact ⟨σ', H', I', z (fine_of I')⟩
    | brk => exact z
    | cont => exact z
    | ret v => exact z⟩
  refine PS.any fun D σ H w => ?_
  obtain ⟨ρ, S, acc, S6, h, w⟩ := w
  exact ⟨_, ps_unl h2, lc_wish (tg_slots ht hv) h w⟩
end
end Rf
/-! Dict displays and dict comprehensions are sound. -/
namespace Rf
open PySem PySem.Spec PyProof.Rows L2
section
variable {W : Wd} {μ ν : List Addr} {H : Hp}
theorem key_r {x : D} {u : V} (r : VR W μ ν H x u) (h : keyD x = true) : ∃ q, keyR x q ∧ u = kV q := by
  cases x <;> cases h
  · cases r; exact ⟨_, ⟨rfl, fun x e => by cases e⟩, rfl⟩
  · obtain ⟨rfl, k⟩ := r; exact ⟨_, ⟨rfl, fun x e => by cases e; exact k⟩, rfl⟩
theorem KRs.append : ∀ {a b : List (D × D)} {c d : List (Key × V)}, KRs W μ ν H a c → KRs W μ ν H b d → KRs W μ ν H (a ++ b) (c ++ d)
  | [], b, c, d, h, g => by cases (show c = [] from h); exact g
  | (k, x) :: a, b, c, d, h, g => by
    obtain ⟨q, v, r, rfl, h1, h2, h3⟩ := h
    exact ⟨q, v, r ++ d, rfl, h1, h2, KRs.append h3 g⟩
theorem key_iff {k x : D} {q p : Key} (h : keyV k = some q) (g : keyV x = some p) : decide (k = x) = decide (q = p) := by
  by_cases e : k = x
  · subst e
    rw [h] at g
    cases g
    simp
  · have : q ≠ p := fun z => e (keyV_inj h (by rw [z]; exact g))
    rw [decide_eq_false e, decide_eq_false this]
theorem KRs.any {x : D} {p : Key} (g : keyV x = some p) : ∀ {a : List (D × D)} {c : List (Key × V)}, KRs W μ ν H a c → (a.any fun kv => decide (kv.1 = x)) = c.any fun kv => decide (kv.1 = p)
  | [], c, h => by cases (show c = [] from h); rfl
  | (k, d) :: a, c, h => by
    obtain ⟨q, v, r, rfl, h1, h2, h3⟩ := h
    rw [List.any_cons, List.any_cons, KRs.any g h3, key_iff h1.1 g]
theorem KRs.updD {x z : D} {p : Key} {w : V} (g : keyV x = some p) (rz : VR W μ ν H z w) : ∀ {a : List (D × D)} {c : List (Key × V)}, KRs W μ ν H a c → KRs W μ ν H (a.map fun kv => if kv.1 = x then (kv.1, z) else kv) (c.map fun kv => if kv.1 = p then (kv.1, w) else kv)
  | [], c, h => by cases (show c = [] from h); rfl
  | (k, d) :: a, c, h => by
    obtain ⟨q, v, r, rfl, h1, h2, h3⟩ := h
    have e := key_iff h1.1 g
    have ih := KRs.updD g rz h3
    by_cases hk : k = x
    · have hq : q = p := by simpa [hk] using e.symm
      rw [List.map_cons, List.map_cons, if_pos (show (k, d).1 = x from hk), if_pos (show (q, v).1 = p from hq)]
      exact ⟨q, w, _, rfl, h1, rz, ih⟩
    · have hq : ¬ q = p := by simpa [hk] using e.symm
      rw [List.map_cons, List.map_cons, if_neg (show ¬ (k, d).1 = x from hk), if_neg (show ¬ (q, v).1 = p from hq)]
      exact ⟨q, v, _, rfl, h1, h2, ih⟩
theorem KRs.put {x z : D} {p : Key} {w : V} {a : List (D × D)} {c : List (Key × V)} (h : KRs W μ ν H a c) (g : keyR x p) (rz : VR W μ ν H z w) : KRs W μ ν H (setK a x z) (putK c p w) := by
  unfold setK putK
  rw [KRs.any g.1 h]
  split
  · exact KRs.updD g.1 rz h
  · exact h.append ⟨p, w, [], rfl, g, rz, rfl⟩
end
theorem KRs.ext {W : Wd} {μ μ' ν : List Addr} {H H' : Hp} (x : Ext μ μ' H H') (lo : Trk W μ' H') {ds : List (D × D)} {kv : List (Key × V)} (h : KRs W μ ν H ds kv) : KRs W μ' ν H' ds kv := h.map fun d v r => r.ext x lo
theorem KRs.poke {W : Wd} {μ ν : List Addr} {H : Hp} {p : Addr} {o : HO} (hn : ∀ q u, H p ≠ some (.frz q u)) {ds : List (D × D)} {kv : List (Key × V)} (h : KRs W μ (p :: ν) H ds kv) : KRs W μ (p :: ν) (upd H p o) ds kv := h.map fun d v r => r.poke hn
def dcF (C : Ctx) (pr : Bool) (tg : Tg) (ρ : Env) (ke ve : E) (cond : List T) (d : D) (S : Store) : RM (Option (D × D)) := match bindTo pr tg d ρ with
  | some ρ1 => RM.bind (evTs C cond ρ1 S) fun k S3 => if k then RM.bind (ev C ke ρ1 S3) fun x S4 => RM.bind (ev C ve ρ1 S4) fun y S5 => some (.ok (some (x, y)) S5) else some (.ok none S3)
  | none => none
/-- a new dict, kept apart -/
def DoneK (W : Wd) (μ ν : List Addr) (H : Hp) (S' : Store) (kvs : List (D × D)) (Q : VK) : Prop := ∀ p kv H' μ', (∀ o, H p = some o → ∃ ps, o = .tbl ps) → p ∉ ν → H' p = some (.dK kv) → Ext μ μ' H H' → StR W μ' (p :: ν) S' H' → KRs W μ' (p :: ν) H' kvs kv → Q (.ref p) H'
theorem Done.dict {W : Wd} {μ ν : List Addr} {H : Hp} {S' : Store} {kvs : List (D × D)} {Q : VK} (D : Done W μ ν H (S' ++ [.dct kvs]) (.ref S'.length) Q) : DoneK W μ ν H S' kvs Q := fun p kv H' μ' hp hn e x st r => by
  have nf : ∀ o u, H' p ≠ some (.frz o u) := fun o u z => by rw [e] at z; cases z
  have tk : Trk W (μ' ++ [p]) H' := ⟨st.fine, fun b hb => by
    rcases List.mem_append.mp hb with z | z
    · exact st.trk.trk b z
    · have z : b = p := by simpa using z
      rw [z, e]; simp⟩
  have st2 := st.grow (c := .dct kvs) hn nf ⟨kv, e, r.map fun d v q => q.cell nf tk⟩
  refine D _ H' _ ?_ st2 ⟨p, ?_, rfl⟩
  · obtain ⟨⟨t, rfl⟩, x2⟩ := x
    refine ⟨⟨t ++ [p], by simp⟩, fun b o h n m => ?_, x2.2⟩
    obtain ⟨h1, h2⟩ := x2.1 b o h n m
    refine ⟨h1, fun z => ?_⟩
    rcases List.mem_append.mp z with z | z
    · exact h2 z
    · have z : b = p := by simpa using z
      rw [z] at h
      obtain ⟨ps, e⟩ := hp _ h
      exact m ps e
  · rw [← st.len, List.getElem?_append_right (Nat.le_refl _)]
    simp
section
variable {W : Wd} {C : Ctx} {J : It} {An : Hp → Prop} {ik : IK} {ds xs : List D} {us : List V} {ρ : Env} {σ : L2.St} {vs : List Nat} {tg : Tg} {ke ve : E} {cond : List T} {μ ν : List Addr} {S1 S5 : Store} {H1 : Hp}
theorem dc_run (G : Goes W J An ik ds us xs) (Ax : ∀ μ μ' H H', Ext μ μ' H H' → An H → An H') (htg : ∀ i ∈ tg.slots, i ∈ vs) (st : StR W μ ν S1 H1) (er : ER W μ ν H1 ρ σ) (rs : VRs W μ ν H1 ds us) (an : An H1) {acc : List (D × D)}
    (h : dcompRun (fun S => walkOf S ik ds == some xs) (dcF C (pairK ik) tg (wipeE ρ vs) ke ve cond) xs [] S1 = some (.ok acc S5)) {Qd : Hp → Prop} (p : Addr) (hD : H1 p = none)
    (q : ∀ μ' H' kv, Ext μ μ' H1 H' → An H' → StR W μ' (p :: ν) S5 H' → H' p = some (.dK kv) → KRs W μ' (p :: ν) H' acc kv → Qd H') :
    ∃ Wv : Nat → Nat → Hp → Prop, (∃ m, Wv 0 m (upd H1 p (.dK []))) ∧ ∀ i m H, Wv i m H → (J.stop i H ∧ (Fine W.K H → Qd H)) ∨ (J.go i H ∧ ∃ Nx : Hp → Prop, (∀ H', Nx H' → ∃ m', m' < m ∧ Wv (i + 1) m' H') ∧
      ∀ x H', J.yld i H x H' → gFine W tg x (wipe σ vs) H' fun σ2 H2 => wipe σ2 vs = wipe σ vs ∧ uTs C W cond σ2 H2 fun b H3 =>
        if b = true then uE C W ke σ2 H3 fun y H4 => uE C W ve σ2 H4 fun z H5 => ∃ kvs k, y = kV k ∧ H5 p = some (.dK kvs) ∧ kvs.length < sizeLine ∧ Nx (upd H5 p (.dK (putK kvs k z))) else Nx H3) := by
  have first : ∀ {l : List D} {a : List (D × D)} {S : Store}, dcompRun (fun S => walkOf S ik ds == some xs) (dcF C (pairK ik) tg (wipeE ρ vs) ke ve cond) l a S = some (.ok acc S5) → walkOf S ik ds = some xs := fun {l a S} e => by
    cases l <;> (unfold dcompRun at e; split at e <;> first | (rename_i e2; simpa using e2) | cases e)
  let Facts (i : Nat) (H : Hp) : Prop := ∃ accI SI μi ws, Ext μ μi H1 H ∧ An H ∧ StR W μi (p :: ν) SI H ∧ H p = some (.dK ws) ∧ KRs W μi (p :: ν) H accI ws ∧ ER W μi (p :: ν) H ρ σ ∧ VRs W μi (p :: ν) H ds us ∧
    dcompRun (fun S => walkOf S ik ds == some xs) (dcF C (pairK ik) tg (wipeE ρ vs) ke ve cond) (xs.drop i) accI SI = some (.ok acc S5)
  refine ⟨fun i m H => (¬ Fine W.K H ∧ i = 0 ∧ m = 0 ∧ (J.go 0 H ∨ J.stop 0 H)) ∨ (m = xs.length - i ∧ i ≤ xs.length ∧ Facts i H), ?_, ?_⟩
  · by_cases f : Fine W.K (upd H1 p (.dK []))
    · have x := Ext.laid (μ := μ) (o := .dK []) hD
      have st2 := st.apart hD (o := .dK []) trivial f
      exact ⟨xs.length, .inr ⟨rfl, Nat.zero_le _, [], S1, μ, [], x, Ax _ _ _ _ x an, st2, upd_same, rfl, (er.apart hD).ext x st2.trk, (rs.apart hD).ext x st2.trk, h⟩⟩
    · refine ⟨0, .inl ⟨f, rfl, rfl, ?_⟩⟩
      by_cases hl : 0 < xs.length
      · exact .inl ((G.new 0 H1 p (.dK []) hD).1 (G.go 0 μ ν S1 H1 st an rs (first h) hl))
      · have e : xs.length = 0 := by omega
        have := G.stop μ ν S1 H1 st an rs (first h)
        rw [e] at this
        exact .inr ((G.new 0 H1 p (.dK []) hD).2 this)
  · rintro i m H (⟨nf, rfl, rfl, z⟩ | ⟨rfl, hi, accI, SI, μi, ws, x, ai, sti, hDi, ri, eri, rsi, hc⟩)
    · rcases z with z | z
      · refine .inr ⟨z, fun _ => False, fun _ h => h.elim, fun v H' y f => absurd ?_ nf⟩
        rcases G.same 0 H v H' y with e | ⟨T, ws, hT, e⟩
        · rw [← e]; exact f
        · rw [e] at f; exact f.anti hT
      · exact .inl ⟨z, fun f => absurd f nf⟩
    · have hw := first hc
      by_cases hlt : i < xs.length
      · refine .inr ⟨G.go i _ _ _ H sti ai rsi hw hlt, Facts (i + 1), fun H' f => ⟨xs.length - (i + 1), by omega, .inr ⟨rfl, hlt, f⟩⟩, fun v H' y f => ?_⟩
        rw [drop_at hlt] at hc
        unfold dcompRun at hc
        split at hc
        · obtain ⟨o, S2, h1, h2⟩ := bind_ok hc
          unfold dcF at h1
          split at h1
          · rename_i ρ1 hb
            obtain ⟨k, S3, h3, h4⟩ := bind_ok h1
            have yr := G.yld i _ _ _ H xs[i] v H' sti ai rsi hw (List.getElem?_eq_getElem hlt) y
            refine bind_snd sti (eri.wipe vs) yr hb fun σ2 xe hst hwp f2 => ?_
            obtain ⟨st2, er2⟩ := hst f2
            refine ⟨by rw [hwp vs htg, wipe_idem], ρ1, SI, k, S3, h3, μi, p :: ν, st2, er2, fun H3 μ3 x3 st3 => ?_⟩
            have x03 := xe.trans x3
            have nD : p ∉ μi := sti.dis p List.mem_cons_self
            have hD3 : H3 p = some (.dK ws) := (x03.2.1 p _ hDi nD fun _ z => nomatch z).1
            cases k with
            | true =>
              show (if true = true then _ else _)
              rw [if_pos rfl] at h4 ⊢
              obtain ⟨kx, S4, h5, h6⟩ := bind_ok h4
              obtain ⟨vx, S4', h7, h8⟩ := bind_ok h6
              cases h8
              simp only at h2
              split at h2
              · rename_i hlen
                refine ⟨ρ1, S3, kx, S4, h5, μ3, p :: ν, st3, er2.ext x3 st3.trk, fun v4 H4 μ4 x4 st4 r4 => ⟨ρ1, S4, vx, S2, h7, μ4, p :: ν, st4, er2.ext (x3.trans x4) st4.trk, fun v5 H5 μ5 x5 st5 r5 => ?_⟩⟩
                have x05 := (x03.trans x4).trans x5
                have hD5 : H5 p = some (.dK ws) := (x05.2.1 p _ hDi nD fun _ z => nomatch z).1
                have hnf : ∀ o u, H5 p ≠ some (.frz o u) := fun o u z => by rw [hD5] at z; cases z
                obtain ⟨k5, hk5, rfl⟩ := key_r r4 hlen.2
                have hz : ws.length < sizeLine := by rw [← KRs.length ri, ← line_eq]; exact hlen.1
                have f5 : Fine W.K (upd H5 p (.dK (putK ws k5 v5))) := st5.fine.poke hD5 (fun _ z => nomatch z) (fun _ z => nomatch z) (fun _ _ z => nomatch z)
                have xx : Ext μ μ5 H1 (upd H5 p (.dK (putK ws k5 v5))) := (x.trans x05).touch hD
                exact ⟨ws, k5, rfl, hD5, hz, setK accI kx vx, S2, μ5, putK ws k5 v5, xx, Ax _ _ _ _ xx an, st5.poke hnf trivial f5, upd_same, ((ri.ext x05 st5.trk).put hk5 r5).poke hnf, (eri.ext x05 st5.trk).poke hnf, (rsi.ext x05 st5.trk).poke hnf, h2⟩
              · cases h2
            | false =>
              show (if false = true then _ else _)
              rw [if_neg Bool.false_ne_true] at h4 ⊢
              cases h4
              have xx := x.trans x03
              exact ⟨accI, S2, μ3, ws, xx, Ax _ _ _ _ xx an, st3, hD3, ri.ext x03 st3.trk, eri.ext x03 st3.trk, rsi.ext x03 st3.trk, h2⟩
          · cases h1
        · cases hc
      · have e : i = xs.length := by omega
        subst e
        refine .inl ⟨G.stop _ _ _ H sti ai rsi hw, fun _ => ?_⟩
        rw [List.drop_length] at hc
        unfold dcompRun at hc
        split at hc
        · cases hc
          exact q μi H ws x ai sti hDi ri
        · cases hc
end
section
variable {X : Cx} {C : Ctx} {SCx : SC} {tgE iter keE veE : Expr} {ifs : List Expr} {scope : Scope} {pos : Pos} {tg : Tg} {vs : List Nat} {ik : IK} {its : List E} {ke ve : E} {cond : List T}
theorem fresh_from {μ μ1 ν : List Addr} {S1 : Store} {H H1 HL : Hp} {ds : List D} {An : Hp → Prop} {p : Addr} {W : Wd} {SL : Store} (x1 : Ext μ μ1 H H1) (l0 : Ext0 μ1 μ1 H1 HL) (stL : StR W μ1 ν SL HL) (hp : HL p = none) : ∀ o, H p = some o → ∃ ps, o = .tbl ps := fun o ho => by
  cases o with
  | tbl ps => exact ⟨ps, rfl⟩
  | _ =>
    exfalso
    have n0 : p ∉ μ := fun z => by
      obtain ⟨⟨t, e⟩, _⟩ := x1
      exact stL.notIn hp (by rw [e]; exact List.mem_append_left _ z)
    have q1 := x1.2.1 p _ ho n0 (fun _ z => nomatch z)
    have q2 := l0.2 p _ q1.1 q1.2 (fun _ z => nomatch z)
    rw [hp] at q2
    cases q2.1
theorem pe_dcF (G1 : X.calm = true) (G2 : X.N = SCx.N) (G3 : SCx.N.Nodup) (G4 : X.env.scope = SCx.sc) (ht : tgOf SCx scope tgE = some tg) (hv : (ownOf scope).mapM (slotOf SCx.N) = some vs) (hb : L2.blkC SCx.N SCx.sc scope ((ownOf scope).zip vs) = true)
    (hi : PI X tgE iter (uI C X ik its tg)) (hc : ∀ (s : Shared) (H : Hp) (A : Addr) (cl : List (Str × Addr)) (fp : List Addr), PTs (X.blk s H scope (compEnvC scope cl A X.env) fp) ifs (uTs C (Cx.W X) cond))
    (hk : ∀ (s : Shared) (H : Hp) (A : Addr) (cl : List (Str × Addr)) (fp : List Addr), PE (X.blk s H scope (compEnvC scope cl A X.env) fp) keE (uE C (Cx.W X) ke))
    (he : ∀ (s : Shared) (H : Hp) (A : Addr) (cl : List (Str × Addr)) (fp : List Addr), PE (X.blk s H scope (compEnvC scope cl A X.env) fp) veE (uE C (Cx.W X) ve)) (hs : ∀ x, foldedSetIterable iter X.env x = pure x) :
    PE X (.DictComp keE veE [⟨tgE, iter, ifs, 0⟩] scope pos) (uE C (Cx.W X) (.dcomp ke ve tg vs ik its cond)) := by
  have ok := blkOk_by hb
  rw [← G2, ← G4] at ok
  have h1 := pe_dc (pos := pos) G1 (by rw [G2]; exact G3) hi ok (lc_parts G1 G2 G3 ht) hc hk he hs
  rw [zip_snd (mapM_len hv)] at h1
  refine PE.any fun σ H Q w => ?_
  obtain ⟨ρ, S, z, S', h, μ, ν, st, er, Dn⟩ := w
  refine ⟨_, pe_unl (PEfine h1 fun σ H Q f q => q), ?_⟩
  simp only [ev] at h
  obtain ⟨ds, S1, h1, h2⟩ := bind_ok h
  split at h2
  · rename_i xs hw
    obtain ⟨acc, S5, h3, h4⟩ := bind_ok h2
    split at h4
    · rename_i S6 hu
      cases h4
      refine ⟨ρ, S, ds, S1, xs, h1, hw, μ, ν, st, er, fun J An H1 μ1 us HL x1 st1 lk stL rs erL an Ax G p hp => ?_⟩
      refine dc_run G Ax (tg_slots ht hv) stL erL rs an h3 p hp fun μ' H' kv x' an' st' e' r' => ?_
      obtain ⟨H6, hU, x6, st6, x0, hs6⟩ := lk.over x' an' st' hu
      have np : p ∉ μ' := st'.dis p List.mem_cons_self
      have fin := Done.dict Dn p kv H6 μ' (fresh_from (ds := ds) (An := An) (S1 := S1) x1 (lk.ext0 (W := Cx.W X) (ν := ν)) stL hp) (stL.notInN hp) (by rw [hs6 p np]; exact e') (x1.trans x6) st6 (r'.map fun d v r => VR.ext0 x0 st6.trk r)
      rcases hU with rfl | ⟨d, od, u, g1, g2, rfl⟩
      · exact .inl fin
      · exact .inr ⟨d, od, u, g1, g2, fin⟩
    · cases h4
  · cases h2
end
end Rf
/-! Each kind of expression, once. -/
namespace Rf
open PySem PySem.Spec PyProof.Rows L2

section
variable {C : Ctx} {X : Cx} {a b c : Expr} {ea eb ec : E} {pos : Pos}
abbrev UE (C : Ctx) (X : Cx) (x : Expr) (e : E) : Prop := PE X x (uE C (Cx.W X) e)
abbrev UF (C : Ctx) (X : Cx) (x : Expr) (e : E) : Prop := PE X x (uF C (Cx.W X) e)
abbrev UT (C : Ctx) (X : Cx) (x : Expr) (e : T) : Prop := PT X x (uT C (Cx.W X) e)
abbrev UEs (C : Ctx) (X : Cx) (x : List Expr) (e : List E) : Prop := PA X x (uEs C (Cx.W X) e)
/-- names -/
theorem fresh_at {W : Wd} {μ μ1 ν : List Addr} {S1 : Store} {H H1 : Hp} {p : Addr} (x1 : Ext μ μ1 H H1) (st1 : StR W μ1 ν S1 H1) (hp : H1 p = none) : ∀ o, H p = some o → ∃ ps, o = .tbl ps := fun o ho => by
  cases o with
  | tbl ps => exact ⟨ps, rfl⟩
  | _ =>
    exfalso
    have n0 : p ∉ μ := fun z => by
      obtain ⟨⟨t, e⟩, _⟩ := x1
      exact st1.notIn hp (by rw [e]; exact List.mem_append_left _ z)
    have q1 := x1.2.1 p _ ho n0 (fun _ z => nomatch z)
    rw [hp] at q1
    cases q1.1
theorem u_var {i : Nat} {x : Str} (hN : X.N[i]? = some x) (hv : Vis X.env.scope x) (hx : nameOk x = true) : UE C X (.Name x pos) (.var i) := by
  obtain ⟨h1, h2, h3⟩ := nameOk_of hx
  refine PE.any fun σ H Q w => ⟨_, pe_var (i := i) (pos := pos) hN hv h1 h2, ?_⟩
  obtain ⟨ρ, S, z, S', h, μ, ν, st, er, Dn⟩ := w
  simp only [ev] at h
  split at h
  · rename_i d hd
    cases h
    obtain ⟨v, e, r⟩ := er.2 i _ hd
    exact ⟨v, e, Dn.here st r⟩
  · cases h
theorem u_non {j} : UE C X (.Constant .none j pos) (.cst .non) := PE.any fun σ H Q w => ⟨_, pe_non, by
  obtain ⟨ρ, S, z, S', h, μ, ν, st, er, Dn⟩ := w
  simp only [ev] at h
  cases h
  exact Dn.here st rfl⟩
theorem u_bl {j k} : UE C X (.Constant (.bool k) j pos) (.cst (.bl k)) := PE.any fun σ H Q w => ⟨_, pe_bl, by
  obtain ⟨ρ, S, z, S', h, μ, ν, st, er, Dn⟩ := w
  simp only [ev] at h
  cases h
  exact Dn.here st rfl⟩
theorem u_int {j k} : UE C X (.Constant (.int k) j pos) (.cst (.int k)) := PE.any fun σ H Q w => ⟨_, pe_int, by
  obtain ⟨ρ, S, z, S', h, μ, ν, st, er, Dn⟩ := w
  simp only [ev] at h
  cases h
  exact Dn.here st rfl⟩
theorem u_str {j} {x : Str} (hx : x.cps.toList.all (fun c => decide (c < 0x110000)) = true) : UE C X (.Constant (.str x) j pos) (.cst (.str x.cps.toList)) := PE.any fun σ H Q w => ⟨_, pe_str, by
  obtain ⟨ρ, S, z, S', h, μ, ν, st, er, Dn⟩ := w
  simp only [ev] at h
  cases h
  refine Dn.here st ⟨by simp, fun c hc => ?_⟩
  simpa using List.all_eq_true.mp hx c hc⟩
/-! operators -/
theorem u_bin {op : Operator} (ha : UE C X a ea) (hb : UE C X b eb) : UE C X (.BinOp a op b pos) (.bin op ea eb) := by
  refine PE.any fun σ H Q w => ?_
  obtain ⟨ρ, S, z, S', h, μ, ν, st, er, Dn⟩ := w
  simp only [ev] at h
  obtain ⟨x, S1, h1, h⟩ := bind_ok h
  obtain ⟨y, S2, h2, h⟩ := bind_ok h
  obtain ⟨h3, rfl⟩ := lift_ok h
  exact ⟨_, pe_op (op_snd h3) ha hb, ρ, S, x, S1, h1, μ, ν, st, er, fun v H1 μ1 x1 st1 r1 => ⟨ρ, S1, y, S', h2, μ1, ν, st1, er.ext x1 st1.trk, fun u H2 μ2 x2 st2 r2 =>
    ⟨μ2, ν, st2, r1.ext x2 st2.trk, r2, Dn.mono (x1.trans x2)⟩⟩⟩
theorem u_neg (ha : UE C X a ea) : UE C X (.UnaryOp .USub a pos) (.neg ea) := by
  refine PE.any fun σ H Q w => ?_
  obtain ⟨ρ, S, z, S', h, μ, ν, st, er, Dn⟩ := w
  simp only [ev] at h
  obtain ⟨x, S1, h1, h⟩ := bind_ok h
  split at h
  · rename_i i
    cases h
    refine ⟨_, pe_un un_neg ha, ρ, S, _, _, h1, μ, ν, st, er, fun v H1 μ1 x1 st1 r1 => ?_⟩
    cases r1
    exact ⟨i, rfl, Dn _ _ _ x1 st1 rfl⟩
  · cases h
theorem mark_of {op : CmpOp} (h : opOk op b = true) : behindInMarks op b = false := by
  cases op <;> first
    | exact nomark _
    | (cases b <;> first | rfl | cases h)
theorem u_cmp {op : CmpOp} {n : Nat} (hr : Room n X.A) (hm : behindInMarks op b = false) (ha : UE C X a ea) (hb : UE C X b eb) : UE C X (.Compare a [op] [b] pos) (.cmp op ea eb) := by
  refine PE.any fun σ H Q w => ?_
  obtain ⟨ρ, S, z, S', h, μ, ν, st, er, Dn⟩ := w
  simp only [ev] at h
  obtain ⟨x, S1, h1, h⟩ := bind_ok h
  obtain ⟨y, S2, h2, h⟩ := bind_ok h
  obtain ⟨h3, rfl⟩ := lift_ok h
  obtain ⟨k, h4, rfl⟩ := Option.map_eq_some_iff.mp h3
  exact ⟨_, pe_cmpR (cmp_snd hr h4) ha hb hm, ρ, S, x, S1, h1, μ, ν, st, er, fun v H1 μ1 x1 st1 r1 => ⟨ρ, S1, y, S', h2, μ1, ν, st1, er.ext x1 st1.trk, fun u H2 μ2 x2 st2 r2 =>
    ⟨μ2, ν, st2, r1.ext x2 st2.trk, r2, Dn.mono (x1.trans x2)⟩⟩⟩
theorem ut_cmp {op : CmpOp} {n : Nat} (hr : Room n X.A) (hm : behindInMarks op b = false) (ha : UE C X a ea) (hb : UE C X b eb) : UT C X (.Compare a [op] [b] pos) (.val (.cmp op ea eb)) := by
  refine PT.any fun σ H Q w => ?_
  obtain ⟨ρ, S, z, S', h, μ, ν, st, er, Dn⟩ := w
  simp only [evT, ev] at h
  obtain ⟨k0, S0, h, h5⟩ := bind_ok h
  obtain ⟨x, S1, h1, h⟩ := bind_ok h
  obtain ⟨y, S2, h2, h⟩ := bind_ok h
  obtain ⟨h3, rfl⟩ := lift_ok h
  obtain ⟨k, h4, rfl⟩ := Option.map_eq_some_iff.mp h3
  obtain ⟨h6, rfl⟩ := lift_ok h5
  cases h6
  exact ⟨_, pt_cmpR (cmp_snd hr h4) ha hb hm, ρ, S, x, S1, h1, μ, ν, st, er, fun v H1 μ1 x1 st1 r1 => ⟨ρ, S1, y, S', h2, μ1, ν, st1, er.ext x1 st1.trk, fun u H2 μ2 x2 st2 r2 =>
    ⟨μ2, ν, st2, r1.ext x2 st2.trk, r2, fun v3 H3 μ3 x3 st3 r3 => ⟨_, r3, Dn H3 μ3 ((x1.trans x2).trans x3) st3⟩⟩⟩⟩
theorem cmp_some {S : Store} {op : CmpOp} {x y : D} {k : Bool} (h : cmpD S op x y = some k) : True := trivial
/-- a op1 b op2 c -/
theorem u_chain {o1 o2 : CmpOp} {n : Nat} (hr : Room n X.A) (hm : lastMarks [o1, o2] [b, c] = false) (ha : UE C X a ea) (hb : UE C X b eb) (hc : UE C X c ec) : UE C X (.Compare a [o1, o2] [b, c] pos) (.chain o1 o2 ea eb ec) := by
  refine PE.any fun σ H Q w => ?_
  obtain ⟨ρ, S, z, S', h, μ, ν, st, er, Dn⟩ := w
  simp only [ev] at h
  obtain ⟨x, S1, h1, h⟩ := bind_ok h
  obtain ⟨y, S2, h2, h⟩ := bind_ok h
  obtain ⟨k, S3, h3, h⟩ := bind_ok h
  obtain ⟨h3, rfl⟩ := lift_ok h3
  cases k with
  | true =>
    rw [if_pos rfl] at h
    obtain ⟨w, S4, h4, h⟩ := bind_ok h
    obtain ⟨h5, rfl⟩ := lift_ok h
    obtain ⟨k, h7, rfl⟩ := Option.map_eq_some_iff.mp h5
    refine ⟨_, pe_chain (cmp_snd hr h3) (cmp_snd hr h7) ha hb hc hm, ρ, S, x, S1, h1, μ, ν, st, er, fun v H1 μ1 x1 st1 r1 => ⟨ρ, S1, y, _, h2, μ1, ν, st1, er.ext x1 st1.trk, fun u H2 μ2 x2 st2 r2 =>
      ⟨μ2, ν, st2, r1.ext x2 st2.trk, r2, fun v3 H3 μ3 x3 st3 r3 => ⟨true, r3, ?_⟩⟩⟩⟩
    rw [if_pos rfl]
    exact ⟨ρ, _, w, _, h4, μ3, ν, st3, er.ext ((x1.trans x2).trans x3) st3.trk, fun v4 H4 μ4 x4 st4 r4 => ⟨μ4, ν, st4, r2.ext (x3.trans x4) st4.trk, r4, Dn.mono (((x1.trans x2).trans x3).trans x4)⟩⟩
  | false =>
    rw [if_neg Bool.false_ne_true] at h
    cases h
    refine ⟨_, pe_chain (r' := fun _ _ _ _ => False) (cmp_snd hr h3) (fun _ _ _ _ _ _ _ _ _ _ _ _ q => q.elim) ha hb hc hm, ρ, S, x, S1, h1, μ, ν, st, er, fun v H1 μ1 x1 st1 r1 => ⟨ρ, S1, y, _, h2, μ1, ν, st1, er.ext x1 st1.trk, fun u H2 μ2 x2 st2 r2 =>
      ⟨μ2, ν, st2, r1.ext x2 st2.trk, r2, fun v3 H3 μ3 x3 st3 r3 => ⟨false, r3, ?_⟩⟩⟩⟩
    rw [if_neg Bool.false_ne_true]
    exact Dn _ _ _ ((x1.trans x2).trans x3) st3 rfl
theorem ut_chain {o1 o2 : CmpOp} {n : Nat} (hr : Room n X.A) (hm : lastMarks [o1, o2] [b, c] = false) (ha : UE C X a ea) (hb : UE C X b eb) (hc : UE C X c ec) : UT C X (.Compare a [o1, o2] [b, c] pos) (.val (.chain o1 o2 ea eb ec)) := by
  refine PT.any fun σ H Q w => ?_
  obtain ⟨ρ, S, z, S', h, μ, ν, st, er, Dn⟩ := w
  simp only [evT, ev] at h
  obtain ⟨k0, S0, h, h6⟩ := bind_ok h
  obtain ⟨h6, rfl⟩ := lift_ok h6
  obtain ⟨x, S1, h1, h⟩ := bind_ok h
  obtain ⟨y, S2, h2, h⟩ := bind_ok h
  obtain ⟨k, S3, h3, h⟩ := bind_ok h
  obtain ⟨h3, rfl⟩ := lift_ok h3
  cases k with
  | true =>
    rw [if_pos rfl] at h
    obtain ⟨w, S4, h4, h⟩ := bind_ok h
    obtain ⟨h5, rfl⟩ := lift_ok h
    obtain ⟨k, h7, rfl⟩ := Option.map_eq_some_iff.mp h5
    cases h6
    refine ⟨_, pt_chain (cmp_snd hr h3) (cmp_snd hr h7) ha hb hc hm, ρ, S, x, S1, h1, μ, ν, st, er, fun v H1 μ1 x1 st1 r1 => ⟨ρ, S1, y, _, h2, μ1, ν, st1, er.ext x1 st1.trk, fun u H2 μ2 x2 st2 r2 =>
      ⟨μ2, ν, st2, r1.ext x2 st2.trk, r2, fun v3 H3 μ3 x3 st3 r3 => ⟨true, r3, ?_⟩⟩⟩⟩
    rw [if_pos rfl]
    exact ⟨ρ, _, w, _, h4, μ3, ν, st3, er.ext ((x1.trans x2).trans x3) st3.trk, fun v4 H4 μ4 x4 st4 r4 => ⟨μ4, ν, st4, r2.ext (x3.trans x4) st4.trk, r4, fun v5 H5 μ5 x5 st5 r5 => ⟨_, r5, Dn H5 μ5 ((((x1.trans x2).trans x3).trans x4).trans x5) st5⟩⟩⟩
  | false =>
    rw [if_neg Bool.false_ne_true] at h
    cases h
    cases h6
    refine ⟨_, pt_chain (r' := fun _ _ _ _ => False) (cmp_snd hr h3) (fun _ _ _ _ _ _ _ _ _ _ _ _ q => q.elim) ha hb hc hm, ρ, S, x, S1, h1, μ, ν, st, er, fun v H1 μ1 x1 st1 r1 => ⟨ρ, S1, y, _, h2, μ1, ν, st1, er.ext x1 st1.trk, fun u H2 μ2 x2 st2 r2 =>
      ⟨μ2, ν, st2, r1.ext x2 st2.trk, r2, fun v3 H3 μ3 x3 st3 r3 => ⟨false, r3, ?_⟩⟩⟩⟩
    rw [if_neg Bool.false_ne_true]
    exact ⟨false, rfl, Dn H3 μ3 ((x1.trans x2).trans x3) st3⟩
end
/-! ### truth -/
section
variable {C : Ctx} {X : Cx} {a b c : Expr} {ea eb ec : E} {ta tb tc : T} {rest : List Expr} {pos : Pos}
theorem tru_of {W : Wd} {μ ν : List Addr} {H : Hp} {S : Store} {d : D} {v : V} {k : Bool} (st : StR W μ ν S H) (r : VR W μ ν H d v) (h : truthD S d = some k) : TruV W.K v H k := by
  unfold truthD at h
  split at h
  · cases r; cases h; rfl
  · cases r; cases h; rfl
  · cases r; cases h; rfl
  · rename_i x
    obtain ⟨rfl, _⟩ := r
    split at h
    · rename_i hl
      cases h
      refine ⟨by rw [strLen, ← line_eq]; exact hl, ?_⟩
      rw [strLen]
      cases x <;> simp
      omega
    · cases h
  · rename_i ds
    cases h
    obtain ⟨p, vs, rfl, t, _, r⟩ := r
    exact .inr (.inl ⟨vs, tupO.sq t, by have := r.length; cases ds <;> cases vs <;> simp_all⟩)
  · rename_i ds
    cases h
    obtain ⟨p, vs, rfl, t, _, _, r⟩ := r
    exact .inl ⟨vs, .inl t, by have := r.length; cases ds <;> cases vs <;> simp_all⟩
  · rename_i j
    split at h
    · rename_i ds hs
      cases h
      obtain ⟨p, vs, rfl, _, e, r⟩ := lst_at st r hs
      exact .inl ⟨vs, .of e, by have := r.length; cases ds <;> cases vs <;> simp_all⟩
    · rename_i kvs hs
      cases h
      obtain ⟨p, kv, rfl, _, e, r⟩ := dct_at st r hs
      exact .inr (.inr ⟨kv, e, by have := KRs.length r; cases kvs <;> cases kv <;> simp_all⟩)
    · cases h
  · cases h
theorem ut_val (ha : UE C X a ea) (he : ∀ whole, isTrue a X.env whole = (do let v ← whole; standAt a.pos; holding [v] (truthy v))) : UT C X a (.val ea) := by
  refine PT.any fun σ H Q w => ⟨_, pt_truth ha he, ?_⟩
  obtain ⟨ρ, S, z, S', h, μ, ν, st, er, Dn⟩ := w
  simp only [evT] at h
  obtain ⟨d, S1, h1, h⟩ := bind_ok h
  obtain ⟨h2, rfl⟩ := lift_ok h
  exact ⟨ρ, S, d, _, h1, μ, ν, st, er, fun v H1 μ1 x1 st1 r1 => ⟨z, tru_of st1 r1 h2, Dn H1 μ1 x1 st1⟩⟩
theorem ut_not (ha : UT C X a ta) : UT C X (.UnaryOp .Not a pos) (.not ta) := by
  refine PT.any fun σ H Q w => ⟨_, pt_not ha, ?_⟩
  obtain ⟨ρ, S, z, S', h, μ, ν, st, er, Dn⟩ := w
  simp only [evT] at h
  obtain ⟨d, S1, h1, h⟩ := bind_ok h
  cases h
  exact ⟨ρ, S, d, _, h1, μ, ν, st, er, fun H1 μ1 x1 st1 => Dn H1 μ1 x1 st1⟩
theorem u_not (ha : UE C X a ea) : UE C X (.UnaryOp .Not a pos) (.not ea) := by
  refine PE.any fun σ H Q w => ⟨_, pe_not ha, ?_⟩
  obtain ⟨ρ, S, z, S', h, μ, ν, st, er, Dn⟩ := w
  simp only [ev] at h
  obtain ⟨d, S1, h1, h⟩ := bind_ok h
  split at h
  · rename_i k
    cases h
    exact ⟨ρ, S, _, _, h1, μ, ν, st, er, fun v H1 μ1 x1 st1 r1 => ⟨k, r1, Dn _ H1 μ1 x1 st1 rfl⟩⟩
  · cases h
/-- and, or: rows -/
abbrev UW (C : Ctx) (X : Cx) (x : Expr) (e : T) : Prop := PW X x (uT C (Cx.W X) e)
theorem PW.any {X : Cx} {e : Expr} {t : TT} (h : ∀ σ H Q, t σ H Q → ∃ t', PW X e t' ∧ t' σ H Q) : PW X e t := ⟨fun wh pins s σ H Q I q => by
  obtain ⟨t', h1, h2⟩ := h σ H Q q
  exact h1.run wh pins s σ H Q I h2⟩
theorem uw_and (ha : UT C X a ta) (hb : UW C X (.BoolOp .And (b :: rest) pos) tb) : UW C X (.BoolOp .And (a :: b :: rest) pos) (.and ta tb) := by
  refine PW.any fun σ H Q w => ⟨_, pw_and ha hb, ?_⟩
  obtain ⟨ρ, S, z, S', h, μ, ν, st, er, Dn⟩ := w
  simp only [evT] at h
  obtain ⟨d, S1, h1, h⟩ := bind_ok h
  refine ⟨ρ, S, d, _, h1, μ, ν, st, er, fun H1 μ1 x1 st1 => ?_⟩
  split at h
  · rename_i e
    rw [if_pos e]
    exact ⟨ρ, S1, z, S', h, μ1, ν, st1, er.ext x1 st1.trk, Dn.mono x1⟩
  · rename_i e
    rw [if_neg e]
    cases h
    exact Dn H1 μ1 x1 st1
theorem uw_or (ha : UT C X a ta) (hb : UW C X (.BoolOp .Or (b :: rest) pos) tb) : UW C X (.BoolOp .Or (a :: b :: rest) pos) (.or ta tb) := by
  refine PW.any fun σ H Q w => ⟨_, pw_or ha hb, ?_⟩
  obtain ⟨ρ, S, z, S', h, μ, ν, st, er, Dn⟩ := w
  simp only [evT] at h
  obtain ⟨d, S1, h1, h⟩ := bind_ok h
  refine ⟨ρ, S, d, _, h1, μ, ν, st, er, fun H1 μ1 x1 st1 => ?_⟩
  split at h
  · rename_i e
    rw [if_pos e]
    cases h
    exact Dn H1 μ1 x1 st1
  · rename_i e
    rw [if_neg e]
    exact ⟨ρ, S1, z, S', h, μ1, ν, st1, er.ext x1 st1.trk, Dn.mono x1⟩
theorem uw_and1 (ha : UT C X a ta) : UW C X (.BoolOp .And [a] pos) ta := pw_and1 ha
theorem uw_or1 (ha : UT C X a ta) : UW C X (.BoolOp .Or [a] pos) ta := pw_or1 ha
theorem u_and1 (ha : UE C X a ea) : UE C X (.BoolOp .And [a] pos) ea := pe_one ha
theorem u_or1 (ha : UE C X a ea) : UE C X (.BoolOp .Or [a] pos) ea := pe_one ha
theorem u_and (ha : UE C X a ea) (hb : UE C X (.BoolOp .And (b :: rest) pos) eb) : UE C X (.BoolOp .And (a :: b :: rest) pos) (.and ea eb) := by
  refine PE.any fun σ H Q w => ⟨_, pe_and ha hb, ?_⟩
  obtain ⟨ρ, S, z, S', h, μ, ν, st, er, Dn⟩ := w
  simp only [ev] at h
  obtain ⟨d, S1, h1, h⟩ := bind_ok h
  refine ⟨ρ, S, d, _, h1, μ, ν, st, er, fun v H1 μ1 x1 st1 r1 => ?_⟩
  split at h
  · refine ⟨true, r1, ?_⟩
    rw [if_pos rfl]
    exact ⟨ρ, S1, z, S', h, μ1, ν, st1, er.ext x1 st1.trk, Dn.mono x1⟩
  · refine ⟨false, r1, ?_⟩
    rw [if_neg Bool.false_ne_true]
    cases h
    exact Dn _ H1 μ1 x1 st1 rfl
  · cases h
theorem u_or (ha : UE C X a ea) (hb : UE C X (.BoolOp .Or (b :: rest) pos) eb) : UE C X (.BoolOp .Or (a :: b :: rest) pos) (.or ea eb) := by
  refine PE.any fun σ H Q w => ⟨_, pe_or ha hb, ?_⟩
  obtain ⟨ρ, S, z, S', h, μ, ν, st, er, Dn⟩ := w
  simp only [ev] at h
  obtain ⟨d, S1, h1, h⟩ := bind_ok h
  refine ⟨ρ, S, d, _, h1, μ, ν, st, er, fun v H1 μ1 x1 st1 r1 => ?_⟩
  split at h
  · refine ⟨false, r1, ?_⟩
    rw [if_neg Bool.false_ne_true]
    exact ⟨ρ, S1, z, S', h, μ1, ν, st1, er.ext x1 st1.trk, Dn.mono x1⟩
  · refine ⟨true, r1, ?_⟩
    rw [if_pos rfl]
    cases h
    exact Dn _ H1 μ1 x1 st1 rfl
  · cases h
theorem u_ite (hc : UT C X c tc) (ha : UE C X a ea) (hb : UE C X b eb) : UE C X (.IfExp c a b pos) (.ite tc ea eb) := by
  refine PE.any fun σ H Q w => ⟨_, pe_ifExp hc ha hb, ?_⟩
  obtain ⟨ρ, S, z, S', h, μ, ν, st, er, Dn⟩ := w
  simp only [ev] at h
  obtain ⟨d, S1, h1, h⟩ := bind_ok h
  refine ⟨ρ, S, d, _, h1, μ, ν, st, er, fun H1 μ1 x1 st1 => ?_⟩
  split at h
  · rename_i e
    rw [if_pos e]
    exact ⟨ρ, S1, z, S', h, μ1, ν, st1, er.ext x1 st1.trk, Dn.mono x1⟩
  · rename_i e
    rw [if_neg e]
    exact ⟨ρ, S1, z, S', h, μ1, ν, st1, er.ext x1 st1.trk, Dn.mono x1⟩
end
/-! ### rows of expressions, displays -/
section
variable {C : Ctx} {X : Cx} {a : Expr} {es : List Expr} {ea : E} {xs : List E} {pos : Pos}
theorem us_nil : UEs C X [] [] := PA.any fun σ H Q w => ⟨_, pa_nil, by
  obtain ⟨ρ, S, z, S', h, μ, ν, st, er, Dn⟩ := w
  simp only [evs] at h
  cases h
  exact Dn [] H μ (Ext.refl _ _) st .nil⟩
theorem us_cons (ha : UE C X a ea) (hs : UEs C X es xs) (hst : starEach (a :: es) X.env = (false, eval a X.env) :: starEach es X.env) : UEs C X (a :: es) (ea :: xs) := by
  refine PA.any fun σ H Q w => ⟨_, pa_cons ha hs hst, ?_⟩
  obtain ⟨ρ, S, z, S', h, μ, ν, st, er, Dn⟩ := w
  simp only [evs] at h
  obtain ⟨d, S1, h1, h⟩ := bind_ok h
  obtain ⟨ds, S2, h2, h⟩ := bind_ok h
  cases h
  exact ⟨ρ, S, d, _, h1, μ, ν, st, er, fun v H1 μ1 x1 st1 r1 => ⟨ρ, S1, ds, _, h2, μ1, ν, st1, er.ext x1 st1.trk, fun vs H2 μ2 x2 st2 r2 => Dn _ H2 μ2 (x1.trans x2) st2 (.cons (r1.ext x2 st2.trk) r2)⟩⟩
theorem evs_len {C : Ctx} : ∀ {xs : List E} {ρ : Env} {S S' : Store} {ds : List D}, evs C xs ρ S = some (.ok ds S') → ds.length = xs.length
  | [], ρ, S, S', ds, h => by simp only [evs] at h; cases h; rfl
  | x :: xs, ρ, S, S', ds, h => by
    simp only [evs] at h
    obtain ⟨d, S1, h1, h⟩ := bind_ok h
    obtain ⟨ds, S2, h2, h⟩ := bind_ok h
    cases h
    simp [evs_len h2]
theorem u_tup {k : Nat} (hs : UEs C X es xs) (hl : xs.length ≤ 1000) : UE C X (.Tuple es k pos) (.tup xs) := by
  refine PE.any fun σ H Q w => ⟨_, PEfine (pe_tupF hs) fun σ H Q f q => q, ?_⟩
  obtain ⟨ρ, S, z, S', h, μ, ν, st, er, Dn⟩ := w
  simp only [ev] at h
  obtain ⟨ds, S1, h1, h⟩ := bind_ok h
  cases h
  refine ⟨ρ, S, ds, _, h1, μ, ν, st, er, fun vs H1 μ1 x1 st1 r1 => ⟨?_, (Dn.mono x1).tup st1 r1⟩⟩
  rw [← r1.length, evs_len h1, sizeLine_eq]
  omega
theorem uf_lst (hs : UEs C X es xs) (hl : xs.length ≤ 1000) : UF C X (.List es pos) (.lst xs) := by
  refine PE.any fun σ H Q w => ⟨_, PEfine (pe_lst hs) fun σ H Q f q => q, ?_⟩
  obtain ⟨ρ, S, z, S', h, μ, ν, st, er, Dn⟩ := w
  simp only [ev] at h
  obtain ⟨ds, S1, h1, h⟩ := bind_ok h
  cases h
  refine ⟨ρ, S, _, _, h1, μ, ν, st, er, fun vs H1 μ1 x1 st1 r1 => ⟨?_, ?_⟩⟩
  · rw [← r1.length, evs_len h1, sizeLine_eq]
    omega
  · intro p hp f
    have x := Ext.laid (μ := μ1) (o := .lst vs) hp
    have st2 := st1.apart hp (o := .lst vs) trivial f
    refine Dn p vs _ μ1 (fun o ho => ?_) (st1.notInN hp) upd_same (x1.trans x) st2 ((r1.apart hp).ext x st2.trk)
    exact fresh_at x1 st1 hp o ho
end
end Rf
/-! Calls, methods, fields, indexes, slices, dicts. -/
namespace Rf
open PySem PySem.Spec PyProof.Rows L2

/-! ### new lists -/
theorem DoneF.at {W : Wd} {μ μ1 ν : List Addr} {H H1 : Hp} {S : Store} {ds : List D} {vs : List V} {Q : VK} (Dn : DoneF W μ ν H S ds Q) (x1 : Ext μ μ1 H H1) (st1 : StR W μ1 ν S H1) (r1 : VRs W μ1 ν H1 ds vs) : NewL H1 vs fun v H' => Fine W.K H' → Q v H' := fun p hp f => by
  have x := Ext.laid (μ := μ1) (o := .lst vs) hp
  have st2 := st1.apart hp (o := .lst vs) trivial f
  exact Dn p vs _ μ1 (fun o ho => fresh_at x1 st1 hp o ho) (st1.notInN hp) upd_same (x1.trans x) st2 ((r1.apart hp).ext x st2.trk)
section
variable {C : Ctx} {X : Cx} {x : Expr} {e : E}
theorem uf_val (h : UF C X x e) (he : ∀ ρ S z S', ev C e ρ S = some (.ok z S') → ∃ ds, z = .lst ds) : UE C X x e := by
  refine PE.any fun σ H Q w => ⟨_, h, ?_⟩
  obtain ⟨ρ, S, z, S', h, μ, ν, st, er, Dn⟩ := w
  obtain ⟨ds, rfl⟩ := he ρ S z S' h
  exact ⟨ρ, S, ds, S', h, μ, ν, st, er, Dn.fresh⟩
theorem uf_mk (h : UF C X x e) : UE C X x (.mk e) := by
  refine PE.any fun σ H Q w => ⟨_, h, ?_⟩
  obtain ⟨ρ, S, z, S', h, μ, ν, st, er, Dn⟩ := w
  simp only [ev] at h
  obtain ⟨d, S1, h1, h2⟩ := bind_ok h
  split at h2
  · rename_i ds
    cases h2
    exact ⟨ρ, S, ds, _, h1, μ, ν, st, er, Dn.cell⟩
  · cases h2
theorem ev_lst {es : List E} {ρ : Env} {S S' : Store} {z : D} (h : ev C (.lst es) ρ S = some (.ok z S')) : ∃ ds, z = .lst ds := by
  simp only [ev] at h
  obtain ⟨ds, S1, h1, h2⟩ := bind_ok h
  cases h2
  exact ⟨_, rfl⟩
theorem ev_comp {elt : E} {tg : Tg} {vs : List Nat} {ik : IK} {its : List E} {cond : List T} {ρ : Env} {S S' : Store} {z : D} (h : ev C (.comp elt tg vs ik its cond) ρ S = some (.ok z S')) : ∃ ds, z = .lst ds := by
  simp only [ev] at h
  obtain ⟨ds, S1, h1, h2⟩ := bind_ok h
  split at h2
  · obtain ⟨acc, S5, h3, h4⟩ := bind_ok h2
    split at h4
    · cases h4; exact ⟨_, rfl⟩
    · cases h4
  · cases h2
end
/-! ### arguments without stars -/
theorem star_cons {a : Expr} {es : List Expr} {env : PySem.Env} (h : starless a = true) : starEach (a :: es) env = (false, eval a env) :: starEach es env := by
  cases a <;> first | rfl | cases h
theorem star_none {pos : Pos} {env : PySem.Env} : ∀ {es : List Expr}, es.all starless = true → (backTo pos (starEach es env)).any (·.1) = false
  | [], _ => rfl
  | a :: es, h => by
    simp only [List.all_cons, Bool.and_eq_true] at h
    rw [star_cons h.1]
    show (false || (backTo pos (starEach es env)).any (·.1)) = false
    rw [star_none h.2]; rfl
theorem star_all {pos : Pos} {env : PySem.Env} : ∀ {es : List Expr}, es.all starless = true → (backTo pos (starEach es env)).all (fun x => !x.1) = true
  | [], _ => rfl
  | a :: es, h => by
    simp only [List.all_cons, Bool.and_eq_true] at h
    rw [star_cons h.1]
    show (true && (backTo pos (starEach es env)).all (fun x => !x.1)) = true
    rw [star_all h.2]; rfl
/-! ### built-ins -/
section
variable {C : Ctx} {X : Cx} {es : List Expr} {xs : List E} {x : Str} {p pos : Pos}
theorem blt_name {b : B} (h : bltOf x = some b) : bootBuiltins x = some b.val ∧ x ≠ "__name__" ∧ (x == ("__debug__" : Str)) = false ∧ ((∃ id, b.val = .builtin id) ∨ ∃ T, b.val = .type T) := by
  unfold bltOf at h
  repeat' split at h
  all_goals first
    | (rename_i e; subst e; cases h; exact ⟨by rfl, by decide, by decide, by first | exact .inl ⟨_, rfl⟩ | exact .inr ⟨_, rfl⟩⟩)
    | cases h
theorem pe_callV {f : Value} {r : List V → Hp → VK → Prop} {t : TA} (hk : (∃ id, f = .builtin id) ∨ ∃ T, f = .type T) (hc : CallR X f r) (hg : Gl X x) (hm : X.mg x = none) (hv : bootBuiltins x = some f) (ha : PA X es t) (hn : x ≠ "__name__") (hdb : (x == ("__debug__" : Str)) = false)
    (hs : es.all starless = true) (h0 : es ≠ []) : PE X (.Call (.Name x p) es [] pos) (tCB r t) := by
  cases es with
  | nil => exact absurd rfl h0
  | cons a es =>
    simp only [List.all_cons, Bool.and_eq_true] at hs
    rcases hk with ⟨id, rfl⟩ | ⟨T, rfl⟩
    · exact pe_callB hc hg hm hv ha hn hdb (star_cons hs.1) (star_none hs.2)
    · exact pe_callTy hc hg hm hv ha hn hdb (star_cons hs.1) (star_none hs.2)
theorem blt_snd {b : B} {n : Nat} {S : Store} {ds : List D} {z : D} (hr : Room n X.A) (hgd : X.A.guards = some []) (hc : X.calm = true) (hx : bltOf x = some b) (h : bltD S b ds = some z) : CallR X b.val (rBl (Cx.W X) S ds z) := by
  unfold bltD at h
  split at h
  · exact len_snd h
  · exact int_snd h
  · exact abs_snd h
  · exact max_snd hc h
  · exact min_snd hc h
  · exact sum_snd hc h
  · exact sorted_snd hr h
  · exact tuple_snd h
  · exact list_snd h
  · exact repr_snd hr hgd h
  · unfold bltOf at hx
    repeat' split at hx
    all_goals cases hx
  · cases h
  · cases h
theorem blt_args {b : B} {S : Store} {z : D} (h : bltD S b [] = some z) : False := by
  unfold bltD at h
  split at h <;> first | (simp [lenD, intD, absD, maxD, minD, sumD, sortedD, tupleD, listD, reprD, isiL] at h; done) | cases h
theorem u_blt {b : B} {n : Nat} (hr : Room n X.A) (hgd : X.A.guards = some []) (hc : X.calm = true) (hx : bltOf x = some b) (hg : Gl X x) (hm : X.mg x = none) (ha : UEs C X es xs) (hs : es.all starless = true) (hl : xs.length = es.length) :
    UE C X (.Call (.Name x p) es [] pos) (.callB b xs) := by
  obtain ⟨h1, h2, h3, h4⟩ := blt_name hx
  refine PE.any fun σ H Q w => ?_
  obtain ⟨ρ, S, z, S', h, μ, ν, st, er, Dn⟩ := w
  simp only [ev] at h
  obtain ⟨ds, S1, hd, h⟩ := bind_ok h
  obtain ⟨hb, rfl⟩ := lift_ok h
  have h0 : es ≠ [] := fun e => by
    subst e
    have := evs_len hd
    rw [hl] at this
    have : ds = [] := List.eq_nil_of_length_eq_zero this
    subst this
    exact blt_args hb
  exact ⟨_, pe_callV h4 (blt_snd hr hgd hc hx hb) hg hm h1 ha h2 h3 hs h0, ρ, S, ds, _, hd, μ, ν, st, er, fun vs H1 μ1 x1 st1 r1 => ⟨μ1, ν, st1, r1, Dn.mono x1⟩⟩
/-- list(..), sorted(..): new lists -/
theorem uf_blt {b : B} {n : Nat} (hr : Room n X.A) (hc : X.calm = true) (hx : bltOf x = some b) (hbb : b = .list ∨ b = .sorted) (hg : Gl X x) (hm : X.mg x = none) (ha : UEs C X es xs) (hs : es.all starless = true) (hl : xs.length = es.length) :
    UF C X (.Call (.Name x p) es [] pos) (.callB b xs) := by
  obtain ⟨h1, h2, h3, h4⟩ := blt_name hx
  refine PE.any fun σ H Q w => ?_
  obtain ⟨ρ, S, z, S', h, μ, ν, st, er, Dn⟩ := w
  simp only [ev] at h
  obtain ⟨ds, S1, hd, h⟩ := bind_ok h
  obtain ⟨hb, rfl⟩ := lift_ok h
  have h0 : es ≠ [] := fun e => by
    subst e
    have := evs_len hd
    rw [hl] at this
    have : ds = [] := List.eq_nil_of_length_eq_zero this
    subst this
    exact blt_args hb
  have key : CallR X b.val (rBlN (Cx.W X) S' ds z) := by
    rcases hbb with rfl | rfl
    · obtain ⟨es', e, c⟩ := list_sndN (X := X) hb
      cases e
      exact c
    · obtain ⟨es', e, c⟩ := sorted_sndN (X := X) hr hb
      cases e
      exact c
  exact ⟨_, pe_callV h4 key hg hm h1 ha h2 h3 hs h0, ρ, S, ds, _, hd, μ, ν, st, er, fun vs H1 μ1 x1 st1 r1 => ⟨μ1, ν, st1, r1, fun ws rw => Dn.at x1 st1 rw⟩⟩
end
theorem ev_blt {C : Ctx} {b : B} {xs : List E} {ρ : Env} {S S' : Store} {z : D} (hb : b = .list ∨ b = .sorted) (h : ev C (.callB b xs) ρ S = some (.ok z S')) : ∃ ds, z = .lst ds := by
  simp only [ev] at h
  obtain ⟨ds, S1, hd, h⟩ := bind_ok h
  obtain ⟨h1, rfl⟩ := lift_ok h
  rcases hb with rfl | rfl
  · simp only [bltD, listD] at h1
    split at h1 <;> try cases h1
    split at h1 <;> first | (cases h1; exact ⟨_, rfl⟩) | cases h1
  · simp only [bltD, sortedD] at h1
    split at h1 <;> try cases h1
    split at h1 <;> try cases h1
    split at h1 <;> try cases h1
    split at h1 <;> first | (cases h1; exact ⟨_, rfl⟩) | cases h1
/-! ### isinstance -/
section
variable {C : Ctx} {X : Cx} {a : Expr} {ea : E} {t : Str} {p p2 pos : Pos}
theorem ty_boot (h : tyName t = true) : bootBuiltins t = some (.type (tyStr t)) ∧ t ≠ "__name__" ∧ (t == ("__debug__" : Str)) = false := by
  unfold tyName at h
  simp only [Bool.or_eq_true, decide_eq_true_eq] at h
  rcases h with ((((rfl | rfl) | rfl) | rfl) | rfl) | rfl <;> exact ⟨by rfl, by decide, by decide⟩
theorem u_isi (hi : Gl X "isinstance") (him : X.mg "isinstance" = none) (ht : Gl X t) (htm : X.mg t = none) (hn : tyName t = true) (ha : UE C X a ea) (hs : starless a = true) :
    UE C X (.Call (.Name "isinstance" p) [a, .Name t p2] [] pos) (.callB (.isi t) [ea]) := by
  obtain ⟨b1, b2, b3⟩ := ty_boot hn
  refine PE.any fun σ H Q w => ?_
  obtain ⟨ρ, S, z, S', h, μ, ν, st, er, Dn⟩ := w
  simp only [ev] at h
  obtain ⟨ds, S1, hd, h⟩ := bind_ok h
  obtain ⟨hb, rfl⟩ := lift_ok h
  simp only [evs] at hd
  obtain ⟨d, S2, h1, hd⟩ := bind_ok hd
  obtain ⟨ds2, S3, h2, hd⟩ := bind_ok hd
  cases h2
  cases hd
  have hb : isiL S' t [d] = some z := hb
  have hall : [a, Expr.Name t p2].all starless = true := by
    show (starless a && (true && true)) = true
    rw [hs]; rfl
  refine ⟨_, pe_callV (.inl ⟨"isinstance", rfl⟩) (isi_snd hb) hi him (by rfl) (pa_cons ha (pa_cons (pe_bltn (v := .ty (tyStr t)) ht htm b1 rfl b2 b3) pa_nil (star_cons rfl)) (star_cons hs)) (by decide) (by decide) hall (by simp), ?_⟩
  exact ⟨ρ, S, d, _, h1, μ, ν, st, er, fun v H1 μ1 x1 st1 r1 => ⟨[v], rfl, μ1, ν, st1, .cons r1 .nil, Dn.mono x1⟩⟩
end
/-! ### the program's functions -/
section
variable {P : Prog} {n : Nat} {X : Cx} {es : List Expr} {xs : List E} {x : Str} {p pos : Pos}
theorem u_glob {d : D} (F : FnsOk (Cx.bd X) P n) (hx : nameOk x = true) (hg : Gl X x) : UE (ctx P n) X (.Name x pos) (.glob x) := by
  obtain ⟨h1, h2, h3⟩ := nameOk_of hx
  refine PE.any fun σ H Q w => ?_
  obtain ⟨ρ, S, z, S', h, μ, ν, st, er, Dn⟩ := w
  simp only [ev] at h
  obtain ⟨hd, rfl⟩ := lift_ok h
  have hd : P.glob x = some z := by cases n <;> exact hd
  obtain ⟨u, v, h4, h5, h6⟩ := F.glob x z hd
  exact ⟨_, pe_glob hg h4 h5 h1, Dn.here st (h6 μ ν H st.trk)⟩
theorem u_call (F : FnsOk (Cx.bd X) P n) (hr : Room (8 * n) X.A) (hgd : X.A.guards = some []) (hx : nameOk x = true) (hg : Gl X x) (ha : UEs (ctx P n) X es xs) (hs : es.all starless = true) (hl : xs.length = es.length) : UE (ctx P n) X (.Call (.Name x p) es [] pos) (.callG x xs) := by
  obtain ⟨n1, n2, n3⟩ := nameOk_of hx
  refine PE.any fun σ H Q w => ?_
  obtain ⟨ρ, S, z, S', h, μ, ν, st, er, Dn⟩ := w
  simp only [ev] at h
  obtain ⟨ds, S1, hd, h⟩ := bind_ok h
  obtain ⟨u, h1, h2, h3⟩ := F.call x ds S1 z S' h
  have hc := h3 X rfl hr hgd
  refine ⟨fun σ H Q => uEs (ctx P n) (Cx.W X) xs σ H (fun vs H1 => rCl (Cx.W X) S1 ds z S' vs H1 Q), ⟨fun pins s σ H Q I q => ?_⟩, ρ, S, ds, _, hd, μ, ν, st, er, fun vs H1 μ1 x1 st1 r1 => ⟨μ1, ν, st1, r1, Dn.mono x1⟩⟩
  refine wpAny_Call_Name_kw (ld_glob I hg h1 ?_ n1)
  cases es with
  | nil =>
    cases List.eq_nil_of_length_eq_zero hl
    refine PySem.W.callWith_K0 I.kIn h2 ?_
    obtain ⟨ρ', S2, ds', S3, g1, μ', ν', st', er', D'⟩ := q
    simp only [evs] at g1
    cases g1
    exact hc pins s σ H [] [] Q I .nil (D' [] H μ' (Ext.refl _ _) st' .nil)
  | cons a es =>
    simp only [List.all_cons, Bool.and_eq_true] at hs
    exact PySem.W.callWith_K (h₀ := X.base) I.ok.mod.kin h2 (thn (ha.run pos pins s σ H _ I q) fun us s1 ⟨vs, H1, I1, r, q⟩ => ⟨I1.kIn, hc pins s1 σ H1 vs us Q I1 r q⟩) (star_cons hs.1) (star_none hs.2)
theorem FRs.look {W : Wd} {μ ν : List Addr} {H : Hp} (f : Str) : ∀ {fs : List (Str × D)} {gs : List (Str × V)}, FRs W μ ν H fs gs → (fs.lookup f = none → gs.lookup f = none) ∧ ∀ d, fs.lookup f = some d → ∃ v, gs.lookup f = some v ∧ VR W μ ν H d v
  | [], gs, h => by
    cases (show gs = [] from h)
    exact ⟨fun _ => rfl, fun d e => by cases e⟩
  | (k, d) :: fs, gs, h => by
    obtain ⟨v, r, rfl, h1, h2⟩ := h
    have ih := FRs.look f h2
    by_cases e : (f == k) = true
    · refine ⟨fun z => by simp [List.lookup, e] at z, fun d' z => ?_⟩
      simp only [List.lookup, e] at z ⊢
      cases z
      exact ⟨v, rfl, h1⟩
    · have e : (f == k) = false := by simpa using e
      simp only [List.lookup, e]
      exact ih
theorem abase {o : Expr} {m : Str} {env : PySem.Env} {whole : Sem Value} (h : baseOk o = true) : attributeBase o m env whole = whole := by
  unfold attributeBase
  split
  · cases h
  · rfl
theorem u_fld {o : Expr} {eo : E} {f : Str} (F : FnsOk (Cx.bd X) P n) (ho : UE (ctx P n) X o eo) (hb : baseOk o = true) : UE (ctx P n) X (.Attribute o f pos) (.fld eo f) := by
  refine PE.any fun σ H Q w => ⟨_, pe_fld ho (abase hb), ?_⟩
  obtain ⟨ρ, S, z, S', h, μ, ν, st, er, Dn⟩ := w
  simp only [ev] at h
  obtain ⟨d, S1, h1, h⟩ := bind_ok h
  split at h <;> try cases h
  rename_i j
  split at h <;> try cases h
  rename_i c fs hs
  split at h <;> try cases h
  rename_i hc
  obtain ⟨hl, rfl⟩ := lift_ok h
  have hc : P.flds c f = true := by cases n <;> exact hc
  refine ⟨ρ, S, _, _, h1, μ, ν, st, er, fun v H1 μ1 x1 st1 r1 => ?_⟩
  have r2 := r1
  obtain ⟨a, ha, rfl⟩ := r1
  obtain ⟨C, dx, gs, g1, g2, g3⟩ := st1.cells j _ a hs ha
  obtain ⟨c1, c2⟩ := F.fld c f C hc g1
  obtain ⟨v, l1, l2⟩ := (FRs.look f g3).2 z hl
  exact ⟨a, C, dx, gs, v, rfl, g2, c1, c2, l1, Dn v H1 μ1 x1 st1 l2⟩
theorem clsOf_some {S : Store} {d : D} {m c : Str} (h : clsOf S d m = some c) : ∃ j fs, d = .ref j ∧ S[j]? = some (.ins c fs) ∧ fs.lookup m = none := by
  unfold clsOf at h
  split at h <;> try cases h
  rename_i j
  split at h <;> try cases h
  rename_i c' fs hS
  split at h <;> try cases h
  rename_i hno
  exact ⟨j, fs, rfl, hS, by simpa using hno⟩
/-- o.m(..) -/
theorem u_meth {o : Expr} {eo : E} {m : Str} {ap : Pos} (F : FnsOk (Cx.bd X) P n) (hr : Room (8 * n) X.A) (hgd : X.A.guards = some []) (ho : UE (ctx P n) X o eo) (hb : baseOk o = true) (ha : UEs (ctx P n) X es xs) (hs : es.all starless = true) (hl : xs.length = es.length)
    (hline : (ap.endLine == pos.line) = true) (hn : es.length < 20) : UE (ctx P n) X (.Call (.Attribute o m ap) es [] pos) (.meth eo m xs) := by
  have hform : methodCallForm (es.length + ([] : List Keyword).length) (backTo pos (starEach es X.env)) (backToKw pos (keywordEach [] X.env)) = true := by
    unfold methodCallForm
    rw [star_all hs]
    simp [backToKw, keywordEach]
    omega
  have ht := mcall_of (o := o) (m := m) (apos := ap) (pos := pos) (args := es) (kws := []) (env := X.env) (abase hb) fun ov => mcall_line (ov := ov) hform hline
  refine PE.any fun σ H Q w => ?_
  obtain ⟨ρ, S, z, S', h, μ, ν, st, er, Dn⟩ := w
  simp only [ev] at h
  obtain ⟨d, S1, h1, h⟩ := bind_ok h
  obtain ⟨ds, S2, h2, h⟩ := bind_ok h
  split at h
  · rename_i c hcl
    obtain ⟨j, fs, rfl, hS, hno⟩ := clsOf_some hcl
    obtain ⟨Ca, f, g1, g2, g3, g4⟩ := F.meth c m _ S2 z S' h
    have hc := g4 X rfl hr hgd
    refine ⟨fun σ H Q => uE (ctx P n) (Cx.W X) eo σ H fun v H1 => ∃ a dx gs, v = .ref a ∧ H1 a = some (.ins Ca dx gs) ∧ gs.lookup m = none ∧ uEs (ctx P n) (Cx.W X) xs σ H1 (fun vs H2 => rCl (Cx.W X) S2 (.ref j :: ds) z S' (v :: vs) H2 Q),
      ⟨fun pins s σ H Q I q => ?_⟩, ρ, S, _, _, h1, μ, ν, st, er, fun v H1 μ1 x1 st1 r1 => ?_⟩
    · refine PySem.W.methodCall_KW (pl := plainOf o X.env) (thn (ho.run pins s σ H _ I q) fun u s1 ⟨v, H1, I1, rx, a, dx, gs, ex, ea, l, q1⟩ => ?_) ht
      subst ex
      obtain rfl : u = Value.ref a := rx
      refine getmeth_ok I1 ea g2 g3 l ?_
      cases es with
      | nil =>
        cases List.eq_nil_of_length_eq_zero hl
        refine PySem.W.callWith_K0 (first := [.ref a]) I1.kIn g3.kp ?_
        obtain ⟨ρ', S2', ds', S3, k1, μ', ν', st', er', D'⟩ := q1
        simp only [evs] at k1
        cases k1
        exact hc pins s1 σ H1 [.ref a] [.ref a] Q I1 (.cons rfl .nil) (D' [] H1 μ' (Ext.refl _ _) st' .nil)
      | cons e es =>
        simp only [List.all_cons, Bool.and_eq_true] at hs
        exact PySem.W.callWith_K (first := [.ref a]) (h₀ := X.base) I.ok.mod.kin g3.kp (thn (ha.run pos pins s1 σ H1 _ I1 q1) fun us s2 ⟨vs, H2, I2, r, q2⟩ => ⟨I2.kIn, hc pins s2 σ H2 (.ref a :: vs) (.ref a :: us) Q I2 (.cons rfl r) q2⟩) (star_cons hs.1) (star_none hs.2)
    · have r2 := r1
      obtain ⟨a, hja, rfl⟩ := r1
      obtain ⟨C', dx, gs, k1, k2, k3⟩ := st1.cells j _ a hS hja
      cases g1.symm.trans k1
      refine ⟨a, dx, gs, rfl, k2, (FRs.look m k3).1 hno, ρ, S1, ds, _, h2, μ1, ν, st1, er.ext x1 st1.trk, fun vs H2 μ2 x2 st2 rs => ⟨μ2, ν, st2, .cons (r2.ext x2 st2.trk) rs, Dn.mono (x1.trans x2)⟩⟩
  · split at h
    · rename_i t hmt
      have hM := mt_snd (X := X) hr h
      have hnm := mtOf_nm hmt
      refine ⟨fun σ H Q => uE (ctx P n) (Cx.W X) eo σ H fun v H1 => ∃ μ ν, StR (Cx.W X) μ ν S1 H1 ∧ VR (Cx.W X) μ ν H1 d v ∧ uEs (ctx P n) (Cx.W X) xs σ H1 (fun vs H2 => rMt (Cx.W X) S2 d ds z S' v vs H2 Q),
        ⟨fun pins s σ H Q I q => ?_⟩, ρ, S, _, _, h1, μ, ν, st, er, fun v H1 μ1 x1 st1 r1 => ?_⟩
      · refine PySem.W.methodCall_KW (pl := plainOf o X.env) (thn (ho.run pins s σ H _ I q) fun u s1 ⟨v, H1, I1, rx, μ', ν', st', rv, q1⟩ => ?_) ht
        obtain ⟨t1, t2⟩ := mt_type I1 st' rv rx hmt
        subst hnm
        refine getMethod_builtin t1 t.pa t.slot t.ty t2 ?_
        cases es with
        | nil =>
          cases List.eq_nil_of_length_eq_zero hl
          refine Calls.callWith_builtin rfl (PySem.evalArgs_none ?_)
          obtain ⟨ρ', S2', ds', S3, k1, μ', ν', st', er', D'⟩ := q1
          simp only [evs] at k1
          cases k1
          exact hM pins s1 σ H1 v [] u [] Q I1 rx .nil (D' [] H1 μ' (Ext.refl _ _) st' .nil)
        | cons e es =>
          simp only [List.all_cons, Bool.and_eq_true] at hs
          have hA := ha.run pos pins s1 σ H1 _ I1 q1
          show wpAny _ _ (callWith pos (.builtin t.id) [u] (backTo pos (starEach (e :: es) X.env)) []) _ _ s1
          rw [star_cons hs.1] at hA ⊢
          refine Calls.callWith_builtin (by show (false || (backTo pos (starEach es X.env)).any (·.1)) = false; rw [star_none hs.2] <;> rfl) (Calls.evalArgs_plain ?_)
          exact thn hA fun us s2 ⟨vs, H2, I2, r2, q2⟩ => hM pins s2 σ H2 v vs u us Q I2 rx r2 q2
      · exact ⟨μ1, ν, st1, r1, ρ, S1, ds, _, h2, μ1, ν, st1, er.ext x1 st1.trk, fun vs H2 μ2 x2 st2 rs => ⟨μ2, ν, st2, r1.ext x2 st2.trk, rs, Dn.mono (x1.trans x2)⟩⟩
    · cases h
end
end Rf
/-! Indexes, slices, dicts, what is walked. -/
namespace Rf
open PySem PySem.Spec PyProof.Rows L2

section
variable {C : Ctx} {X : Cx} {a b : Expr} {ea eb : E} {pos p2 : Pos}
theorem u_bad {x : Expr} : UE C X x .bad := PE.any fun σ H Q w => by
  obtain ⟨ρ, S, z, S', h, _⟩ := w
  cases h
theorem ut_bad {x : Expr} : UT C X x (.val .bad) := PT.any fun σ H Q w => by
  obtain ⟨ρ, S, z, S', h, _⟩ := w
  simp only [evT, ev, RM.bind_none] at h
  cases h
theorem plain_ix (h : ∀ lo hi p, b ≠ .Slice lo hi none p) : PlainIx b := by
  intro o i
  unfold subscripted
  split
  · exact absurd rfl (h _ _ _)
  · rename_i e; cases e
  · rfl
theorem u_idx {n : Nat} (hr : Room n X.A) (ha : UE C X a ea) (hb : UE C X b eb) (hp : PlainIx b) : UE C X (.Subscript a b pos) (.idx ea eb) := by
  refine PE.any fun σ H Q w => ?_
  obtain ⟨ρ, S, z, S', h, μ, ν, st, er, Dn⟩ := w
  simp only [ev] at h
  obtain ⟨x, S1, h1, h⟩ := bind_ok h
  obtain ⟨y, S2, h2, h⟩ := bind_ok h
  obtain ⟨h3, rfl⟩ := lift_ok h
  exact ⟨_, pe_ix (ix_snd (by have := hr.units; omega) h3) ha hb hp, ρ, S, x, S1, h1, μ, ν, st, er, fun v H1 μ1 x1 st1 r1 => ⟨ρ, S1, y, S', h2, μ1, ν, st1, er.ext x1 st1.trk, fun u H2 μ2 x2 st2 r2 =>
    ⟨μ2, ν, st2, r1.ext x2 st2.trk, r2, Dn.mono (x1.trans x2)⟩⟩⟩
theorem u_rev {k : Nat} {q1 q2 q3 : Pos} (ha : UE C X a ea) : UE C X (.Subscript a (.Slice none none (some (.UnaryOp .USub (.Constant (.int 1) k q1) q2)) q3) pos) (.rev ea) := by
  refine PE.any fun σ H Q w => ?_
  obtain ⟨ρ, S, z, S', h, μ, ν, st, er, Dn⟩ := w
  simp only [ev] at h
  obtain ⟨x, S1, h1, h⟩ := bind_ok h
  obtain ⟨h3, rfl⟩ := lift_ok h
  exact ⟨_, pe_rev ha h3, ρ, S, x, _, h1, μ, ν, st, er, fun v H1 μ1 x1 st1 r1 => ⟨μ1, ν, st1, r1, Dn.mono x1⟩⟩
/-- one end of a slice -/
def uO (C : Ctx) (W : Wd) (es : List E) : TO := fun σ H Q => ∃ ρ S z S', evs C es ρ S = some (.ok z S') ∧ ∃ μ ν, StR W μ ν S H ∧ ER W μ ν H ρ σ ∧ ((z = [] ∧ ∀ H' μ', Ext μ μ' H H' → StR W μ' ν S' H' → Q none H') ∨ ∃ i, z = [.int i] ∧ ∀ H' μ', Ext μ μ' H H' → StR W μ' ν S' H' → Q (some i) H')
theorem PO.imp {e : Option Expr} {t t' : TO} (h : PO X e t) (i : ∀ σ H Q, t' σ H Q → t σ H Q) : PO X e t' := ⟨fun pins s σ H Q I q => h.run pins s σ H Q I (i σ H Q q)⟩
theorem uo_none : PO X none (uO C (Cx.W X) []) := PO.imp po_none fun σ H Q w => by
  obtain ⟨ρ, S, z, S', h, μ, ν, st, er, h1⟩ := w
  simp only [evs] at h
  cases h
  rcases h1 with ⟨_, h1⟩ | ⟨i, e, _⟩
  · exact h1 H μ (Ext.refl _ _) st
  · cases e
theorem uo_some (ha : UE C X a ea) : PO X (some a) (uO C (Cx.W X) [ea]) := PO.imp (po_some ha) fun σ H Q w => by
  obtain ⟨ρ, S, z, S', h, μ, ν, st, er, h1⟩ := w
  simp only [evs] at h
  obtain ⟨d, S1, h2, h⟩ := bind_ok h
  obtain ⟨ds, S2, h3, h⟩ := bind_ok h
  cases h3
  cases h
  rcases h1 with ⟨e, _⟩ | ⟨i, e, h1⟩
  · cases e
  · cases e
    refine ⟨ρ, S, _, _, h2, μ, ν, st, er, fun v H1 μ1 x1 st1 r1 => ?_⟩
    cases r1
    exact ⟨i, rfl, h1 H1 μ1 x1 st1⟩
theorem u_slc {lo hi : Option Expr} {el eh : List E} (ha : UE C X a ea) (hl : PO X lo (uO C (Cx.W X) el)) (hh : PO X hi (uO C (Cx.W X) eh)) : UE C X (.Subscript a (.Slice lo hi none p2) pos) (.slc ea el eh) := by
  refine PE.any fun σ H Q w => ?_
  obtain ⟨ρ, S, z, S', h, μ, ν, st, er, Dn⟩ := w
  simp only [ev] at h
  obtain ⟨x, S1, h1, h⟩ := bind_ok h
  obtain ⟨l, S2, h2, h⟩ := bind_ok h
  obtain ⟨u, S3, h3, h⟩ := bind_ok h
  have key : ∃ lo hi, slcD S3 x lo hi = some z ∧ S' = S3 ∧ ((l = [] ∧ lo = none) ∨ ∃ i, l = [.int i] ∧ lo = some i) ∧ ((u = [] ∧ hi = none) ∨ ∃ i, u = [.int i] ∧ hi = some i) := by
    split at h
    · obtain ⟨h4, rfl⟩ := lift_ok h; exact ⟨_, _, h4, rfl, .inl ⟨rfl, rfl⟩, .inl ⟨rfl, rfl⟩⟩
    · obtain ⟨h4, rfl⟩ := lift_ok h; exact ⟨_, _, h4, rfl, .inr ⟨_, rfl, rfl⟩, .inl ⟨rfl, rfl⟩⟩
    · obtain ⟨h4, rfl⟩ := lift_ok h; exact ⟨_, _, h4, rfl, .inl ⟨rfl, rfl⟩, .inr ⟨_, rfl, rfl⟩⟩
    · obtain ⟨h4, rfl⟩ := lift_ok h; exact ⟨_, _, h4, rfl, .inr ⟨_, rfl, rfl⟩, .inr ⟨_, rfl, rfl⟩⟩
    · cases h
  obtain ⟨lo, hi, h4, rfl, k1, k2⟩ := key
  have fin : ∀ (μ2 : List Addr) (H2 : Hp) (v : V), Ext μ μ2 H H2 → StR (Cx.W X) μ2 ν S2 H2 → VR (Cx.W X) μ2 ν H2 x v → uO C (Cx.W X) eh σ H2 fun o H3 => rSl (Cx.W X) S' x lo hi z v lo o H3 Q := fun μ2 H2 v x2 st2 r2 => by
    refine ⟨ρ, _, u, _, h3, μ2, ν, st2, er.ext x2 st2.trk, ?_⟩
    rcases k2 with ⟨rfl, rfl⟩ | ⟨i, rfl, rfl⟩
    · exact .inl ⟨rfl, fun H3 μ3 x3 st3 => ⟨rfl, rfl, μ3, ν, st3, r2.ext x3 st3.trk, Dn.mono (x2.trans x3)⟩⟩
    · exact .inr ⟨i, rfl, fun H3 μ3 x3 st3 => ⟨rfl, rfl, μ3, ν, st3, r2.ext x3 st3.trk, Dn.mono (x2.trans x3)⟩⟩
  refine ⟨_, pe_slice (sl_snd h4) ha hl hh, ρ, S, x, S1, h1, μ, ν, st, er, fun v H1 μ1 x1 st1 r1 => ⟨ρ, S1, l, S2, h2, μ1, ν, st1, er.ext x1 st1.trk, ?_⟩⟩
  rcases k1 with ⟨rfl, rfl⟩ | ⟨i, rfl, rfl⟩
  · exact .inl ⟨rfl, fun H2 μ2 x2 st2 => fin μ2 H2 v (x1.trans x2) st2 (r1.ext x2 st2.trk)⟩
  · exact .inr ⟨i, rfl, fun H2 μ2 x2 st2 => fin μ2 H2 v (x1.trans x2) st2 (r1.ext x2 st2.trk)⟩
end
/-! ### tuple(range(..)) -/
section
variable {C : Ctx} {X : Cx} {es : List Expr} {xs : List E} {p pr pos rpos : Pos} {t : TA}
theorem prg_all (hg : Gl X "range") (hm : X.mg "range" = none) (ha : PA X es t) (hs : es.all starless = true) (h0 : es ≠ []) :
    PRg X (.Call (.Name "range" p) es [] pos) (fun σ H Q => t σ H fun vs H1 => (∃ j, vs = [.int j] ∧ Q 0 j H1) ∨ ∃ i j, vs = [.int i, .int j] ∧ Q i j H1) := by
  cases es with
  | nil => exact absurd rfl h0
  | cons a es =>
    simp only [List.all_cons, Bool.and_eq_true] at hs
    intro pins s σ H Q I h
    refine Call_ (ld_blt I hg hm boot_range (PyProof.Rows.callWith_type1 (thn (ha.run pos pins s σ H _ I h) fun us s1 ⟨vs, H1, I1, r, q⟩ => ?_) (star_cons hs.1) (star_none hs.2)))
    rcases q with ⟨j, rfl, q⟩ | ⟨i, j, rfl, q⟩
    · obtain ⟨u, rfl, ⟨t, rfl⟩⟩ := vals1 r
      exact call_range_1 ⟨_, 0, j, _, _, _, H1, rfl, IsRange.new _ _ _ _ _ _ _, I1.kept fun b u e => Heap.get?_push_of_some _ e, q⟩
    · obtain ⟨u, u', rfl, ⟨t, rfl⟩, ⟨t', rfl⟩⟩ := vals2 r
      exact call_range_2 ⟨_, i, j, _, _, _, H1, rfl, IsRange.new _ _ _ _ _ _ _, I1.kept fun b u e => Heap.get?_push_of_some _ e, q⟩
theorem pe_tupRgF {e : Expr} {te : L2.St → Hp → (Int → Int → Hp → Prop) → Prop} (hc : X.calm = true) (hg : Gl X "tuple") (hm : X.mg "tuple" = none) (he : PRg X e te) (na : starEach [e] X.env = (false, eval e X.env) :: starEach [] X.env) :
    PE X (.Call (.Name "tuple" p) [e] [] pos) (fun σ H Q => te σ H fun a b H1 => RgOk a b ∧ NewT H1 (rgV a b) Q) := by
  refine ⟨fun pins s σ H Q I h => ?_⟩
  refine Call_ (ld_blt I hg hm boot_tuple (PyProof.Rows.callWith_type1 (args_cons (thn (he pins s σ H _ I h) fun x s1 ⟨r, a, b, t, u, v, H1, ex, hr, I1, ok, q⟩ => args_nil ?_) na) na))
  subst ex
  obtain ⟨b1, b2, b3, b4, b5⟩ := ok
  refine call_tuple_range (n := (b - a).toNat) (I1.ok.hd hc) hr (small_one b1 b2 b3 b4) (rangeSize_nat a b) b5 fun h' tk acc hk hi => ?_
  have I2 : Inv X pins σ H1 { s1 with heap := h', toks := tk } := I1.kept hk
  have z : (rgV a b).length ≤ sizeLine := by rw [rgV_length, sizeLine_eq]; omega
  have J := newTup I2 (vals_rg hi) z
  have e : acc.toList.toArray = acc := by simp
  simp only [tupObj, e] at J
  exact ⟨.ref _, _, J, rfl, q _ _ (I2.hok.fresh (Nat.le_refl _)) rfl⟩
theorem VRs_up {W : Wd} {μ ν : List Addr} {H : Hp} (lo : Int) : ∀ (l : List Nat), VRs W μ ν H (l.map fun i => D.int (lo + (i : Nat))) (l.map fun i => V.int (lo + (i : Nat)))
  | [] => .nil
  | i :: l => .cons rfl (VRs_up lo l)
theorem rng_of {S : Store} {ds rs : List D} (h : walkOf S .range ds = some rs) : (∃ j : Int, ds = [.int j] ∧ -(2 ^ 62) ≤ j ∧ j < 2 ^ 62 ∧ rs = upTo 0 j.toNat) ∨
    ∃ i j : Int, ds = [.int i, .int j] ∧ -(2 ^ 62) ≤ i ∧ i < 2 ^ 62 ∧ -(2 ^ 62) ≤ j ∧ j < 2 ^ 62 ∧ rs = upTo i (j - i).toNat := by
  rcases ds with _ | ⟨a, _ | ⟨b, _ | ⟨c, r⟩⟩⟩
  · simp [walkOf] at h
  · cases a <;> simp only [walkOf, reduceCtorEq] at h
    split at h <;> cases h
    rename_i hb
    exact .inl ⟨_, rfl, hb.1, hb.2, rfl⟩
  · cases a <;> cases b <;> simp only [walkOf, reduceCtorEq] at h
    split at h <;> cases h
    rename_i hb
    exact .inr ⟨_, _, rfl, hb.1, hb.2.1, hb.2.2.1, hb.2.2.2, rfl⟩
  · cases a <;> cases b <;> simp [walkOf] at h
theorem u_tupR (hc : X.calm = true) (hg : Gl X "tuple") (hm : X.mg "tuple" = none) (hrg : Gl X "range") (hrm : X.mg "range" = none) (ha : UEs C X es xs) (hs : es.all starless = true) (hl : xs.length = es.length) :
    UE C X (.Call (.Name "tuple" p) [.Call (.Name "range" pr) es [] rpos] [] pos) (.tupR xs) := by
  refine PE.any fun σ H Q w => ?_
  obtain ⟨ρ, S, z, S', h, μ, ν, st, er, Dn⟩ := w
  simp only [ev] at h
  obtain ⟨ds, S1, h1, h⟩ := bind_ok h
  have h0 : es ≠ [] := fun e => by
    subst e
    have := evs_len h1
    rw [hl] at this
    cases List.eq_nil_of_length_eq_zero this
    cases h
  split at h <;> try cases h
  rename_i rs hw
  split at h <;> try cases h
  rename_i hle
  refine ⟨_, PEfine (pe_tupRgF hc hg hm (prg_all hrg hrm ha hs h0) rfl) fun σ H Q f q => q, ρ, S, ds, _, h1, μ, ν, st, er, fun vs H1 μ1 x1 st1 r1 => ?_⟩
  have fin : ∀ lo hi : Int, rs = upTo lo (hi - lo).toNat → NewT H1 (rgV lo hi) fun v H' => Fine X.K H' → Q v H' := fun lo hi e => by
    subst e
    exact (Dn.mono x1).tup st1 (VRs_up lo (List.range (hi - lo).toNat))
  have hlen : ∀ lo hi : Int, rs = upTo lo (hi - lo).toNat → (hi - lo).toNat ≤ 2 ^ 24 := fun lo hi e => by
    subst e
    rw [upTo_len] at hle
    exact hle
  rcases rng_of hw with ⟨j, rfl, b1, b2, e⟩ | ⟨i, j, rfl, b1, b2, b3, b4, e⟩
  · obtain ⟨u, rfl, hu⟩ := r1.one
    cases hu
    have e0 : rs = upTo 0 (j - 0).toNat := by simpa using e
    exact .inl ⟨j, rfl, ⟨by omega, by omega, b1, b2, hlen 0 j e0⟩, fin 0 j e0⟩
  · obtain ⟨u, u', rfl, hu, hu'⟩ := r1.two
    cases hu
    cases hu'
    exact .inr ⟨i, j, rfl, ⟨b1, b2, b3, b4, hlen i j e⟩, fin i j e⟩
end
end Rf
/-! Dict displays. -/
namespace Rf
open PySem PySem.Spec PyProof.Rows L2

def tDispF (K : PySem.W.Frag) (trs : List (TE × TE)) : TE := fun σ H Q => ∀ p, H p = none → Fine K (upd H p (.dK [])) → tPairs trs σ (upd H p (.dK [])) fun ps H2 => H2 p = some (.dK []) ∧ ∃ kvs : List (Key × V), ps = kvs.map (fun kv => (kV kv.1, kv.2)) ∧ kvs.length ≤ 15 ∧
  (Fine K (upd H2 p (.dK (mergeK [] kvs))) → Q (.ref p) (upd H2 p (.dK (mergeK [] kvs))))
theorem pe_dispF {X : Cx} {pos : Pos} {keys : List (Option Expr)} {values : List Expr} {trs : List (TE × TE)} (h : PPs X pos keys values trs) (hall : keys.all (·.isSome) = true) (hl : keys.length = values.length) (h0 : keys ≠ [])
    (h15 : keys.length ≤ 15) : PE X (.Dict keys values pos) (tDispF X.K trs) := by
  refine ⟨fun pins s σ H Q I q => ?_⟩
  have hn := I.hok.fresh (Nat.le_refl s.heap.objs.size)
  have I1 := I.laid (a := s.heap.objs.size) (o := .dK []) (h' := s.heap.push { cls := .type "dict", data := .dict #[] }) (t' := s.toks) (fun _ _ q => Heap.get?_push_of_some _ q) (Nat.le_refl _) (dk_empty s.heap I.big)
  refine wpAny_Dict_walk (knd := mixKind X.prog X.w) hall hl h0 h15 (thn (h.run pins _ σ _ _ I1 (q _ hn (fine_of I1))) fun ws s2 ⟨ps, H2, I2, rel, e, kvs, ep, lk, q2⟩ => ?_)
  subst ep
  obtain ⟨rs, c, rk⟩ := carries_of (P := X.prog) (w := X.w) rel
  obtain ⟨z, hd, vs0, r0, dd⟩ := dk_of I2.hok e
  cases r0
  have hz : (mergeK [] kvs).length ≤ sizeLine := by
    have h1 := length_mergeK kvs []
    rw [List.length_nil] at h1
    rw [sizeLine_eq]; omega
  refine ⟨rs, c, dd, fun h' dd' hs => ?_⟩
  have he : ∃ q, h'.get? s.heap.objs.size = some q := let ⟨q, _, _, hq, _⟩ := dd'; ⟨q, hq⟩
  have J := fun t' => d_write (t' := t') I2 (by rw [e]; exact True.intro) hs he (dk_new hz hd (rk.merge .nil) dd')
  exact ⟨.ref s.heap.objs.size, _, J _, rfl, q2 (fine_of (J 0))⟩
theorem pe_dnewKF {X : Cx} {pos : Pos} : PE X (.Dict [] [] pos) (fun σ H Q => ∀ p, H p = none → Fine X.K (upd H p (.dK [])) → Q (.ref p) (upd H p (.dK []))) := PEfine pe_dnewK fun σ H Q f q p hp => fun f2 => q p hp f2
def trsOf (C : Ctx) (W : Wd) : List CO → List CO → List (TE × TE)
  | k :: ks, v :: vs => (uE C W k.v, uE C W v.v) :: trsOf C W ks vs
  | _, _ => []
/-- pairs stand for pairs -/
def PRs (W : Wd) (μ ν : List Addr) (H : Hp) : List (D × D) → List (V × V) → Prop
  | [], ps => ps = []
  | (k, d) :: ds, ps => ∃ u v r, ps = (u, v) :: r ∧ VR W μ ν H k u ∧ VR W μ ν H d v ∧ PRs W μ ν H ds r
theorem PRs.keys {W : Wd} {μ ν : List Addr} {H : Hp} : ∀ {ds : List (D × D)} {ps : List (V × V)}, PRs W μ ν H ds ps → ds.all (fun p => keyD p.1) = true → ∃ kvs : List (Key × V), ps = kvs.map (fun kv => (kV kv.1, kv.2)) ∧ KRs W μ ν H ds kvs
  | [], ps, h, _ => ⟨[], h, rfl⟩
  | (k, d) :: ds, ps, h, g => by
    obtain ⟨u, v, r, rfl, h1, h2, h3⟩ := h
    simp only [List.all_cons, Bool.and_eq_true] at g
    obtain ⟨q, hq, rfl⟩ := key_r h1 g.1
    obtain ⟨kvs, rfl, h4⟩ := PRs.keys h3 g.2
    exact ⟨(q, v) :: kvs, rfl, q, v, kvs, rfl, hq, h2, h4⟩
theorem KRs.merge {W : Wd} {μ ν : List Addr} {H : Hp} : ∀ {ds : List (D × D)} {kvs : List (Key × V)} {a : List (D × D)} {c : List (Key × V)}, KRs W μ ν H a c → KRs W μ ν H ds kvs → KRs W μ ν H (ds.foldl (fun m p => setK m p.1 p.2) a) (mergeK c kvs)
  | [], kvs, a, c, h, g => by cases (show kvs = [] from g); exact h
  | (k, d) :: ds, kvs, a, c, h, g => by
    obtain ⟨q, v, r, rfl, h1, h2, h3⟩ := g
    show KRs W μ ν H (ds.foldl (fun m p => setK m p.1 p.2) (setK a k d)) (mergeK (putK c q v) r)
    exact KRs.merge (h.put h1 h2) h3
section
variable {C : Ctx} {W : Wd}
theorem tPairs_ok {ρ : Env} {σ : L2.St} {ν : List Addr} : ∀ (ks vs : List CO) {S S' : Store} {μ : List Addr} {H : Hp} {ds : List D} {Q : List (V × V) → Hp → Prop}, ks.length = vs.length → evs C (turnsE ks vs) ρ S = some (.ok ds S') → StR W μ ν S H → ER W μ ν H ρ σ →
    (∀ ps H' μ' prs, Ext μ μ' H H' → StR W μ' ν S' H' → pairUp ds = some prs → PRs W μ' ν H' prs ps → Q ps H') → tPairs (trsOf C W ks vs) σ H Q
  | [], [], S, S', μ, H, ds, Q, _, h, st, er, q => by
    simp only [turnsE, evs] at h
    cases h
    exact q [] H μ [] (Ext.refl _ _) st rfl rfl
  | [], _ :: _, _, _, _, _, _, _, hl, _, _, _, _ => by simp at hl
  | _ :: _, [], _, _, _, _, _, _, hl, _, _, _, _ => by simp at hl
  | k :: ks, v :: vs, S, S', μ, H, ds, Q, hl, h, st, er, q => by
    simp only [turnsE, evs] at h
    obtain ⟨x, S1, h1, h⟩ := bind_ok h
    obtain ⟨ds1, S2, h2, h⟩ := bind_ok h
    cases h
    obtain ⟨y, S3, h3, h4⟩ := bind_ok h2
    obtain ⟨ds2, S4, h5, h4⟩ := bind_ok h4
    cases h4
    refine ⟨ρ, S, x, S1, h1, μ, ν, st, er, fun u H1 μ1 x1 st1 r1 => ⟨ρ, S1, y, S3, h3, μ1, ν, st1, er.ext x1 st1.trk, fun w H2 μ2 x2 st2 r2 => ?_⟩⟩
    refine tPairs_ok ks vs (by simpa using hl) h5 st2 (er.ext (x1.trans x2) st2.trk) fun ps H' μ' prs x3 st3 hp r3 => ?_
    refine q _ H' μ' ((x, y) :: prs) ((x1.trans x2).trans x3) st3 (by simp only [pairUp, hp, Option.map_some]) ⟨u, w, ps, rfl, r1.ext (x2.trans x3) st3.trk, r2.ext x3 st3.trk, r3⟩
end
theorem pairUp_len : ∀ {ds : List D} {ps : List (D × D)}, pairUp ds = some ps → ds.length = 2 * ps.length
  | [], ps, h => by cases h; rfl
  | [_], ps, h => by cases h
  | k :: v :: r, ps, h => by
    simp only [pairUp] at h
    obtain ⟨qs, h1, rfl⟩ := Option.map_eq_some_iff.mp h
    have := pairUp_len h1
    simp only [List.length_cons]
    omega
theorem KRs.len {W : Wd} {μ ν : List Addr} {H : Hp} {ds : List (D × D)} {kv : List (Key × V)} (h : KRs W μ ν H ds kv) : kv.length = ds.length := (KRs.length h).symm
/-- a new dict, kept apart while it is filled -/
theorem u_dct {C : Ctx} {X : Cx} {pos : Pos} {keys : List (Option Expr)} {values : List Expr} {ks vs : List CO} (hall : keys.all (·.isSome) = true) (hl : keys.length = values.length) (hk : ks.length = keys.length) (hv : vs.length = values.length) (h15 : keys.length ≤ 15)
    (hp : PPs X pos keys values (trsOf C (Cx.W X) ks vs)) : UE C X (.Dict keys values pos) (.dct (turnsE ks vs)) := by
  refine PE.any fun σ H Q w => ?_
  obtain ⟨ρ, S, z, S', h, μ, ν, st, er, Dn⟩ := w
  simp only [ev] at h
  obtain ⟨ds, S1, h1, h⟩ := bind_ok h
  split at h <;> try cases h
  rename_i prs hpr
  split at h <;> try cases h
  rename_i hc
  simp only [Bool.and_eq_true, decide_eq_true_eq] at hc
  have Dk : DoneK (Cx.W X) μ ν H S1 (prs.foldl (fun m p => setK m p.1 p.2) []) Q := Done.dict Dn
  by_cases h0 : keys = []
  · subst h0
    have hv0 : values = [] := List.eq_nil_of_length_eq_zero (by rw [← hl]; rfl)
    subst hv0
    have e1 : ks = [] := List.eq_nil_of_length_eq_zero hk
    have e2 : vs = [] := List.eq_nil_of_length_eq_zero hv
    subst e1 e2
    simp only [turnsE, evs] at h1
    cases h1
    cases hpr
    refine ⟨_, pe_dnewKF, fun p hp f => ?_⟩
    have x := Ext.laid (μ := μ) (o := .dK []) hp
    exact Dk p [] _ μ (fun o z => by rw [hp] at z; cases z) (st.notInN hp) upd_same x (st.apart hp trivial f) rfl
  · refine ⟨_, pe_dispF hp hall hl h0 h15, fun p hp f => ?_⟩
    have x := Ext.laid (μ := μ) (o := .dK []) hp
    have st2 := st.apart hp (o := .dK []) trivial f
    refine tPairs_ok ks vs (by rw [hk, hv, hl]) h1 st2 ((er.apart hp).ext x st2.trk) fun ps H2 μ2 prs2 x2 st3 hp2 r2 => ?_
    rw [hpr] at hp2
    cases hp2
    obtain ⟨kvs, rfl, hkv⟩ := PRs.keys r2 hc.1
    have np : p ∉ μ := st2.dis p List.mem_cons_self
    have hD : H2 p = some (.dK []) := (x2.2.1 p _ upd_same np fun _ z => nomatch z).1
    have hnf : ∀ o u, H2 p ≠ some (.frz o u) := fun o u z => by rw [hD] at z; cases z
    refine ⟨hD, kvs, rfl, by rw [KRs.len hkv]; exact hc.2, fun f2 => ?_⟩
    have xx : Ext μ μ2 H (upd H2 p (.dK (mergeK [] kvs))) := (x.trans x2).touch hp
    exact Dk p _ _ μ2 (fun o z => by rw [hp] at z; cases z) (st.notInN hp) upd_same xx (st3.poke hnf trivial f2) (KRs.poke hnf (KRs.merge (a := []) (c := []) rfl hkv))
end Rf
/-! What is walked; all that is known of an expression. -/
namespace Rf
open PySem PySem.Spec PyProof.Rows L2

def TgOk (tg : Tg) (tgE : Expr) : Prop := match tg with
  | .nm _ => True
  | .tup _ => ∃ elts k p, tgE = .Tuple elts k p
structure US (C : Ctx) (X : Cx) (x : Expr) (c : CO) : Prop where
  v : UE C X x c.v
  t : UT C X x c.t
  f : c.fresh = true → UF C X x c.v
  i : ∀ (tgE : Expr) (tg : Tg), TgOk tg tgE → PI X tgE x (uI C X c.k c.its tg)
section
variable {C : Ctx} {X : Cx} {x : Expr} {e : E} {es : List Expr} {xs : List E} {tgE : Expr} {tg : Tg} {p pos : Pos}
theorem UE.at {ρ : Env} {S S1 : Store} {d : D} (h : UE C X x e) (he : ev C e ρ S = some (.ok d S1)) : PE X x (rE (Cx.W X) ρ S d S1) := PE.any fun σ H Q w => ⟨_, h, ρ, S, d, S1, he, w⟩
theorem UEs.at {ρ : Env} {S S1 : Store} {ds : List D} (h : UEs C X es xs) (he : evs C xs ρ S = some (.ok ds S1)) : PA X es (rEs (Cx.W X) ρ S ds S1) := PA.any fun σ H Q w => ⟨_, h, ρ, S, ds, S1, he, w⟩
theorem lock_plain {S : Store} {ik : IK} {ds : List D} (h : ik ≠ .keys) : lockS S ik ds = S := by
  unfold lockS
  split
  · exact absurd rfl h
  · rfl
theorem walkT_of {S : Store} {ik : IK} {ds rs : List D} (h : walkT S ik ds tg = some rs) : tgK ik tg = true ∧ walkOf S ik ds = some rs := by
  unfold walkT at h
  split at h
  · rename_i e; exact ⟨e, h⟩
  · cases h
theorem real_seq (S : Store) (d : D) : (∃ j kvs, d = .ref j ∧ S[j]? = some (.dct kvs) ∧ realK S .seq [d] = .keys) ∨ realK S .seq [d] = .seq := by
  cases d with
  | ref j =>
    simp only [realK]
    split
    · rename_i kvs hs
      exact .inl ⟨j, kvs, rfl, hs, rfl⟩
    · exact .inr rfl
  | _ => exact .inr rfl
theorem ui_seq (h : UE C X x e) : PI X tgE x (uI C X .seq [e] tg) := by
  refine PI.any fun σ H R w => ?_
  obtain ⟨ρ, S, ds, S1, rs, h1, h2, w⟩ := w
  simp only [evs] at h1
  obtain ⟨d, S2, h3, h1⟩ := bind_ok h1
  obtain ⟨ds2, S3, h4, h1⟩ := bind_ok h1
  cases h4
  cases h1
  have he := UE.at h h3
  rcases real_seq S1 d with ⟨j, kvs, rfl, hs, hk⟩ | hk
  · rw [hk] at h2 w
    have hw := (walkT_of h2).2
    have hl : lockS S1 .keys [.ref j] = S1.set j (.lck kvs) := by simp only [lockS, hs]
    rw [hl] at hw
    simp only [walkOf] at hw
    rw [List.getElem?_set_self (List.getElem?_eq_some_iff.mp hs).1] at hw
    cases hw
    exact ⟨_, pi_keysA he hs, w⟩
  · rw [hk] at h2 w
    have hw := (walkT_of h2).2
    rw [lock_plain (by decide)] at hw
    exact ⟨_, pi_plain (by decide) (pi_seq he hw), w⟩
theorem real_other {S : Store} {ik : IK} {ds : List D} (h : ik ≠ .seq) : realK S ik ds = ik := by
  unfold realK
  split
  · exact absurd rfl h
  · rfl
theorem ui_range (hg : Gl X "range") (hm : X.mg "range" = none) (ha : UEs C X es xs) (hs : es.all starless = true) (hl : xs.length = es.length) : PI X tgE (.Call (.Name "range" p) es [] pos) (uI C X .range xs tg) := by
  refine PI.any fun σ H R w => ?_
  obtain ⟨ρ, S, ds, S1, rs, h1, h2, w⟩ := w
  rw [real_other (by decide)] at h2 w
  have hw := (walkT_of h2).2
  rw [lock_plain (by decide)] at hw
  have hn := evs_len h1
  have hA := UEs.at ha h1
  rcases rng_of hw with ⟨j, rfl, _⟩ | ⟨i, j, rfl, _⟩
  · match es, hl, hs, hA with
    | [a], hl, hs, hA =>
      simp only [List.all_cons, Bool.and_eq_true] at hs
      exact ⟨_, pi_plain (by decide) (pi_rng1 hg hm hA (star_cons hs.1) rfl hw), w⟩
    | [], hl, _, _ => simp [hl] at hn
    | _ :: _ :: _, hl, _, _ => simp [hl] at hn
  · match es, hl, hs, hA with
    | [a, b], hl, hs, hA =>
      simp only [List.all_cons, Bool.and_eq_true] at hs
      exact ⟨_, pi_plain (by decide) (pi_rng2 hg hm hA (by rw [star_cons hs.1, star_cons hs.2.1]; rfl) (star_cons hs.2.1) rfl hw), w⟩
    | [], hl, _, _ => simp [hl] at hn
    | [_], hl, _, _ => simp [hl] at hn
    | _ :: _ :: _ :: _, hl, _, _ => simp [hl] at hn
theorem ui_enum (ht : TgOk tg tgE) {a : Expr} (hg : Gl X "enumerate") (hm : X.mg "enumerate" = none) (ha : UEs C X [a] xs) (hs : starless a = true) (hl : xs.length = 1) : PI X tgE (.Call (.Name "enumerate" p) [a] [] pos) (uI C X .enum xs tg) := by
  refine PI.any fun σ H R w => ?_
  obtain ⟨ρ, S, ds, S1, rs, h1, h2, w⟩ := w
  rw [real_other (by decide)] at h2 w
  obtain ⟨hk, hw⟩ := walkT_of h2
  rw [lock_plain (by decide)] at hw
  have hn := evs_len h1
  have hA := UEs.at ha h1
  match ds, hn, hA, hw, w with
  | [d], _, hA, hw, w =>
    cases tg with
    | nm i => cases hk
    | tup is =>
      obtain ⟨elts, k, tp, rfl⟩ := ht
      exact ⟨_, pi_plain (by decide) (pi_enm hg hm hA (star_cons hs) hw), w⟩
  | [], hn, _, _, _ => simp [hl] at hn
  | _ :: _ :: _, hn, _, _, _ => simp [hl] at hn
theorem ui_zip (ht : TgOk tg tgE) {a b : Expr} (hg : Gl X "zip") (hm : X.mg "zip" = none) (ha : UEs C X [a, b] xs) (hs : starless a = true) (hs2 : starless b = true) (hl : xs.length = 2) : PI X tgE (.Call (.Name "zip" p) [a, b] [] pos) (uI C X .zip xs tg) := by
  refine PI.any fun σ H R w => ?_
  obtain ⟨ρ, S, ds, S1, rs, h1, h2, w⟩ := w
  rw [real_other (by decide)] at h2 w
  obtain ⟨hk, hw⟩ := walkT_of h2
  rw [lock_plain (by decide)] at hw
  have hn := evs_len h1
  have hA := UEs.at ha h1
  match ds, hn, hA, hw, w with
  | [d, e], _, hA, hw, w =>
    cases tg with
    | nm i => cases hk
    | tup is =>
      obtain ⟨elts, k, tp, rfl⟩ := ht
      exact ⟨_, pi_plain (by decide) (pi_zip2 hg hm hA (star_cons hs) (star_none (by simp [hs2])) hw), w⟩
  | [], hn, _, _, _ => simp [hl] at hn
  | [_], hn, _, _, _ => simp [hl] at hn
  | _ :: _ :: _ :: _, hn, _, _, _ => simp [hl] at hn
end
end Rf
/-! A lambda handed to a def that calls it. -/
namespace Rf
open PySem PySem.Spec PyProof.Rows L2

/-! ### the state behind the making of a lambda -/
theorem Ext.extN {μ : List Addr} {H H1 : Hp} (e : LamX.ExtN H H1) : Ext μ μ H H1 := ⟨⟨[], by simp⟩, fun b o h n m => ⟨e b o h m, n⟩, fun b o u h => e b _ h fun _ z => nomatch z⟩
theorem Plain.ntbl {o : HO} (h : Plain o) : ∀ ps, o ≠ .tbl ps := fun ps z => by rw [z] at h; exact h
theorem StR.extN {W : Wd} {μ ν : List Addr} {S : Store} {H H1 : Hp} (h : StR W μ ν S H) (e : LamX.ExtN H H1) (f : Fine W.K H1) (t : LamX.Tabs (tabT W.K) H1) : StR W μ ν S H1 := by
  have tk : Trk W μ H1 := ⟨f, fun b hb => by
    obtain ⟨i, c, _, _, q⟩ := h.cell hb
    obtain ⟨o, h1, h2⟩ := cell_pl q
    rw [e b o h1 h2.ntbl]; simp⟩
  refine ⟨f, h.len, h.nd, h.dis, fun b hb => ?_, fun i c a e1 e2 => ?_, t⟩
  · obtain ⟨o, h1, h2⟩ := h.trn b hb
    exact ⟨o, e b o h1 h2.ntbl, h2⟩
  · have q := h.cells i c a e1 e2
    obtain ⟨o, h1, h2⟩ := cell_pl q
    exact q.map (fun d v r => r.ext (Ext.extN e) tk) (by rw [h1, e a o h1 h2.ntbl])
/-! ### the lambda's body, entered from deeper frames -/
section
variable {X : Cx} {pins : List (Addr × Obj)} {σ : L2.St} {H HZ : Hp} {s s1 : Shared}
/-- f's record and its cells stand in a later state -/
structure Stands (X : Cx) (s : Shared) (H : Hp) (s1 : Shared) (HZ : Hp) : Prop where
  cell : ∀ (c : Addr) (v : Option Value), H c = none → s.heap.IsCell c v → s1.heap.IsCell c v
  free : ∀ (c : Addr) (v : Option Value), H c = none → s.heap.IsCell c v → HZ c = none
theorem Stands.un {fs : List Addr} (un : Un fs [] H HZ s.heap s1.heap) : Stands X s H s1 HZ := ⟨fun c v n ⟨o, ho, hd⟩ => by
    obtain ⟨sl, q⟩ := un.any ho n (by simp)
    exact ⟨_, q, hd⟩, fun c v n ⟨o, ho, hd⟩ => un.free c o ho n (by simp)⟩
theorem Stands.trans {s2 : Shared} {H2 : Hp} (a : Stands X s H s2 H2) (b : Stands X s2 H2 s1 HZ) : Stands X s H s1 HZ :=
  ⟨fun c v n h => b.cell c v (a.free c v n h) (a.cell c v n h), fun c v n h => b.free c v (a.free c v n h) (a.cell c v n h)⟩
theorem lam_enter {A : Around} {outer : List PySem.Env} {E : XK} {scope : Scope} {f c' : Addr} {h₁ : Heap} {tk : Nat} (I : Inv X pins σ H s) (L : LamX.LamS X.env.scope scope) (e0 : Env0 X.prog X.w X.K X.mg X.base A outer s1 HZ) (hd : A.handled = none)
    (un : Stands X s H s1 HZ) (hns : h₁.Ns s1.heap.objs.size fun y => ([] : List (Str × Value)).reverse.lookup y) (kp : ∀ b o, s1.heap.get? b = some o → h₁.get? b = some o) :
    Inv (LamX.lamCx X A outer s1 HZ E scope f c') [] σ HZ { s1 with heap := h₁, toks := tk } := by
  have hfree := L.has I.ok
  have cm : ∀ {y c}, (cloFrom X.env.cells scope.names []).lookup y = some c → X.env.cells.lookup y = some c := fun {y c} e => by
    rcases cloFrom_mem (PySem.mem_of_lookup e) with hm | ⟨h1, h2⟩
    · cases hm
    · obtain ⟨c1, hc⟩ := hfree _ h1 rfl
      have hc : X.env.cells.lookup y = some c1 := hc
      have e2 : c = c1 := by rw [h2, hc] <;> rfl
      rw [e2]; exact hc
  have look : ∀ {y}, scope.names.lookup y = some .free → ∃ c, (cloFrom X.env.cells scope.names []).lookup y = some c := fun {y} hl => by
    have hy : (y, NameKind.free) ∈ scope.names := PySem.mem_of_lookup hl
    exact mem_lookup (cloFrom_has (cells := X.env.cells) (acc := []) hy)
  have cellK : ∀ {c : Addr} {v : Option Value}, H c = none → s.heap.IsCell c v → h₁.IsCell c v := fun {c v} n q => by
    obtain ⟨o, ho, hd⟩ := un.cell c v n q
    exact ⟨_, kp _ _ ho, hd⟩
  have noA : ∀ b : Addr, b ∉ (LamX.lamCx X A outer s1 HZ E scope f c').ex := fun b z => absurd (show b ∈ ([] : List Addr) from z) (by simp)
  refine ⟨⟨e0.mod, L.kind, rfl, rfl, Nat.le_refl _, fun y z c e1 e2 => I.ok.inj y z c (cm e1) (cm e2), fun y hy => ?_, fun y c z _ => ?_, fun _ => hd, Around.frames_deeper e0.frames, .inr ⟨rfl, rfl⟩, fun b z => absurd z (noA b), e0.bs, e0.bsz, fun b _ _ => noA b,
      fun b z => absurd z (noA b), e0.funs, e0.frf⟩,
    rfl, e0.bare, Un.kept kp, ⟨_, hns, fun i y v e1 e2 e3 => ?_⟩, fun y c e => ?_, e0.hok.fresh (Nat.le_refl _), fun y c e => ?_, fun q hq => absurd (show q ∈ ([] : List (Addr × Obj)) ++ [] from hq) (by simp), e0.hok.kept kp, I.len⟩
  · have hy : scope.names.lookup y = some .cell ∨ scope.names.lookup y = some .free := hy
    rcases hy with hy | hy
    · exact absurd rfl (L.own _ (PySem.mem_of_lookup hy)).2
    · exact look hy
  · have z : false = true := z
    cases z
  · have e3 : Vis scope y := e3
    rcases e3 with k | k | k
    · exact absurd rfl (L.own _ (PySem.mem_of_lookup k)).1
    · exact absurd rfl (L.own _ (PySem.mem_of_lookup k)).2
    · obtain ⟨m, hn, hl⟩ := I.loc
      have hvis : Vis X.env.scope y := (L.free _ (PySem.mem_of_lookup k) rfl).elim (fun k => .inr (.inl k)) (fun k => .inr (.inr k))
      obtain ⟨w', r, q⟩ := hl i y v e1 e2 hvis
      obtain ⟨c2, h2⟩ := look k
      refine ⟨w', r, .inr ⟨.inr k, c2, h2, ?_⟩⟩
      have c1 := cm h2
      rcases q with ⟨k', _⟩ | ⟨_, c3, e', z⟩
      · have k' : X.env.scope.names.lookup y = some .local := k'
        rcases L.free _ (PySem.mem_of_lookup k) rfl with k2 | k2 <;> rw [show X.env.scope.names.lookup y = _ from k2] at k' <;> cases k'
      · rw [c1] at e'
        cases e'
        exact cellK (I.freeC y _ c1) z
  · obtain ⟨w', z⟩ := I.cell y c (cm e)
    exact ⟨w', cellK (I.freeC y c (cm e)) z⟩
  · obtain ⟨v, z⟩ := I.cell y c (cm e)
    exact un.free c v (I.freeC y c (cm e)) z
/-- b(), in a def that got the lambda, whatever the frames between -/
theorem pe_deep {Ng : List Str} {qg : Str} {sg : Scope} {g f c' : Addr} {cdg pm ctv : Value} {params : Arguments} {body : Expr} {scope : Scope} {k i : Nat} {a : Str} {tb : TE} {p1 p2 : Pos} {A2 : Around} {st2 : List PySem.Env} {s2 : Shared} {H2 : Hp}
    (I : Inv X pins σ H s) (L : LamX.LamS X.env.scope scope) (hf : s2.heap.get? f = some (PySem.W.kla_obj "<lambda>" (X.env.qual ++ "<lambda>") params body scope (cloFrom X.env.cells scope.names []) pm c' ctv)) (hfn : H2 f = none) (hfr : f ∉ frs st2)
    (hbind : bindArgs (PySem.W.kla_fn "<lambda>" (X.env.qual ++ "<lambda>") params body scope (cloFrom X.env.cells scope.names []) pm (.ref c') ctv) ⟨[], []⟩ = pure [])
    (un : Stands X s H s2 H2) (hr : Room (k + 1) (A2.deeper (envOfC qg sg s2.heap.objs.size g cdg)))
    (hbody : ∀ (A : Around) (outer : List PySem.Env) (s : Shared) (H : Hp), Room k (A.deeper (LamX.lamEnv X scope s.heap.objs.size f c')) → A.guards = A2.guards → PE (LamX.lamCx X A outer s H C8.E0 scope f c') body tb)
    (hN : Ng[i]? = some a) (hv : Vis sg a) (hd : (a == ("__debug__" : Str)) = false) (hcd : (a == ("__classdict__" : Str)) = false) :
    PE (cxOf C8.CX0 X.prog X.w X.K X.mg X.base Ng qg sg g cdg A2 st2 s2 H2 C8.E0).nox (.Call (.Name a p1) [] [] p2)
      (fun σZ HZ Q => σZ[i]? = some (some (.ref f)) ∧ HZ c' = some (LamX.CodeO c' (X.env.qual ++ "<lambda>")) ∧ tb σ HZ Q) := by
  refine ⟨fun pinsZ sZ σZ HZ Q IZ h => ?_⟩
  obtain ⟨hs, hc, ht⟩ := h
  refine wpAny_Call_Name_kw (thn ((pe_var (pos := p1) (i := i) hN hv hd hcd).run pinsZ sZ σZ HZ (fun v H1 => v = .ref f ∧ H1 = HZ) IZ ⟨.ref f, hs, rfl, rfl⟩) fun u s1 ⟨v, H1, I1, r1, q1⟩ => ?_)
  obtain ⟨ev, eH⟩ := q1
  subst ev
  rw [eH] at I1
  obtain rfl : u = Value.ref f := r1
  have of1 : s1.heap.get? f = some (PySem.W.kla_obj "<lambda>" (X.env.qual ++ "<lambda>") params body scope (cloFrom X.env.cells scope.names []) pm c' ctv) := I1.base.keep f _ hf hfn hfr (fun z => nomatch (show f ∈ ([] : List Addr) from z))
  refine PySem.W.callWith_F0 ⟨_, _, _, _, of1⟩ ?_
  have st : Stands X s H s1 HZ := un.trans (Stands.un I1.base)
  obtain ⟨⟨oc, vs, t, hoc, hdc, hvc⟩, _, _⟩ := I1.hok c' _ hc
  have rc : codeAny (model X.prog X.w) (A2.deeper (envOfC qg sg s2.heap.objs.size g cdg)) (.call (.ref f) ⟨[], []⟩) (L2.CR (L2.CX X.prog X.w) (envOfC qg sg s2.heap.objs.size g cdg :: st2) X.prog X.w HZ s1 Q C8.E0) s1 := by
    refine PySem.W.kla_callFunE hr.depth of1 rfl L.co L.gen rfl ⟨c', oc, vs, t, rfl, hoc, hdc, hvc⟩ ?_
    rw [hbind]
    refine wpAny_pure (wpAny_newFunctionEnv (fun y hy => (L.own y hy).2) (fun y hy => absurd hy (by simp)) (fun h₁ hns hsb => ⟨I1.nolimit.fresh _ hsb, ?_⟩) L.kind)
    show codeAny _ _ (.expr body (LamX.lamEnv X scope s1.heap.objs.size f c')) _ _
    have kp : ∀ b o, s1.heap.get? b = some o → h₁.get? b = some o := fun b o e => hsb.extBut b o (Nat.ne_of_lt (Heap.lt_size e)) (Heap.get?_push_of_some _ e)
    have J : Inv (LamX.lamCx X (A2.deeper (envOfC qg sg s2.heap.objs.size g cdg)) (envOfC qg sg s2.heap.objs.size g cdg :: st2) s1 HZ C8.E0 scope f c') [] σ HZ { s1 with heap := h₁, toks := s1.toks + ([] : List (Str × Value)).length } :=
      lam_enter I L I1.env0 hr.hd st hns kp
    refine PySem.W.kla_codeExpr (wpAny_mono ((hbody _ _ s1 HZ (hr.deeper _) rfl).run [] _ _ HZ Q J ht) (fun v s' hq => ?_) fun e s' hq => hq)
    obtain ⟨w', H', J', rv, q⟩ := hq
    exact ⟨w', H', J'.os, J'.bare, J'.base, J'.hok, rv, q⟩
  refine wpAny_call (codeAny_mono rc fun r s' hq => ?_)
  cases r with
  | error e =>
    obtain ⟨_, _, _, _, _, _, _, _, _, _, _, _, _, _, _, _, z⟩ := hq
  | ok fl =>
    cases fl with
    | ret u => exact I1.after hq
    | next => exact False.elim hq
    | brk => exact False.elim hq
    | cont => exact False.elim hq
end
/-! ### x(lambda: body) -/
section
variable {P : Prog} {n : Nat} {SCx : SC} {X : Cx} {x : Str} {params : Arguments} {body : Expr} {scope : Scope} {e : E} {p lpos pos : Pos}
theorem uE_mono {C : Ctx} {W : Wd} {e : E} {σ : L2.St} {H : Hp} {Q Q' : VK} (h : uE C W e σ H Q) (i : ∀ v H, Q v H → Q' v H) : uE C W e σ H Q' := by
  obtain ⟨ρ, S, z, S', h1, μ, ν, st, er, Dn⟩ := h
  exact ⟨ρ, S, z, S', h1, μ, ν, st, er, fun v H' μ' x st' r => i _ _ (Dn v H' μ' x st' r)⟩
theorem params_none (h : noParams params = true) : params = ⟨[], [], none, [], [], none, []⟩ := by
  obtain ⟨a, b, c, d, e, f, g⟩ := params
  unfold noParams at h
  simp only [Bool.and_eq_true, List.isEmpty_iff, Option.isNone_iff_eq_none] at h
  obtain ⟨⟨⟨⟨⟨⟨h1, h2⟩, h3⟩, h4⟩, h5⟩, h6⟩, h7⟩ := h
  subst h1 h2 h3 h4 h5 h6 h7
  rfl
theorem u_thunk (G : Good P n SCx X) (hlam : SCx.lam = true) (hx : nameOk x = true) (hgl : glB SCx.sc x = true) (hL : LamX.lamSB SCx.sc scope = true) (hpar : noParams params = true)
    (hb : ∀ Z : Cx, Cx.W Z = Cx.W X → Good P n { SCx with sc := scope, mkc := false, lam := false } Z → UE (ctx P n) Z body e) : UE (ctx P n) X (.Call (.Name x p) [.Lambda params body scope lpos] [] pos) (.thunk x e) := by
  have hpar := params_none hpar
  subst hpar
  refine ⟨fun pins s σ H Q I w => ?_⟩
  obtain ⟨ρ, S, z, S', h, μ, ν, st, er, Dn⟩ := w
  simp only [ev] at h
  obtain ⟨d, S1, h1, h2⟩ := bind_ok h
  split at h2 <;> cases h2
  rename_i hthk
  have hthk : P.thk x = true := by cases n <;> exact hthk
  obtain ⟨y, a, b, g1, g2, sd1, sd2, fd1, fd2, p1, p2, p3, p4, p5, q1, q2, q3, q4, q5, q6, j, k, e1, e2, es1, es2, m1, k1, F1, S1c, b1, t1, gy, m2, k2, F2, S2c, b2, t2, ny, na1, na2, nb1, nb2⟩ := (G.fns.thk x hthk).ex
  obtain ⟨c, T, hcode, TB, hmT, hu, hr6⟩ := G.lam hlam
  have L : LamX.LamS X.env.scope scope := by rw [G.sc]; exact LamX.lamS_by hL
  obtain ⟨oc1, od1, dV1, kV1, doc1, pm1, an1, cdv1, ct1, osl1, ef1, lk1, hc1⟩ := F1.ex
  obtain ⟨oc2, od2, dV2, kV2, doc2, pm2, an2, cdv2, ct2, osl2, ef2, lk2, hc2⟩ := F2.ex
  subst ef1 ef2
  refine wpAny_Call_Name_kw (ld_glob I (G.gl hgl) m1 ?_ (nameOk_of hx).1)
  refine PySem.W.callWith_K (h₀ := X.base) I.ok.mod.kin k1 ?_ (by rfl) (by rfl)
  show wpAny _ _ (spliced ((false, eval (.Lambda ⟨[], [], none, [], [], none, []⟩ body scope lpos) X.env) :: backTo pos (starEach [] X.env))) _ _ s
  refine Calls.spliced_cons (LamX.lam_make2 I TB hcode hmT hu st.tab (by rfl) (L.has I.ok) fun f c' pm' ctv H1 s' I1 eN T1 hf hfn hfr hco => ?_)
  refine Calls.spliced_nil ⟨I1.kIn, ?_⟩
  have xE : Ext μ μ H H1 := Ext.extN eN
  have str1 : StR (Cx.W X) μ ν S H1 := st.extN eN (fine_of I1) T1
  have er1 : ER (Cx.W X) μ ν H1 ρ σ := er.ext xE str1.trk
  have hflt : f < s'.heap.objs.size := Heap.lt_size hf
  have N1 : (L2.start [a] [V.ref f])[0]? = some (some (V.ref f)) := rfl
  have N2 : (L2.start [b] [V.ref f])[0]? = some (some (V.ref f)) := rfl
  have va : Vis (C8.fnScope sd1) a := by
    rcases S1c.par a (by simp) with z | z
    · exact .inl z
    · exact .inr (.inl z)
  have vb : Vis (C8.fnScope sd2) b := by
    rcases S2c.par b (by simp) with z | z
    · exact .inl z
    · exact .inr (.inl z)
  -- the lambda's reading, from the state behind its making
  let tb : L2.St → Hp → VK → Prop := uE (ctx P n) (Cx.W X) e
  have rc : codeAny (model X.prog X.w) X.A (.call (.ref g1) ⟨[.ref f], []⟩) (L2.CR C8.CX0 X.stack X.prog X.w H1 s' Q C8.E0) s' := by
    refine LamX.run_ofS (N := [a]) (ps := [a]) (us := [.ref f]) (vs := [.ref f]) lk1 hc1 S1c (hr6.mono (by omega) : Room (8 * n + 5 + 1) X.A) I1.env0 (by have := b1 s' [.ref f] I1.kIn rfl; rwa [List.append_nil] at this) (.cons rfl .nil) rfl fun hr1 => ?_
    -- y(a) within x
    have inner : PE (cxOf C8.CX0 X.prog X.w X.K X.mg X.base [a] x (C8.fnScope sd1) g1 cdv1 X.A X.stack s' H1 C8.E0).nox (.Call (.Name y p1) [.Name a p2] [] p3)
        (fun σ1 HZ Q1 => σ1[0]? = some (some (.ref f)) ∧ HZ c' = some (LamX.CodeO c' (X.env.qual ++ "<lambda>")) ∧ tb σ HZ fun v H3 => NewT H3 [v, .non] fun u H4 => Fine X.K H4 → Q1 u H4) := by
      refine ⟨fun pins1 s1 σ1 HZ Q1 I2 h => ?_⟩
      obtain ⟨hs, hc, ht⟩ := h
      refine wpAny_Call_Name_kw (ld_glob I2 gy m2 ?_ ny)
      refine PySem.W.callWith_K (h₀ := X.base) I2.ok.mod.kin k2 ?_ (by rfl) (by rfl)
      have hpa : PA (cxOf C8.CX0 X.prog X.w X.K X.mg X.base [a] x (C8.fnScope sd1) g1 cdv1 X.A X.stack s' H1 C8.E0).nox [.Name a p2] (tCons (tVar 0) tNil) := pa_cons (pe_var (i := 0) rfl va na1 na2) pa_nil
      refine thn (hpa.run p3 pins1 s1 σ1 HZ (fun vs H' => vs = [.ref f] ∧ H' = HZ) I2 ⟨.ref f, hs, rfl, rfl⟩) fun us s2 ⟨vs, H', I3, rv, ev, eH⟩ => ⟨I3.kIn, ?_⟩
      subst ev
      rw [eH] at I3
      obtain ⟨u, rfl, ru⟩ : ∃ u, us = [u] ∧ RelV (.ref f) u := by
        cases rv with
        | cons r1 r2 =>
          cases r2
          exact ⟨_, rfl, r1⟩
      cases (show u = Value.ref f from ru)
      have fs1 : f ∉ frs (X.stack) := hfr
      have of2 : s2.heap.get? f = some _ := I3.base.keep f _ hf hfn fs1 (fun z => nomatch (show f ∈ ([] : List Addr) from z))
      have nf2 : HZ f = none := I3.base.free f _ hf hfn (fun z => nomatch (show f ∈ ([] : List Addr) from z))
      have fs2 : f ∉ frs ((cxOf C8.CX0 X.prog X.w X.K X.mg X.base [a] x (C8.fnScope sd1) g1 cdv1 X.A X.stack s' H1 C8.E0).nox.stack) := fun z => by
        rcases List.mem_cons.mp (show f ∈ s'.heap.objs.size :: frs X.stack from z) with z | z
        · exact absurd z (Nat.ne_of_lt hflt)
        · exact fs1 z
      have un : Stands X s' H1 s2 HZ := Stands.un I3.base
      have rc2 : codeAny (model X.prog X.w) (X.A.deeper (envOfC x (C8.fnScope sd1) s'.heap.objs.size g1 cdv1)) (.call (.ref g2) ⟨[.ref f], []⟩) (L2.CR C8.CX0 (envOfC x (C8.fnScope sd1) s'.heap.objs.size g1 cdv1 :: X.stack) X.prog X.w HZ s2 Q1 C8.E0) s2 := by
        refine LamX.run_ofS (N := [b]) (ps := [b]) (us := [.ref f]) (vs := [.ref f]) lk2 hc2 S2c (hr1 : Room (8 * n + 4 + 1) _) I3.env0 (by have := b2 s2 [.ref f] I3.kIn rfl; rwa [List.append_nil] at this) (.cons rfl .nil) rfl fun hr2 => ?_
        have act := pe_deep (X := X) (Ng := [b]) (qg := y) (sg := C8.fnScope sd2) (g := g2) (cdg := cdv2) (A2 := X.A.deeper (envOfC x (C8.fnScope sd1) s'.heap.objs.size g1 cdv1)) (st2 := envOfC x (C8.fnScope sd1) s'.heap.objs.size g1 cdv1 :: X.stack) (s2 := s2) (H2 := HZ)
          (k := 8 * n) (i := 0) (a := b) (tb := tb) (p1 := q1) (p2 := q2) I1 L of2 nf2 fs2 (by rfl) un (hr2.mono (by omega)) (fun A outer s H hr3 hgd => hb _ rfl
            { N := G.N, nd := G.nd, sc := rfl, fnk := L.kind, calm := rfl, blt := G.blt, room := hr3, grd := hgd.trans G.grd, fns := G.fns, lam := fun h => nomatch h }) rfl vb nb1 nb2
        rw [t2]
        refine ⟨_, PSs.nox (pss_one (ps_try_thru0 (pss_one (ps_ret (PEfine (pe_tupF (pa_cons act (pa_cons pe_non pa_nil))) fun σ H Q f q => q))))), ?_⟩
        refine ⟨N2, hc, ?_⟩
        refine uE_mono ht fun v H3 q => ⟨(by show 2 ≤ sizeLine; decide), q⟩
      refine wpAny_call (codeAny_mono rc2 fun r s3 hq => ?_)
      cases r with
      | error e => exact (show False from hq).elim
      | ok fl =>
        cases fl with
        | ret u => exact I3.after hq
        | next => exact False.elim hq
        | brk => exact False.elim hq
        | cont => exact False.elim hq
    rw [t1]
    refine ⟨_, PSs.nox (pss_one (ps_try_thru0 (pss_one (ps_ret inner)))), ?_⟩
    refine ⟨N1, hco, ρ, S, d, S', h1, μ, ν, str1, er1, fun v H3 μ3 x3 st3 r3 => ?_⟩
    exact (Dn.mono (xE.trans x3)).tup st3 (.cons r3 (.cons rfl .nil))
  refine wpAny_call (codeAny_mono rc fun r s2 hq => ?_)
  cases r with
  | error e => exact (show False from hq).elim
  | ok fl =>
    cases fl with
    | ret u => exact I1.after hq
    | next => exact False.elim hq
    | brk => exact False.elim hq
    | cont => exact False.elim hq
end
end Rf
/-! All that is known of an expression: the ways to put it together. -/
namespace Rf
open PySem PySem.Spec PyProof.Rows L2

section
variable {C : Ctx} {X : Cx} {x : Expr} {e : E} {c : CO} {pos : Pos}
theorem US.of (h : UE C X x e) (ht : UT C X x (.val e)) : US C X x (CO.of e) := ⟨h, ht, fun z => (by cases z), fun tgE tg _ => ui_seq h⟩
theorem US.ofT {t : T} (h : UE C X x e) (ht : UT C X x t) : US C X x { CO.of e with t := t } := ⟨h, ht, fun z => (by cases z), fun tgE tg _ => ui_seq h⟩
theorem US.plain (h : UE C X x e) (he : ∀ whole, isTrue x X.env whole = (do let v ← whole; standAt x.pos; holding [v] (truthy v))) : US C X x (CO.of e) := US.of h (ut_val h he)
theorem US.bad : US C X x CO.bad := US.of u_bad ut_bad
/-- a new list -/
theorem US.new {SCx : SC} (h : UF C X x e) (hv : ∀ ρ S z S', ev C e ρ S = some (.ok z S') → ∃ ds, z = .lst ds) (he : ∀ whole, isTrue x X.env whole = (do let v ← whole; standAt x.pos; holding [v] (truthy v))) :
    US C X x (mkE SCx { CO.of e with fresh := true }) := by
  have hE := uf_val h hv
  unfold mkE
  split
  · exact ⟨uf_mk h, ut_val (uf_mk h) he, fun z => (by cases z), fun tgE tg _ => ui_seq hE⟩
  · exact ⟨hE, ut_val hE he, fun _ => h, fun tgE tg _ => ui_seq hE⟩
/-! rows -/
def Uss (C : Ctx) (X : Cx) : List Expr → List CO → Prop
  | [], cs => cs = []
  | e :: es, cs => ∃ c r, cs = c :: r ∧ US C X e c ∧ Uss C X es r
theorem Uss.len : ∀ {es : List Expr} {cs : List CO}, Uss C X es cs → cs.length = es.length
  | [], cs, h => by cases (show cs = [] from h); rfl
  | e :: es, cs, h => by
    obtain ⟨c, r, rfl, _, h2⟩ := h
    simp [Uss.len h2]
theorem Uss.es : ∀ {es : List Expr} {cs : List CO}, Uss C X es cs → es.all starless = true → UEs C X es (cs.map (·.v))
  | [], cs, h, _ => by cases (show cs = [] from h); exact us_nil
  | e :: es, cs, h, hs => by
    obtain ⟨c, r, rfl, h1, h2⟩ := h
    simp only [List.all_cons, Bool.and_eq_true] at hs
    exact us_cons h1.v (Uss.es h2 hs.2) (star_cons hs.1)
theorem Uss.ts {es : List Expr} {cs : List CO} (h : Uss C X es cs) (hn : es.length ≤ 1) : PTs X es (uTs C (Cx.W X) (cs.map (·.t))) := by
  match es, h, hn with
  | [], h, _ =>
    cases (show cs = [] from h)
    exact ⟨fun pins s σ H Q I w => pts_nil.run pins s σ H Q I (by
      obtain ⟨ρ, S, z, S', h, μ, ν, st, er, Dn⟩ := w
      simp only [List.map_nil, evTs] at h
      cases h
      exact Dn H μ (Ext.refl _ _) st)⟩
  | [e], h, _ =>
    obtain ⟨c, r, rfl, h1, h2⟩ := h
    cases (show r = [] from h2)
    exact ⟨fun pins s σ H Q I w => (pts_one h1.t).run pins s σ H Q I (by
      obtain ⟨ρ, S, z, S', h, μ, ν, st, er, Dn⟩ := w
      simp only [List.map_cons, List.map_nil, evTs] at h
      obtain ⟨k, S1, h1, h⟩ := bind_ok h
      refine ⟨ρ, S, k, S1, h1, μ, ν, st, er, fun H1 μ1 x1 st1 => ?_⟩
      cases k <;> (simp only [if_true, Bool.false_eq_true, if_false] at h; cases h; exact Dn H1 μ1 x1 st1))⟩
  | _ :: _ :: _, _, hn => simp at hn
/-! and, or -/
theorem us_and : ∀ {es : List Expr} {cs : List CO}, Uss C X es cs → es ≠ [] → UE C X (.BoolOp .And es pos) (andC cs).v ∧ UW C X (.BoolOp .And es pos) (andC cs).t
  | [], cs, h, h0 => absurd rfl h0
  | [a], cs, h, h0 => by
    obtain ⟨c, r, rfl, h1, h2⟩ := h
    cases (show r = [] from h2)
    exact ⟨u_and1 h1.v, uw_and1 h1.t⟩
  | a :: b :: es, cs, h, h0 => by
    obtain ⟨c, r, rfl, h1, h2⟩ := h
    have ih := us_and h2 (by simp)
    obtain ⟨c2, r2, rfl, _, _⟩ := h2
    exact ⟨u_and h1.v ih.1, uw_and h1.t ih.2⟩
theorem us_or : ∀ {es : List Expr} {cs : List CO}, Uss C X es cs → es ≠ [] → UE C X (.BoolOp .Or es pos) (orC cs).v ∧ UW C X (.BoolOp .Or es pos) (orC cs).t
  | [], cs, h, h0 => absurd rfl h0
  | [a], cs, h, h0 => by
    obtain ⟨c, r, rfl, h1, h2⟩ := h
    cases (show r = [] from h2)
    exact ⟨u_or1 h1.v, uw_or1 h1.t⟩
  | a :: b :: es, cs, h, h0 => by
    obtain ⟨c, r, rfl, h1, h2⟩ := h
    have ih := us_or h2 (by simp)
    obtain ⟨c2, r2, rfl, _, _⟩ := h2
    exact ⟨u_or h1.v ih.1, uw_or h1.t ih.2⟩
theorem US.and {es : List Expr} {cs : List CO} (h : Uss C X es cs) : US C X (.BoolOp .And es pos) (andC cs) := by
  match es, cs, h with
  | [], cs, h =>
    cases (show cs = [] from h)
    exact US.bad
  | [a], _, h =>
    have k := us_and (pos := pos) h (by simp)
    obtain ⟨c, r, rfl, h1, h2⟩ := h
    cases (show r = [] from h2)
    exact US.ofT k.1 k.2.pt
  | a :: b :: es, _, h =>
    have k := us_and (pos := pos) h (by simp)
    obtain ⟨c, r, rfl, h1, h2⟩ := h
    obtain ⟨c2, r2, rfl, h3, h4⟩ := h2
    exact ⟨k.1, k.2.pt, fun z => (by cases z), fun tgE tg _ => ui_seq k.1⟩
theorem US.or {es : List Expr} {cs : List CO} (h : Uss C X es cs) : US C X (.BoolOp .Or es pos) (orC cs) := by
  match es, cs, h with
  | [], cs, h =>
    cases (show cs = [] from h)
    exact US.bad
  | [a], _, h =>
    have k := us_or (pos := pos) h (by simp)
    obtain ⟨c, r, rfl, h1, h2⟩ := h
    cases (show r = [] from h2)
    exact US.ofT k.1 k.2.pt
  | a :: b :: es, _, h =>
    have k := us_or (pos := pos) h (by simp)
    obtain ⟨c, r, rfl, h1, h2⟩ := h
    obtain ⟨c2, r2, rfl, h3, h4⟩ := h2
    exact ⟨k.1, k.2.pt, fun z => (by cases z), fun tgE tg _ => ui_seq k.1⟩
/-! keys and values -/
def Uos (C : Ctx) (X : Cx) : List (Option Expr) → List CO → Prop
  | [], cs => cs = []
  | none :: es, cs => True
  | some e :: es, cs => ∃ c r, cs = c :: r ∧ US C X e c ∧ Uos C X es r
theorem Uos.pps : ∀ {ks : List (Option Expr)} {vs : List Expr} {kc vc : List CO}, Uos C X ks kc → Uss C X vs vc → ks.all (·.isSome) = true → ks.length = vs.length → kc.length = ks.length ∧ PPs X pos ks vs (trsOf C (Cx.W X) kc vc)
  | [], [], kc, vc, h, g, _, _ => by
    cases (show kc = [] from h)
    cases (show vc = [] from g)
    exact ⟨rfl, pps_nil⟩
  | [], _ :: _, _, _, _, _, _, hl => by simp at hl
  | _ :: _, [], _, _, _, _, _, hl => by simp at hl
  | none :: _, _ :: _, _, _, _, _, ha, _ => by simp at ha
  | some k :: ks, v :: vs, kc, vc, h, g, ha, hl => by
    obtain ⟨c, r, rfl, h1, h2⟩ := h
    obtain ⟨c', r', rfl, g1, g2⟩ := g
    simp only [List.all_cons, Bool.and_eq_true] at ha
    obtain ⟨k1, k2⟩ := Uos.pps h2 g2 ha.2 (by simpa using hl)
    exact ⟨by simp [k1], pps_cons h1.v g1.v k2⟩
end
/-! ### names, calls by name -/
section
variable {P : Prog} {n : Nat} {SCx : SC} {X : Cx} {pos p : Pos} {x : Str} {es : List Expr} {cs : List CO}
theorem u_name (G : Good P n SCx X) : UE (ctx P n) X (.Name x pos) (nameE SCx x) := by
  unfold nameE
  split
  · rename_i hx
    split
    · rename_i hv
      split
      · rename_i i hi
        exact u_var (by rw [G.N]; exact slot_of hi) (G.vis hv) hx
      · exact u_bad
    · split
      · rename_i hg
        simp only [Bool.and_eq_true] at hg
        exact u_glob (d := .non) G.fns hx (G.gl hg.1)
      · exact u_bad
  · exact u_bad
theorem us_call (G : Good P n SCx X) (h : Uss (ctx P n) X es cs) (hs : es.all starless = true) (ht : ∀ (a : Expr) (c : CO), es = [a] → cs = [c] → c.k = .range → ∃ (r : List Expr) (pr rp : Pos), a = .Call (.Name "range" pr) r [] rp ∧ r.all starless = true ∧ Gl X "range" ∧ X.mg "range" = none ∧ UEs (ctx P n) X r c.its ∧ c.its.length = r.length) :
    US (ctx P n) X (.Call (.Name x p) es [] pos) (callE SCx x cs) := by
  have hE := h.es hs
  have hlen := h.len
  unfold callE
  split
  · rename_i h1
    simp only [Bool.and_eq_true] at h1
    have hg := G.gl h1.2
    split
    · exact US.plain (u_call G.fns G.room G.grd h1.1 hg hE hs (by simp [hlen])) fun _ => rfl
    · rename_i hu
      have hm : X.mg x = none := G.blt x (by simpa using hu)
      split
      · rename_i b hb
        split
        · rename_i hr
          simp only [Bool.and_eq_true, decide_eq_true_eq, beq_iff_eq] at hr
          obtain ⟨rfl, hk⟩ := hr
          have hx : x = "tuple" := by
            unfold bltOf at hb
            repeat' split at hb
            all_goals first | assumption | cases hb
          subst hx
          match es, cs, h, hlen, hk with
          | [a], [c], h, _, hk =>
            have hk : c.k = .range := by simpa using hk
            obtain ⟨r, pr, rp, rfl, k1, k2, k3, k4, k5⟩ := ht a c rfl rfl hk
            have e : [c].flatMap (·.its) = c.its := by simp
            rw [e]
            exact US.plain (u_tupR G.calm hg hm k2 k3 k4 k1 k5) fun _ => rfl
          | [], c :: _, _, hl, _ => simp at hl
          | _, [], _, _, hk => simp at hk
          | _, _ :: _ :: _, _, _, hk => simp at hk
          | _ :: _ :: _, [_], _, hl, _ => simp at hl
        · by_cases hf : b = .list ∨ b = .sorted
          · have hF := uf_blt (p := p) (pos := pos) G.room G.calm hb hf hg hm hE hs (by simp [hlen])
            have hV := uf_val hF fun ρ S z S' h => ev_blt hf h
            exact ⟨hV, ut_val hV fun _ => rfl, fun _ => hF, fun tgE tg _ => ui_seq hV⟩
          · have hV := u_blt (p := p) (pos := pos) G.room G.grd G.calm hb hg hm hE hs (by simp [hlen])
            refine ⟨hV, ut_val hV fun _ => rfl, fun z => ?_, fun tgE tg _ => ui_seq hV⟩
            exact absurd (by simpa using z) hf
      · split
        · rename_i k hk
          refine ⟨u_bad, ut_bad, fun z => (by cases z), fun tgE tg hto => ?_⟩
          unfold iterOf at hk
          split at hk
          · rename_i hx
            subst hx
            split at hk <;> cases hk
            exact ui_range hg hm hE hs (by simp [hlen])
          · split at hk
            · rename_i hx
              subst hx
              split at hk <;> cases hk
              rename_i h1
              match es, hlen, hE, hs with
              | [a], hlen, hE, hs => exact ui_enum hto hg hm hE (by simpa using hs) (by simp [hlen])
              | [], hlen, _, _ => simp [h1] at hlen
              | _ :: _ :: _, hlen, _, _ => simp [h1] at hlen
            · split at hk
              · rename_i hx
                subst hx
                split at hk <;> cases hk
                rename_i h1
                match es, hlen, hE, hs with
                | [a, b], hlen, hE, hs =>
                  simp only [List.all_cons, Bool.and_eq_true] at hs
                  exact ui_zip hto hg hm hE hs.1 hs.2.1 (by simp [hlen])
                | [], hlen, _, _ => simp [h1] at hlen
                | [_], hlen, _, _ => simp [h1] at hlen
                | _ :: _ :: _ :: _, hlen, _, _ => simp [h1] at hlen
              · cases hk
        · exact US.bad
  · exact US.bad
end
end Rf
/-! Every expression. -/
namespace Rf
open PySem PySem.Spec PyProof.Rows L2

theorem mkE_k {C : SC} {c : CO} : (mkE C c).k = c.k := by
  unfold mkE
  split <;> rfl
theorem andC_k : ∀ cs : List CO, (andC cs).k = .seq
  | [] => rfl
  | [_] => rfl
  | _ :: _ :: _ => rfl
theorem orC_k : ∀ cs : List CO, (orC cs).k = .seq
  | [] => rfl
  | [_] => rfl
  | _ :: _ :: _ => rfl
theorem k_range {C : SC} {a : Expr} (h : (cX C a).k = .range) : ∃ (r : List Expr) (pr rp : Pos), a = .Call (.Name "range" pr) r [] rp ∧ r.all starless = true ∧ glB C.sc "range" = true ∧ C.usr "range" = false ∧ (cX C a).its = (cXs C r).map (·.v) := by
  rw [cX.eq_def] at h ⊢
  split at h
  all_goals try (cases h; done)
  all_goals try (rw [andC_k] at h; cases h; done)
  all_goals try (rw [orC_k] at h; cases h; done)
  all_goals try (split at h <;> first | (cases h; done) | (rw [mkE_k] at h; cases h; done))
  · rename_i x p1 args p2 _
    split at h
    · rename_i hs
      rw [if_pos hs]
      split at h
      · rename_i hx
        repeat' split at h
        all_goals cases h
      · rename_i hx
        rw [if_neg hx]
        unfold callE at h ⊢
        split at h
        · rename_i h1
          rw [if_pos h1]
          simp only [Bool.and_eq_true] at h1
          split at h
          · cases h
          · rename_i hu
            rw [if_neg hu]
            split at h
            · split at h <;> cases h
            · rename_i hb
              split at h
              · rename_i k hk
                unfold iterOf at hk
                have hk2 : k = .range := h
                subst hk2
                split at hk
                · rename_i hr
                  subst hr
                  refine ⟨args, p1, p2, rfl, hs, h1.2, by simpa using hu, ?_⟩
                  rfl
                · skip
                  repeat' split at hk
                  all_goals first | done | cases hk
              · cases h
        · cases h
    · cases h
  all_goals
    split at h
    · simp only at h
      split at h
      · split at h <;> first | (cases h; done) | (rw [mkE_k] at h; cases h; done)
      · cases h
    · cases h
theorem Good.blk {P : Prog} {n : Nat} {C : SC} {X : Cx} (G : Good P n C X) {scope : Scope} (hk : scope.kind = .function) (s : Shared) (H : Hp) (A : Addr) (cl : List (Str × Addr)) (fp : List Addr) :
    Good P n { C with sc := L2.relS scope C.sc, mkc := false, lam := false } (X.blk s H scope (compEnvC scope cl A X.env) fp) where
  N := G.N
  nd := G.nd
  sc := by
    show L2.relS scope X.env.scope = _
    rw [G.sc]
  fnk := hk
  calm := G.calm
  blt := G.blt
  room := G.room
  grd := G.grd
  fns := G.fns
  lam := fun h => nomatch h
end Rf
/-! Every expression, by its size. -/
namespace Rf
open PySem PySem.Spec PyProof.Rows L2

theorem noSet_fold {e : Expr} {env : PySem.Env} (h : noSet e = true) : ∀ x, foldedSetIterable e env x = pure x := fun x => by
  unfold foldedSetIterable
  cases e <;> first | rfl | cases h
theorem tg_ok {C : SC} {scope : Scope} {tgE : Expr} {tg : Tg} (h : tgOf C scope tgE = some tg) : TgOk tg tgE := by
  unfold tgOf at h
  split at h
  · split at h
    · obtain ⟨i, _, rfl⟩ := Option.map_eq_some_iff.mp h
      trivial
    · cases h
  · split at h
    · split at h
      · obtain ⟨i, _, rfl⟩ := Option.map_eq_some_iff.mp h
        exact ⟨_, _, _, rfl⟩
      · cases h
    · cases h
  · cases h
theorem blkC_kind {N : List Str} {sc scope : Scope} {own : List (Str × Nat)} (h : L2.blkC N sc scope own = true) : scope.kind = .function := by
  unfold L2.blkC at h
  simp only [Bool.and_eq_true] at h
  have h1 := h.1.1.1
  split at h1
  · assumption
  · cases h1
theorem last_marks {o1 o2 : CmpOp} {b c : Expr} (h : opOk o2 c = true) : lastMarks [o1, o2] [b, c] = false := mark_of h
section
variable {C : Ctx} {X : Cx} {pos : Pos}
theorem u_const {c : Const} {j} : UE C X (.Constant c j pos) (constE c) := by
  unfold constE
  split
  · exact u_non
  · exact u_bl
  · exact u_int
  · split
    · rename_i h
      exact u_str h
    · exact u_bad
  · exact u_bad
end
/-- all expressions of at most a size -/
def SX (P : Prog) (n m : Nat) : Prop := ∀ (e : Expr), sizeOf e ≤ m → ∀ (C : SC) (X : Cx), Good P n C X → US (ctx P n) X e (cX C e)
section
variable {P : Prog} {n m : Nat} {C : SC} {X : Cx}
theorem SX.xs (h : SX P n m) (G : Good P n C X) : ∀ (es : List Expr), sizeOf es ≤ m → Uss (ctx P n) X es (cXs C es)
  | [], _ => rfl
  | e :: es, hs => by
    simp only [List.cons.sizeOf_spec] at hs
    rw [cXs]
    exact ⟨_, _, rfl, h e (by omega) C X G, SX.xs h G es (by omega)⟩
theorem SX.o (h : SX P n m) (G : Good P n C X) : ∀ (o : Option Expr), sizeOf o ≤ m → PO X o (uO (ctx P n) (Cx.W X) ((cO C o).map (·.v)))
  | none, _ => by
    rw [cO]
    exact uo_none
  | some e, hs => by
    simp only [Option.some.sizeOf_spec] at hs
    rw [cO]
    exact uo_some (h e (by omega) C X G).v
theorem SX.os (h : SX P n m) (G : Good P n C X) : ∀ (os : List (Option Expr)), sizeOf os ≤ m → Uos (ctx P n) X os (cOs C os)
  | [], _ => rfl
  | none :: os, hs => trivial
  | some e :: os, hs => by
    simp only [List.cons.sizeOf_spec, Option.some.sizeOf_spec] at hs
    rw [cOs, cO]
    exact ⟨_, _, rfl, h e (by omega) C X G, SX.os h G os (by omega)⟩
theorem cXs_len {C : SC} : ∀ es : List Expr, (cXs C es).length = es.length
  | [] => rfl
  | e :: es => by rw [cXs]; simp [cXs_len es]
theorem sx_step (h : SX P n m) : SX P n (m + 1) := by
  intro e he C X G
  rw [cX.eq_def]
  split
  case h_1 x p => exact US.plain (u_name G) fun _ => rfl
  case h_2 c j p => exact US.plain u_const fun _ => rfl
  case h_3 es k p =>
    simp only [Expr.Tuple.sizeOf_spec] at he
    split
    · rename_i hs
      simp only [Bool.and_eq_true, decide_eq_true_eq] at hs
      exact US.plain (u_tup ((h.xs G es (by omega)).es hs.1) (by simpa [cXs_len] using hs.2)) fun _ => rfl
    · exact US.bad
  case h_4 es p =>
    simp only [Expr.List.sizeOf_spec] at he
    split
    · rename_i hs
      simp only [Bool.and_eq_true, decide_eq_true_eq] at hs
      exact US.new (uf_lst ((h.xs G es (by omega)).es hs.1) (by simpa [cXs_len] using hs.2)) (fun ρ S z S' h => ev_lst h) fun _ => rfl
    · exact US.bad
  case h_5 ks vs p =>
    simp only [Expr.Dict.sizeOf_spec] at he
    split
    · rename_i hs
      simp only [Bool.and_eq_true, decide_eq_true_eq, beq_iff_eq] at hs
      have k := Uos.pps (pos := p) (h.os G ks (by omega)) (h.xs G vs (by omega)) hs.1.1 hs.1.2
      exact US.plain (u_dct hs.1.1 hs.1.2 k.1 (cXs_len vs) hs.2 k.2) fun _ => rfl
    · exact US.bad
  case h_6 a op b p =>
    simp only [Expr.BinOp.sizeOf_spec] at he
    exact US.plain (u_bin (h a (by omega) C X G).v (h b (by omega) C X G).v) fun _ => rfl
  case h_7 a p =>
    simp only [Expr.UnaryOp.sizeOf_spec] at he
    have k := h a (by omega) C X G
    exact US.ofT (u_not k.v) (ut_not k.t)
  case h_8 a p =>
    simp only [Expr.UnaryOp.sizeOf_spec] at he
    exact US.plain (u_neg (h a (by omega) C X G).v) fun _ => rfl
  case h_9 vs p =>
    simp only [Expr.BoolOp.sizeOf_spec] at he
    exact US.and (h.xs G vs (by omega))
  case h_10 vs p =>
    simp only [Expr.BoolOp.sizeOf_spec] at he
    exact US.or (h.xs G vs (by omega))
  case h_11 c a b p =>
    simp only [Expr.IfExp.sizeOf_spec] at he
    exact US.ofT (u_ite (h c (by omega) C X G).t (h a (by omega) C X G).v (h b (by omega) C X G).v) ut_bad
  case h_12 a op b p =>
    simp only [Expr.Compare.sizeOf_spec, List.cons.sizeOf_spec] at he
    split
    · rename_i ho
      exact US.of (u_cmp G.room (mark_of ho) (h a (by omega) C X G).v (h b (by omega) C X G).v) (ut_cmp G.room (mark_of ho) (h a (by omega) C X G).v (h b (by omega) C X G).v)
    · exact US.bad
  case h_13 a o1 o2 b c p =>
    simp only [Expr.Compare.sizeOf_spec, List.cons.sizeOf_spec] at he
    split
    · rename_i ho
      have k1 := (h a (by omega) C X G).v
      have k2 := (h b (by omega) C X G).v
      have k3 := (h c (by omega) C X G).v
      exact US.of (u_chain G.room (last_marks ho) k1 k2 k3) (ut_chain G.room (last_marks ho) k1 k2 k3)
    · exact US.bad
  case h_14 x p1 params body scope lpos p2 =>
    simp only [Expr.Call.sizeOf_spec, List.cons.sizeOf_spec, Expr.Lambda.sizeOf_spec] at he
    split
    · rename_i hc
      simp only [Bool.and_eq_true] at hc
      exact US.plain (u_thunk G hc.1.1.1.1 hc.1.1.1.2 hc.1.1.2 hc.1.2 hc.2 fun Z hZ GZ => (h body (by omega) _ Z GZ).v) fun _ => rfl
    · exact US.bad
  case h_15 x p1 args p2 _ =>
    simp only [Expr.Call.sizeOf_spec] at he
    split
    · rename_i hs
      split
      · rename_i hx
        subst hx
        split
        · rename_i a t _
          simp only [List.cons.sizeOf_spec] at he
          split
          · rename_i hg
            split
            · rename_i ts ht
              unfold tysOf at ht
              split at ht
              · rename_i y py
                split at ht
                · rename_i hy
                  cases ht
                  unfold isGl at hg hy
                  simp only [Bool.and_eq_true, Bool.not_eq_true'] at hg hy
                  have hs1 : starless a = true := by
                    simp only [List.all_cons, Bool.and_eq_true] at hs
                    exact hs.1
                  exact US.plain (u_isi (G.gl hg.1.2) (G.blt _ hg.2) (G.gl hy.1.1.2) (G.blt _ hy.1.2) hy.2 (h a (by omega) C X G).v hs1) fun _ => rfl
                · cases ht
              · cases ht
            · exact US.bad
          · exact US.bad
        · exact US.bad
      · refine us_call G (h.xs G args (by omega)) hs fun a c ha hc hk => ?_
        subst ha
        have hc : cX C a = c := by
          simp only [cXs, List.cons.injEq, and_true] at hc
          exact hc
        subst hc
        simp only [List.cons.sizeOf_spec] at he
        obtain ⟨r, pr, rp, rfl, k1, k2, k3, k4⟩ := k_range hk
        simp only [Expr.Call.sizeOf_spec] at he
        rw [k4]
        exact ⟨r, pr, rp, rfl, k1, G.gl k2, G.blt _ k3, (h.xs G r (by omega)).es k1, by simp [cXs_len]⟩
    · exact US.bad
  case h_16 o m ap args p =>
    simp only [Expr.Call.sizeOf_spec, Expr.Attribute.sizeOf_spec] at he
    split
    · rename_i hs
      simp only [Bool.and_eq_true, decide_eq_true_eq] at hs
      exact US.plain (u_meth G.fns G.room G.grd (h o (by omega) C X G).v hs.1.1.2 ((h.xs G args (by omega)).es hs.1.1.1) hs.1.1.1 (by simp [cXs_len]) hs.1.2 hs.2) fun _ => rfl
    · exact US.bad
  case h_17 o f p =>
    simp only [Expr.Attribute.sizeOf_spec] at he
    split
    · rename_i hb
      exact US.plain (u_fld G.fns (h o (by omega) C X G).v hb) fun _ => rfl
    · exact US.bad
  case h_18 o lo hi p1 p2 =>
    simp only [Expr.Subscript.sizeOf_spec, Expr.Slice.sizeOf_spec] at he
    exact US.plain (u_slc (h o (by omega) C X G).v (h.o G lo (by omega)) (h.o G hi (by omega))) fun _ => rfl
  case h_19 o i _ _ _ _ _ =>
    simp only [Expr.Subscript.sizeOf_spec] at he
    split
    · rename_i hi
      subst hi
      exact US.plain (u_rev (h o (by omega) C X G).v) fun _ => rfl
    · exact US.bad
  case h_20 o i p hn _ =>
    simp only [Expr.Subscript.sizeOf_spec] at he
    exact US.plain (u_idx G.room (h o (by omega) C X G).v (h i (by omega) C X G).v (plain_ix hn)) fun _ => rfl
  case h_21 elt tg iter ifs as scope p =>
    simp only [Expr.ListComp.sizeOf_spec, List.cons.sizeOf_spec, Comprehension.mk.sizeOf_spec] at he
    split
    · rename_i ha
      subst ha
      simp only
      split
      · rename_i t vs ht hv
        split
        · rename_i hb
          simp only [Bool.and_eq_true, decide_eq_true_eq] at hb
          have hk : scope.kind = .function := blkC_kind hb.1.1
          have B := fun (s : Shared) (H : Hp) (A : Addr) (cl : List (Str × Addr)) (fp : List Addr) => G.blk hk s H A cl fp
          exact US.new (pe_lcF (SCx := C) G.calm G.N G.nd G.sc ht hv hb.1.1 ((h iter (by omega) C X G).i tg t (tg_ok ht)) (fun s H A cl fp => (h.xs (B s H A cl fp) ifs (by omega)).ts hb.1.2) (fun s H A cl fp => (h elt (by omega) _ _ (B s H A cl fp)).v) (noSet_fold hb.2))
            (fun ρ S z S' h => ev_comp h) fun _ => rfl
        · exact US.bad
      · exact US.bad
    · exact US.bad
  case h_22 ke ve tg iter ifs as scope p =>
    simp only [Expr.DictComp.sizeOf_spec, List.cons.sizeOf_spec, Comprehension.mk.sizeOf_spec] at he
    split
    · rename_i ha
      subst ha
      simp only
      split
      · rename_i t vs ht hv
        split
        · rename_i hb
          simp only [Bool.and_eq_true, decide_eq_true_eq] at hb
          have hk : scope.kind = .function := blkC_kind hb.1.1
          have B := fun (s : Shared) (H : Hp) (A : Addr) (cl : List (Str × Addr)) (fp : List Addr) => G.blk hk s H A cl fp
          exact US.plain (pe_dcF (SCx := C) G.calm G.N G.nd G.sc ht hv hb.1.1 ((h iter (by omega) C X G).i tg t (tg_ok ht)) (fun s H A cl fp => (h.xs (B s H A cl fp) ifs (by omega)).ts hb.1.2) (fun s H A cl fp => (h ke (by omega) _ _ (B s H A cl fp)).v) (fun s H A cl fp => (h ve (by omega) _ _ (B s H A cl fp)).v) (noSet_fold hb.2)) fun _ => rfl
        · exact US.bad
      · exact US.bad
    · exact US.bad
  case h_23 => exact US.bad
theorem sx_all : ∀ m, SX P n m
  | 0 => fun e he => by
    exfalso
    cases e <;> simp at he
  | m + 1 => sx_step (sx_all m)
theorem sx (G : Good P n C X) (e : Expr) : US (ctx P n) X e (cX C e) := sx_all (sizeOf e) e (Nat.le_refl _) C X G
theorem sxs (G : Good P n C X) (es : List Expr) : Uss (ctx P n) X es (cXs C es) := SX.xs (sx_all (sizeOf es)) G es (Nat.le_refl _)
end
end Rf
/-! Statements. -/
namespace Rf
open PySem PySem.Spec PyProof.Rows L2

structure GoodS (P : Prog) (n : Nat) (C : SC) (X : Cx) : Prop extends Good P n C X where
  own : PassesOwn (model X.prog X.w) X.A X.env X.xe
  fn : ∀ x, X.fn x = true
/-- what is wanted behind an outcome -/
def OutOk (W : Wd) (μ ν : List Addr) (H : Hp) (D : Ends) : SO → Prop
  | .nx ρ S => ∀ σ' H' μ', Ext μ μ' H H' → StR W μ' ν S H' → ER W μ' ν H' ρ σ' → D.nx σ' H'
  | .rt d S => ∀ v H' μ', Ext μ μ' H H' → StR W μ' ν S H' → VR W μ' ν H' d v → D.rt v H'
  | .bk ρ S => ∀ σ' H' μ', Ext μ μ' H H' → StR W μ' ν S H' → ER W μ' ν H' ρ σ' → D.bk σ' H'
  | .ct ρ S => ∀ σ' H' μ', Ext μ μ' H H' → StR W μ' ν S H' → ER W μ' ν H' ρ σ' → D.ct σ' H'
  | .exc _ _ _ _ => False
theorem OutOk.mono {W : Wd} {μ μ1 ν : List Addr} {H H1 : Hp} {D : Ends} (x : Ext μ μ1 H H1) : ∀ {o : SO}, OutOk W μ ν H D o → OutOk W μ1 ν H1 D o
  | .nx _ _, O => fun σ' H' μ' x' => O σ' H' μ' (x.trans x')
  | .rt _ _, O => fun σ' H' μ' x' => O σ' H' μ' (x.trans x')
  | .bk _ _, O => fun σ' H' μ' x' => O σ' H' μ' (x.trans x')
  | .ct _ _, O => fun σ' H' μ' x' => O σ' H' μ' (x.trans x')
  | .exc _ _ _ _, O => O
def uS (C : Ctx) (W : Wd) (s : St) : TS := fun D σ H => ∃ ρ S o, exec C s ρ S = some o ∧ ∃ μ ν, StR W μ ν S H ∧ ER W μ ν H ρ σ ∧ OutOk W μ ν H D o
def uSs (C : Ctx) (W : Wd) (s : List St) : TS := fun D σ H => ∃ ρ S o, execs C s ρ S = some o ∧ ∃ μ ν, StR W μ ν S H ∧ ER W μ ν H ρ σ ∧ OutOk W μ ν H D o
theorem PSs.any {X : Cx} {e : List Stmt} {t : TS} (h : ∀ D σ H, t D σ H → ∃ t', PSs X e t' ∧ t' D σ H) : PSs X e t := ⟨fun pins s σ H D I q => by
  obtain ⟨t', h1, h2⟩ := h D σ H q
  exact h1.run pins s σ H D I h2⟩
theorem toS_ok {α : Type} {W : Wd} {μ ν : List Addr} {H : Hp} {D : Ends} {m : RM α} {ρ : Env} {f : α → Store → Option SO} {o : SO} (h : RM.toS m ρ f = some o) (O : OutOk W μ ν H D o) : ∃ a S1, m = some (.ok a S1) ∧ f a S1 = some o := by
  unfold RM.toS at h
  split at h
  · exact ⟨_, _, rfl, h⟩
  · cases h
    exact O.elim
  · cases h
section
variable {C : Ctx} {X : Cx} {e a b : Expr} {ee : E} {pos px : Pos} {x : Str} {i : Nat} {st : Stmt} {s : St}
theorem us_bad : PS X st (uS C (Cx.W X) .bad) := PS.any fun D σ H w => by
  obtain ⟨ρ, S, o, h, _⟩ := w
  simp only [exec] at h
  cases h
theorem st_nop (h : PS X st tNext) (hs : ∀ ρ S, exec C s ρ S = some (.nx ρ S)) : PS X st (uS C (Cx.W X) s) := PS.any fun D σ H w => by
  obtain ⟨ρ, S, o, h1, μ, ν, str, er, O⟩ := w
  rw [hs] at h1
  cases h1
  exact ⟨_, h, O σ H μ (Ext.refl _ _) str er⟩
theorem st_asg (he : UE C X e ee) (hN : X.N.Nodup) (hi : X.N[i]? = some x) (hx : Loc X.env.scope x) (hs : swapsWith e (some (.Name x px)) pos.line X.env = pure false) (hf : X.fn x = true) : PS X (.Assign [.Name x px] e pos) (uS C (Cx.W X) (.asg i ee)) := by
  refine PS.any fun D σ H w => ?_
  obtain ⟨ρ, S, o, h, μ, ν, str, er, O⟩ := w
  simp only [exec] at h
  obtain ⟨d, S1, h1, h2⟩ := toS_ok h O
  cases h2
  exact ⟨_, ps_set (i := i) (pos := pos) hN hi hx he hs (.inl hf), ρ, S, d, S1, h1, μ, ν, str, er, fun v H' μ' x' st' r' => O _ H' μ' x' st' ((er.ext x' st'.trk).set i r')⟩
/-- name = [..] stored as the block ends -/
theorem st_asgL {D : Ends} {σ : L2.St} {H : Hp} {W : Wd} (hv : ∀ ρ S z S', ev C ee ρ S = some (.ok z S') → ∃ ds, z = .lst ds) (w : uS C W (.asg i ee) D σ H) : tAsg (uF C W ee) (gName i) D σ H := by
  obtain ⟨ρ, S, o, h, μ, ν, str, er, O⟩ := w
  simp only [exec] at h
  obtain ⟨d, S1, h1, h2⟩ := toS_ok h O
  cases h2
  obtain ⟨ds, rfl⟩ := hv _ _ _ _ h1
  exact ⟨ρ, S, ds, S1, h1, μ, ν, str, er, Done.fresh fun v H' μ' x' st' r' => O _ H' μ' x' st' ((er.ext x' st'.trk).set i r')⟩
theorem st_asgM {D : Ends} {σ : L2.St} {H : Hp} {W : Wd} (w : uS C W (.asg i (.mk ee)) D σ H) : tAsg (uF C W ee) (gName i) D σ H := by
  obtain ⟨ρ, S, o, h, μ, ν, str, er, O⟩ := w
  simp only [exec, ev] at h
  obtain ⟨d, S1, h1, h2⟩ := toS_ok h O
  cases h2
  obtain ⟨d2, S2, h3, h4⟩ := bind_ok h1
  split at h4
  · cases h4
    exact ⟨ρ, S, _, S2, h3, μ, ν, str, er, Done.cell fun v H' μ' x' st' r' => O _ H' μ' x' st' ((er.ext x' st'.trk).set i r')⟩
  · cases h4
theorem st_expr (he : UE C X e ee) (hs : swapsWith e none pos.line X.env = pure false) : PS X (.Expr e pos) (uS C (Cx.W X) (.expr ee)) := by
  refine PS.any fun D σ H w => ?_
  obtain ⟨ρ, S, o, h, μ, ν, str, er, O⟩ := w
  simp only [exec] at h
  obtain ⟨d, S1, h1, h2⟩ := toS_ok h O
  cases h2
  exact ⟨_, ps_expr he hs, ρ, S, d, S1, h1, μ, ν, str, er, fun v H' μ' x' st' r' => O _ H' μ' x' st' (er.ext x' st'.trk)⟩
theorem st_ret (he : UE C X e ee) : PS X (.Return (some e) pos) (uS C (Cx.W X) (.ret ee)) := by
  refine PS.any fun D σ H w => ?_
  obtain ⟨ρ, S, o, h, μ, ν, str, er, O⟩ := w
  simp only [exec] at h
  obtain ⟨d, S1, h1, h2⟩ := toS_ok h O
  cases h2
  exact ⟨_, ps_ret he, ρ, S, d, S1, h1, μ, ν, str, er, fun v H' μ' x' st' r' => O _ H' μ' x' st' r'⟩
theorem st_retN : PS X (.Return none pos) (uS C (Cx.W X) .retN) := by
  refine PS.any fun D σ H w => ?_
  obtain ⟨ρ, S, o, h, μ, ν, str, er, O⟩ := w
  simp only [exec] at h
  cases h
  exact ⟨_, ps_retN, O .non H μ (Ext.refl _ _) str rfl⟩
theorem st_brk : PS X (.Break pos) (uS C (Cx.W X) .brk) := by
  refine PS.any fun D σ H w => ?_
  obtain ⟨ρ, S, o, h, μ, ν, str, er, O⟩ := w
  simp only [exec] at h
  cases h
  exact ⟨_, ps_break, O σ H μ (Ext.refl _ _) str er⟩
theorem st_cont : PS X (.Continue pos) (uS C (Cx.W X) .cont) := by
  refine PS.any fun D σ H w => ?_
  obtain ⟨ρ, S, o, h, μ, ν, str, er, O⟩ := w
  simp only [exec] at h
  cases h
  exact ⟨_, ps_continue, O σ H μ (Ext.refl _ _) str er⟩
theorem st_nil : PSs X [] (uSs C (Cx.W X) []) := PSs.any fun D σ H w => by
  obtain ⟨ρ, S, o, h, μ, ν, str, er, O⟩ := w
  simp only [execs] at h
  cases h
  exact ⟨_, pss_nil, O σ H μ (Ext.refl _ _) str er⟩
theorem st_cons {sts : List Stmt} {ss : List St} (h1 : PS X st (uS C (Cx.W X) s)) (h2 : PSs X sts (uSs C (Cx.W X) ss)) : PSs X (st :: sts) (uSs C (Cx.W X) (s :: ss)) := PSs.any fun D σ H w => by
  obtain ⟨ρ, S, o, h, μ, ν, str, er, O⟩ := w
  refine ⟨_, pss_cons h1 h2, ?_⟩
  simp only [execs] at h
  cases e1 : exec C s ρ S with
  | none => rw [e1] at h; cases h
  | some o1 =>
    rw [e1] at h
    refine ⟨ρ, S, o1, e1, μ, ν, str, er, ?_⟩
    cases o1 with
    | nx ρ1 S1 => exact fun σ' H' μ' x' st' er' => ⟨ρ1, S1, o, h, μ', ν, st', er', O.mono x'⟩
    | rt d S1 => cases h; exact O
    | bk ρ1 S1 => cases h; exact O
    | ct ρ1 S1 => cases h; exact O
    | exc ρ1 c fs S1 => cases h; exact O
theorem st_if {c : Expr} {tc : T} {xs ys : List Stmt} {ss ts : List St} (hc : UT C X c tc) (ha : PSs X xs (uSs C (Cx.W X) ss)) (hb : PSs X ys (uSs C (Cx.W X) ts)) : PS X (.If c xs ys pos) (uS C (Cx.W X) (.iff tc ss ts)) := PS.any fun D σ H w => by
  obtain ⟨ρ, S, o, h, μ, ν, str, er, O⟩ := w
  simp only [exec] at h
  obtain ⟨k, S1, h1, h2⟩ := toS_ok h O
  refine ⟨_, ps_if hc ha hb, ρ, S, k, S1, h1, μ, ν, str, er, fun H' μ' x' st' => ?_⟩
  cases k with
  | true => exact ⟨ρ, S1, o, h2, μ', ν, st', er.ext x' st'.trk, O.mono x'⟩
  | false => exact ⟨ρ, S1, o, h2, μ', ν, st', er.ext x' st'.trk, O.mono x'⟩
/-! ### stores -/
theorem FRs.put {W : Wd} {μ ν : List Addr} {H : Hp} {f : Str} {d : D} {v : V} (r : VR W μ ν H d v) : ∀ {fs : List (Str × D)} {gs : List (Str × V)}, FRs W μ ν H fs gs → FRs W μ ν H (putA fs f d) (putF f v gs)
  | [], gs, h => by
    cases (show gs = [] from h)
    exact ⟨v, [], rfl, r, rfl⟩
  | (g, x) :: fs, gs, h => by
    obtain ⟨w, r', rfl, h1, h2⟩ := h
    unfold putA putF
    split
    · exact ⟨v, r', rfl, r, h2⟩
    · exact ⟨w, _, rfl, h1, FRs.put r h2⟩
theorem FRs.len {W : Wd} {μ ν : List Addr} {H : Hp} : ∀ {fs : List (Str × D)} {gs : List (Str × V)}, FRs W μ ν H fs gs → gs.length = fs.length
  | [], gs, h => by cases (show gs = [] from h); rfl
  | (g, x) :: fs, gs, h => by
    obtain ⟨w, r', rfl, h1, h2⟩ := h
    simp [FRs.len h2]
theorem FRs.ext {W : Wd} {μ μ' ν : List Addr} {H H' : Hp} (x : Ext μ μ' H H') (lo : Trk W μ' H') {fs : List (Str × D)} {gs : List (Str × V)} (h : FRs W μ ν H fs gs) : FRs W μ' ν H' fs gs := h.map fun d v r => r.ext x lo
/-- behind a write to a cell -/
theorem wr_fine {W : Wd} {μ ν : List Addr} {S : Store} {H : Hp} {a : Addr} {i : Nat} {o o' : HO} {c : Cell} (st : StR W μ ν S H) (ha : μ[i]? = some a) (ho : H a = some o) (h0 : ∀ q u, o ≠ .frz q u) (h1 : ∀ xs, o' = .lst xs → xs.length ≤ sizeLine) (h2 : ∀ xs, o' ≠ .tup xs) (h3 : ∀ q u, o' ≠ .frz q u)
    (hc : Trk W μ (upd H a o') → Ext μ μ H (upd H a o') → CR W μ ν (upd H a o') a c) : Ext μ μ H (upd H a o') ∧ StR W μ ν (S.set i c) (upd H a o') := by
  have hm : a ∈ μ := List.mem_of_getElem? ha
  have hn : ∀ q u, H a ≠ some (.frz q u) := fun q u z => by rw [ho] at z; cases z; exact h0 q u rfl
  have f := st.fine.poke ho h1 h2 h3
  have x := Ext.write (o := o') hm hn
  exact ⟨x, st.write ha hn f (hc (st.tkw f) x)⟩
variable {P : Prog} {n : Nat}
theorem st_fld {o : Expr} {eo : E} {f : Str} (F : FnsOk (Cx.bd X) P n) (ho : UE (ctx P n) X o eo) (he : UE (ctx P n) X e ee) (hs : swapsWith e (some (.Attribute o f px)) pos.line X.env = pure false) : PS X (.Assign [.Attribute o f px] e pos) (uS (ctx P n) (Cx.W X) (.fldS eo f ee)) := PS.any fun D σ H w => by
  obtain ⟨ρ, S, oo, h, μ, ν, str, er, O⟩ := w
  simp only [exec] at h
  obtain ⟨d, S1, h1, h2⟩ := toS_ok h O
  obtain ⟨x, S2, h3, h4⟩ := toS_ok h2 O
  refine ⟨_, ps_fld ho he hs, ρ, S, d, S1, h1, μ, ν, str, er, fun v H1 μ1 x1 st1 r1 => ⟨ρ, S1, x, S2, h3, μ1, ν, st1, er.ext x1 st1.trk, fun w H2 μ2 x2 st2 r2 => ?_⟩⟩
  split at h4 <;> try cases h4
  rename_i j
  split at h4 <;> try cases h4
  rename_i c fs hS
  split at h4 <;> cases h4
  rename_i hk
  simp only [Bool.and_eq_true, decide_eq_true_eq] at hk
  obtain ⟨a, ha, rfl⟩ := r2
  obtain ⟨A, dx, gs, g1, g2, g3⟩ := st2.cells j _ a hS ha
  have hf : P.flds c f = true := by
    have := hk.2
    cases n <;> exact this
  obtain ⟨q1, q2⟩ := F.fld c f A hf g1
  have rv := r1.ext x2 st2.trk
  refine ⟨a, A, dx, gs, rfl, g2, q1, q2, by rw [FRs.len g3]; omega, ?_⟩
  obtain ⟨x3, st3⟩ := wr_fine (i := j) (o' := .ins A dx (putF f v gs)) (c := .ins c (putA fs f d)) st2 ha g2 (fun _ _ z => nomatch z) (fun _ z => nomatch z) (fun _ z => nomatch z) (fun _ _ z => nomatch z) fun tk x3 => ⟨A, dx, _, g1, upd_same, (g3.ext x3 tk).put (rv.ext x3 tk)⟩
  have x03 := (x1.trans x2).trans x3
  exact O _ _ μ2 x03 st3 (er.ext x03 st3.trk)
theorem asg_sub {o i : Expr} {env : PySem.Env} (h : isSl i = false) : ∀ v, assign (.Subscript o i px) env v = (do
      let ov ← holding [v] (eval o env)
      let iv ← holding [v, ov] (eval i env)
      standAt px
      holding [v, ov, iv] (setItem ov iv v)
      release [v, ov, iv] []) := fun v => by
  cases i <;> first | rfl | cases h
theorem st_idx {o i : Expr} {eo ei : E} (hsl : isSl i = false) (hu : X.A.units + 1 < cLine) (ho : UE C X o eo) (hi : UE C X i ei) (he : UE C X e ee) (hs : swapsWith e (some (.Subscript o i px)) pos.line X.env = pure false) :
    PS X (.Assign [.Subscript o i px] e pos) (uS C (Cx.W X) (.idxS eo ei ee)) := PS.any fun D σ H w => by
  obtain ⟨ρ, S, oo, h, μ, ν, str, er, O⟩ := w
  simp only [exec] at h
  obtain ⟨d, S1, h1, h2⟩ := toS_ok h O
  obtain ⟨x, S2, h3, h4⟩ := toS_ok h2 O
  obtain ⟨k, S3, h5, h6⟩ := toS_ok h4 O
  split at h6 <;> try cases h6
  rename_i j
  split at h6
  · rename_i ds jj hS
    split at h6 <;> cases h6
    rename_i m hm
    refine ⟨_, ps_asg (pos := pos) he (pg_sub ho hi set_list (asg_sub hsl)) hs, ρ, S, d, S1, h1, μ, ν, str, er, fun v H1 μ1 x1 st1 r1 => ⟨ρ, S1, _, S2, h3, μ1, ν, st1, er.ext x1 st1.trk, fun w H2 μ2 x2 st2 r2 => ⟨ρ, S2, _, S3, h5, μ2, ν, st2, er.ext (x1.trans x2) st2.trk, fun w3 H3 μ3 x3 st3 r3 => ?_⟩⟩⟩
    obtain ⟨a, ha, rfl⟩ := r2.ext x3 st3.trk
    obtain ⟨vs, g1, g2⟩ := st3.cells j _ a hS ha
    cases (show w3 = .int jj from r3)
    have rv := (r1.ext x2 st2.trk).ext x3 st3.trk
    rw [place_ix, g2.length] at hm
    refine ⟨a, vs, jj, m, rfl, rfl, g1, hm, ?_⟩
    have hl := st3.fine.ll a vs (.inl g1)
    obtain ⟨x4, st4⟩ := wr_fine (i := j) (o' := .lst (vs.set m v)) (c := .lst (ds.set m d)) st3 ha g1 (fun _ _ z => nomatch z) (fun _ z => by cases z; simpa using hl) (fun _ z => nomatch z) (fun _ _ z => nomatch z) fun tk x4 => ⟨_, upd_same, (g2.ext x4 tk).set (rv.ext x4 tk) m⟩
    have x04 := ((x1.trans x2).trans x3).trans x4
    exact O _ _ μ3 x04 st4 (er.ext x04 st4.trk)
  · rename_i kvs hS
    split at h6 <;> cases h6
    rename_i hk
    simp only [Bool.and_eq_true, decide_eq_true_eq] at hk
    refine ⟨_, ps_asg (pos := pos) he (pg_sub ho hi (set_dict hu) (asg_sub hsl)) hs, ρ, S, d, S1, h1, μ, ν, str, er, fun v H1 μ1 x1 st1 r1 => ⟨ρ, S1, _, S2, h3, μ1, ν, st1, er.ext x1 st1.trk, fun w H2 μ2 x2 st2 r2 => ⟨ρ, S2, _, S3, h5, μ2, ν, st2, er.ext (x1.trans x2) st2.trk, fun w3 H3 μ3 x3 st3 r3 => ?_⟩⟩⟩
    obtain ⟨a, ha, rfl⟩ := r2.ext x3 st3.trk
    obtain ⟨kv, g1, g2⟩ := st3.cells j _ a hS ha
    obtain ⟨q, kr, rfl⟩ := key_r r3 hk.1
    have rv := (r1.ext x2 st2.trk).ext x3 st3.trk
    refine ⟨a, _, rfl, DPut.k g1 (by rw [g2.len, ← line_eq]; exact hk.2), ?_⟩
    obtain ⟨x4, st4⟩ := wr_fine (i := j) (o' := .dK (putK kv q v)) (c := .dct (setK kvs _ d)) st3 ha g1 (fun _ _ z => nomatch z) (fun _ z => nomatch z) (fun _ z => nomatch z) (fun _ _ z => nomatch z) fun tk x4 => ⟨_, upd_same, (g2.ext x4 tk).put kr (rv.ext x4 tk)⟩
    have x04 := ((x1.trans x2).trans x3).trans x4
    exact O _ _ μ3 x04 st4 (er.ext x04 st4.trk)
  · cases h6
theorem st_aug {op : Operator} (he : UE C X e ee) (hN : X.N.Nodup) (hi : X.N[i]? = some x) (hx : Loc X.env.scope x) (hf : X.fn x = true) : PS X (.AugAssign (.Name x px) op e pos) (uS C (Cx.W X) (.aug i op ee)) := PS.any fun D σ H w => by
  obtain ⟨ρ, S, oo, h, μ, ν, str, er, O⟩ := w
  simp only [exec] at h
  split at h <;> try cases h
  rename_i z hz
  obtain ⟨d, S1, h1, h2⟩ := toS_ok h O
  obtain ⟨v0, g1, g2⟩ := er.2 i z hz
  split at h2 <;> cases h2
  · cases (show v0 = .int _ from g2)
    refine ⟨_, ps_aug (i := i) (pos := pos) hN hi hx he ip_add (.inl hf), _, g1, ρ, S, _, S1, h1, μ, ν, str, er, fun v H' μ' x' st' r' => ?_⟩
    cases (show v = .int _ from r')
    exact ⟨_, _, rfl, rfl, O _ H' μ' x' st' ((er.ext x' st'.trk).set i rfl)⟩
  · cases (show v0 = .int _ from g2)
    refine ⟨_, ps_aug (i := i) (pos := pos) hN hi hx he ip_sub (.inl hf), _, g1, ρ, S, _, S1, h1, μ, ν, str, er, fun v H' μ' x' st' r' => ?_⟩
    cases (show v = .int _ from r')
    exact ⟨_, _, rfl, rfl, O _ H' μ' x' st' ((er.ext x' st'.trk).set i rfl)⟩
end
end Rf
/-! Loops, tuples, all statements. -/
namespace Rf
open PySem PySem.Spec PyProof.Rows L2

def whileN (c : Env → Store → RM Bool) (body : Env → Store → Option SO) : Nat → Env → Store → Option SO
  | 0, _, _ => none
  | k + 1, ρ, S => match c ρ S with
    | none => none
    | some (.exc x fs S1) => some (.exc ρ x fs S1)
    | some (.ok false S1) => some (.nx ρ S1)
    | some (.ok true S1) => match body ρ S1 with
      | some (.nx ρ2 S2) => whileN c body k ρ2 S2
      | some (.ct ρ2 S2) => whileN c body k ρ2 S2
      | some (.bk ρ2 S2) => some (.nx ρ2 S2)
      | o => o
theorem whileRun_N {c : Env → Store → RM Bool} {body : Env → Store → Option SO} : ∀ (ρ : Env) (S : Store) (o : SO), whileRun c body ρ S = some o → ∃ k, whileN c body k ρ S = some o := by
  apply whileRun.partial_correctness
  intro f ih ρ S o h
  split at h
  · cases h
  · rename_i hc
    cases h
    exact ⟨1, by simp only [whileN, hc]⟩
  · rename_i hc
    cases h
    exact ⟨1, by simp only [whileN, hc]⟩
  · rename_i hc
    split at h
    · rename_i hb
      obtain ⟨k, hk⟩ := ih _ _ _ h
      exact ⟨k + 1, by simp only [whileN, hc, hb, hk]⟩
    · rename_i hb
      obtain ⟨k, hk⟩ := ih _ _ _ h
      exact ⟨k + 1, by simp only [whileN, hc, hb, hk]⟩
    · rename_i hb
      cases h
      exact ⟨1, by simp only [whileN, hc, hb]⟩
    · rename_i n1 n2 n3
      refine ⟨1, ?_⟩
      simp only [whileN, hc]
      exact h
section
variable {C : Ctx} {X : Cx} {pos : Pos}
theorem st_while {c : Expr} {tc : T} {xs : List Stmt} {ss : List St} (hp : PassesOwn (model X.prog X.w) X.A X.env X.xe) (hc : UT C X c tc) (hb : PSs X xs (uSs C (Cx.W X) ss)) : PS X (.While c xs [] pos) (uS C (Cx.W X) (.whileS tc ss)) := PS.any fun D σ H w => by
  obtain ⟨ρ, S, o, h, μ, ν, str, er, O⟩ := w
  simp only [exec] at h
  obtain ⟨k, hk⟩ := whileRun_N _ _ _ h
  refine ⟨_, ps_while hp hc hb, fun m σ' H' => ∃ ρ S μ, StR (Cx.W X) μ ν S H' ∧ ER (Cx.W X) μ ν H' ρ σ' ∧ whileN (evT C tc) (execs C ss) m ρ S = some o ∧ OutOk (Cx.W X) μ ν H' D o, ⟨k, ρ, S, μ, str, er, hk, O⟩, ?_⟩
  rintro m σ1 H1 ⟨ρ1, S1, μ1, st1, er1, h1, O1⟩
  cases m with
  | zero => cases h1
  | succ m =>
    unfold whileN at h1
    split at h1
    · cases h1
    · cases h1; exact O1.elim
    · rename_i S2 hc
      cases h1
      refine ⟨ρ1, S1, false, S2, hc, μ1, ν, st1, er1, fun H2 μ2 x2 st2 => ?_⟩
      simp only [Bool.false_eq_true, if_false]
      exact O1 _ H2 μ2 x2 st2 (er1.ext x2 st2.trk)
    · rename_i S2 hc
      refine ⟨ρ1, S1, true, S2, hc, μ1, ν, st1, er1, fun H2 μ2 x2 st2 => ?_⟩
      simp only [if_true]
      refine ⟨fun σ' H' => ∃ ρ S μ, StR (Cx.W X) μ ν S H' ∧ ER (Cx.W X) μ ν H' ρ σ' ∧ whileN (evT C tc) (execs C ss) m ρ S = some o ∧ OutOk (Cx.W X) μ ν H' D o, fun σ' H' q => ⟨m, Nat.lt_succ_self m, q⟩, ?_⟩
      cases e : execs C ss ρ1 S2 with
      | none => rw [e] at h1; cases h1
      | some ob =>
        rw [e] at h1
        refine ⟨ρ1, S2, ob, e, μ2, ν, st2, er1.ext x2 st2.trk, ?_⟩
        have O2 := O1.mono x2
        cases ob with
        | nx ρ2 S3 => exact fun σ' H' μ' x' st' er' => ⟨ρ2, S3, μ', st', er', h1, O2.mono x'⟩
        | ct ρ2 S3 => exact fun σ' H' μ' x' st' er' => ⟨ρ2, S3, μ', st', er', h1, O2.mono x'⟩
        | bk ρ2 S3 => cases h1; exact O2
        | rt d S3 => cases h1; exact O2
        | exc ρ2 c fs S3 => cases h1; exact O2
theorem real_same {S : Store} {ik : IK} {ds xs : List D} (h : walkOf S ik ds = some xs) : realK S ik ds = ik ∧ lockS S ik ds = S := by
  cases ik with
  | seq =>
    match ds, h with
    | [d], h =>
      rcases real_seq S d with ⟨j, kvs, rfl, hs, hk⟩ | hk
      · simp only [walkOf, seqOf, hs] at h
        cases h
      · exact ⟨hk, lock_plain (by decide)⟩
    | [], h => cases h
    | _ :: _ :: _, h => cases h
  | keys =>
    refine ⟨rfl, ?_⟩
    unfold walkOf at h
    split at h <;> try cases h
    all_goals first
      | contradiction
      | (split at h <;> try cases h
         rename_i hs
         simp only [lockS, hs])
      | rfl
  | range => exact ⟨rfl, lock_plain (by decide)⟩
  | enum => exact ⟨rfl, lock_plain (by decide)⟩
  | zip => exact ⟨rfl, lock_plain (by decide)⟩
theorem lk_same {μ : List Addr} {S1 : Store} {H1 HL : Hp} {ik : IK} {ds xs : List D} {An : Hp → Prop} (l : Lk X μ S1 H1 ik ds An HL) (h : walkOf S1 ik ds = some xs) : HL = H1 := by
  rcases l with ⟨_, e⟩ | ⟨j, kvs, a, kv, od, rfl, rfl, hs, _⟩
  · exact e
  · simp only [walkOf, hs] at h
    cases h
theorem st_for {SCx : SC} {tgE it : Expr} {tg : Tg} {ik : IK} {its : List E} {xs : List Stmt} {ss : List St} (hp : PassesOwn (model X.prog X.w) X.A X.env X.xe) (hc : X.calm = true) (hi : PI X tgE it (uI C X ik its tg))
    (hg : PG X tgE (gFine (Cx.W X) tg)) (hb : PSs X xs (uSs C (Cx.W X) ss)) (hs : ∀ x, foldedSetIterable it X.env x = pure x) : PS X (.For tgE it xs [] pos) (uS C (Cx.W X) (.forS tg ik its ss)) := PS.any fun D σ H w => by
  obtain ⟨ρ, S, o, h, μ, ν, str, er, O⟩ := w
  simp only [exec] at h
  obtain ⟨ds, S1, h1, h2⟩ := toS_ok h O
  split at h2 <;> try cases h2
  rename_i rs hw
  obtain ⟨hk, hwo⟩ := walkT_of hw
  obtain ⟨e1, e2⟩ := real_same hwo
  refine ⟨_, ps_for hp hc hi hg hb hs, ρ, S, ds, S1, rs, h1, by rw [e1, e2]; exact hw, μ, ν, str, er, fun J An H1 μ1 us HL x1 st1 lk stL vrs erL an Ax G => ?_⟩
  rw [e1] at lk stL G
  rw [e2] at stL
  have e3 := lk_same lk hwo
  subst e3
  have hlen : ∀ {l : List Rf.D} {ρ' : Env} {S' : Store}, forRun (fun S => walkOf S ik ds == some rs) (bindTo (pairK ik) tg) (execs C ss) l ρ' S' = some o → walkOf S' ik ds = some rs := fun {l ρ' S'} e => by
    cases l <;> (unfold forRun at e; split at e <;> first | (rename_i e2; simpa using e2) | cases e)
  let Facts (i : Nat) (σ' : L2.St) (H' : Hp) : Prop := ∃ ρ' S' μ', StR (Cx.W X) μ' ν S' H' ∧ ER (Cx.W X) μ' ν H' ρ' σ' ∧ An H' ∧ VRs (Cx.W X) μ' ν H' ds us ∧ OutOk (Cx.W X) μ' ν H' D o ∧
    forRun (fun S => walkOf S ik ds == some rs) (bindTo (pairK ik) tg) (execs C ss) (rs.drop i) ρ' S' = some o
  refine ⟨fun i m σ' H' => m = rs.length - i ∧ i ≤ rs.length ∧ Facts i σ' H', ⟨rs.length, rfl, Nat.zero_le _, ρ, S1, μ1, stL, erL, an, vrs, O.mono x1, h2⟩, ?_⟩
  rintro i m σ2 H2 ⟨rfl, hle, ρ2, S2, μ2, st2, er2, an2, vrs2, O2, hr⟩
  have hw2 := hlen hr
  by_cases hlt : i < rs.length
  · refine .inr ⟨G.go i _ _ _ H2 st2 an2 vrs2 hw2 hlt, Facts (i + 1), fun σ' H' f => ⟨rs.length - (i + 1), by omega, rfl, hlt, f⟩, fun v H' y f => ?_⟩
    rw [drop_at hlt] at hr
    unfold forRun at hr
    split at hr
    · split at hr
      · cases hr
      · rename_i ρ3 hbd
        have yr := G.yld i _ _ _ H2 rs[i] v H' st2 an2 vrs2 hw2 (List.getElem?_eq_getElem hlt) y
        refine bind_snd st2 er2 yr hbd fun σ3 xe hst hwp f2 => ?_
        obtain ⟨st3, er3⟩ := hst f2
        cases e : execs C ss ρ3 S2 with
        | none => rw [e] at hr; cases hr
        | some ob =>
          rw [e] at hr
          refine ⟨ρ3, S2, ob, e, μ2, ν, st3, er3, ?_⟩
          have O3 := O2.mono xe
          cases ob with
          | nx ρ4 S4 => exact fun σ' H4 μ4 x4 st4 er4 => ⟨ρ4, S4, μ4, st4, er4, Ax _ _ _ _ (xe.trans x4) an2, vrs2.ext (xe.trans x4) st4.trk, O3.mono x4, hr⟩
          | ct ρ4 S4 => exact fun σ' H4 μ4 x4 st4 er4 => ⟨ρ4, S4, μ4, st4, er4, Ax _ _ _ _ (xe.trans x4) an2, vrs2.ext (xe.trans x4) st4.trk, O3.mono x4, hr⟩
          | bk ρ4 S4 => cases hr; exact O3
          | rt d S4 => cases hr; exact O3
          | exc ρ4 c fs S4 => cases hr; exact O3
    · cases hr
  · have e : i = rs.length := by omega
    subst e
    refine .inl ⟨G.stop _ _ _ H2 st2 an2 vrs2 hw2, ?_⟩
    rw [List.drop_length] at hr
    unfold forRun at hr
    split at hr
    · cases hr
      exact O2 σ2 H2 μ2 (Ext.refl _ _) st2 er2
    · cases hr
/-! ### tuples -/
theorem st_unp {e : Expr} {ee : E} {tgE : Expr} {is : List Nat} (he : UE C X e ee) (hg : PG X tgE (gFine (Cx.W X) (.tup is))) (hs : swapsWithSole [tgE] e pos.line X.env = pure false) (hw : swappedStores [tgE] e X.env = pure none) (h1 : (assignEach [tgE] X.env).map (·.2) = [assign tgE X.env]) :
    PS X (.Assign [tgE] e pos) (uS C (Cx.W X) (.unp is ee)) := PS.any fun D σ H w => by
  obtain ⟨ρ, S, o, h, μ, ν, str, er, O⟩ := w
  simp only [exec] at h
  obtain ⟨d, S1, h2, h3⟩ := toS_ok h O
  split at h3 <;> cases h3
  rename_i ρ1 hb
  refine ⟨_, ps_asg (pos := pos) he hg hs hw h1, ρ, S, d, S1, h2, μ, ν, str, er, fun v H' μ' x' st' r' f => ?_⟩
  refine bind_snd (pr := false) st' (er.ext x' st'.trk) (show YR (Cx.W X) μ' ν H' false d v H' from ⟨rfl, r'⟩) hb fun σ' xe hst _ f2 => ?_
  obtain ⟨st2, er2⟩ := hst f2
  exact O σ' H' μ' (x'.trans xe) st2 er2
theorem st_par2 {x y : Str} {px py pt pt2 : Pos} {kt k2 i j : Nat} {a b : Expr} {ea eb : E} (hc : X.calm = true) (hN : X.N.Nodup) (hi : X.N[i]? = some x) (hj : X.N[j]? = some y) (hij : i ≠ j)
    (hx : X.env.scope.names.lookup x = some .local) (hy : X.env.scope.names.lookup y = some .local) (ha : UEs C X [a, b] [ea, eb])
    (hw : swappedStores [.Tuple [.Name x px, .Name y py] kt pt] (.Tuple [a, b] k2 pt2) X.env = pure (some [x, y])) :
    PS X (.Assign [.Tuple [.Name x px, .Name y py] kt pt] (.Tuple [a, b] k2 pt2) pos) (uS C (Cx.W X) (.par [i, j] [ea, eb])) := PS.any fun D σ H w => by
  obtain ⟨ρ, S, o, h, μ, ν, str, er, O⟩ := w
  simp only [exec] at h
  obtain ⟨ds, S1, h2, h3⟩ := toS_ok h O
  split at h3 <;> cases h3
  rename_i hl
  refine ⟨_, ps_par hc hN hi hj hij hx hy ha hw, ρ, S, ds, S1, h2, μ, ν, str, er, fun vs H' μ' x' st' r' => ?_⟩
  have hv := r'.length
  rw [hl] at hv
  match vs, hv with
  | [v, w], _ => exact ⟨v, w, rfl, O _ H' μ' x' st' (ER.setAll [i, j] (er.ext x' st'.trk) r')⟩
  | [], hv => simp at hv
  | [_], hv => simp at hv
  | _ :: _ :: _ :: _, hv => simp at hv
theorem st_par3 {x y z : Str} {px py pz pt pt2 : Pos} {kt k2 i j l : Nat} {a b c : Expr} {ea eb ec : E} (hc : X.calm = true) (hN : X.N.Nodup) (hi : X.N[i]? = some x) (hj : X.N[j]? = some y) (hl : X.N[l]? = some z) (hij : i ≠ j) (hil : i ≠ l) (hjl : j ≠ l)
    (hx : X.env.scope.names.lookup x = some .local) (hy : X.env.scope.names.lookup y = some .local) (hz : X.env.scope.names.lookup z = some .local) (ha : UEs C X [a, b, c] [ea, eb, ec])
    (hw : swappedStores [.Tuple [.Name x px, .Name y py, .Name z pz] kt pt] (.Tuple [a, b, c] k2 pt2) X.env = pure (some [x, y, z])) :
    PS X (.Assign [.Tuple [.Name x px, .Name y py, .Name z pz] kt pt] (.Tuple [a, b, c] k2 pt2) pos) (uS C (Cx.W X) (.par [i, j, l] [ea, eb, ec])) := PS.any fun D σ H w => by
  obtain ⟨ρ, S, o, h, μ, ν, str, er, O⟩ := w
  simp only [exec] at h
  obtain ⟨ds, S1, h2, h3⟩ := toS_ok h O
  split at h3 <;> cases h3
  rename_i hl'
  refine ⟨_, ps_par3 hc hN hi hj hl hij hil hjl hx hy hz ha hw, ρ, S, ds, S1, h2, μ, ν, str, er, fun vs H' μ' x' st' r' => ?_⟩
  have hv := r'.length
  rw [hl'] at hv
  match vs, hv with
  | [u, v, w], _ => exact ⟨u, v, w, rfl, O _ H' μ' x' st' (ER.setAll [i, j, l] (er.ext x' st'.trk) r')⟩
  | [], hv => simp at hv
  | [_], hv => simp at hv
  | [_, _], hv => simp at hv
  | _ :: _ :: _ :: _ :: _, hv => simp at hv
end
end Rf
/-! All statements. -/
namespace Rf
open PySem PySem.Spec PyProof.Rows L2

section
variable {P : Prog} {n m : Nat} {C : SC} {X : Cx} {pos px : Pos} {x : Str} {e : Expr}
theorem Good.bk (G : Good P n C X) : X.env.blockKind = .function := by
  unfold PySem.Env.blockKind
  rw [G.sc, G.fnk]
  rfl
theorem Good.kd (G : Good P n C X) (y : Str) : X.env.kindOf y = C.sc.names.lookup y := by
  unfold PySem.Env.kindOf
  rw [G.sc]
theorem sw_none (h : (compScope e).isSome = false) (t : Option Expr) (l : Nat) (env : PySem.Env) : swapsWith e t l env = pure false := by
  cases e <;> first | rfl | cases h
theorem sw_some {t : Expr} (h : ∀ y p, t ≠ .Name y p) (l : Nat) (env : PySem.Env) : swapsWith e (some t) l env = pure false := by
  cases t with
  | Name y p => exact absurd rfl (h y p)
  | _ => cases e <;> rfl
theorem sw_name (G : Good P n C X) (l : Nat) : swapsWith e (some (.Name x px)) l X.env = pure (swB C.sc x px e) := by
  unfold swapsWith swB
  cases e <;> first
    | rfl
    | (simp only [compScope, G.bk, G.kd]; rfl)
theorem asgE_ok {c : CO} {C0 : Ctx} (ms : List Str) (x : Str) (h : US C0 X e c) : UE C0 X e (asgE C ms x c) := by
  unfold asgE
  split
  · rename_i hf
    simp only [Bool.and_eq_true] at hf
    exact uf_mk (h.f hf.1)
  · exact h.v
theorem asgEs_ok {C0 : Ctx} (ms : List Str) : ∀ {es : List Expr} {cs : List CO} {xs : List Str}, Uss C0 X es cs → es.all starless = true → xs.length = es.length → UEs C0 X es ((xs.zip cs).map fun p => asgE C ms p.1 p.2)
  | [], cs, xs, h, _, hl => by
    cases (show cs = [] from h)
    have : xs = [] := List.length_eq_zero_iff.mp hl
    subst this
    exact us_nil
  | e :: es, cs, [], h, _, hl => by simp at hl
  | e :: es, cs, x :: xs, h, hs, hl => by
    obtain ⟨c, r, rfl, h1, h2⟩ := h
    simp only [List.all_cons, Bool.and_eq_true] at hs
    exact us_cons (asgE_ok ms x h1) (asgEs_ok ms h2 hs.2 (by simpa using hl)) (star_cons hs.1)
theorem vis_loc (h : locB C.sc x = true) (G : Good P n C X) : Loc X.env.scope x := by
  rw [G.sc]
  exact loc_of h
theorem pg_tg (G : GoodS P n C X) {tgE : Expr} {tg : Tg} (h : tgOf C C.sc tgE = some tg) : PG X tgE (gFine (Cx.W X) tg) :=
  PGfine (pg_of G.calm G.N G.nd rfl h fun x hx => ⟨vis_loc hx G.toGood, .inl (G.fn x)⟩)
theorem names_cons {t : Expr} {ts : List Expr} {xs : List Str} (h : namesOf (t :: ts) = some xs) : ∃ y p ys, t = .Name y p ∧ xs = y :: ys ∧ namesOf ts = some ys := by
  unfold namesOf at h
  split at h
  · rename_i heq; cases heq
  · rename_i y p es heq
    cases heq
    obtain ⟨ys, h1, rfl⟩ := Option.map_eq_some_iff.mp h
    exact ⟨_, _, ys, rfl, rfl, h1⟩
  · cases h
theorem names_len : ∀ {ts : List Expr} {xs : List Str}, namesOf ts = some xs → xs.length = ts.length
  | [], xs, h => by
    unfold namesOf at h
    cases h
    rfl
  | t :: ts, xs, h => by
    obtain ⟨y, p, ys, rfl, rfl, h1⟩ := names_cons h
    simp [names_len h1]
theorem starless_any : ∀ {es : List Expr}, es.all starless = true → (es.any fun | .Starred .. => true | _ => false) = false
  | [], _ => rfl
  | e :: es, h => by
    simp only [List.all_cons, Bool.and_eq_true] at h
    simp only [List.any_cons, starless_any h.2, Bool.or_false]
    cases e <;> first | rfl | cases h.1
theorem swapK_ok (G : Good P n C X) {ts es : List Expr} {kt k2 : Nat} {pt p2 : Pos} {r : Option (List Str)} (hs : es.all starless = true) (h : swapK C.sc ts es = some r) : swappedStores [.Tuple ts kt pt] (.Tuple es k2 p2) X.env = pure r := by
  unfold swappedStores
  unfold swapK at h
  simp only [G.bk, G.kd]
  have hst := starless_any hs
  split at h
  · rename_i h1
    cases h
    have h1' : (!(ts.length == 2 || ts.length == 3) || es.length != ts.length || (ScopeKind.function != ScopeKind.function)) = true := by
      rw [h1]; rfl
    rw [if_pos h1']
  · rename_i h1
    have h1' : ¬ (!(ts.length == 2 || ts.length == 3) || es.length != ts.length || (ScopeKind.function != ScopeKind.function)) = true := by
      rw [show (ScopeKind.function != ScopeKind.function) = false from rfl, Bool.or_false]; exact h1
    rw [if_neg h1']
    refine Eq.trans (if_neg fun z => Bool.false_ne_true (hst.symm.trans z)) ?_
    simp only at h
    split at h
    · rename_i h2
      cases h
      exact if_pos h2
    · rename_i h2
      refine Eq.trans (if_neg h2) ?_
      split at h
      · rename_i h3
        cases h
        exact if_pos h3
      · rename_i h3
        refine Eq.trans (if_neg h3) ?_
        split at h
        · cases h
        · rename_i h4
          cases h
          exact if_neg h4
theorem swapK_names {sc : Scope} {ts es : List Expr} {ys : List Str} (h : swapK sc ts es = some (some ys)) : (ts.length = 2 ∨ ts.length = 3) ∧ es.length = ts.length ∧ ys.length = ts.length ∧ ys.eraseDups.length = ys.length ∧ ∀ y ∈ ys, sc.names.lookup y = some .local := by
  unfold swapK at h
  split at h
  · cases h
  · rename_i h1
    simp only at h
    split at h
    · cases h
    · rename_i h2
      split at h
      · cases h
      · split at h
        · cases h
        · have e := Option.some.inj (Option.some.inj h)
          rw [e] at h2
          simp only [Bool.or_eq_true, bne_iff_ne, ne_eq, not_or, Decidable.not_not, Bool.not_eq_true', Bool.or_eq_false_iff, beq_eq_false_iff_ne, not_and] at h1 h2
          refine ⟨?_, h1.2, h2.1, h2.2, fun y hy => ?_⟩
          · by_cases k : ts.length = 2
            · exact .inl k
            · exact .inr (h1.1 k)
          · rw [← e] at hy
            obtain ⟨t, _, ht⟩ := List.mem_filterMap.mp hy
            split at ht
            · split at ht
              · rename_i hc
                cases ht
                simp only [Bool.and_eq_true, beq_iff_eq] at hc
                exact hc.1
              · cases ht
            · cases ht
theorem slots_ne {N : List Str} {x y : Str} {i j : Nat} (hi : slotOf N x = some i) (hj : slotOf N y = some j) (h : x ≠ y) : i ≠ j := fun z => by
  have h1 := slot_of hi
  have h2 := slot_of hj
  rw [z, h2] at h1
  exact h (Option.some.inj h1).symm
theorem ss_par (G : GoodS P n C X) {ts es : List Expr} {kt k2 : Nat} {pt p2 : Pos} {xs : List Str} {is : List Nat} (ms : List Str) (hs : es.all starless = true) (hn : namesOf ts = some xs) (h : swapK C.sc ts es = some (some xs)) (hi : xs.mapM (slotOf C.N) = some is) :
    PS X (.Assign [.Tuple ts kt pt] (.Tuple es k2 p2) pos) (uS (ctx P n) (Cx.W X) (.par is ((xs.zip (cXs C es)).map fun p => asgE C ms p.1 p.2))) := by
  obtain ⟨h1, h2, h3, h4, h5⟩ := swapK_names h
  have hw := swapK_ok (kt := kt) (k2 := k2) (pt := pt) (p2 := p2) G.toGood hs h
  have ha := asgEs_ok (C := C) ms (sxs G.toGood es) hs (by rw [h3, h2])
  have hN : X.N.Nodup := by rw [G.N]; exact G.nd
  have lk : ∀ y ∈ xs, X.env.scope.names.lookup y = some .local := fun y hy => by rw [G.sc]; exact h5 y hy
  have at_ : ∀ {y : Str} {i : Nat}, slotOf C.N y = some i → X.N[i]? = some y := fun h => by rw [G.N]; exact slot_of h
  match ts, h1, hn, h3, h2, hw with
  | [t1, t2], _, hn, h3, h2, hw =>
    obtain ⟨x, px, ys, rfl, rfl, hn1⟩ := names_cons hn
    obtain ⟨y, py, zs, rfl, rfl, hn2⟩ := names_cons hn1
    have : zs = [] := by unfold namesOf at hn2; cases hn2; rfl
    subst this
    obtain ⟨i, r1, rfl, hi1, hq1⟩ := mapM_cons hi
    obtain ⟨j, r, rfl, hj1, hq2⟩ := mapM_cons hq1
    have : r = [] := by have := mapM_len hq2; simpa using this
    subst this
    have hxy : x ≠ y := fun z => by subst z; simp [List.eraseDups_cons] at h4
    match es, h2, ha, hw with
    | [a, b], _, ha, hw => exact st_par2 G.calm hN (at_ hi1) (at_ hj1) (slots_ne hi1 hj1 hxy) (lk x (by simp)) (lk y (by simp)) ha hw
    | [], h2, _, _ => simp at h2
    | [_], h2, _, _ => simp at h2
    | _ :: _ :: _ :: _, h2, _, _ => simp at h2
  | [t1, t2, t3], _, hn, h3, h2, hw =>
    obtain ⟨x, px, ys, rfl, rfl, hn1⟩ := names_cons hn
    obtain ⟨y, py, zs, rfl, rfl, hn2⟩ := names_cons hn1
    obtain ⟨z, pz, us, rfl, rfl, hn3⟩ := names_cons hn2
    have : us = [] := by unfold namesOf at hn3; cases hn3; rfl
    subst this
    obtain ⟨i, r1, rfl, hi1, hq1⟩ := mapM_cons hi
    obtain ⟨j, r2, rfl, hj1, hq2⟩ := mapM_cons hq1
    obtain ⟨l, r, rfl, hl1, hq3⟩ := mapM_cons hq2
    have : r = [] := by have := mapM_len hq3; simpa using this
    subst this
    have hxy : x ≠ y := fun e => by
      subst e
      by_cases q : z = x
      · subst q; simp [List.eraseDups_cons] at h4
      · simp [List.eraseDups_cons, q] at h4
    have hxz : x ≠ z := fun e => by
      subst e
      by_cases q : y = x
      · subst q; simp [List.eraseDups_cons] at h4
      · simp [List.eraseDups_cons, q] at h4
    have hyz : y ≠ z := fun e => by
      subst e
      by_cases q : y = x
      · subst q; simp [List.eraseDups_cons] at h4
      · simp [List.eraseDups_cons, q] at h4
    match es, h2, ha, hw with
    | [a, b, c], _, ha, hw => exact st_par3 G.calm hN (at_ hi1) (at_ hj1) (at_ hl1) (slots_ne hi1 hj1 hxy) (slots_ne hi1 hl1 hxz) (slots_ne hj1 hl1 hyz) (lk x (by simp)) (lk y (by simp)) (lk z (by simp)) ha hw
    | [], h2, _, _ => simp at h2
    | [_], h2, _, _ => simp at h2
    | [_, _], h2, _, _ => simp at h2
    | _ :: _ :: _ :: _ :: _, h2, _, _ => simp at h2
  | [], h1, _, _, _, _ => simp at h1
  | [_], h1, _, _, _, _ => simp at h1
  | _ :: _ :: _ :: _ :: _, h1, _, _, _, _ => simp at h1
theorem tg_tup {ts : List Expr} {kt : Nat} {pt : Pos} {xs : List Str} {is : List Nat} {sc : Scope} (hn : namesOf ts = some xs) (hi : xs.mapM (slotOf C.N) = some is) (hl : xs.all (locB sc) = true) : tgOf C sc (.Tuple ts kt pt) = some (.tup is) := by
  unfold tgOf
  simp only [hn, hl, if_true, hi]
  rfl
theorem lc_inv {elt tg iter : Expr} {ifs : List Expr} {as : Int} {scope : Scope} {p : Pos} : cX C (.ListComp elt [⟨tg, iter, ifs, as⟩] scope p) = CO.bad ∨
    ∃ t vs, as = 0 ∧ tgOf C scope tg = some t ∧ (ownOf scope).mapM (slotOf C.N) = some vs ∧ L2.blkC C.N C.sc scope ((ownOf scope).zip vs) = true ∧ ifs.length ≤ 1 ∧ noSet iter = true ∧
      cX C (.ListComp elt [⟨tg, iter, ifs, as⟩] scope p) = mkE C { CO.of (.comp (cX { C with sc := L2.relS scope C.sc, mkc := false, lam := false } elt).v t vs (cX C iter).k (cX C iter).its ((cXs { C with sc := L2.relS scope C.sc, mkc := false, lam := false } ifs).map (·.t))) with fresh := true } := by
  have e := cX.eq_def C (.ListComp elt [⟨tg, iter, ifs, as⟩] scope p)
  dsimp only at e
  rw [e]
  split
  · rename_i ha
    split
    · rename_i t vs ht hv
      split
      · rename_i hb
        simp only [Bool.and_eq_true, decide_eq_true_eq] at hb
        exact .inr ⟨t, vs, ha, ht, hv, hb.1.1, hb.1.2, hb.2, rfl⟩
      · exact .inl rfl
    · exact .inl rfl
  · exact .inl rfl
/-- name = value -/
theorem ss_name (G : GoodS P n C X) (ms : List Str) (hl : locB C.sc x = true) (hd : (isDC e && swB C.sc x px e) = false) {i : Nat} (hi : slotOf C.N x = some i) : PS X (.Assign [.Name x px] e pos) (uS (ctx P n) (Cx.W X) (.asg i (asgE C ms x (cX C e)))) := by
  have hN : X.N.Nodup := by rw [G.N]; exact G.nd
  have hi' : X.N[i]? = some x := by rw [G.N]; exact slot_of hi
  have hU := sx G.toGood e
  cases hsw : swB C.sc x px e with
  | false => exact st_asg (asgE_ok ms x hU) hN hi' (vis_loc hl G.toGood) (by rw [sw_name G.toGood, hsw]) (G.fn x)
  | true =>
    have bad : ∀ {c : CO}, c.v = .bad → c.fresh = false → PS X (.Assign [.Name x px] e pos) (uS (ctx P n) (Cx.W X) (.asg i (asgE C ms x c))) := fun {c} hc hf => PS.any fun D σ H w => by
      obtain ⟨ρ, S, o, h, _⟩ := w
      unfold asgE at h
      rw [hf, hc] at h
      simp only [Bool.false_and, Bool.false_eq_true, if_false, exec, ev, RM.toS_none] at h
      cases h
    have hsw0 := hsw
    unfold swB at hsw0
    split at hsw0
    · rename_i s hs
      cases e with
      | ListComp elt gens scope p =>
        have lookx : X.env.scope.names.lookup x = some .local := by
          simp only [Bool.and_eq_true, beq_iff_eq] at hsw0
          rw [G.sc]
          exact hsw0.1.1
        match gens with
        | [] => exact bad (by unfold cX; rfl) (by unfold cX; rfl)
        | ⟨_, _, _, _⟩ :: _ :: _ => exact bad (by unfold cX; rfl) (by unfold cX; rfl)
        | [⟨tg, iter, ifs, as⟩] =>
          rcases lc_inv (C := C) (elt := elt) (tg := tg) (iter := iter) (ifs := ifs) (as := as) (scope := scope) (p := p) with hb | ⟨t, vs, rfl, ht, hv, hb, h1, h2, hc⟩
          · exact bad (by rw [hb]; rfl) (by rw [hb]; rfl)
          · have hk := blkC_kind hb
            have B := fun (s : Shared) (H : Hp) (A : Addr) (cl : List (Str × Addr)) (fp : List Addr) => G.toGood.blk hk s H A cl fp
            have key := ps_lcF (X := X) (C := ctx P n) (SCx := C) (spos := pos) (pos := p) (py := px) G.calm G.N G.nd G.sc ht hv hb hi' lookx (by rw [sw_name G.toGood, hsw]) ((sx G.toGood iter).i tg t (tg_ok ht))
              (fun s H A cl fp => (sxs (B s H A cl fp) ifs).ts h1) (fun s H A cl fp => (sx (B s H A cl fp) elt).v) (noSet_fold h2)
            rw [hc]
            have hv2 := fun ρ S z S' h => ev_comp (C := ctx P n) (ρ := ρ) (S := S) (z := z) (S' := S') (elt := (cX { C with sc := L2.relS scope C.sc, mkc := false, lam := false } elt).v) (tg := t) (vs := vs) (ik := (cX C iter).k) (its := (cX C iter).its) (cond := ((cXs { C with sc := L2.relS scope C.sc, mkc := false, lam := false } ifs).map (·.t))) h
            unfold mkE asgE
            cases hm : C.mkc with
            | true =>
              simp only [Bool.true_and, if_true, CO.of, Bool.false_and, Bool.false_eq_true, if_false]
              exact PS.any fun D σ H w => ⟨_, key, st_asgM w⟩
            | false =>
              simp only [Bool.false_and, Bool.false_eq_true, if_false, Bool.true_and]
              split
              · exact PS.any fun D σ H w => ⟨_, key, st_asgM w⟩
              · exact PS.any fun D σ H w => ⟨_, key, st_asgL hv2 w⟩
      | DictComp => simp [isDC, hsw] at hd
      | SetComp => exact bad (by unfold cX; rfl) (by unfold cX; rfl)
      | _ => cases hs
    · cases hsw0
end
end Rf
/-! Every statement, by its size. -/
namespace Rf
open PySem PySem.Spec PyProof.Rows L2

def SS (P : Prog) (n m : Nat) : Prop := ∀ (st : Stmt), sizeOf st ≤ m → ∀ (C : SC) (X : Cx) (ms : List Str), GoodS P n C X → PS X st (uS (ctx P n) (Cx.W X) (cS C ms st))
section
variable {P : Prog} {n m : Nat} {C : SC} {X : Cx} {ms : List Str}
theorem SS.ss (h : SS P n m) (G : GoodS P n C X) : ∀ (sts : List Stmt), sizeOf sts ≤ m → PSs X sts (uSs (ctx P n) (Cx.W X) (cSs C ms sts))
  | [], _ => by
    rw [cSs]
    exact st_nil
  | s :: sts, hs => by
    simp only [List.cons.sizeOf_spec] at hs
    rw [cSs]
    exact st_cons (h s (by omega) C X ms G) (SS.ss h G sts (by omega))
theorem tup_none {ts : List Expr} {kt : Nat} {pt : Pos} {e : Expr} {env : PySem.Env} (h : ∀ es k p, e ≠ .Tuple es k p) : swappedStores [.Tuple ts kt pt] e env = pure none := by
  cases e with
  | Tuple es k p => exact absurd rfl (h es k p)
  | _ => rfl
theorem ss_step (h : SS P n m) : SS P n (m + 1) := by
  intro st he C X ms G
  have hN : X.N.Nodup := by rw [G.N]; exact G.nd
  have at_ : ∀ {y : Str} {i : Nat}, slotOf C.N y = some i → X.N[i]? = some y := fun h => by rw [G.N]; exact slot_of h
  rw [cS.eq_def]
  split
  case h_1 x j p p' => exact st_nop ps_doc fun ρ S => by simp only [exec]
  case h_2 e p _ =>
    split
    · exact us_bad
    · rename_i hc
      exact st_expr (sx G.toGood e).v (sw_none (by simpa using hc) _ _ _)
  case h_3 p => exact st_retN
  case h_4 e p => exact st_ret (sx G.toGood e).v
  case h_5 p => exact st_nop ps_pass fun ρ S => by simp only [exec]
  case h_6 p => exact st_brk
  case h_7 p => exact st_cont
  case h_8 c a b p =>
    simp only [Stmt.If.sizeOf_spec] at he
    exact st_if (sx G.toGood c).t (h.ss G a (by omega)) (h.ss G b (by omega))
  case h_9 c b p =>
    simp only [Stmt.While.sizeOf_spec] at he
    exact st_while G.own (sx G.toGood c).t (h.ss G b (by omega))
  case h_10 tg it b p =>
    simp only [Stmt.For.sizeOf_spec] at he
    split
    · rename_i hns
      split
      · rename_i t ht
        exact st_for (SCx := C) G.own G.calm ((sx G.toGood it).i tg t (tg_ok ht)) (pg_tg G ht) (h.ss G b (by omega)) (noSet_fold hns)
      · exact us_bad
    · exact us_bad
  case h_11 x px op e p =>
    split
    · rename_i hl
      split
      · rename_i i hi
        exact st_aug (sx G.toGood e).v hN (at_ hi) (vis_loc hl G.toGood) (G.fn x)
      · exact us_bad
    · exact us_bad
  case h_12 x px e p =>
    split
    · rename_i hl
      simp only [Bool.and_eq_true, Bool.not_eq_true'] at hl
      split
      · rename_i i hi
        exact ss_name G ms hl.1 hl.2 hi
      · exact us_bad
    · exact us_bad
  case h_13 o f px e p => exact st_fld G.fns (sx G.toGood o).v (sx G.toGood e).v (sw_some (fun _ _ z => by cases z) _ _)
  case h_14 o i px e p =>
    split
    · exact us_bad
    · rename_i hsl
      exact st_idx (by simpa using hsl) (by have := G.room.un; omega) (sx G.toGood o).v (sx G.toGood i).v (sx G.toGood e).v (sw_some (fun _ _ z => by cases z) _ _)
  case h_15 ts kt pt es k2 p2 p =>
    split
    · rename_i hs
      simp only [Bool.and_eq_true, decide_eq_true_eq] at hs
      split
      · rename_i xs ys hn hsw
        split
        · rename_i is hi
          split
          · rename_i hy
            have hy : ys = xs := by simpa using hy
            subst hy
            exact ss_par G ms hs.1.1 hn hsw hi
          · exact us_bad
        · exact us_bad
      · rename_i xs hn hsw
        split
        · rename_i is hi
          split
          · rename_i hl
            have hlen := names_len hn
            exact st_unp (u_tup (asgEs_ok ms (sxs G.toGood es) hs.1.1 (by rw [hlen, hs.1.2])) (by
              rw [List.length_map, List.length_zip, cXs_len]
              have := hs.2
              omega)) (pg_tg G (tg_tup hn hi hl)) rfl (swapK_ok G.toGood hs.1.1 hsw) rfl
          · exact us_bad
        · exact us_bad
      · exact us_bad
    · exact us_bad
  case h_16 ts kt pt e p hne =>
    split
    · rename_i xs hn
      split
      · rename_i is hi
        split
        · rename_i hl
          exact st_unp (sx G.toGood e).v (pg_tg G (tg_tup hn hi hl)) (show swapsWith e (some (.Tuple ts kt pt)) p.line X.env = _ from sw_some (fun _ _ z => by cases z) _ _) (tup_none hne) rfl
        · exact us_bad
      · exact us_bad
    · exact us_bad
  case h_17 => exact us_bad
theorem ss_all : ∀ m, SS P n m
  | 0 => fun st he => by
    exfalso
    cases st <;> simp at he
  | m + 1 => ss_step (ss_all m)
theorem sts_all (G : GoodS P n C X) (sts : List Stmt) : PSs X sts (uSs (ctx P n) (Cx.W X) (cSs C ms sts)) := (ss_all (sizeOf sts)).ss G sts (Nat.le_refl _)
end
end Rf
/-! Defs, methods, classes: the promises. -/
namespace Rf
open PySem PySem.Spec PyProof.Rows L2 C8

/-! ### the store is cut back -/
section
variable {W : Wd} {μ μ' ν ν' : List Addr} {H H' : Hp}
theorem VRs.cut2 (hs : ∀ a ∈ μ, a ∈ μ') (hg : ∀ i, i < μ.length → μ'[i]? = μ[i]?) {ds : List D} {vs ws : List V} (h0 : VRs W μ ν H ds vs) (h : VRs W μ' ν H' ds ws) : VRs W μ ν H' ds ws := VRs.cut hs hg h0.below h
theorem KRs.cut2 (hs : ∀ a ∈ μ, a ∈ μ') (hg : ∀ i, i < μ.length → μ'[i]? = μ[i]?) : ∀ {ds : List (D × D)} {vs ws : List (Key × V)}, KRs W μ ν H ds vs → KRs W μ' ν H' ds ws → KRs W μ ν H' ds ws
  | [], _, _, _, h => h
  | (k, d) :: ds, _, _, h0, h => by
    obtain ⟨q0, v0, r0, rfl, a1, a2, a3⟩ := h0
    obtain ⟨q, v, r, rfl, b1, b2, b3⟩ := h
    exact ⟨q, v, r, rfl, b1, VR.cut hs hg a2.below b2, KRs.cut2 hs hg a3 b3⟩
theorem FRs.cut2 (hs : ∀ a ∈ μ, a ∈ μ') (hg : ∀ i, i < μ.length → μ'[i]? = μ[i]?) : ∀ {ds : List (Str × D)} {vs ws : List (Str × V)}, FRs W μ ν H ds vs → FRs W μ' ν H' ds ws → FRs W μ ν H' ds ws
  | [], _, _, _, h => h
  | (k, d) :: ds, _, _, h0, h => by
    obtain ⟨v0, r0, rfl, a2, a3⟩ := h0
    obtain ⟨v, r, rfl, b2, b3⟩ := h
    exact ⟨v, r, rfl, VR.cut hs hg a2.below b2, FRs.cut2 hs hg a3 b3⟩
theorem CR.cut2 (hs : ∀ a ∈ μ, a ∈ μ') (hg : ∀ i, i < μ.length → μ'[i]? = μ[i]?) {a : Addr} : ∀ {c : Cell}, CR W μ ν H a c → CR W μ' ν H' a c → CR W μ ν H' a c
  | .lst ds, ⟨vs, _, h0⟩, ⟨ws, e, h⟩ => ⟨ws, e, h0.cut2 hs hg h⟩
  | .dct ds, ⟨vs, _, h0⟩, ⟨ws, e, h⟩ => ⟨ws, e, h0.cut2 hs hg h⟩
  | .lck ds, ⟨o0, vs, _, h0⟩, ⟨o, ws, e, h⟩ => ⟨o, ws, e, h0.cut2 hs hg h⟩
  | .ins c fs, ⟨_, _, gs, _, _, h0⟩, ⟨C, dx, ws, e1, e2, h⟩ => ⟨C, dx, ws, e1, e2, h0.cut2 hs hg h⟩
theorem StR.cut2 {S S' : Store} (x : Ext μ μ' H H') (h0 : StR W μ ν S H) (h : StR W μ' ν S' H') (e : S'.take S.length = S) : StR W μ ν S H' := by
  obtain ⟨⟨t, rfl⟩, x2, x3⟩ := x
  have hs : ∀ a ∈ μ, a ∈ μ ++ t := fun a ha => List.mem_append_left _ ha
  have hg : ∀ i, i < μ.length → (μ ++ t)[i]? = μ[i]? := fun i hi => List.getElem?_append_left hi
  refine ⟨h.fine, h0.len, h0.nd, h0.dis, h.trn, fun i c a e1 e2 => ?_, h.tab⟩
  have hi := (List.getElem?_eq_some_iff.mp e2).1
  have e3 : S'[i]? = some c := by
    rw [← e] at e1
    rw [List.getElem?_take] at e1
    split at e1
    · exact e1
    · cases e1
  exact (h0.cells i c a e1 e2).cut2 hs hg (h.cells i c a e3 (by rw [hg i hi]; exact e2))
theorem Ext.cut2 (x : Ext μ μ' H H') : Ext μ μ H H' := by
  obtain ⟨⟨t, rfl⟩, x2, x3⟩ := x
  exact ⟨⟨[], by simp⟩, fun b o h n m => ⟨(x2 b o h n m).1, n⟩, x3⟩
/-- what is wanted behind a call, from the store as it was left -/
theorem Done.trunc {S S' : Store} {d : D} {Q : VK} (h0 : StR W μ ν S H) (Dn : Done W μ ν H (trunc S d S') d Q) : Done W μ ν H S' d Q := fun v H' μ' x st r => by
  unfold Rf.trunc at Dn
  split at Dn
  · rename_i h
    obtain ⟨h1, h2⟩ := h
    have x0 := x
    obtain ⟨⟨t, rfl⟩, x2, x3⟩ := x0
    rw [← h0.len] at h1
    exact Dn v H' μ (Ext.cut2 x) (StR.cut2 x h0 st h2) (VR.cut (fun a ha => List.mem_append_left _ ha) (fun i hi => List.getElem?_append_left hi) h1 r)
  · exact Dn v H' μ' x st r
end
/-! ### what a def promises -/
structure FnG (B : Bd) (k : Nat) (f : Addr) (fd : FuncData) (ps : List Str) (r : List V → Hp → VK → Prop) : Prop where
  len : ∀ vs H Q, r vs H Q → vs.length = ps.length
  run : ∀ (A : Around) (outer : List PySem.Env) (s : Shared) (H : Hp) (args : Args) (us : List Value) (vs : List V) (Q : VK), Room k A → A.guards = some [] → Env0 B.prog B.w B.K B.mg B.base A outer s H → BindsTo s fd args (ps.zip us) → Vals vs us → r vs H Q →
    codeAny (model B.prog B.w) A (.call (.ref f) args) (L2.CR C8.CX0 outer B.prog B.w H s Q C8.E0) s
section
variable {B : Bd} {k : Nat} {f : Addr} {name qual : Str} {params : Arguments} {body : List Stmt} {scope : Scope} {dV kV doc pm cdv ct oc : Value} {an od : Option Addr} {osl : Array (Option Value)} {N ps : List Str} {r : List V → Hp → VK → Prop}
/-- a def by its body -/
theorem fnG_of (lk : B.K.lookup f = some ⟨oc, od, .func (PySem.W.fnOf name qual params body scope dV kV doc pm an cdv ct), osl⟩) (hcd : PySem.W.codeIn B.K cdv qual = true) (S : FnScope N ps scope)
    (len : ∀ vs H Q, r vs H Q → vs.length = ps.length)
    (hbody : ∀ (A : Around) (outer : List PySem.Env) (s : Shared) (H : Hp) (vs : List V) (Q : VK), Room k (A.deeper (envOfC qual scope s.heap.objs.size f cdv)) → A.guards = some [] → r vs H Q →
      ∃ t, PSs (cxOf C8.CX0 B.prog B.w B.K B.mg B.base N qual scope f cdv A outer s H C8.E0).nox body t ∧ t { nx := fun _ H' => Q .non H', rt := Q } (L2.start N vs) H) :
    FnG B (k + 1) f (PySem.W.fnOf name qual params body scope dV kV doc pm an cdv ct) ps r := by
  refine ⟨len, fun A outer s H args us vs Q hr hgd e0 hb rv hsp => ?_⟩
  have hl := len _ _ _ hsp
  have KX : B.K.In s.heap := e0.mod.kin.keeps fun b o e => (e0.bs b o e).1
  have lim : s.heap.NoLimit := e0.mod.nolimit.keeps fun b o e => (e0.bs b o e).1
  have hkind : ∀ y ∈ ps.zip us, scope.names.lookup y.1 = some .local ∨ (scope.names.lookup y.1 = some .cell ∧ ((cellsFrom (s.heap.objs.size + 1) scope.names []).lookup y.1).isSome = true) := fun ⟨n, v⟩ hy => by
    rcases S.par n (List.of_mem_zip hy).1 with q | q
    · exact .inl q
    · exact .inr ⟨q, PySem.W.cellsFrom_some _ _ _ (.inl q)⟩
  refine codeAny_call_function hr.depth (KX _ _ lk) rfl S.co S.gen rfl (PySem.W.codeRec_of KX hcd) (hb _ _ _ _ ?_)
  refine wpAny_newFunctionEnv_cells S.kind hkind fun env he s1 x => ?_
  subst he
  refine ⟨lim.keeps x.toInCall.keep, codeAny_func ?_⟩
  obtain ⟨t, ht, hq⟩ := hbody A outer s H vs Q (hr.deeper _) hgd hsp
  have I : Inv (cxOf C8.CX0 B.prog B.w B.K B.mg B.base N qual scope f cdv A outer s H C8.E0) [] (L2.start N vs) H s1 := inv_start S hr.hd e0 hl rv x
  refine wpAny_mono (ht.nox.run [] s1 (L2.start N vs) H _ I hq) (fun fl s' hs => ?_) fun e s' hs => hs
  have fin : ∀ {σ' : L2.St} {H' : Hp} {v : V} {u : Value}, Inv (cxOf C8.CX0 B.prog B.w B.K B.mg B.base N qual scope f cdv A outer s H C8.E0) [] σ' H' s' → RelV v u → Q v H' → CE outer B.prog B.w H s Q u s' :=
    fun {σ' H' v u} J rv q => ⟨v, H', J.os, J.bare, J.base, J.hok, rv, q⟩
  cases fl with
  | ret u =>
    obtain ⟨v, σ', H', J, rv, q⟩ := hs
    exact fin J rv q
  | next =>
    obtain ⟨σ', H', J, q⟩ := hs
    exact fin (v := V.non) (u := Value.none) J rfl q
  | brk =>
    obtain ⟨_, _, _, q⟩ := hs
    exact False.elim q
  | cont =>
    obtain ⟨_, _, _, q⟩ := hs
    exact False.elim q
theorem FnG.callAll {fd : FuncData} (F : FnG B k f fd ps r) (hb : Binds B.K fd ps []) : CallAll B k (.ref f) r := by
  intro X hX hr hg pins s σ H vs us Q I rv hq
  subst hX
  have hl : (us ++ []).length = ps.length := by
    rw [List.append_nil, ← rv.length]
    exact F.len _ _ _ hq
  have hb' := hb s us I.kIn hl
  rw [List.append_nil] at hb'
  refine wpAny_call (codeAny_mono (F.run X.A X.stack s H ⟨us, []⟩ us vs Q hr hg I.env0 hb' rv hq) fun r s' hq' => ?_)
  cases r with
  | error e => exact False.elim hq'
  | ok fl =>
    cases fl with
    | ret u => exact I.after hq'
    | next => exact False.elim hq'
    | brk => exact False.elim hq'
    | cont => exact False.elim hq'
end
/-! ### a def of the text -/
section
variable {B : Bd} {P : Prog} {n : Nat} {x qual : Str} {st : Stmt} {f : Addr} {fd : FuncData} {usr : Str → Bool} {mkc lam : Bool}
theorem start_er {W : Wd} {μ ν : List Addr} {H : Hp} {ds : List D} {vs : List V} (r : VRs W μ ν H ds vs) (N : List Str) (k : Nat) (hk : k = N.length - vs.length) : ER W μ ν H (ds.map some ++ List.replicate k none) (L2.start N vs) := by
  subst hk
  refine ⟨by simp [L2.start, r.length], fun i d e => ?_⟩
  unfold L2.start
  by_cases hi : i < ds.length
  · rw [List.getElem?_append_left (by simpa using hi), List.getElem?_map] at e
    cases e2 : ds[i]? with
    | none => rw [e2] at e; cases e
    | some d' =>
      rw [e2] at e
      cases e
      obtain ⟨v, h1, h2⟩ := r.get e2
      refine ⟨v, ?_, h2⟩
      rw [List.getElem?_append_left (by rw [List.length_map, ← r.length]; exact hi), List.getElem?_map, h1]
      rfl
  · rw [List.getElem?_append_right (by simpa using hi), List.getElem?_replicate] at e
    split at e <;> cases e
/-- a def's code, run -/
theorem code_snd (FO : FnsOk B P n) (F : C8.Fun B.K x qual st f fd) (hsc : FnScope (slotsOf (fnArgs st) (fnScope st) (fnBody st)) (paramsOf (fnArgs st)) (fnScope st)) (husr : ∀ y, usr y = false → B.mg y = none)
    (hlam : lam = true → ∃ c T, fd.code = .ref c ∧ LamX.TabB B.base B.mg c T ∧ (T, qual ++ ".<locals>." ++ "<lambda>") ∈ tabT B.K ∧ ∀ p ∈ tabT B.K, p.1 = T → p.2 = qual ++ ".<locals>." ++ "<lambda>")
    {ds : List D} {S : Store} {z : D} {S' : Store} (h : runFn (ctx P n) (codeOf usr mkc lam (fnArgs st) (fnScope st) (fnBody st)) ds S = some (.ok z S')) : FnG B (8 * n + 7) f fd (paramsOf (fnArgs st)) (rCl B.W S ds z S') := by
  obtain ⟨oc, od, dV, kV, doc, pm, an, cdv, ct, osl, rfl, lk, hcd⟩ := F.ex
  unfold runFn at h
  split at h <;> try cases h
  rename_i hlen
  have hpl : (paramsOf (fnArgs st)).length ≤ (slotsOf (fnArgs st) (fnScope st) (fnBody st)).length := by
    have := congrArg List.length hsc.pre
    rw [List.length_take] at this
    omega
  refine fnG_of lk hcd hsc (fun vs H Q ⟨μ, ν, _, r, _⟩ => by rw [← r.length]; exact hlen) fun A outer s H vs Q hr hgd hq => ?_
  obtain ⟨μ, ν, str, r, Dn⟩ := hq
  have G : GoodS P n ⟨slotsOf (fnArgs st) (fnScope st) (fnBody st), fnScope st, usr, mkc, lam⟩ (cxOf C8.CX0 B.prog B.w B.K B.mg B.base (slotsOf (fnArgs st) (fnScope st) (fnBody st)) qual (fnScope st) f cdv A outer s H C8.E0).nox :=
    { N := rfl, nd := hsc.nd, sc := rfl, fnk := hsc.kind, calm := rfl, blt := husr, room := hr.mono (by omega), grd := hgd, fns := FO, lam := fun hl => (by obtain ⟨c, T, h1, h2, h3, h4⟩ := hlam hl; exact ⟨c, T, h1, h2, h3, h4, hr⟩), own := PassesOwn.never, fn := fun _ => rfl }
  refine ⟨_, sts_all (ms := mutSs (fnBody st)) G (fnBody st), ?_⟩
  have hE : ER B.W μ ν H (ds.map some ++ List.replicate ((codeOf usr mkc lam (fnArgs st) (fnScope st) (fnBody st)).nslots - (codeOf usr mkc lam (fnArgs st) (fnScope st) (fnBody st)).np) none) (L2.start (slotsOf (fnArgs st) (fnScope st) (fnBody st)) vs) :=
    start_er r _ _ (by rw [← r.length, hlen]; rfl)
  split at h
  · rename_i d S2 he
    cases h
    refine ⟨_, S, _, he, μ, ν, str, hE, fun v H' μ' x' st' r' => Done.trunc str Dn v H' μ' x' st' r'⟩
  · rename_i ρ S2 he
    cases h
    refine ⟨_, S, _, he, μ, ν, str, hE, fun σ' H' μ' x' st' _ => Done.trunc str Dn .non H' μ' x' st' rfl⟩
  · cases h
  · cases h
end
end Rf
/-! The whole program: what holds of its defs, to any depth. -/
namespace Rf
open PySem PySem.Spec PyProof.Rows L2

section
variable {B : Bd} {P : Prog} {k : Nat} {C f : Addr} {fd : FuncData} {ps : List Str}
theorem CallAll.mono {u : Value} {j : Nat} {r : List V → Hp → VK → Prop} (h : CallAll B j u r) (l : j ≤ k) : CallAll B k u r := fun X hX hr hg => h X hX (hr.mono l) hg
theorem make_guards {A : Around} {C : Addr} {us : List Value} {kw : List (Str × Value)} : (A.under (.builtin "type.__call__" ⟨.ref C :: us, kw⟩)).guards = A.guards := by
  first | rfl | simp [Around.under, Code.weight, Code.isCreation, Code.isGuard, Code.isCaller, Code.frames, Code.isFrame, guardIds]
/-- an own class is made -/
theorem mk_snd {x : Str} {ds : List D} {S S1 : Store} (M : Mk B.K C f) (F : FnG B k f fd ps (rCl B.W (S ++ [.ins x []]) (.ref S.length :: ds) .non S1)) (hb : Binds B.K fd ps []) (hm : B.mg x = some (.ref C)) :
    CallAll B (k + 1) (.ref C) (rCl B.W S ds (.ref S.length) S1) := by
  intro X hX hr hg pins s σ H vs us Q I rv hq
  subst hX
  obtain ⟨μ, ν, st, r, Dn⟩ := hq
  have I2 := Inv.made (C := C) I
  have nx : H (s.heap.objs.size + 1) = none := I.hok.fresh (Nat.le_succ _)
  have nd : H s.heap.objs.size = none := I.hok.fresh (Nat.le_refl _)
  have ne : s.heap.objs.size ≠ s.heap.objs.size + 1 := Nat.ne_of_lt (Nat.lt_succ_self _)
  have nx1 : upd H s.heap.objs.size (.own (s.heap.objs.size + 1)) (s.heap.objs.size + 1) = none := by rw [upd_ne (Ne.symm ne)]; exact nx
  have f2 : Fine X.K (upd (upd H s.heap.objs.size (.own (s.heap.objs.size + 1))) (s.heap.objs.size + 1) (.ins C s.heap.objs.size [])) := fine_of I2
  have f1 : Fine X.K (upd H s.heap.objs.size (.own (s.heap.objs.size + 1))) := f2.anti nx1
  have st1 := st.laid nd f1
  have st2 := st1.apart nx1 (o := .ins C s.heap.objs.size []) trivial f2
  have hp : ∀ o u, upd (upd H s.heap.objs.size (.own (s.heap.objs.size + 1))) (s.heap.objs.size + 1) (.ins C s.heap.objs.size []) (s.heap.objs.size + 1) ≠ some (.frz o u) := fun o u z => by rw [upd_same] at z; cases z
  have st3 := st2.grow (c := .ins x []) (st1.notInN nx1) hp ⟨C, _, [], hm, upd_same, rfl⟩
  have xe : Ext μ (μ ++ [s.heap.objs.size + 1]) H (upd (upd H s.heap.objs.size (.own (s.heap.objs.size + 1))) (s.heap.objs.size + 1) (.ins C s.heap.objs.size [])) := by
    refine ⟨⟨_, rfl⟩, fun b o h n _ => ⟨?_, fun z => ?_⟩, fun b o u h => ?_⟩
    · rw [upd_ne (ne_of_none h nx), upd_ne (ne_of_none h nd)]; exact h
    · rcases List.mem_append.mp z with z | z
      · exact n z
      · have z : b = s.heap.objs.size + 1 := by simpa using z
        rw [z, nx] at h
        cases h
    · rw [upd_ne (ne_of_none h nx), upd_ne (ne_of_none h nd)]; exact h
  have rs : VRs (Cx.bd X).W (μ ++ [s.heap.objs.size + 1]) ν (upd (upd H s.heap.objs.size (.own (s.heap.objs.size + 1))) (s.heap.objs.size + 1) (.ins C s.heap.objs.size [])) (.ref S.length :: ds) (.ref (s.heap.objs.size + 1) :: vs) := by
    refine .cons ⟨s.heap.objs.size + 1, ?_, rfl⟩ (r.ext xe st3.trk)
    rw [← st.len, List.getElem?_append_right (Nat.le_refl _)]
    simp
  have hq : rCl (Cx.bd X).W (S ++ [.ins x []]) (.ref S.length :: ds) .non S1 (V.ref (s.heap.objs.size + 1) :: vs) (upd (upd H s.heap.objs.size (.own (s.heap.objs.size + 1))) (s.heap.objs.size + 1) (.ins C s.heap.objs.size []))
      (fun v H2 => v = .non ∧ Q (.ref (s.heap.objs.size + 1)) H2) := ⟨_, ν, st3, rs, fun v H' μ' x' st' r' => ⟨r', Dn _ H' μ' (xe.trans x') st' ⟨s.heap.objs.size + 1, by
        obtain ⟨⟨t, rfl⟩, _⟩ := x'
        rw [← st.len, List.append_assoc, List.getElem?_append_right (Nat.le_refl _)]
        simp, rfl⟩⟩⟩
  have hl : (Value.ref (s.heap.objs.size + 1) :: us ++ []).length = ps.length := by
    rw [List.append_nil, ← F.len _ _ _ hq]
    simp [rv.length]
  have r2 : Vals (V.ref (s.heap.objs.size + 1) :: vs) (Value.ref (s.heap.objs.size + 1) :: us) := .cons rfl rv
  have hb' := hb _ (Value.ref (s.heap.objs.size + 1) :: us) I2.kIn hl
  rw [List.append_nil] at hb'
  refine wpAny_call (make_map (f := f) I.kIn M.makes M.init (beq_iff_eq.mp M.fn) (codeAny_mono (F.run _ X.stack _ _ ⟨Value.ref (s.heap.objs.size + 1) :: us, []⟩ (Value.ref (s.heap.objs.size + 1) :: us) _ _ (hr.make C us []) (by rw [make_guards]; exact hg)
    (I2.env0.make C us []) hb' r2 hq) fun r s' hq' => ?_))
  cases r with
  | error e => exact False.elim hq'
  | ok fl =>
    cases fl with
    | ret u =>
      obtain ⟨v, H', I3, rv, ev, q3⟩ := I2.after hq'
      subst ev
      exact ⟨rv, ⟨V.ref (s.heap.objs.size + 1), H', I3, rfl, q3⟩⟩
    | next => exact False.elim hq'
    | brk => exact False.elim hq'
    | cont => exact False.elim hq'
/-- what the value u does is what F does, at any depth -/
def FunOk (B : Bd) (P : Prog) (F : Fun) (u : Value) : Prop := ∀ n, FnsOk B P n → ∀ ds S z S', runFun (ctx P n) F ds S = some (.ok z S') → CallAll B (8 * n + 7) u (rCl B.W S ds z S')
def InitOk (B : Bd) (P : Prog) (F : Fun) (f : Addr) (fd : FuncData) (ps : List Str) : Prop := ∀ n, FnsOk B P n → ∀ ds S z S', runFun (ctx P n) F ds S = some (.ok z S') → FnG B (8 * n + 7) f fd ps (rCl B.W S ds z S')
structure PrOk (B : Bd) (P : Prog) : Prop where
  glob : ∀ x d, P.glob x = some d → ∃ u v, B.mg x = some u ∧ RelV v u ∧ ∀ μ ν H, Trk B.W μ H → VR B.W μ ν H d v
  fld : ∀ c f C, P.flds c f = true → B.mg c = some (.ref C) → Cls B.K C ∧ NoAttr B.K C f
  fns : ∀ x F, P.fns x = some F → ∃ u, B.mg x = some u ∧ PySem.W.keepIn B.K u = true ∧ FunOk B P F u
  thk : ∀ x, P.thk x = true → ThkOk B x
  clss : ∀ x F, P.clss x = true → P.meths x "__init__" = some F → ∃ C f fd ps, B.mg x = some (.ref C) ∧ Mk B.K C f ∧ Binds B.K fd ps [] ∧ InitOk B P F f fd ps
  meths : ∀ c m F, P.meths c m = some F → ∃ C f, B.mg c = some (.ref C) ∧ Cls B.K C ∧ Meth B.K C m f ∧ FunOk B P F (.ref f)
theorem fns_all (H : PrOk B P) : ∀ n, FnsOk B P n
  | 0 => ⟨H.glob, H.fld, fun x ds S z S' h => (by simp only [ctx] at h; cases h), H.thk, fun c m ds S z S' h => (by simp only [ctx] at h; cases h)⟩
  | n + 1 => by
    have ih := fns_all H n
    refine ⟨H.glob, H.fld, fun x ds S z S' h => ?_, H.thk, fun c m ds S z S' h => ?_⟩
    · simp only [ctx] at h
      split at h
      · rename_i hc
        split at h
        · rename_i F hF
          obtain ⟨d, S1, h1, h2⟩ := bind_ok h
          split at h2 <;> cases h2
          rename_i hd
          subst hd
          obtain ⟨C, f, fd, ps, q1, q2, q3, q4⟩ := H.clss x F hc hF
          exact ⟨_, q1, q2.kp, (mk_snd q2 (q4 n ih _ _ _ _ h1) q3 q1).mono (by omega)⟩
        · cases h
      · split at h
        · rename_i F hF
          obtain ⟨u, q1, q2, q3⟩ := H.fns x F hF
          exact ⟨u, q1, q2, (q3 n ih _ _ _ _ h).mono (by omega)⟩
        · cases h
    · simp only [ctx] at h
      split at h
      · rename_i F hF
        obtain ⟨C, f, q1, q2, q3, q4⟩ := H.meths c m F hF
        exact ⟨C, f, q1, q2, q3, (q4 n ih _ _ _ _ h).mono (by omega)⟩
      · cases h
end
/-! ### arguments -/
theorem fm_congr {α β : Type} {f g : α → Option β} : ∀ {l : List α}, (∀ y ∈ l, f y = g y) → l.filterMap f = l.filterMap g
  | [], _ => rfl
  | a :: l, h => by
    rw [List.filterMap_cons, List.filterMap_cons, h a List.mem_cons_self, fm_congr fun y hy => h y (List.mem_cons_of_mem _ hy)]
theorem zip_look {xs : List Str} (nd : xs.Nodup) : ∀ (us : List Value), us.length = xs.length → (xs.filterMap fun n => ((xs.zip us).lookup n).map (n, ·)) = xs.zip us := by
  induction xs with
  | nil => intro us _; rfl
  | cons x xs ih =>
    intro us hl
    match us, hl with
    | u :: us, hl =>
      obtain ⟨n1, n2⟩ := List.nodup_cons.mp nd
      rw [List.zip_cons_cons, List.filterMap_cons]
      simp only [List.lookup, beq_self_eq_true, Option.map_some]
      congr 1
      refine Eq.trans (fm_congr fun y hy => ?_) (ih n2 us (by simpa using hl))
      have : (y == x) = false := by
        have : y ≠ x := fun z => n1 (z ▸ hy)
        simpa using this
      rw [this]
    | [], hl => simp at hl
end Rf
/-! How parameters are bound. -/
namespace Rf
open PySem PySem.Spec PyProof.Rows L2

theorem filt_none {xs : List Str} : ∀ {us : List Value}, us.length = xs.length → (xs.filter fun n => ((xs.zip us).lookup n).isNone) = [] := by
  intro us hl
  rw [List.filter_eq_nil_iff]
  intro x hx
  obtain ⟨i, hi, e⟩ := List.getElem_of_mem hx
  have : ((xs.zip us).lookup x).isSome = true := by
    have hm : (x, us[i]'(by omega)) ∈ xs.zip us := by
      rw [← e]
      have : (xs.zip us)[i]'(by rw [List.length_zip]; omega) ∈ xs.zip us := List.getElem_mem _
      rw [List.getElem_zip] at this
      exact this
    generalize us[i]'(by omega) = u at hm
    clear e
    generalize xs.zip us = l at hm ⊢
    clear hl hx hi
    induction l with
    | nil => cases hm
    | cons p l ih =>
      obtain ⟨y, v⟩ := p
      simp only [List.lookup]
      split
      · rfl
      · rename_i hy
        rcases List.mem_cons.mp hm with z | z
        · exfalso
          cases z
          simp at hy
        · exact ih z
  cases h : (xs.zip us).lookup x with
  | none => rw [h] at this; cases this
  | some v => simp
theorem seq_none : seqItems? .none = pure none := by rfl
theorem bind_pos {fd : FuncData} (h1 : fd.params.posonlyargs = []) (h2 : fd.params.kwonlyargs = []) (h3 : fd.params.vararg = none) (h4 : fd.params.kwarg = none) (hd : fd.defaults = .none) (nd : (fd.params.args.map (·.arg)).Nodup)
    (us : List Value) (hl : us.length = (fd.params.args.map (·.arg)).length) : bindArgs fd ⟨us, []⟩ = pure ((fd.params.args.map (·.arg)).zip us) := by
  have hl' : us.length = fd.params.args.length := by rw [hl, List.length_map]
  have f := filt_none (xs := fd.params.args.map (·.arg)) hl
  unfold bindArgs
  simp only [h1, h2, h3, h4, hd, seq_none, List.map_nil, List.nil_append, List.append_nil, List.length_map, List.forIn_nil, pure_bind, Option.getD_none, List.length_nil, Nat.zero_sub, List.drop_nil, Nat.sub_zero, List.zip_nil_right, List.isEmpty_nil, Bool.not_true,
    Bool.false_eq_true, if_false, hl', gt_iff_lt, Nat.lt_irrefl, decide_false, Bool.false_and]
  have e : (fd.params.args.map (·.arg)).take fd.params.args.length = fd.params.args.map (·.arg) := by
    rw [List.take_of_length_le]
    simp
  rw [e, f]
  simp only [List.isEmpty_nil, Bool.not_true, Bool.false_eq_true, if_false]
  rw [zip_look nd us hl]
/-- parameters given by place alone -/
def argsC (a : Arguments) : Bool := a.posonlyargs.isEmpty && a.kwonlyargs.isEmpty && a.vararg.isNone && a.kwarg.isNone && decide (a.args.map (·.arg)).Nodup
theorem binds_of {K : PySem.W.Frag} {x qual : Str} {st : Stmt} {f : Addr} {fd : FuncData} (F : C8.Fun K x qual st f fd) (df : fd.defaults = .none) (hc : argsC (C8.fnArgs st) = true) : L2.Binds K fd (paramsOf (C8.fnArgs st)) [] := by
  unfold argsC at hc
  simp only [Bool.and_eq_true, List.isEmpty_iff, Option.isNone_iff_eq_none, decide_eq_true_eq] at hc
  obtain ⟨⟨⟨⟨h1, h2⟩, h3⟩, h4⟩, h5⟩ := hc
  have e : paramsOf (C8.fnArgs st) = (C8.fnArgs st).args.map (·.arg) := by
    unfold paramsOf
    rw [h1, List.nil_append]
  obtain ⟨oc, od, dV, kV, doc, pm, an, cdv, ct, osl, rfl, lk, hcd⟩ := F.ex
  refine .all fun us hl => ?_
  rw [e] at hl ⊢
  exact bind_pos h1 h2 h3 h4 df h5 us hl
end Rf
/-! The head: facts of the written part, and what they give. -/
namespace Rf
open PySem PySem.Spec PyProof.Rows L2

/-! ### the part of the heap -/
def emptyTab : Option Obj → Bool
  | some ⟨.none, none, .fields vs, sl⟩ => vs.isEmpty && sl.isEmpty
  | _ => false
theorem emptyTab_of {o : Option Obj} (h : emptyTab o = true) : o = some { cls := .none, data := .fields #[] } := by
  unfold emptyTab at h
  split at h
  · rename_i vs sl
    simp only [Bool.and_eq_true, Array.isEmpty_iff] at h
    obtain ⟨rfl, rfl⟩ := h
    rfl
  · cases h
theorem frG_mem {g : Addr → Option Obj} {a : Addr} {o : Obj} : ∀ as : List Addr, (He.frG g as).lookup a = some o → a ∈ as
  | [], e => nomatch (show (none : Option Obj) = some o from e)
  | b :: r, e => by
    unfold He.frG at e
    rw [List.filterMap_cons] at e
    cases hb : g b with
    | none =>
      rw [hb] at e
      exact List.mem_cons_of_mem _ (frG_mem r e)
    | some ob =>
      rw [hb] at e
      have e2 : (match a == b with | true => some ob | false => (He.frG g r).lookup a) = some o := e
      cases q : (a == b) with
      | true => rw [beq_iff_eq.mp q]; exact List.mem_cons_self
      | false =>
        rw [q] at e2
        exact List.mem_cons_of_mem _ (frG_mem r e2)
/-! ### a program's facts -/
/-- a def: the name that it is called by, its class's method or none, its own name and qualified name, its statement -/
structure FnE where
  x : Str
  m : Option Str
  name : Str
  qual : Str
  st : Stmt
  mkc : Bool := false
  lam : Bool := false
def FnE.d (e : FnE) : He.DefD := ⟨(e.x, e.m), e.name, e.qual, C8.fnArgs e.st, C8.fnBody e.st, C8.fnScope e.st, [], []⟩
structure PF where
  fns : List FnE
  meths : List FnE
  clss : List Str
  flds : List (Str × Str)
  cints : List (Str × Int)
  cstrs : List (Str × List Nat)
  thks : List (Str × Str)
def bltNames : List Str := ["len", "int", "abs", "max", "min", "sum", "sorted", "tuple", "list", "dict", "repr", "str", "bool", "isinstance", "range", "enumerate", "zip", "set", "any", "all", "reversed", "super", "print"]
def usr (x : Str) : Bool := !(bltNames.any fun y => decide (y = x))
def FnE.code (e : FnE) : Fn := codeOf usr e.mkc e.lam (C8.fnArgs e.st) (C8.fnScope e.st) (C8.fnBody e.st)
def PF.prog (F : PF) : Prog where
  fns := fun x => (F.fns.find? fun e => decide (e.x = x)).map fun e => .code e.code
  meths := fun c m => (F.meths.find? fun e => decide (e.x = c) && decide (e.m = some m)).map fun e => .code e.code
  clss := fun x => F.clss.any fun c => decide (c = x)
  flds := fun c f => F.flds.any fun p => decide (p.1 = c) && decide (p.2 = f)
  glob := fun x => match F.cints.lookup x with
    | some i => some (.int i)
    | none => (F.cstrs.lookup x).map .str
  thk := fun x => F.thks.any fun p => decide (p.1 = x)
def PF.fa (F : PF) : List He.Fa :=
  (F.fns.map fun e => .glo e.x) ++ (F.clss.map fun c => .glo c) ++ (F.clss.map fun c => .cls c) ++ (F.clss.map fun c => .mkr c) ++ (F.meths.map fun e => .meth e.x (e.m.getD "")) ++ (F.flds.map fun p => .noat p.1 p.2) ++
  (F.cints.map fun p => .int p.1 p.2) ++ (F.cstrs.map fun p => .str p.1 ⟨p.2.toArray⟩) ++ (bltNames.map fun x => .free x)
def PF.ds (F : PF) : List He.DefD := (F.fns ++ F.meths).map FnE.d
/-- the code object c with its table P -/
def codeHdB (K : PySem.W.Frag) (c P : Addr) : Bool := match K.lookup c with
  | some ⟨.type t, _, .fields vs, _⟩ => decide (t = "code") && (match vs.toList.drop 11 with
    | .ref a :: _ => decide (a = P)
    | _ => false) && (match vs.getD 18 .none with
    | .str _ _ => true
    | _ => false) && (match vs.getD 7 .none with
    | .int _ _ => true
    | _ => false) && (match vs.getD 9 .none with
    | .bool _ => true
    | _ => false) && (match vs.getD 10 .none with
    | .int _ _ => true
    | _ => false) && decide (c ≠ P)
  | _ => false
def lamT (K : PySem.W.Frag) : List (Addr × Addr × Str) := lamAt.filterMap (lamOf K)
theorem lamT_tab (K : PySem.W.Frag) : tabT K = (lamT K).map fun p => (p.2.1, p.2.2) := by
  unfold tabT lamT
  induction lamAt with
  | nil => rfl
  | cons p l ih =>
    have e : tabOf K p = (lamOf K p).map fun p => (p.2.1, p.2.2) := rfl
    rw [List.filterMap_cons, List.filterMap_cons, e]
    cases lamOf K p with
    | none => exact ih
    | some q => simp only [Option.map_some, List.map_cons, ih]
def lamC (F : PF) (K : PySem.W.Frag) : Bool := ((F.fns ++ F.meths).all fun e => !e.lam || (decide ((e.x, e.m) ∈ lamAt) && (lamOf K (e.x, e.m)).isSome)) && ((lamT K).all fun p => codeHdB K p.1 p.2.1) && ((lamT K).all fun p => (lamT K).all fun q => !decide (p.2.1 = q.2.1) || decide (p.2.2 = q.2.2)) &&
  K.all fun p => match p.2.cls with
    | .type c => decide (c ≠ "list")
    | _ => true
/-! the part of the heap that is looked at -/
def dictAt (g : Addr → Option Obj) (ns : Addr) (x : Str) : List Addr := match g ns with
  | some ⟨_, _, .dict es _, _⟩ => (match es.toList.find? (·.key.isStr x) with
    | some e => He.refV e.val
    | none => [])
  | _ => []
def codeAt (g : Addr → Option Obj) (a : Addr) : List Addr := match g a with
  | some ⟨_, _, .func fd, _⟩ => He.refV fd.code
  | _ => []
def nsAt (g : Addr → Option Obj) (a : Addr) : List Addr := match g a with
  | some ⟨_, _, .cls cd, _⟩ => [cd.ns]
  | _ => []
def asR (F : PF) (g : Addr → Option Obj) : List Addr := mainGlobals :: ((F.fns.flatMap fun e => (dictAt g mainGlobals e.x).flatMap fun a => a :: codeAt g a) ++ (F.clss.flatMap fun c => (dictAt g mainGlobals c).flatMap fun a => a :: nsAt g a) ++
  F.meths.flatMap fun e => (dictAt g mainGlobals e.x).flatMap fun a => (nsAt g a).flatMap fun n => (dictAt g n (e.m.getD "")).flatMap fun f => f :: codeAt g f)
def frR (F : PF) (g : Addr → Option Obj) : PySem.W.Frag := He.frG g ((asR F g).filter fun a => !emptyTab (g a))
theorem frR_not {F : PF} {g : Addr → Option Obj} {a : Addr} (h : emptyTab (g a) = true) : (frR F g).lookup a = none := by
  cases e : (frR F g).lookup a with
  | none => rfl
  | some o =>
    have := frG_mem _ e
    rw [List.mem_filter, h] at this
    simp at this
/-- the list is made ahead of what is asked of it -/
def forceK {α : Type} : PySem.W.Frag → (PySem.W.Frag → α) → α
  | [], k => k []
  | (a, o) :: r, k => HandSHeadRun.frNat a fun a => forceK r fun r => k ((a, o) :: r)
theorem forceK_eq {α : Type} : ∀ (K : PySem.W.Frag) (k : PySem.W.Frag → α), forceK K k = k K
  | [], k => rfl
  | (a, o) :: r, k => by
    unfold forceK
    rw [HandSHeadRun.frNat_eq, forceK_eq r]
abbrev AlR : Type := Bool × List He.FnW
def lookK (F : PF) (g : Addr → Option Obj) (K : PySem.W.Frag) : AlR :=
  ((F.fa.all fun f => f.ok K) && (F.ds.all fun d => d.ok K) && lamC F K && (lamT K).all fun p => emptyTab (g p.2.1), F.ds.map fun d => He.fnW K d.at_)
def obsR (F : PF) (g : Addr → Option Obj) : AlR := forceK (frR F g) (lookK F g)
def valR (F : PF) : AlR := (true, F.ds.map He.DefD.val)
structure SaysR (F : PF) (h : Heap) (K : PySem.W.Frag) : Prop where
  kin : K.In h
  fa : ∀ f ∈ F.fa, f.ok K = true
  ds : ∀ d ∈ F.ds, d.ok K = true ∧ He.fnW K d.at_ = d.val
  lam : lamC F K = true
  tab : ∀ p ∈ lamT K, h.get? p.2.1 = some { cls := .none, data := .fields #[] } ∧ K.lookup p.2.1 = none
theorem map_each {α β : Type} {f g : α → β} : ∀ {l : List α}, l.map f = l.map g → ∀ a ∈ l, f a = g a
  | [], _, a, ha => nomatch ha
  | b :: l, h, a, ha => by
    simp only [List.map_cons, List.cons.injEq] at h
    rcases List.mem_cons.mp ha with z | z
    · rw [z]; exact h.1
    · exact map_each h.2 a z
theorem says_of {F : PF} {s : Shared} (h : obsR F s.heap.get? = valR F) : ∃ K, SaysR F s.heap K := by
  unfold obsR at h
  rw [forceK_eq] at h
  have h1 := congrArg (fun z : AlR => z.1) h
  have h2 := congrArg (fun z : AlR => z.2) h
  simp only [lookK, valR, Bool.and_eq_true, List.all_eq_true] at h1 h2
  obtain ⟨⟨⟨a, b⟩, c⟩, d⟩ := h1
  refine ⟨frR F s.heap.get?, He.frG_in, a, fun x hx => ⟨b x hx, map_each h2 x hx⟩, c, fun p hp => ?_⟩
  exact ⟨emptyTab_of (d p hp), frR_not (d p hp)⟩
def hookR (F : PF) : PySem.W.Hook where
  α := AlR
  obs := fun s => obsR F s.heap.get?
  val := fun _ => valR F
  says := fun _ h => ∃ K, SaysR F h K
  of := fun _ _ e => says_of e
  keeps := fun _ _ _ ⟨K, k⟩ e => ⟨K, PySem.W.Frag.In.keeps k.kin e, k.fa, k.ds, k.lam, fun p hp => ⟨e _ _ (k.tab p hp).1, (k.tab p hp).2⟩⟩
theorem obsR_eq {F : PF} {g : Addr → Option Obj} {s : Shared} (h : ∀ a, g a = s.heap.get? a) : obsR F g = (hookR F).obs s := by
  have e : g = s.heap.get? := funext h
  rw [e]
  rfl
end Rf
/-! What the facts give: the program's promises. -/
namespace Rf
open PySem PySem.Spec PyProof.Rows L2

def shapeA : List Stmt → Option (Str × Str)
  | [.Try [.Return (some (.Call (.Name y _) [.Name a _] [] _)) _] (_ :: _) [] [] _] => some (y, a)
  | _ => none
def shapeB : List Stmt → Option Str
  | [.Try [.Return (some (.Tuple [.Call (.Name b _) [] [] _, .Constant .none _ _] _ _)) _] (_ :: _) [] [] _] => some b
  | _ => none
def plainN (x : Str) : Bool := !(x == ("__debug__" : Str)) && !(x == ("__classdict__" : Str))
def thkC (F : PF) (p : Str × Str) : Bool := match F.fns.find? (fun e => decide (e.x = p.1)), F.fns.find? (fun e => decide (e.x = p.2)) with
  | some e1, some e2 => (match shapeA (C8.fnBody e1.st), shapeB (C8.fnBody e2.st) with
    | some (y, a), some b => decide (y = p.2) && decide (paramsOf (C8.fnArgs e1.st) = [a]) && decide (paramsOf (C8.fnArgs e2.st) = [b]) && C8.scC [a] [a] (C8.fnScope e1.st) && C8.scC [b] [b] (C8.fnScope e2.st) &&
        decide ((C8.fnScope e1.st).names.lookup y = some .globalImplicit) && plainN y && plainN a && plainN b
    | _, _ => false)
  | _, _ => false
/-- what is asked of the text alone -/
def textC (F : PF) : Bool :=
  ((F.fns ++ F.meths).all fun e => C8.scC (slotsOf (C8.fnArgs e.st) (C8.fnScope e.st) (C8.fnBody e.st)) (paramsOf (C8.fnArgs e.st)) (C8.fnScope e.st) && argsC (C8.fnArgs e.st)) &&
  (F.fns.all fun e => decide (e.m = none) && decide (e.name = e.x) || decide (e.m = none)) && (F.thks.all fun p => thkC F p && F.fns.all fun e => !(decide (e.x = p.1) || decide (e.x = p.2)) || (decide (e.name = e.x) && decide (e.qual = e.x))) &&
  (F.flds.all fun p => F.clss.any fun c => decide (c = p.1)) && (F.meths.all fun e => F.clss.any fun c => decide (c = e.x)) && (F.cstrs.all fun p => p.2.all fun c => decide (c < 0x110000))
section
variable {F : PF} {K : PySem.W.Frag} {h base : Heap} {mg : Str → Option Value} {prog : Program} {w : World}
theorem fun_of {e : FnE} (c1 : e.d.ok K = true) (c2 : He.fnW K e.d.at_ = e.d.val) : ∃ fd, C8.Fun K e.name e.qual e.st (He.fAd K (e.x, e.m)) fd ∧ fd.defaults = .none ∧ PySem.W.keepIn K (.ref (He.fAd K (e.x, e.m))) = true := by
  obtain ⟨fd, FD⟩ := He.DefD.funD c2 c1
  obtain ⟨oc, od, dV, kV, doc, pm, an, cdv, ct, osl, h1, h2, h3, h4, h5⟩ := FD.ex
  refine ⟨fd, ⟨oc, od, dV, kV, doc, pm, an, cdv, ct, osl, h1, h2, h3⟩, ?_, FD.kp⟩
  subst h1
  rcases h4 with ⟨_, q⟩ | ⟨q, _⟩
  · exact q
  · exact absurd rfl q
theorem lam_tab (Y : SaysR F h K) (TB : ∀ p ∈ lamT K, LamX.TabB base mg p.1 p.2.1) {e : FnE} {fd : FuncData} {f : Addr} (Fu : C8.Fun K e.name e.qual e.st f fd) (ef : He.fAd K (e.x, e.m) = f) (he : e ∈ F.fns) :
    e.lam = true → ∃ c T, fd.code = .ref c ∧ LamX.TabB base mg c T ∧ (T, e.qual ++ ".<locals>." ++ "<lambda>") ∈ tabT K ∧ ∀ p ∈ tabT K, p.1 = T → p.2 = e.qual ++ ".<locals>." ++ "<lambda>" := fun hl => by
  subst ef
  have L := Y.lam
  unfold lamC at L
  simp only [Bool.and_eq_true, List.all_eq_true] at L
  obtain ⟨⟨⟨l1, l2⟩, l3⟩, l4⟩ := L
  have q := l1 e (List.mem_append_left F.meths he)
  rw [hl] at q
  simp only [Bool.not_true, Bool.false_or, Bool.and_eq_true, decide_eq_true_eq] at q
  obtain ⟨q1, q2⟩ := q
  obtain ⟨⟨c, P, nm⟩, q3⟩ := Option.isSome_iff_exists.mp q2
  have hm : (c, P, nm) ∈ lamT K := List.mem_filterMap.mpr ⟨_, q1, q3⟩
  obtain ⟨oc, od, dV, kV, doc, pm, an, cdv, ct, osl, e1, e2, e3⟩ := Fu.ex
  subst e1
  unfold lamOf at q3
  rw [e2] at q3
  simp only at q3
  obtain ⟨c0, hc0⟩ : ∃ c0, cdv = .ref c0 := by
    cases cdv with
    | ref c0 => exact ⟨c0, rfl⟩
    | _ => cases q3
  subst hc0
  simp only at q3
  split at q3 <;> try cases q3
  split at q3 <;> cases q3
  refine ⟨_, _, rfl, TB _ hm, ?_, fun p hp hpp => ?_⟩
  · rw [lamT_tab]
    exact List.mem_map.mpr ⟨_, hm, rfl⟩
  · rw [lamT_tab] at hp
    obtain ⟨p', hp', rfl⟩ := List.mem_map.mp hp
    have := l3 p' hp' _ hm
    simp only [Bool.or_eq_true, Bool.not_eq_true', decide_eq_false_iff_not, decide_eq_true_eq] at this
    exact this.resolve_left fun z => z hpp
theorem def_snd (Y : SaysR F h K) (T : textC F = true) (TB : ∀ p ∈ lamT K, LamX.TabB base mg p.1 p.2.1) (fr : ∀ y, usr y = false → mg y = none) {e : FnE} (he : e ∈ F.fns ++ F.meths) :
    ∃ fd ps, PySem.W.keepIn K (.ref (He.fAd K (e.x, e.m))) = true ∧ L2.Binds K fd ps [] ∧ InitOk ⟨prog, w, K, mg, base⟩ F.prog (.code e.code) (He.fAd K (e.x, e.m)) fd ps := by
  have hd : e.d ∈ F.ds := List.mem_map_of_mem he
  obtain ⟨c1, c2⟩ := Y.ds _ hd
  obtain ⟨fd, Fu, df, kp⟩ := fun_of c1 c2
  unfold textC at T
  simp only [Bool.and_eq_true, List.all_eq_true] at T
  obtain ⟨sc, ac⟩ := T.1.1.1.1.1 e he
  refine ⟨fd, paramsOf (C8.fnArgs e.st), kp, binds_of Fu df ac, fun n FO ds S z S' hr => ?_⟩
  refine code_snd (B := ⟨prog, w, K, mg, base⟩) FO Fu (C8.fnScope_by sc) fr (fun hl => ?_) hr
  have L := Y.lam
  unfold lamC at L
  simp only [Bool.and_eq_true, List.all_eq_true] at L
  obtain ⟨⟨⟨l1, l2⟩, l3⟩, l4⟩ := L
  have q := l1 e he
  rw [hl] at q
  simp only [Bool.not_true, Bool.false_or, Bool.and_eq_true, decide_eq_true_eq] at q
  obtain ⟨q1, q2⟩ := q
  obtain ⟨⟨c, P, nm⟩, q3⟩ := Option.isSome_iff_exists.mp q2
  have hm : (c, P, nm) ∈ lamT K := List.mem_filterMap.mpr ⟨_, q1, q3⟩
  obtain ⟨oc, od, dV, kV, doc, pm, an, cdv, ct, osl, e1, e2, e3⟩ := Fu.ex
  subst e1
  unfold lamOf at q3
  rw [e2] at q3
  obtain ⟨c0, hc0⟩ : ∃ c0, cdv = .ref c0 := by
    cases cdv with
    | ref c0 => exact ⟨c0, rfl⟩
    | _ => cases q3
  subst hc0
  simp only at q3
  split at q3 <;> try cases q3
  split at q3 <;> cases q3
  refine ⟨_, _, rfl, TB _ hm, ?_, fun p hp hpp => ?_⟩
  · rw [lamT_tab]
    exact List.mem_map.mpr ⟨_, hm, rfl⟩
  · rw [lamT_tab] at hp
    obtain ⟨p', hp', rfl⟩ := List.mem_map.mp hp
    have := l3 p' hp' _ hm
    simp only [Bool.or_eq_true, Bool.not_eq_true', decide_eq_false_iff_not, decide_eq_true_eq] at this
    exact this.resolve_left fun z => z hpp
theorem find_at {α : Type} {l : List α} {f : α → Bool} {a : α} (h : l.find? f = some a) : a ∈ l ∧ f a = true := ⟨List.mem_of_find?_eq_some h, List.find?_some h⟩
theorem lookup_mem {β : Type} {x : Str} {v : β} : ∀ {l : List (Str × β)}, l.lookup x = some v → (x, v) ∈ l
  | [], h => nomatch h
  | (y, u) :: l, h => by
    unfold List.lookup at h
    split at h
    · rename_i e
      cases h
      rw [beq_iff_eq.mp e]
      exact List.mem_cons_self
    · exact List.mem_cons_of_mem _ (lookup_mem h)
theorem prOk (Y : SaysR F h K) (G : h.Ns mainGlobals mg) (T : textC F = true) (TB : ∀ p ∈ lamT K, LamX.TabB base mg p.1 p.2.1) : PrOk ⟨prog, w, K, mg, base⟩ F.prog := by
  have fact : ∀ f ∈ F.fa, f.ok K = true := Y.fa
  have fr : ∀ y, usr y = false → mg y = none := fun y hy => by
    unfold usr at hy
    simp only [Bool.not_eq_false', List.any_eq_true, decide_eq_true_eq] at hy
    obtain ⟨z, hz, rfl⟩ := hy
    exact He.free_ok Y.kin G (fact _ (by unfold PF.fa; simp only [List.mem_append, List.mem_map]; exact .inr ⟨z, hz, rfl⟩))
  have glo : ∀ e ∈ F.fns, mg e.x = some (.ref (He.ga K e.x)) := fun e he => He.glo_ok Y.kin G (fact _ (by unfold PF.fa; simp only [List.mem_append, List.mem_map]; exact .inl (.inl (.inl (.inl (.inl (.inl (.inl (.inl ⟨e, he, rfl⟩))))))))) 
  have gloC : ∀ c ∈ F.clss, mg c = some (.ref (He.ga K c)) := fun c hc => He.glo_ok Y.kin G (fact _ (by unfold PF.fa; simp only [List.mem_append, List.mem_map]; exact .inl (.inl (.inl (.inl (.inl (.inl (.inl (.inr ⟨c, hc, rfl⟩)))))))))
  have clsC : ∀ c ∈ F.clss, Cls K (He.ga K c) := fun c hc => He.cls_ok (fact _ (by unfold PF.fa; simp only [List.mem_append, List.mem_map]; exact .inl (.inl (.inl (.inl (.inl (.inl (.inr ⟨c, hc, rfl⟩))))))))
  have mkrC : ∀ c ∈ F.clss, Mk K (He.ga K c) (He.ma K (He.ga K c) "__init__") := fun c hc => He.mkr_ok (fact _ (by unfold PF.fa; simp only [List.mem_append, List.mem_map]; exact .inl (.inl (.inl (.inl (.inl (.inr ⟨c, hc, rfl⟩)))))))
  have methC : ∀ e ∈ F.meths, Meth K (He.ga K e.x) (e.m.getD "") (He.ma K (He.ga K e.x) (e.m.getD "")) := fun e he => He.meth_ok (fact _ (by unfold PF.fa; simp only [List.mem_append, List.mem_map]; exact .inl (.inl (.inl (.inl (.inr ⟨e, he, rfl⟩))))))
  have noatC : ∀ p ∈ F.flds, NoAttr K (He.ga K p.1) p.2 := fun p hp => He.noat_ok (fact _ (by unfold PF.fa; simp only [List.mem_append, List.mem_map]; exact .inl (.inl (.inl (.inr ⟨p, hp, rfl⟩)))))
  have intC : ∀ p ∈ F.cints, ∃ t, mg p.1 = some (.int p.2 t) := fun p hp => He.int_ok Y.kin G (fact _ (by unfold PF.fa; simp only [List.mem_append, List.mem_map]; exact .inl (.inl (.inr ⟨p, hp, rfl⟩))))
  have strC : ∀ p ∈ F.cstrs, ∃ t, mg p.1 = some (.str ⟨p.2.toArray⟩ t) := fun p hp => He.str_ok Y.kin G (fact _ (by unfold PF.fa; simp only [List.mem_append, List.mem_map]; exact .inl (.inr ⟨p, hp, rfl⟩)))
  have T0 := T
  unfold textC at T0
  simp only [Bool.and_eq_true, List.all_eq_true] at T0
  obtain ⟨⟨⟨⟨⟨t1, t2⟩, t3⟩, t4⟩, t5⟩, t6⟩ := T0
  have isC : ∀ {c : Str}, (F.clss.any fun c' => decide (c' = c)) = true → c ∈ F.clss := fun {c} hc => by
    simp only [List.any_eq_true, decide_eq_true_eq] at hc
    obtain ⟨_, h1, rfl⟩ := hc
    exact h1
  have mnone : ∀ e ∈ F.fns, e.m = none := fun e he => by
    have := t2 e he
    simp only [Bool.or_eq_true, Bool.and_eq_true, decide_eq_true_eq] at this
    rcases this with z | z
    · exact z.1
    · exact z
  have callOf : ∀ {f : Addr} {fd : FuncData} {ps : List Str} {c : Fun}, L2.Binds K fd ps [] → InitOk ⟨prog, w, K, mg, base⟩ F.prog c f fd ps → FunOk ⟨prog, w, K, mg, base⟩ F.prog c (.ref f) := fun hb hi n FO ds S z S' hr => (hi n FO ds S z S' hr).callAll hb
  refine ⟨fun x d hx => ?_, fun c f C hf hC => ?_, fun x F0 hx => ?_, fun x hx => ?_, fun x F0 hc hx => ?_, fun c m F0 hx => ?_⟩
  · unfold PF.prog at hx
    simp only at hx
    split at hx
    · rename_i i hi
      cases hx
      obtain ⟨t, q⟩ := intC _ (lookup_mem hi)
      exact ⟨_, .int i, q, ⟨t, rfl⟩, fun μ ν H _ => rfl⟩
    · obtain ⟨l, hl, rfl⟩ := Option.map_eq_some_iff.mp hx
      obtain ⟨t, q⟩ := strC _ (lookup_mem hl)
      refine ⟨_, .str ⟨l.toArray⟩, q, ⟨t, rfl⟩, fun μ ν H _ => ⟨rfl, fun c hc => ?_⟩⟩
      have := t6 _ (lookup_mem hl) c hc
      simpa using this
  · unfold PF.prog at hf
    simp only [List.any_eq_true, Bool.and_eq_true, decide_eq_true_eq] at hf
    obtain ⟨p, hp, rfl, rfl⟩ := hf
    have hc := isC (t4 p hp)
    have e := (gloC _ hc).symm.trans hC
    cases e
    exact ⟨clsC _ hc, noatC p hp⟩
  · obtain ⟨e, he, rfl⟩ := Option.map_eq_some_iff.mp hx
    obtain ⟨hm, hx⟩ := find_at he
    have hx : e.x = x := by simpa using hx
    subst hx
    obtain ⟨fd, ps, k1, k2, k3⟩ := def_snd (base := base) (mg := mg) (prog := prog) (w := w) Y T TB fr (List.mem_append_left F.meths hm)
    have ef : He.fAd K (e.x, e.m) = He.ga K e.x := by rw [mnone e hm]; rfl
    rw [ef] at k1 k3
    exact ⟨_, glo e hm, k1, callOf k2 k3⟩
  · unfold PF.prog at hx
    simp only [List.any_eq_true, decide_eq_true_eq] at hx
    obtain ⟨⟨x', y'⟩, hp, rfl⟩ := hx
    have tc := t3 _ hp
    obtain ⟨tc, tn⟩ := tc
    unfold thkC at tc
    split at tc <;> try cases tc
    rename_i e1 e2 h1 h2
    split at tc <;> try cases tc
    rename_i y a b hA hB
    simp only [Bool.and_eq_true, decide_eq_true_eq] at tc
    obtain ⟨⟨⟨⟨⟨⟨⟨⟨u1, u2⟩, u3⟩, u4⟩, u5⟩, u6⟩, u7⟩, u8⟩, u9⟩ := tc
    subst u1
    obtain ⟨m1, g1⟩ := find_at h1
    obtain ⟨m2, g2⟩ := find_at h2
    have g1 : e1.x = x' := by simpa using g1
    have g2 : e2.x = y := by simpa using g2
    have n1 := tn e1 m1
    have n2 := tn e2 m2
    simp only [g1, g2, decide_true, Bool.true_or, Bool.or_true, Bool.not_true, Bool.false_or, Bool.and_eq_true, decide_eq_true_eq] at n1 n2
    obtain ⟨c1, c2⟩ := Y.ds _ (List.mem_map_of_mem (List.mem_append_left F.meths m1))
    obtain ⟨d1, d2⟩ := Y.ds _ (List.mem_map_of_mem (List.mem_append_left F.meths m2))
    obtain ⟨fd1, F1, df1, k1⟩ := fun_of c1 c2
    obtain ⟨fd2, F2, df2, k2⟩ := fun_of d1 d2
    have ef1 : He.fAd K (e1.x, e1.m) = He.ga K e1.x := by rw [mnone e1 m1]; rfl
    have ef2 : He.fAd K (e2.x, e2.m) = He.ga K e2.x := by rw [mnone e2 m2]; rfl
    rw [ef1] at F1 k1
    rw [ef2] at F2 k2
    have a1 := (t1 e1 (List.mem_append_left F.meths m1)).2
    have a2 := (t1 e2 (List.mem_append_left F.meths m2)).2
    have B1 := binds_of F1 df1 a1
    have B2 := binds_of F2 df2 a2
    rw [u2] at B1
    rw [u3] at B2
    have gl1 := glo e1 m1
    have gl2 := glo e2 m2
    rw [n1.1, n1.2, g1] at F1
    rw [n2.1, n2.2, g2] at F2
    rw [g1] at gl1 k1
    rw [g2] at gl2 k2
    unfold plainN at u7 u8 u9
    simp only [Bool.and_eq_true, Bool.not_eq_true'] at u7 u8 u9
    unfold shapeA at hA
    split at hA <;> cases hA
    rename_i p1 p2 p3 p4 hh1 hs1 p5 hb1
    unfold shapeB at hB
    split at hB <;> cases hB
    rename_i q1 q2 j q3 k q4 q5 hh2 hs2 q6 hb2
    exact ⟨y, a, b, _, _, e1.st, e2.st, fd1, fd2, p1, p2, p3, p4, p5, q1, q2, q3, q4, q5, q6, j, k, hh1, hh2, hs1, hs2, gl1, k1, F1, C8.fnScope_by u4, B1, hb1, u6, gl2, k2, F2, C8.fnScope_by u5, B2, hb2, u7.1, u8.1, u8.2, u9.1, u9.2⟩
  · have hcm := isC hc
    obtain ⟨e, he, rfl⟩ := Option.map_eq_some_iff.mp hx
    obtain ⟨hm, hx2⟩ := find_at he
    simp only [Bool.and_eq_true, decide_eq_true_eq] at hx2
    obtain ⟨rfl, hx3⟩ := hx2
    obtain ⟨fd, ps, k1, k2, k3⟩ := def_snd (base := base) (mg := mg) (prog := prog) (w := w) Y T TB fr (List.mem_append_right F.fns hm)
    have ef : He.fAd K (e.x, e.m) = He.ma K (He.ga K e.x) "__init__" := by rw [hx3]; rfl
    rw [ef] at k3
    exact ⟨_, _, fd, ps, gloC _ hcm, mkrC _ hcm, k2, k3⟩
  · obtain ⟨e, he, rfl⟩ := Option.map_eq_some_iff.mp hx
    obtain ⟨hm, hx2⟩ := find_at he
    simp only [Bool.and_eq_true, decide_eq_true_eq] at hx2
    obtain ⟨rfl, hx3⟩ := hx2
    have hcm := isC (t5 e hm)
    obtain ⟨fd, ps, k1, k2, k3⟩ := def_snd (base := base) (mg := mg) (prog := prog) (w := w) Y T TB fr (List.mem_append_right F.fns hm)
    have ef : He.fAd K (e.x, e.m) = He.ma K (He.ga K e.x) m := by rw [hx3]; rfl
    rw [ef] at k3
    have M := methC e hm
    rw [hx3] at M
    exact ⟨_, _, gloC _ hcm, clsC _ hcm, M, callOf k2 k3⟩
end
end Rf
/-! The end: a law whose run the evaluator tells. -/
namespace Rf
open PySem PySem.Spec PyProof.Rows L2

theorem look_mem {a : Addr} {o : Obj} : ∀ {l : PySem.W.Frag}, l.lookup a = some o → (a, o) ∈ l
  | [], h => nomatch (show (none : Option Obj) = some o from h)
  | (b, u) :: l, h => by
    unfold List.lookup at h
    split at h
    · rename_i e
      cases h
      rw [beq_iff_eq.mp e]
      exact List.mem_cons_self
    · exact List.mem_cons_of_mem _ (look_mem h)
theorem caller_guards : callerA.guards = some [] := by rfl
/-- what is tracked at the law's entry: the script, the tables -/
def entryH (a : Addr) (cs : List (Addr × Addr)) (vs : List Value) (ns : List Int) : Hp := fun b =>
  if b = a then some (.frz { cls := .type "list", data := .seq vs.toArray } (.lst (ns.map V.int))) else if b ∈ cs.map (·.2) then some (.tbl #[]) else none
section
variable {P : Program} {w : World} {K : PySem.W.Frag} {mg mb : Str → Option Value} {k : Nat} {fa a : Addr} {cs : List (Addr × Addr)} {fd : FuncData} {x : Str} {s₁ : Shared} {vs : List Value} {ns : List Int} {r : List V → Hp → VK → Prop}
theorem law_end (KX : K.In s₁.heap) (hns : s₁.heap.Ns mainGlobals mg) (hb : s₁.heap.Ns builtinsNs mb) (hbb : ∀ x : Str, x ≠ "__name__" → mb x = bootBuiltins x) (hlim : s₁.heap.NoLimit) (hg : s₁.gens = #[])
    (hT : ∀ p ∈ cs, s₁.heap.get? p.2 = some { cls := .none, data := .fields #[] }) (nT : ∀ p ∈ cs, K.lookup p.2 = none) (C : ∀ p ∈ cs, PySem.W.CodeHd s₁.heap p.1 p.2)
    (hbm : ∃ (bm : Addr) (ob : Obj), mg "__builtins__" = some (.ref bm) ∧ bm ≠ builtinsNs ∧ s₁.heap.get? bm = some ob ∧ ob.cls = .type "module" ∧ ob.dict = some builtinsNs ∧ ob.data = .plain)
    (ha : s₁.heap.get? a = some { cls := .type "list", data := .seq vs.toArray }) (hi : IntsAre vs ns) (hl : ns.length ≤ sizeLine) (ka : K.lookup a = none) (hr : Room k callerA)
    (F : ∀ base : Heap, K.In base → base.Ns mainGlobals mg → (∀ p ∈ cs, LamX.TabB base mg p.1 p.2) → FnG ⟨P, w, K, mg, base⟩ k fa fd [x] r) (hbind : ∀ (s : Shared) (u : Value), BindsTo s fd ⟨[u], []⟩ [(x, u)])
    (hsp : r [.ref a] (entryH a cs vs ns) (fun v _ => v = .bl true)) :
    codeAny (model P w) callerA (.call (.ref fa) ⟨[.ref a], []⟩) (fun r s' => r = .ok (.ret (.bool true)) ∧ OldK s₁.heap s'.heap ∧ s'.os = s₁.os ∧ AllBare s'.gens) s₁ := by
  have rv := vals_ints hi
  have isT : ∀ b : Addr, b ∈ cs.map (·.2) → s₁.heap.get? b = some { cls := .none, data := .fields #[] } := fun b hb => by
    obtain ⟨p, hp, e⟩ := List.mem_map.mp hb
    rw [← e]; exact hT p hp
  have aT : a ∉ cs.map (·.2) := fun z => by
    have q := isT a z
    rw [ha] at q
    have z' : Data.seq vs.toArray _ = Data.fields #[] := congrArg Obj.data (Option.some.inj q)
    cases z'
  have memT : ∀ p ∈ cs, p.2 ∈ cs.map (·.2) := fun p hp => List.mem_map.mpr ⟨p, hp, rfl⟩
  generalize hH : entryH a cs vs ns = H at hsp
  have Ha : H a = some (.frz { cls := .type "list", data := .seq vs.toArray } (.lst (ns.map V.int))) := by rw [← hH]; exact if_pos rfl
  have HT : ∀ b, b ∈ cs.map (·.2) → H b = some (.tbl #[]) := fun b hb => by
    rw [← hH]
    exact (if_neg fun z => aT (by rw [← z]; exact hb)).trans (if_pos hb)
  have HN : ∀ b, b ≠ a → b ∉ cs.map (·.2) → H b = none := fun b h1 h2 => by
    rw [← hH]
    exact (if_neg h1).trans (if_neg h2)
  have three : ∀ b u, H b = some u → (b = a ∧ u = .frz { cls := .type "list", data := .seq vs.toArray } (.lst (ns.map V.int))) ∨ (b ∈ cs.map (·.2) ∧ u = .tbl #[]) := fun b u z => by
    by_cases h1 : b = a
    · rw [h1, Ha] at z
      exact .inl ⟨h1, (Option.some.inj z).symm⟩
    · by_cases h2 : b ∈ cs.map (·.2)
      · rw [HT b h2] at z
        exact .inr ⟨h2, (Option.some.inj z).symm⟩
      · rw [HN b h1 h2] at z
        cases z
  have hok : HOk P w H s₁.heap := fun b u z => by
    rcases three b u z with ⟨rfl, rfl⟩ | ⟨hb, rfl⟩
    · exact ⟨ha, by rw [List.length_map]; exact hl, vs, _, rv, ha⟩
    · exact isT b hb
  have base_of : ∀ {b : Addr} {o : Obj}, s₁.heap.get? b = some o → H b = none → (hidT s₁.heap H).get? b = some o := fun e n => hidT_get e n
  have noD : ∀ {b : Addr} {o : Obj}, s₁.heap.get? b = some o → (∀ vs n, o.data ≠ .seq vs n) → o.data ≠ .fields #[] → H b = none := fun {b o} e h1 h2 => by
    cases q : H b with
    | none => rfl
    | some u =>
      rcases three b u q with ⟨rfl, _⟩ | ⟨hb, _⟩
      · rw [ha] at e
        cases e
        exact (h1 _ _ rfl).elim
      · rw [isT b hb] at e
        cases e
        exact (h2 rfl).elim
  have noA : ∀ {b : Addr} {o : Obj} {es : Array DictEntry} {ep : Nat}, s₁.heap.get? b = some o → o.data = .dict es ep → H b = none := fun {b o es ep} e d => by
    refine noD e (fun vs n z => ?_) fun z => ?_ <;> (rw [d] at z; cases z)
  have nsK : ∀ {b : Addr} {m : Str → Option Value}, s₁.heap.Ns b m → (hidT s₁.heap H).Ns b m := fun {b m} ⟨o, es, ep, e, d, r⟩ => ⟨o, es, ep, base_of e (noA e d), d, r⟩
  have hKb : K.In (hidT s₁.heap H) := fun b o e => base_of (KX b o e) (by
    cases q : H b with
    | none => rfl
    | some u =>
      rcases three b u q with ⟨rfl, _⟩ | ⟨hb, _⟩
      · rw [ka] at e; cases e
      · obtain ⟨p, hp, ep⟩ := List.mem_map.mp hb
        rw [← ep, nT p hp] at e
        cases e)
  have hM : L2.Mod K mg (hidT s₁.heap H) := ⟨hKb, nsK hns, ⟨mb, nsK hb, hbb⟩, let ⟨mc, h1, h2⟩ := hlim; ⟨mc, nsK h1, h2⟩⟩
  have TB : ∀ p ∈ cs, LamX.TabB (hidT s₁.heap H) mg p.1 p.2 := fun p hp => by
    have hTp := hT p hp
    refine ⟨?_, ?_, fun z => ?_⟩
    · obtain ⟨o, us, file, tf, flags, tg, inF, text, tt, e1, r1, r2, r3, rest⟩ := C p hp
      refine ⟨o, us, file, tf, flags, tg, inF, text, tt, base_of e1 (noD e1 (fun vs n z => ?_) fun z => ?_), r1, r2, r3, rest⟩
      · rw [r2] at z; cases z
      · rw [r2] at z; cases z; simp at r3
    · obtain ⟨bm, ob, b1, b2, b3, b4, b5, b6⟩ := hbm
      have nG : bm ≠ mainGlobals := fun q => by
        obtain ⟨o, es, ep, e, hd, _⟩ := hns
        rw [q, e] at b3
        cases b3
        rw [hd] at b6
        cases b6
      have nP : bm ≠ p.2 := fun q => by
        rw [q, hTp] at b3
        cases b3
        cases b6
      refine ⟨bm, ob, b1, b2, nG, nP, base_of b3 (noD b3 (fun vs n z => ?_) fun z => ?_), b4, b5, b6⟩ <;> (rw [b6] at z; cases z)
    · obtain ⟨o, es, ep, e, hd, _⟩ := hns
      rw [z, hTp] at e
      cases e
      cases hd
  have e0 : Env0 P w K mg (hidT s₁.heap H) callerA [] s₁ H := ⟨rfl, hM, fun b o e => of_hidT e, Nat.le_of_eq (hidT_size _ _), trivial, fun b hb => absurd (show b ∈ ([] : List Addr) from hb) (by simp), hok, .of_eq hg⟩
  refine codeAny_mono ((F _ hKb (nsK hns) TB).run callerA [] s₁ H ⟨[.ref a], []⟩ [.ref a] [.ref a] _ hr caller_guards e0 (hbind s₁ (.ref a)) (.cons rfl .nil) hsp) fun r s' h => ?_
  cases r with
  | error e => exact False.elim h
  | ok fl =>
    cases fl with
    | next => exact False.elim h
    | brk => exact False.elim h
    | cont => exact False.elim h
    | ret u =>
      obtain ⟨v, H', os, bare, un, hok', r', q⟩ := h
      have q' : v = .bl true := q
      subst q'
      obtain rfl : u = Value.bool true := r'
      have key : ∀ b o, b ∉ cs.map (·.2) → s₁.heap.get? b = some o → s'.heap.get? b = some o := fun b o nb e => by
        by_cases h1 : b = a
        · subst h1
          have z2 := un.frzs b _ _ Ha
          obtain ⟨e2, _⟩ := hok' b _ z2
          rw [ha] at e; cases e
          exact e2
        · exact un.keep b o e (HN b h1 nb) (by intro z; exact absurd (show b ∈ ([] : List Addr) from z) (by simp)) (by simp)
      have grown : ∀ p ∈ cs, ∃ more : Array Value, s'.heap.get? p.2 = some { cls := .none, data := .fields more } := fun p hp => by
        obtain ⟨more, z⟩ := un.tbls p.2 #[] (HT _ (memT p hp))
        exact ⟨_, hok' p.2 _ z⟩
      refine ⟨rfl, ⟨fun b o e => ?_, fun b o e => ?_⟩, os, bare⟩
      · by_cases hb : b ∈ cs.map (·.2)
        · obtain ⟨p, hp, ep⟩ := List.mem_map.mp hb
          obtain ⟨more, hm⟩ := grown p hp
          rw [← ep] at e ⊢
          rw [hT p hp] at e
          cases e
          exact .inr (.inl ⟨((C p hp).tab (hT p hp)).isCodeTable, rfl, #[], more, rfl, by rw [Array.empty_append]; exact hm⟩)
        · exact .inl (key b o hb e)
      · by_cases hb : b ∈ cs.map (·.2)
        · obtain ⟨p, hp, ep⟩ := List.mem_map.mp hb
          obtain ⟨more, hm⟩ := grown p hp
          rw [← ep]
          exact ⟨_, hm⟩
        · exact ⟨o, key b o hb e⟩
end
/-! ### the walk -/
theorem codeHd_of {K : PySem.W.Frag} {h : Heap} {c P : Addr} (KX : K.In h) (hc : codeHdB K c P = true) : PySem.W.CodeHd h c P := by
  unfold codeHdB at hc
  split at hc
  · rename_i t dd vs sl hk
    simp only [Bool.and_eq_true, decide_eq_true_eq] at hc
    obtain ⟨⟨⟨⟨⟨⟨h1, h2⟩, h3⟩, h4⟩, h5⟩, h6⟩, h7⟩ := hc
    have e11 : vs[11]? = some (.ref P) := by
      split at h2
      · rename_i a r hd
        have : a = P := by simpa using h2
        subst this
        rw [← Array.getElem?_toList]
        have : vs.toList[11]? = (vs.toList.drop 11)[0]? := by rw [List.getElem?_drop]
        rw [this, hd]
        rfl
      · cases h2
    obtain ⟨file, tf, e18⟩ : ∃ f t, vs.getD 18 .none = .str f t := by
      split at h3
      · exact ⟨_, _, by assumption⟩
      · cases h3
    obtain ⟨fl, tg, e7⟩ : ∃ f t, vs.getD 7 .none = .int f t := by
      split at h4
      · exact ⟨_, _, by assumption⟩
      · cases h4
    obtain ⟨inF, e9⟩ : ∃ f, vs.getD 9 .none = .bool f := by
      split at h5
      · exact ⟨_, by assumption⟩
      · cases h5
    obtain ⟨tx, tt, e10⟩ : ∃ f t, vs.getD 10 .none = .int f t := by
      split at h6
      · exact ⟨_, _, by assumption⟩
      · cases h6
    refine ⟨_, vs, file, tf, fl, tg, inF, tx, tt, KX _ _ hk, by rw [h1], rfl, e11, ?_, e18, e7, e9, e10, h7⟩
    rw [Array.getD_eq_getD_getElem?, e11]
    rfl
  · cases hc
theorem bindsA_of {K : PySem.W.Frag} {x qual : Str} {st : Stmt} {f : Addr} {fd : FuncData} (F : C8.Fun K x qual st f fd) (df : fd.defaults = .none) (hc : argsC (C8.fnArgs st) = true) (s : Shared) (us : List Value) (hl : us.length = (paramsOf (C8.fnArgs st)).length) :
    BindsTo s fd ⟨us, []⟩ ((paramsOf (C8.fnArgs st)).zip us) := by
  unfold argsC at hc
  simp only [Bool.and_eq_true, List.isEmpty_iff, Option.isNone_iff_eq_none, decide_eq_true_eq] at hc
  obtain ⟨⟨⟨⟨h1, h2⟩, h3⟩, h4⟩, h5⟩ := hc
  have e : paramsOf (C8.fnArgs st) = (C8.fnArgs st).args.map (·.arg) := by
    unfold paramsOf
    rw [h1, List.nil_append]
  obtain ⟨oc, od, dV, kV, doc, pm, an, cdv, ct, osl, rfl, lk, hcd⟩ := F.ex
  rw [e] at hl ⊢
  exact .of_eq (bind_pos h1 h2 h3 h4 df h5 us hl)
theorem entry_str {F : PF} {h : Heap} {K : PySem.W.Frag} {mg : Str → Option Value} {a : Addr} {vs : List Value} {ns : List Int} (Y : SaysR F h K) (ka : K.lookup a = none) (hl : ns.length ≤ sizeLine) (ha : h.get? a = some { cls := .type "list", data := .seq vs.toArray }) :
    StR ⟨K, mg⟩ [] [] [] (entryH a ((lamT K).map fun p => (p.1, p.2.1)) vs ns) ∧ VRs ⟨K, mg⟩ [] [] (entryH a ((lamT K).map fun p => (p.1, p.2.1)) vs ns) [.lst (ns.map D.int)] [.ref a] := by
  have m2 : ∀ b, b ∈ ((lamT K).map fun p => (p.1, p.2.1)).map (·.2) → ∃ p ∈ lamT K, p.2.1 = b := fun b hb => by
    obtain ⟨q, hq, rfl⟩ := List.mem_map.mp hb
    obtain ⟨p, hp, rfl⟩ := List.mem_map.mp hq
    exact ⟨p, hp, rfl⟩
  have Ha : entryH a ((lamT K).map fun p => (p.1, p.2.1)) vs ns a = some (.frz { cls := .type "list", data := .seq vs.toArray } (.lst (ns.map V.int))) := if_pos rfl
  have cases3 : ∀ b u, entryH a ((lamT K).map fun p => (p.1, p.2.1)) vs ns b = some u → (b = a ∧ u = .frz { cls := .type "list", data := .seq vs.toArray } (.lst (ns.map V.int))) ∨ ((∃ p ∈ lamT K, p.2.1 = b) ∧ u = .tbl #[]) := fun b u z => by
    unfold entryH at z
    split at z
    · rename_i e; cases z; exact .inl ⟨e, rfl⟩
    · split at z
      · rename_i e; cases z; exact .inr ⟨m2 b e, rfl⟩
      · cases z
  refine ⟨⟨⟨fun b o e => ?_, fun b xs r => ?_, fun b xs r => ?_⟩, rfl, List.nodup_nil, fun b hb => (nomatch hb), fun b hb => (nomatch hb), fun i c b e => (by simp at e), fun p hp => ?_⟩, ?_⟩
  · cases q : entryH a ((lamT K).map fun p => (p.1, p.2.1)) vs ns b with
    | none => rfl
    | some u =>
      exfalso
      rcases cases3 b u q with ⟨rfl, _⟩ | ⟨⟨p, hp, rfl⟩, _⟩
      · rw [ka] at e; cases e
      · rw [(Y.tab p hp).2] at e; cases e
  · rcases r with r | ⟨o, r⟩
    · rcases cases3 _ _ r with ⟨_, z⟩ | ⟨_, z⟩ <;> cases z
    · rcases cases3 _ _ r with ⟨_, z⟩ | ⟨_, z⟩
      · cases z; simpa using hl
      · cases z
  · rcases r with r | ⟨o, r⟩ <;> rcases cases3 _ _ r with ⟨_, z⟩ | ⟨_, z⟩ <;> cases z
  · rw [lamT_tab] at hp
    obtain ⟨q, hq, rfl⟩ := List.mem_map.mp hp
    refine LamX.TabS.nil ?_
    show entryH a _ vs ns q.2.1 = _
    unfold entryH
    split
    · rename_i e
      have q1 := (Y.tab q hq).1
      rw [e, ha] at q1
      cases q1
    · exact if_pos (List.mem_map.mpr ⟨(q.1, q.2.1), List.mem_map.mpr ⟨q, hq, rfl⟩, rfl⟩)
  · refine .cons ⟨a, ns.map V.int, rfl, .inr ⟨_, Ha⟩, by simp, by simp, ?_⟩ .nil
    clear Ha cases3 hl ha m2
    generalize entryH a ((lamT K).map fun p => (p.1, p.2.1)) vs ns = H
    induction ns with
    | nil => rfl
    | cons n ns ih => exact .cons rfl ih
/-- a law: the evaluator tells True -/
theorem walk_rf {F : PF} {l : PySem.W.OpenLaw} {nn n : Nat} {q : Program} {loose : List Str} {XP : (Str → Option Value) → Heap → Prop} {d : DefRec} {e : FnE} {xs : Str}
    (hn : l.most = some nn) (hn2 : nn ≤ sizeLine) (hdf : d.params.defaults = []) (hr : Room (8 * n + 7) callerA) (T : textC F = true)
    (he : e ∈ F.fns) (hx : e.x = d.name) (hp : paramsOf (C8.fnArgs e.st) = [xs])
    (law : ∀ zs : List Int, zs.length ≤ nn → (∀ z ∈ zs, Builtin.Int.intBits z ≤ 1048576) → ∃ S', runFn (ctx F.prog n) e.code [.lst (zs.map .int)] [] = some (.ok (.bl true) S')) :
    PySem.W.WalkO q loose XP (fun _ h => ∃ K, SaysR F h K) l.row.toRowW d [] (fun f vs => PySem.call f vs) := by
  refine Att.attach_callB hn hdf fun w s₀ s₁ mg mb fa o pm cd doc a vs ns G Y ho hd hcd hmg hobj hints hlen hbits hg => ?_
  obtain ⟨K, Y⟩ := Y
  have ka : K.lookup a = none := by
    cases z : K.lookup a with
    | none => rfl
    | some ob =>
      have z1 := Y.kin _ _ z
      rw [hobj] at z1
      cases z1
      have L := Y.lam
      unfold lamC at L
      simp only [Bool.and_eq_true, List.all_eq_true] at L
      have := L.2 _ (look_mem z)
      simp at this
  obtain ⟨S', hS⟩ := law ns hlen hbits
  have hsl : ns.length ≤ sizeLine := Nat.le_trans hlen hn2
  obtain ⟨st, rs⟩ := entry_str (mg := mg) (vs := vs) Y ka hsl hobj
  have fr : ∀ y, usr y = false → mg y = none := fun y hy => by
    unfold usr at hy
    simp only [Bool.not_eq_false', List.any_eq_true, decide_eq_true_eq] at hy
    obtain ⟨z, hz, rfl⟩ := hy
    exact He.free_ok Y.kin G.T.g (Y.fa _ (by unfold PF.fa; simp only [List.mem_append, List.mem_map]; exact .inr ⟨z, hz, rfl⟩))
  have T0 := T
  unfold textC at T0
  simp only [Bool.and_eq_true, List.all_eq_true] at T0
  have hm : e.m = none := by
    have := T0.1.1.1.1.2 e he
    simp only [Bool.or_eq_true, Bool.and_eq_true, decide_eq_true_eq] at this
    rcases this with z | z
    · exact z.1
    · exact z
  have glo : mg e.x = some (.ref (He.ga K e.x)) := He.glo_ok Y.kin G.T.g (Y.fa _ (by unfold PF.fa; simp only [List.mem_append, List.mem_map]; exact .inl (.inl (.inl (.inl (.inl (.inl (.inl (.inl ⟨e, he, rfl⟩)))))))))
  have efa : fa = He.ga K e.x := by
    rw [← hx, glo] at hmg
    cases hmg
    rfl
  have ef : He.fAd K (e.x, e.m) = fa := by rw [hm, efa]; rfl
  have hL := Y.lam
  unfold lamC at hL
  simp only [Bool.and_eq_true, List.all_eq_true] at hL
  have hC : ∀ p ∈ (lamT K).map (fun p => (p.1, p.2.1)), PySem.W.CodeHd s₁.heap p.1 p.2 := fun p hp => by
    obtain ⟨q, hq, rfl⟩ := List.mem_map.mp hp
    have hc := hL.1.1.2 q hq
    exact codeHd_of Y.kin hc
  obtain ⟨c1, c2⟩ := Y.ds _ (List.mem_map_of_mem (List.mem_append_left F.meths he))
  obtain ⟨fd, Fu, df, _⟩ := fun_of c1 c2
  have ac := (T0.1.1.1.1.1 e (List.mem_append_left F.meths he)).2
  have sc := (T0.1.1.1.1.1 e (List.mem_append_left F.meths he)).1
  have hbind : ∀ (s : Shared) (u : Value), BindsTo s fd ⟨[u], []⟩ [(xs, u)] := fun s u => by
    have q := bindsA_of Fu df ac s [u] (by rw [hp]; rfl)
    rw [hp] at q
    exact q
  rw [ef] at Fu
  refine law_end (k := 8 * n + 7) (fd := fd) (x := xs) (r := rCl ⟨K, mg⟩ [] [.lst (ns.map .int)] (.bl true) S') Y.kin G.T.g G.T.b G.T.builtins G.T.nolimit hg (cs := (lamT K).map fun p => (p.1, p.2.1)) (fun p hp => ?_) (fun p hp => ?_) hC G.T.bmain hobj hints hsl ka hr (fun base hK hN TB => ?_) hbind ?_
  · obtain ⟨q, hq, rfl⟩ := List.mem_map.mp hp
    exact (Y.tab q hq).1
  · obtain ⟨q, hq, rfl⟩ := List.mem_map.mp hp
    exact (Y.tab q hq).2
  · have TB' : ∀ p ∈ lamT K, LamX.TabB base mg p.1 p.2.1 := fun p hp => TB _ (List.mem_map.mpr ⟨p, hp, rfl⟩)
    have PO := fns_all (prOk (prog := l.prog) (w := w) Y G.T.g T TB') n
    obtain ⟨fd2, ps2, _, hb2, hi2⟩ := def_snd (base := base) (mg := mg) (prog := l.prog) (w := w) Y T TB' fr (List.mem_append_left F.meths he)
    rw [← hp]
    exact code_snd (B := ⟨l.prog, w, K, mg, base⟩) PO Fu (C8.fnScope_by sc) fr (lam_tab Y TB' Fu ef he) hS
  · exact ⟨[], [], st, rs, fun v H' μ' _ _ r => r⟩
end Rf
namespace K90
open PySem PySem.Spec PyProof.Rows L2 Rf

def top (i : Nat) : Stmt := PySem.Challenge.pw_sortedshelves_k90_whole_copies_joined.main.body.getD i (.Pass ⟨0, 0, 0, 0⟩)
def meth (i j : Nat) : Stmt := (C8.clsBody (top i)).getD j (.Pass ⟨0, 0, 0, 0⟩)
def fnsL : List FnE := [
  { x := "law", m := none, name := "law", qual := "law", st := top 165 },
  { x := "_law_hand", m := none, name := "_law_hand", qual := "_law_hand", st := top 146, mkc := true },
  { x := "_law_pool", m := none, name := "_law_pool", qual := "_law_pool", st := top 150 },
  { x := "_law_one", m := none, name := "_law_one", qual := "_law_one", st := top 148 },
  { x := "_law_draw", m := none, name := "_law_draw", qual := "_law_draw", st := top 147 },
  { x := "_law_text", m := none, name := "_law_text", qual := "_law_text", st := top 149 },
  { x := "_law_some", m := none, name := "_law_some", qual := "_law_some", st := top 157 },
  { x := "_law_changed", m := none, name := "_law_changed", qual := "_law_changed", st := top 156 },
  { x := "_law_is_joined", m := none, name := "_law_is_joined", qual := "_law_is_joined", st := top 159 },
  { x := "_law_joined", m := none, name := "_law_joined", qual := "_law_joined", st := top 154 },
  { x := "_law_unlike", m := none, name := "_law_unlike", qual := "_law_unlike", st := top 152 },
  { x := "_law_ahead", m := none, name := "_law_ahead", qual := "_law_ahead", st := top 151 },
  { x := "_law_turned", m := none, name := "_law_turned", qual := "_law_turned", st := top 158 },
  { x := "joined", m := none, name := "joined", qual := "joined", st := top 143 },
  { x := "how_often", m := none, name := "how_often", qual := "how_often", st := top 142 },
  { x := "_law_in_order", m := none, name := "_law_in_order", qual := "_law_in_order", st := top 153 },
  { x := "fewest_runs", m := none, name := "fewest_runs", qual := "fewest_runs", st := top 144 },
  { x := "_law_apart", m := none, name := "_law_apart", qual := "_law_apart", st := top 155 },
  { x := "_law_shelves", m := none, name := "_law_shelves", qual := "_law_shelves", st := top 163 },
  { x := "_law_table", m := none, name := "_law_table", qual := "_law_table", st := top 160 },
  { x := "_law_copy", m := none, name := "_law_copy", qual := "_law_copy", st := top 161 },
  { x := "_law_follow", m := none, name := "_law_follow", qual := "_law_follow", st := top 162 },
  { x := "replayed", m := none, name := "replayed", qual := "replayed", st := top 141 },
  { x := "answer_to", m := none, name := "answer_to", qual := "answer_to", st := top 140, lam := true },
  { x := "outcome", m := none, name := "outcome", qual := "outcome", st := top 137 },
  { x := "word_outcome", m := none, name := "word_outcome", qual := "word_outcome", st := top 136 },
  { x := "edited", m := none, name := "edited", qual := "edited", st := top 135 },
  { x := "word_at", m := none, name := "word_at", qual := "word_at", st := top 130 },
  { x := "is_whole", m := none, name := "is_whole", qual := "is_whole", st := top 118 },
  { x := "put_words", m := none, name := "put_words", qual := "put_words", st := top 131 },
  { x := "image", m := none, name := "image", qual := "image", st := top 92 },
  { x := "placed", m := none, name := "placed", qual := "placed", st := top 128 },
  { x := "tells", m := none, name := "tells", qual := "tells", st := top 42 },
  { x := "columns", m := none, name := "columns", qual := "columns", st := top 34 },
  { x := "need_space", m := none, name := "need_space", qual := "need_space", st := top 127 },
  { x := "is_full", m := none, name := "is_full", qual := "is_full", st := top 122 },
  { x := "is_word_of", m := none, name := "is_word_of", qual := "is_word_of", st := top 121 },
  { x := "is_word", m := none, name := "is_word", qual := "is_word", st := top 120 },
  { x := "is_of", m := none, name := "is_of", qual := "is_of", st := top 54 },
  { x := "_law_is_added", m := none, name := "_law_is_added", qual := "_law_is_added", st := top 164 }]
def methsL : List FnE := [
  { x := "Play", m := some "__init__", name := "__init__", qual := "Play.__init__", st := meth 139 0 },
  { x := "Play", m := some "plan_now", name := "plan_now", qual := "Play.plan_now", st := meth 139 1 },
  { x := "Play", m := some "play", name := "play", qual := "Play.play", st := meth 139 4 },
  { x := "Walker", m := some "__init__", name := "__init__", qual := "Walker.__init__", st := meth 91 0 },
  { x := "Walker", m := some "after", name := "after", qual := "Walker.after", st := meth 91 2 },
  { x := "Walker", m := some "last", name := "last", qual := "Walker.last", st := meth 91 3 },
  { x := "Reader", m := some "__init__", name := "__init__", qual := "Reader.__init__", st := meth 41 0 },
  { x := "Reader", m := some "after", name := "after", qual := "Reader.after", st := meth 41 1 },
  { x := "Walker", m := some "start", name := "start", qual := "Walker.start", st := meth 91 1 },
  { x := "Reader", m := some "mark_of", name := "mark_of", qual := "Reader.mark_of", st := meth 41 2 }]
def pf : PF where
  fns := fnsL
  meths := methsL
  clss := ["Play", "Walker", "Reader"]
  flds := [("Play", "begun"), ("Play", "standing"), ("Play", "undone"), ("Walker", "line"), ("Reader", "rows"), ("Reader", "verdicts"), ("Reader", "spots")]
  cints := [("MAX_WORDS", 60), ("MAX_LONG", 200)]
  cstrs := [("END", [46]), ("LETTERS_comps", [97, 98, 99]), ("LETTERS_texts", [97, 98, 99]), ("LETTERS_machines", [97, 98, 99])]
  thks := [("outcome", "word_outcome")]
/- names: 166 statements; law at 165 -/
def loose0 : List Str := ["_wall", "MAX_LETTERS", "MAX_ROWS", "MAX_STATES", "MAX_COUNT", "MAX_CUT", "MAX_PASS", "MAX_PAIRS", "MAX_PIECE", "MAX_LINE", "MAX_STANDS", "MAX_ASKED", "MAX_DEPTH", "MAX_ROOM", "MAX_WORDS", "MAX_LONG", "__name__", "ShelfError", "BadWord", "BadQuery"]
def loose1 : List Str := ["BadLine", "BadComp", "BadRoom", "Outside", "Crowded", "Full", "Faulty", "NothingToUndo", "NothingToRedo", "NoWord", "LETTERS_comps", "END", "is_integer", "columns", "is_row", "is_row_comps", "are_rows", "are_rows_comps", "are_verdicts", "comp_error"]
def loose2 : List Str := ["Reader", "tells", "LETTERS_machines", "is_number", "is_number_machines", "is_row_machines", "are_rows_machines", "are_ends", "machine_error", "moves_of", "is_of", "next_of", "ENDED_orders", "Walk", "self_walk", "turn_walk", "chain_walk", "is_no_self", "is_no_turn", "is_no_chain"]
def loose3 : List Str := ["self_fault", "turn_fault", "chain_fault", "first_fault", "LETTERS_steps", "ENDED_steps", "is_number_steps", "is_text_of", "is_letter", "is_unit", "is_cut", "is_stop", "are_turns", "is_pass", "is_pair", "is_swap", "is_step", "line_error", "exchanged", "begun"]
def loose4 : List Str := ["cut_after", "swap_after", "step_after", "step_last", "Walker", "image", "CLOSED", "Track", "Beside", "VERDICTS", "MOST_PIECE", "MOST_WITHIN", "is_kind", "is_plain", "within_of", "is_query", "query_error", "Has", "Only", "Of"]
def loose5 : List Str := ["Seen", "Joined", "asker_of", "answers", "worth", "LETTERS_texts", "is_whole", "is_room", "is_word", "is_word_of", "is_full", "comp_fault", "need_query", "need_order", "need_space", "placed", "sorted_by", "word_at", "put_words", "weeded"]
def loose6 : List Str := ["line_of", "room_of", "edited", "word_outcome", "outcome", "Play", "answer_to", "replayed", "how_often", "joined", "fewest_runs", "_law_hand", "_law_draw", "_law_one", "_law_text", "_law_pool", "_law_ahead", "_law_unlike", "_law_in_order", "_law_joined"]
def loose7 : List Str := ["_law_apart", "_law_changed", "_law_some", "_law_turned", "_law_is_joined", "_law_table", "_law_copy", "_law_follow", "_law_shelves", "_law_is_added"]
def loose : List Str := loose0 ++ loose1 ++ loose2 ++ loose3 ++ loose4 ++ loose5 ++ loose6 ++ loose7
def lawAt : Nat := 165
end K90
namespace K90
open PySem PySem.W PySem.Calls PySem.Spec PyProof.Rows L2 Rf
abbrev R : PySem.W.OpenRow := PySem.W.OpenLaw.row PySem.Challenge.rw_sortedshelves_k90_whole_copies_joined
abbrev hk : PySem.W.Hook := hookR pf
abbrev qv : Program := PySem.W.view R.prog [165]
def ob (s : PySem.W.SharedT) : AlR := obsR pf (HandSHeadRun.getT s)
theorem ob_eq (s : PySem.W.SharedT) : ob s = hk.obs s.abs := obsR_eq (HandSHeadRun.getT_eq s)
theorem text_ok : textC pf = true := by decide +kernel
abbrev top_ (w : World) (os : OsState) : Option PySem.W.SharedT := HandSHeadRun.endF (HandSHeadRun.stepQ (HandSHeadRun.denQ HandSHeadRun.tabQ) R.prog w) 20000 R.prog w os
def EqA (w : World) : Prop := ∀ os, (top_ w os).map (fun s => HandSHeadRun.looksF R.prog (boot_heap w.params) s.abs) = some true
def EqB (w : World) : Prop := ∀ os, (top_ w os).map (fun s => HandSHeadRun.seenQ qv loose (importedModules R.prog.main.body) (fun s => PySem.W.xlAt qv [] s && PySem.W.recOk R.toRowW.records s) s.abs) = some (PySem.W.openGood qv loose)
def EqC (w : World) : Prop := ∀ os, (top_ w os).map ob = some (hk.val w)
theorem a_f (w : World) : EqA (w.withFollow "special-get-raises" false) := by intro os; kernel_rfl
theorem a_t (w : World) : EqA (w.withFollow "special-get-raises" true) := by intro os; kernel_rfl
theorem b_f (w : World) : EqB (w.withFollow "special-get-raises" false) := by intro os; kernel_rfl
theorem b_t (w : World) : EqB (w.withFollow "special-get-raises" true) := by intro os; kernel_rfl
theorem c_f (w : World) : EqC (w.withFollow "special-get-raises" false) := by intro os; kernel_rfl
theorem c_t (w : World) : EqC (w.withFollow "special-get-raises" true) := by intro os; kernel_rfl
theorem join3 {σ α β γ : Type} {o : Option σ} {f : σ → α} {g : σ → β} {h : σ → γ} {a : α} {b : β} {c : γ} (A : o.map f = some a) (B : o.map g = some b) (C : o.map h = some c) : o.map (fun s => (f s, g s, h s)) = some (a, b, c) := by
  cases o with
  | none => cases A
  | some s => cases A; cases B; cases C; rfl
theorem run (w : World) : HandSHeadRun.RunEq R qv hk ob 20000 loose w := fun os =>
  join3 (PySem.W.byRow2 "special-get-raises" (P := EqA) a_f a_t w os) (PySem.W.byRow2 "special-get-raises" (P := EqB) b_f b_t w os) (PySem.W.byRow2 "special-get-raises" (P := EqC) c_f c_t w os)
end K90
/-! Plain reckoning in the evaluator. -/
namespace Rf
open PySem

theorem then_congr {o o' : Option SO} {f : Env → Store → Option SO} (h : o = o') : SO.then o f = SO.then o' f := by rw [h]
theorem bind_congr {α β : Type} {o o' : RM α} {f : α → Store → RM β} (h : o = o') : RM.bind o f = RM.bind o' f := by rw [h]
theorem toS_congr {α : Type} {o o' : RM α} {ρ : Env} {f : α → Store → Option SO} (h : o = o') : RM.toS o ρ f = RM.toS o' ρ f := by rw [h]
theorem for_congr {same : Store → Bool} {tk : D → Env → Option Env} {body : Env → Store → Option SO} {ds ds' : List D} {ρ : Env} {S : Store} (h : ds = ds') : forRun same tk body ds ρ S = forRun same tk body ds' ρ S := by rw [h]
theorem comp_congr {same : Store → Bool} {f : D → Store → RM (Option D)} {ds ds' acc : List D} {S : Store} (h : ds = ds') : compRun same f ds acc S = compRun same f ds' acc S := by rw [h]
theorem getElem?_app (S : Store) (X : List Cell) (k : Nat) : (S ++ X)[S.length + k]? = X[k]? := by
  rw [List.getElem?_append_right (by omega)]
  congr 1
  omega
theorem getElem?_app0 (S : Store) (X : List Cell) : (S ++ X)[S.length]? = X[0]? := getElem?_app S X 0
theorem set_app (S : Store) (X : List Cell) (k : Nat) (c : Cell) : (S ++ X).set (S.length + k) c = S ++ X.set k c := by
  rw [List.set_append_right _ _ (by omega)]
  congr 2
  omega
theorem set_app0 (S : Store) (X : List Cell) (c : Cell) : (S ++ X).set S.length c = S ++ X.set 0 c := set_app S X 0 c
theorem trunc_app {S X : Store} {d : D} (h : below S.length d = true) : trunc S d (S ++ X) = S := by
  unfold trunc
  rw [if_pos ⟨h, by simp⟩]
theorem trunc_same {S : Store} {d : D} : trunc S d S = S := by
  unfold trunc
  split <;> rfl
theorem trunc_keep {S S' : Store} {d : D} (h : below S.length d = false) : trunc S d S' = S' := by
  unfold trunc
  rw [if_neg (by simp [h])]
theorem trunc_ne {S S' : Store} {d : D} (h : S'.take S.length ≠ S) : trunc S d S' = S' := by
  unfold trunc
  rw [if_neg (fun z => h z.2)]
theorem belows_map_str (k : Nat) : ∀ ws : List (List Nat), belows k (ws.map D.str) = true
  | [] => rfl
  | w :: ws => by simp only [List.map_cons, belows, below, belows_map_str k ws, Bool.and_self]
/-- behind the body -/
def fin (S : Store) (o : Option SO) : RM D := match o with
  | some (.rt d S') => some (.ok d (trunc S d S'))
  | some (.nx _ S') => some (.ok .non (trunc S .non S'))
  | some (.exc _ c fs S') => some (.exc c fs S')
  | _ => none
theorem runFn_fin {C : Ctx} {F : Fn} {args : List D} {S : Store} (h : args.length = F.np) : runFn C F args S = fin S (execs C F.body (args.map some ++ List.replicate (F.nslots - F.np) none) S) := by
  unfold runFn fin
  refine (if_pos h).trans ?_
  rfl
section
variable {P : Prog} {m : Nat} {x c f : Str} {F : Fn} {args : List D} {S : Store}
theorem call_fn (hm : 1 ≤ m) (h1 : P.clss x = false) (h2 : P.fns x = some (.code F)) (h : args.length = F.np) : (ctx P m).call x args S = fin S (execs (ctx P (m - 1)) F.body (args.map some ++ List.replicate (F.nslots - F.np) none) S) := by
  obtain ⟨m, rfl⟩ : ∃ k, m = k + 1 := ⟨m - 1, by omega⟩
  simp only [ctx, h1, h2, runFun]
  exact runFn_fin h
theorem call_meth (hm : 1 ≤ m) (h2 : P.meths c f = some (.code F)) (h : args.length = F.np) : (ctx P m).meth c f args S = fin S (execs (ctx P (m - 1)) F.body (args.map some ++ List.replicate (F.nslots - F.np) none) S) := by
  obtain ⟨m, rfl⟩ : ∃ k, m = k + 1 := ⟨m - 1, by omega⟩
  simp only [ctx, h2, runFun]
  exact runFn_fin h
theorem call_cls (hm : 1 ≤ m) (h1 : P.clss x = true) (h2 : P.meths x "__init__" = some (.code F)) (h : args.length + 1 = F.np) :
    (ctx P m).call x args S = RM.bind (fin (S ++ [.ins x []]) (execs (ctx P (m - 1)) F.body ((.ref S.length :: args).map some ++ List.replicate (F.nslots - F.np) none) (S ++ [.ins x []]))) fun d S1 => if d = .non then some (.ok (.ref S.length) S1) else none := by
  obtain ⟨m, rfl⟩ : ∃ k, m = k + 1 := ⟨m - 1, by omega⟩
  simp only [ctx, h1, h2, runFun]
  rw [runFn_fin (by simpa using h)]
  rfl
theorem ctx_glob : (ctx P m).glob = P.glob := by cases m <;> rfl
theorem ctx_fld : (ctx P m).fld = P.flds := by cases m <;> rfl
theorem ctx_thk : (ctx P m).thk = P.thk := by cases m <;> rfl
end
@[simp] theorem fin_rt (S : Store) (d : D) (S' : Store) : fin S (some (.rt d S')) = some (.ok d (trunc S d S')) := rfl
@[simp] theorem fin_nx (S : Store) (ρ : Env) (S' : Store) : fin S (some (.nx ρ S')) = some (.ok .non (trunc S .non S')) := rfl
/-! ### loops -/
section
variable {same : Store → Bool} {tk : D → Env → Option Env} {body : Env → Store → Option SO}
theorem forRun_inv {ds : List D} (I : Nat → Env → Store → Prop) (hI : ∀ i ρ S, i ≤ ds.length → I i ρ S → same S = true)
    (step : ∀ i d ρ S, ds[i]? = some d → I i ρ S → ∃ ρ1 ρ2 S2, tk d ρ = some ρ1 ∧ body ρ1 S = some (.nx ρ2 S2) ∧ I (i + 1) ρ2 S2) {ρ : Env} {S : Store} (h0 : I 0 ρ S) :
    ∃ ρ' S', forRun same tk body ds ρ S = some (.nx ρ' S') ∧ I ds.length ρ' S' := by
  have key : ∀ (l : List D) (i : Nat) ρ S, i + l.length = ds.length → (∀ j, l[j]? = ds[i + j]?) → I i ρ S → ∃ ρ' S', forRun same tk body l ρ S = some (.nx ρ' S') ∧ I ds.length ρ' S' := by
    intro l
    induction l with
    | nil =>
      intro i ρ S hl _ h
      refine ⟨ρ, S, ?_, by rw [← hl]; exact h⟩
      unfold forRun
      rw [if_pos (hI i ρ S (by simp at hl; omega) h)]
    | cons d l ih =>
      intro i ρ S hl hj h
      obtain ⟨ρ1, ρ2, S2, e1, e2, h2⟩ := step i d ρ S (by have := hj 0; simpa using this.symm) h
      unfold forRun
      rw [if_pos (hI i ρ S (by simp at hl; omega) h), e1]
      simp only [e2]
      refine ih (i + 1) ρ2 S2 (by simp at hl; omega) (fun j => ?_) h2
      have := hj (j + 1)
      rw [List.getElem?_cons_succ] at this
      rw [this]
      congr 1
      omega
  exact key ds 0 ρ S (by simp) (fun j => by simp) h0
end
section
variable {same : Store → Bool} {f : D → Store → RM (Option D)}
theorem compRun_map {g : D → D} {S : Store} (hs : same S = true) : ∀ {ds acc : List D}, (∀ d ∈ ds, f d S = some (.ok (some (g d)) S)) → acc.length + ds.length ≤ line → compRun same f ds acc S = some (.ok (acc ++ ds.map g) S)
  | [], acc, _, _ => by
    unfold compRun
    rw [if_pos hs]
    simp
  | d :: ds, acc, h, hl => by
    unfold compRun
    rw [if_pos hs, h d List.mem_cons_self]
    simp only [RM.bind_ok, List.length_cons] at hl ⊢
    rw [if_pos (by omega), compRun_map hs (fun x hx => h x (List.mem_cons_of_mem _ hx)) (by simp; omega)]
    simp
theorem compRun_filter {g : D → D} {p : D → Bool} {S : Store} (hs : same S = true) : ∀ {ds acc : List D}, (∀ d ∈ ds, f d S = some (.ok (if p d then some (g d) else none) S)) → acc.length + ds.length ≤ line →
    compRun same f ds acc S = some (.ok (acc ++ (ds.filter p).map g) S)
  | [], acc, _, _ => by
    unfold compRun
    rw [if_pos hs]
    simp
  | d :: ds, acc, h, hl => by
    unfold compRun
    rw [if_pos hs, h d List.mem_cons_self]
    simp only [RM.bind_ok, List.length_cons] at hl ⊢
    cases hp : p d with
    | true =>
      simp only [if_true]
      rw [if_pos (by omega), compRun_filter hs (fun x hx => h x (List.mem_cons_of_mem _ hx)) (by simp; omega)]
      simp [hp]
    | false =>
      simp only [Bool.false_eq_true, if_false]
      rw [compRun_filter hs (fun x hx => h x (List.mem_cons_of_mem _ hx)) (by omega)]
      simp [hp]
theorem compRun_inv {ds : List D} (I : Nat → List D → Store → Prop) (hI : ∀ i acc S, i ≤ ds.length → I i acc S → same S = true)
    (step : ∀ i d acc S, ds[i]? = some d → I i acc S → ∃ x S2, f d S = some (.ok (some x) S2) ∧ acc.length < line ∧ I (i + 1) (acc ++ [x]) S2) {S : Store} (h0 : I 0 [] S) :
    ∃ acc S', compRun same f ds [] S = some (.ok acc S') ∧ I ds.length acc S' := by
  have key : ∀ (l : List D) (i : Nat) acc S, i + l.length = ds.length → (∀ j, l[j]? = ds[i + j]?) → I i acc S → ∃ acc' S', compRun same f l acc S = some (.ok acc' S') ∧ I ds.length acc' S' := by
    intro l
    induction l with
    | nil =>
      intro i acc S hl _ h
      refine ⟨acc, S, ?_, by rw [← hl]; exact h⟩
      unfold compRun
      rw [if_pos (hI i acc S (by simp at hl; omega) h)]
    | cons d l ih =>
      intro i acc S hl hj h
      obtain ⟨x, S2, e1, e2, h2⟩ := step i d acc S (by have := hj 0; simpa using this.symm) h
      unfold compRun
      rw [if_pos (hI i acc S (by simp at hl; omega) h), e1]
      simp only [RM.bind_ok]
      rw [if_pos e2]
      refine ih (i + 1) (acc ++ [x]) S2 (by simp at hl; omega) (fun j => ?_) h2
      have := hj (j + 1)
      rw [List.getElem?_cons_succ] at this
      rw [this]
      congr 1
      omega
  exact key ds 0 [] S (by simp) (fun j => by simp) h0
end
end Rf
/-! Words in their order; rows of words by how often each stands. -/
namespace Wd
abbrev Word := List Nat
def lt (a b : Word) : Bool := if a.length = b.length then decide (a < b) else decide (a.length < b.length)
theorem lt_irrefl (a : Word) : lt a a = false := by
  unfold lt
  rw [if_pos rfl]
  simp [List.lt_irrefl]
theorem lt_trans {a b c : Word} (h1 : lt a b = true) (h2 : lt b c = true) : lt a c = true := by
  unfold lt at *
  split at h1 <;> split at h2 <;> simp only [decide_eq_true_eq] at h1 h2
  · rw [if_pos (by omega)]
    exact decide_eq_true (List.lt_trans h1 h2)
  all_goals
    rw [if_neg (by omega)]
    exact decide_eq_true (by omega)
theorem lt_asymm {a b : Word} (h1 : lt a b = true) (h2 : lt b a = true) : False := by
  have := lt_trans h1 h2
  rw [lt_irrefl] at this
  cases this
theorem lt_total {a b : Word} (h : a ≠ b) : lt a b = true ∨ lt b a = true := by
  unfold lt
  by_cases e : a.length = b.length
  · rw [if_pos e, if_pos e.symm]
    simp only [decide_eq_true_eq]
    rcases Std.le_total (a := a) (b := b) with z | z
    · by_cases l : a < b
      · exact .inl l
      · exact absurd (List.le_antisymm z (List.not_lt.mp l)) h
    · by_cases l : b < a
      · exact .inr l
      · exact absurd (List.le_antisymm (List.not_lt.mp l) z) h
  · rw [if_neg e, if_neg (fun z => e z.symm)]
    simp only [decide_eq_true_eq]
    omega
/-- a stands ahead of b or is b -/
def le (a b : Word) : Bool := !lt b a
theorem le_iff {a b : Word} : le a b = true ↔ lt a b = true ∨ a = b := by
  unfold le
  by_cases h : a = b
  · subst h; simp [lt_irrefl]
  · rcases lt_total h with z | z
    · have : lt b a = false := by
        cases e : lt b a with
        | false => rfl
        | true => exact (lt_asymm z e).elim
      simp [this, z]
    · have : lt a b = false := by
        cases e : lt a b with
        | false => rfl
        | true => exact (lt_asymm z e).elim
      simp [this, z, h]
theorem le_refl (a : Word) : le a a = true := le_iff.mpr (.inr rfl)
theorem le_trans {a b c : Word} (h1 : le a b = true) (h2 : le b c = true) : le a c = true := by
  rw [le_iff] at *
  rcases h1 with h1 | rfl
  · rcases h2 with h2 | rfl
    · exact .inl (lt_trans h1 h2)
    · exact .inl h1
  · exact h2
theorem le_antisymm {a b : Word} (h1 : le a b = true) (h2 : le b a = true) : a = b := by
  rw [le_iff] at *
  rcases h1 with h1 | h1
  · rcases h2 with h2 | h2
    · exact (lt_asymm h1 h2).elim
    · exact h2.symm
  · exact h1
/-- in their order, alike ones beside one another -/
def Sorted (l : List Word) : Prop := l.Pairwise fun a b => le a b = true
theorem sorted_eq : ∀ {l m : List Word}, Sorted l → Sorted m → (∀ w, l.count w = m.count w) → l = m
  | [], [], _, _, _ => rfl
  | [], b :: m, _, _, h => by have := h b; simp at this
  | a :: l, [], _, _, h => by have := h a; simp at this
  | a :: l, b :: m, h1, h2, h => by
    have hp : (a :: l).Perm (b :: m) := List.perm_iff_count.mpr h
    have ma : a ∈ b :: m := hp.mem_iff.mp List.mem_cons_self
    have mb : b ∈ a :: l := hp.mem_iff.mpr List.mem_cons_self
    have e : a = b := by
      rcases List.mem_cons.mp ma with z | z
      · exact z
      · rcases List.mem_cons.mp mb with y | y
        · exact y.symm
        · exact le_antisymm ((List.pairwise_cons.mp h1).1 b y) ((List.pairwise_cons.mp h2).1 a z)
    subst e
    rw [sorted_eq (List.pairwise_cons.mp h1).2 (List.pairwise_cons.mp h2).2 fun w => ?_]
    have := h w
    rw [List.count_cons, List.count_cons] at this
    omega
/-! ### what is ahead, then what is not -/
theorem filter_split {p : Word → Bool} : ∀ {l : List Word}, (∀ a b, [a, b].Sublist l → p b = true → p a = true) → l = l.filter p ++ l.filter (fun x => !p x)
  | [], _ => rfl
  | a :: l, h => by
    have ih := filter_split (p := p) (l := l) fun x y s => h x y (s.trans (List.sublist_cons_self a l))
    cases ha : p a with
    | true =>
      rw [List.filter_cons_of_pos ha, List.filter_cons_of_neg (by simp [ha]), List.cons_append, ← ih]
    | false =>
      have hn : ∀ b ∈ l, p b = false := fun b hb => by
        cases e : p b with
        | false => rfl
        | true =>
          have := h a b ((List.singleton_sublist.mpr hb).cons₂ a) e
          rw [ha] at this; cases this
      rw [List.filter_cons_of_neg (by simp [ha]), List.filter_cons_of_pos (by simp [ha])]
      rw [List.filter_eq_nil_iff.mpr (fun b hb => by simp [hn b hb])]
      rw [List.filter_eq_self.mpr (fun b hb => by simp [hn b hb])]
      rfl
theorem take_filter {p : Word → Bool} {l : List Word} (h : ∀ a b, [a, b].Sublist l → p b = true → p a = true) : l.take (l.filter p).length = l.filter p ∧ l.drop (l.filter p).length = l.filter fun x => !p x := by
  have e := filter_split h
  constructor
  · conv => lhs; rw [e]
    rw [List.filter_append, List.filter_filter, List.filter_filter]
    simp
  · conv => lhs; rw [e]
    rw [List.filter_append, List.filter_filter, List.filter_filter]
    simp
theorem pair_of {l : List Word} {r : Word → Word → Prop} (h : l.Pairwise r) {a b : Word} (s : [a, b].Sublist l) : r a b := by
  have := h.sublist s
  simpa using this
/-- a word is put where it belongs: behind all that are ahead of it or like it -/
def ins (w : Word) (l : List Word) : List Word := l.take (l.filter fun x => le x w).length ++ [w] ++ l.drop (l.filter fun x => le x w).length
theorem ins_sorted {w : Word} {l : List Word} (h : Sorted l) : Sorted (ins w l) ∧ ∀ v, (ins w l).count v = l.count v + if v = w then 1 else 0 := by
  have cl : ∀ a b, [a, b].Sublist l → le b w = true → le a w = true := fun a b s q => le_trans (pair_of h s) q
  obtain ⟨t, d⟩ := take_filter (p := fun x => le x w) cl
  unfold ins
  rw [t, d]
  refine ⟨?_, fun v => ?_⟩
  · refine List.pairwise_append.mpr ⟨List.pairwise_append.mpr ⟨h.sublist List.filter_sublist, List.pairwise_singleton _ _, fun a ha b hb => ?_⟩, h.sublist List.filter_sublist, fun a ha b hb => ?_⟩
    · rw [List.mem_singleton.mp hb]
      exact (List.mem_filter.mp ha).2
    · have hb' : lt w b = true := by
        have := (List.mem_filter.mp hb).2
        simpa [le] using this
      have hwb : le w b = true := le_iff.mpr (.inl hb')
      rcases List.mem_append.mp ha with z | z
      · exact le_trans (List.mem_filter.mp z).2 hwb
      · rw [List.mem_singleton.mp z]; exact hwb
  · have e := filter_split cl
    have : l.count v = (l.filter fun x => le x w).count v + (l.filter fun x => !le x w).count v := by
      conv => lhs; rw [e]
      rw [List.count_append]
    rw [List.count_append, List.count_append, this, List.count_singleton]
    by_cases hv : v = w
    · subst hv; simp; omega
    · have : (w == v) = false := by simpa using fun z => hv z.symm
      simp [hv, this]
/-- each once -/
def Uni (l : List Word) : Prop := l.Pairwise fun a b => lt a b = true
theorem Uni.sorted {l : List Word} (h : Uni l) : Sorted l := h.imp fun q => le_iff.mpr (.inl q)
theorem Uni.nodup {l : List Word} (h : Uni l) : l.Nodup := h.imp fun {a b} q e => by subst e; rw [lt_irrefl] at q; cases q
def insU (w : Word) (l : List Word) : List Word := l.take (l.filter fun x => lt x w).length ++ [w] ++ l.drop (l.filter fun x => lt x w).length
theorem insU_ok {w : Word} {l : List Word} (h : Uni l) (hw : w ∉ l) : Uni (insU w l) ∧ ∀ v, v ∈ insU w l ↔ v ∈ l ∨ v = w := by
  have cl : ∀ a b, [a, b].Sublist l → lt b w = true → lt a w = true := fun a b s q => lt_trans (pair_of h s) q
  obtain ⟨t, d⟩ := take_filter (p := fun x => lt x w) cl
  unfold insU
  rw [t, d]
  refine ⟨?_, fun v => ?_⟩
  · have q2 : ∀ b ∈ l.filter (fun x => !lt x w), lt w b = true := fun b hb => by
      obtain ⟨hb1, hb2⟩ := List.mem_filter.mp hb
      rcases lt_total (show w ≠ b from fun z => hw (z ▸ hb1)) with z | z
      · exact z
      · rw [z] at hb2; cases hb2
    refine List.pairwise_append.mpr ⟨List.pairwise_append.mpr ⟨h.sublist List.filter_sublist, List.pairwise_singleton _ _, fun a ha b hb => ?_⟩, h.sublist List.filter_sublist, fun a ha b hb => ?_⟩
    · rw [List.mem_singleton.mp hb]
      exact (List.mem_filter.mp ha).2
    · rcases List.mem_append.mp ha with z | z
      · exact lt_trans (List.mem_filter.mp z).2 (q2 b hb)
      · rw [List.mem_singleton.mp z]; exact q2 b hb
  · have e := filter_split cl
    have : v ∈ l ↔ v ∈ (l.filter fun x => lt x w) ∨ v ∈ (l.filter fun x => !lt x w) := by
      conv => lhs; rw [e]
      exact List.mem_append
    rw [List.mem_append, List.mem_append, this, List.mem_singleton]
    constructor
    · rintro ((h | h) | h)
      · exact .inl (.inl h)
      · exact .inr h
      · exact .inl (.inr h)
    · rintro ((h | h) | h)
      · exact .inl (.inl h)
      · exact .inr h
      · exact .inl (.inr h)
/-- the words of a row, each once, in their order -/
def unl : List Word → List Word → List Word
  | acc, [] => acc
  | acc, w :: ws => unl (if w ∈ acc then acc else insU w acc) ws
theorem unl_ok : ∀ (ws : List Word) {acc : List Word}, Uni acc → Uni (unl acc ws) ∧ ∀ v, v ∈ unl acc ws ↔ v ∈ acc ∨ v ∈ ws
  | [], acc, h => ⟨h, fun v => by simp [unl]⟩
  | w :: ws, acc, h => by
    unfold unl
    by_cases hw : w ∈ acc
    · rw [if_pos hw]
      obtain ⟨a, b⟩ := unl_ok ws h
      refine ⟨a, fun v => ?_⟩
      rw [b, List.mem_cons]
      constructor
      · rintro (h | h)
        · exact .inl h
        · exact .inr (.inr h)
      · rintro (h | rfl | h)
        · exact .inl h
        · exact .inl hw
        · exact .inr h
    · rw [if_neg hw]
      obtain ⟨u1, u2⟩ := insU_ok h hw
      obtain ⟨a, b⟩ := unl_ok ws u1
      refine ⟨a, fun v => ?_⟩
      rw [b, u2, List.mem_cons]
      constructor
      · rintro ((h | h) | h)
        · exact .inl h
        · exact .inr (.inl h)
        · exact .inr (.inr h)
      · rintro (h | h | h)
        · exact .inl (.inl h)
        · exact .inl (.inr h)
        · exact .inr h
/-- each word of a row as often as told -/
def laid (f : Word → Nat) (l : List Word) : List Word := l.flatMap fun w => List.replicate (f w) w
theorem laid_count (f : Word → Nat) : ∀ {l : List Word}, l.Nodup → ∀ v, (laid f l).count v = if v ∈ l then f v else 0
  | [], _, v => by simp [laid]
  | w :: l, h, v => by
    obtain ⟨h1, h2⟩ := List.nodup_cons.mp h
    unfold laid
    rw [List.flatMap_cons, List.count_append, List.count_replicate]
    have := laid_count f h2 v
    unfold laid at this
    rw [this]
    by_cases e : w = v
    · subst e; simp [h1]
    · have e2 : (w == v) = false := by simpa using e
      have e3 : ¬ v = w := fun z => e z.symm
      simp [e2, e3]
theorem laid_sorted (f : Word → Nat) : ∀ {l : List Word}, Uni l → Sorted (laid f l)
  | [], _ => List.Pairwise.nil
  | w :: l, h => by
    obtain ⟨h1, h2⟩ := List.pairwise_cons.mp h
    unfold laid
    rw [List.flatMap_cons]
    refine List.pairwise_append.mpr ⟨?_, laid_sorted f h2, fun a ha b hb => ?_⟩
    · exact List.pairwise_replicate.mpr (.inr (le_refl w))
    · rw [List.eq_of_mem_replicate ha]
      obtain ⟨c, hc, hb⟩ := List.mem_flatMap.mp hb
      rw [List.eq_of_mem_replicate hb]
      exact le_iff.mpr (.inl (h1 c hc))
/-- the row in order that has each word so often -/
def Row (f : Word → Nat) (l : List Word) : Prop := Sorted l ∧ ∀ v, l.count v = f v
theorem Row.eq {f g : Word → Nat} {l m : List Word} (h1 : Row f l) (h2 : Row g m) (e : ∀ v, f v = g v) : l = m := sorted_eq h1.1 h2.1 fun w => by rw [h1.2, h2.2, e]
theorem laid_row {f : Word → Nat} {l : List Word} (h : Uni l) (hf : ∀ v, f v ≠ 0 → v ∈ l) : Row f (laid f l) := ⟨laid_sorted f h, fun v => by
  rw [laid_count f h.nodup]
  by_cases hv : v ∈ l
  · rw [if_pos hv]
  · rw [if_neg hv]
    by_cases e : f v = 0
    · exact e.symm
    · exact absurd (hf v e) hv⟩
end Wd
/-! Steps of the evaluator, one construct each. -/
namespace Rs
open Rf
open PySem
section
variable {S : Store} {h : Nat} {ds es xs : List D} {d x y k : D} {i j : Int} {b : Bool} {z w : List Nat} {kvs : List (D × D)} {c : Str} {fs : List (Str × D)} {m : Str}
theorem le_line {n : Nat} (h : n ≤ 16777216) : n ≤ line := h
theorem lt_line {n : Nat} (h : n < 16777216) : n < line := h
@[simp] theorem truthD_bl : truthD S (.bl b) = some b := rfl
@[simp] theorem truthD_tup : truthD S (.tup ds) = some !ds.isEmpty := rfl
@[simp] theorem truthD_lst : truthD S (.lst ds) = some !ds.isEmpty := rfl
@[simp] theorem frozen_str : frozen S (.str z) = .str z := rfl
@[simp] theorem frozen_tup : frozen S (.tup ds) = .tup ds := rfl
@[simp] theorem frozen_lst : frozen S (.lst ds) = .lst ds := rfl
@[simp] theorem frozen_int : frozen S (.int i) = .int i := rfl
@[simp] theorem frozen_bl : frozen S (.bl b) = .bl b := rfl
@[simp] theorem frozen_non : frozen S .non = .non := rfl
@[simp] theorem frozen_ref (e : S[h]? = some (.lst ds)) : frozen S (.ref h) = .lst ds := by simp only [frozen, e]
@[simp] theorem frozen_dct (e : S[h]? = some (.dct kvs)) : frozen S (.ref h) = .ref h := by simp only [frozen, e]
@[simp] theorem frozen_ins (e : S[h]? = some (.ins c fs)) : frozen S (.ref h) = .ref h := by simp only [frozen, e]
@[simp] theorem lenD_str (l : z.length ≤ line) : lenD S [.str z] = some (.int z.length) := by simp only [lenD, frozen_str, if_pos l]
@[simp] theorem lenD_tup : lenD S [.tup ds] = some (.int ds.length) := rfl
@[simp] theorem lenD_lst : lenD S [.lst ds] = some (.int ds.length) := rfl
@[simp] theorem lenD_ref (e : S[h]? = some (.lst ds)) : lenD S [.ref h] = some (.int ds.length) := by simp only [lenD, frozen_ref e]
@[simp] theorem lenD_dct (e : S[h]? = some (.dct kvs)) : lenD S [.ref h] = some (.int kvs.length) := by simp only [lenD, frozen_dct e, e]
@[simp] theorem cmp_int_eq : cmpD S .Eq (.int i) (.int j) = some (decide (i = j)) := by
  simp [cmpD, eqO, eqD, pyOf, depthD, PyData.eqv]
  rfl
@[simp] theorem cmp_int_ne : cmpD S .NotEq (.int i) (.int j) = some (!decide (i = j)) := by
  simp [cmpD, eqO, eqD, pyOf, depthD, PyData.eqv]
  rfl
theorem eq_str (a b : List Nat) : eqD (.str a) (.str b) = some (decide (a = b)) := by
  simp only [eqD, pyOf, PySem.PyData.eqv, Option.bind_some, Option.map_some, Option.some.injEq]
  by_cases h : a = b
  · subst h; simp
  · have : ¬ (({ cps := a.toArray } : Str) = { cps := b.toArray }) := fun z => h (by injection z with z; simpa using z)
    simp [h, this]
@[simp] theorem cmp_str_eq : cmpD S .Eq (.str z) (.str w) = some (decide (z = w)) := by
  simp only [cmpD, eqO, frozen_str, depthD, eq_str, Nat.zero_le, and_self, if_true]
@[simp] theorem cmp_str_ne : cmpD S .NotEq (.str z) (.str w) = some (!decide (z = w)) := by
  simp only [cmpD, eqO, frozen_str, depthD, eq_str, Nat.zero_le, and_self, if_true, Option.map_some]
@[simp] theorem cmp_int_lt : cmpD S .Lt (.int i) (.int j) = some (decide (i < j)) := rfl
@[simp] theorem cmp_int_le : cmpD S .LtE (.int i) (.int j) = some (decide (i ≤ j)) := rfl
@[simp] theorem cmp_int_gt : cmpD S .Gt (.int i) (.int j) = some (decide (j < i)) := rfl
@[simp] theorem cmp_int_ge : cmpD S .GtE (.int i) (.int j) = some (decide (j ≤ i)) := rfl
@[simp] theorem cmp_str_lt : cmpD S .Lt (.str z) (.str w) = some (decide (z < w)) := rfl
@[simp] theorem cmp_is_non : cmpD S .Is x .non = some (decide (x = .non)) := by simp only [cmpD, if_true]
@[simp] theorem cmp_isnot_non : cmpD S .IsNot x .non = some (!decide (x = .non)) := by simp only [cmpD, if_true]
@[simp] theorem mt_append (e : S[h]? = some (.lst ds)) : mtOf S (.ref h) "append" = some .lAppend := by simp only [mtOf, frozen_ref e, if_true]
@[simp] theorem mt_extend (e : S[h]? = some (.lst ds)) : mtOf S (.ref h) "extend" = some .lExtend := by simp only [mtOf, frozen_ref e]; rfl
@[simp] theorem mt_insert (e : S[h]? = some (.lst ds)) : mtOf S (.ref h) "insert" = some .lInsert := by simp only [mtOf, frozen_ref e]; rfl
@[simp] theorem mt_pop (e : S[h]? = some (.lst ds)) : mtOf S (.ref h) "pop" = some .lPop := by simp only [mtOf, frozen_ref e]; rfl
@[simp] theorem mt_index (e : S[h]? = some (.lst ds)) : mtOf S (.ref h) "index" = some .lIndex := by simp only [mtOf, frozen_ref e]; rfl
@[simp] theorem mt_remove (e : S[h]? = some (.lst ds)) : mtOf S (.ref h) "remove" = some .lRemove := by simp only [mtOf, frozen_ref e]; rfl
@[simp] theorem mt_count (e : S[h]? = some (.lst ds)) : mtOf S (.ref h) "count" = some .lCount := by simp only [mtOf, frozen_ref e]; rfl
@[simp] theorem mt_tcount : mtOf S (.tup ds) "count" = some .tCount := rfl
@[simp] theorem mt_join : mtOf S (.str z) "join" = some .sJoin := rfl
@[simp] theorem mt_ljust : mtOf S (.str z) "ljust" = some .sLjust := rfl
@[simp] theorem mt_sindex : mtOf S (.str z) "index" = some .sIndex := rfl
@[simp] theorem mt_get (e : S[h]? = some (.dct kvs)) : mtOf S (.ref h) "get" = some .dGet := by simp only [mtOf, frozen_dct e, e, if_true]
@[simp] theorem cls_lst (e : S[h]? = some (.lst ds)) : clsOf S (.ref h) m = none := by simp only [clsOf, e]
@[simp] theorem cls_dct (e : S[h]? = some (.dct kvs)) : clsOf S (.ref h) m = none := by simp only [clsOf, e]
@[simp] theorem cls_ins (e : S[h]? = some (.ins c fs)) : clsOf S (.ref h) m = if (fs.lookup m).isNone then some c else none := by simp only [clsOf, e]
@[simp] theorem cls_tup : clsOf S (.tup ds) m = none := rfl
@[simp] theorem cls_flst : clsOf S (.lst ds) m = none := rfl
@[simp] theorem cls_str : clsOf S (.str z) m = none := rfl
@[simp] theorem do_append (e : S[h]? = some (.lst ds)) (l : ds.length < line) : mtD S .lAppend (.ref h) [d] = some (.ok .non (S.set h (.lst (ds ++ [d])))) := by
  simp only [mtD, lstSet, e, if_pos l, Option.map_some]
@[simp] theorem do_extend (e : S[h]? = some (.lst ds)) (f : frozen S x = .lst es) (l : ds.length + es.length ≤ line) : mtD S .lExtend (.ref h) [x] = some (.ok .non (S.set h (.lst (ds ++ es)))) := by
  simp only [mtD, lstSet, f, e, if_pos l, Option.map_some]
@[simp] theorem do_insert {n : Nat} (e : S[h]? = some (.lst ds)) (l : ds.length < line) (hn : n < 9223372036854775808) : mtD S .lInsert (.ref h) [.int n, d] = some (.ok .non (S.set h (.lst (ds.take n ++ [d] ++ ds.drop n)))) := by
  simp only [mtD, lstSet, e]
  rw [if_pos ⟨l, by omega, by omega⟩]
  rfl
@[simp] theorem do_count_lst (e : S[h]? = some (.lst ds)) (hd : dataOk x ds = true) : mtD S .lCount (.ref h) [x] = some (.ok (.int (ds.countP (isIt x))) S) := by
  simp only [mtD, lstGet, frozen_ref e, countIn, if_pos hd, Option.map_some]
@[simp] theorem do_count (hd : dataOk x ds = true) : mtD S .tCount (.tup ds) [x] = some (.ok (.int (ds.countP (isIt x))) S) := by
  simp only [mtD, tupGet, countIn, if_pos hd, Option.map_some]
theorem do_get (e : S[h]? = some (.dct kvs)) (hk : keyD k = true) : mtD S .dGet (.ref h) [k, d] = some (.ok ((getK kvs k).getD d) S) := by
  simp only [mtD, e, if_pos hk]
@[simp] theorem walk_tup : walkOf S .seq [.tup ds] = some ds := rfl
@[simp] theorem walk_lst : walkOf S .seq [.lst ds] = some ds := rfl
@[simp] theorem walk_str : walkOf S .seq [.str z] = some (signsOf z) := rfl
@[simp] theorem walk_ref (e : S[h]? = some (.lst ds)) : walkOf S .seq [.ref h] = some ds := by simp only [walkOf, seqOf, e]
@[simp] theorem walk_keys (e : S[h]? = some (.lck kvs)) : walkOf S .keys [.ref h] = some (kvs.map (·.1)) := by simp only [walkOf, e]
theorem walk_range (h1 : -4611686018427387904 ≤ i) (h2 : i < 4611686018427387904) : walkOf S .range [.int i] = some (upTo 0 i.toNat) := by
  simp only [walkOf]
  rw [if_pos ⟨by omega, by omega⟩]
@[simp] theorem real_tup : realK S .seq [.tup ds] = .seq := rfl
@[simp] theorem real_lst : realK S .seq [.lst ds] = .seq := rfl
@[simp] theorem real_str : realK S .seq [.str z] = .seq := rfl
@[simp] theorem real_range : realK S .range es = .range := by unfold realK; split <;> simp_all
@[simp] theorem real_ref (e : S[h]? = some (.lst ds)) : realK S .seq [.ref h] = .seq := by simp only [realK, e]
@[simp] theorem real_dct (e : S[h]? = some (.dct kvs)) : realK S .seq [.ref h] = .keys := by simp only [realK, e]
@[simp] theorem lock_seq : lockS S .seq es = S := by unfold lockS; split <;> simp_all
@[simp] theorem lock_range : lockS S .range es = S := by unfold lockS; split <;> simp_all
@[simp] theorem unlock_seq : unlockS S .seq es = some S := by unfold unlockS; split <;> simp_all
@[simp] theorem unlock_range : unlockS S .range es = some S := by unfold unlockS; split <;> simp_all
@[simp] theorem lock_keys (e : S[h]? = some (.dct kvs)) : lockS S .keys [.ref h] = S.set h (.lck kvs) := by simp only [lockS, e]
@[simp] theorem unlock_keys (e : S[h]? = some (.lck kvs)) : unlockS S .keys [.ref h] = some (S.set h (.dct kvs)) := by simp only [unlockS, e]
@[simp] theorem idx_tup {n : Nat} : idxD S (.tup ds) (.int n) = ds[n]? := by
  simp only [idxD, frozen_tup, Rf.placeOf]
  rw [if_pos (by omega)]
  by_cases l : n < ds.length
  · rw [if_pos (by omega)]; rfl
  · rw [if_neg (by omega), List.getElem?_eq_none (by omega)]; rfl
@[simp] theorem idx_tup0 : idxD S (.tup ds) (.int 0) = ds[0]? := idx_tup (n := 0)
@[simp] theorem idx_tup1 : idxD S (.tup ds) (.int 1) = ds[1]? := idx_tup (n := 1)
@[simp] theorem idx_tup2 : idxD S (.tup ds) (.int 2) = ds[2]? := idx_tup (n := 2)
@[simp] theorem idx_lst {n : Nat} : idxD S (.lst ds) (.int n) = ds[n]? := by
  simp only [idxD, frozen_lst, Rf.placeOf]
  rw [if_pos (by omega)]
  by_cases l : n < ds.length
  · rw [if_pos (by omega)]; rfl
  · rw [if_neg (by omega), List.getElem?_eq_none (by omega)]; rfl
@[simp] theorem idx_ref {n : Nat} (e : S[h]? = some (.lst ds)) : idxD S (.ref h) (.int n) = ds[n]? := by
  have := idx_lst (S := S) (ds := ds) (n := n)
  simp only [idxD, frozen_lst, frozen_ref e] at this ⊢
  exact this
@[simp] theorem idx_str {n : Nat} (l : z.length ≤ line) : idxD S (.str z) (.int n) = (z[n]?).map fun c => .str [c] := by
  simp only [idxD, frozen_str, Rf.placeOf, if_pos l]
  rw [if_pos (by omega)]
  by_cases l : n < z.length
  · rw [if_pos (by omega)]; rfl
  · rw [if_neg (by omega), List.getElem?_eq_none (by omega)]; rfl
theorem idx_dct (e : S[h]? = some (.dct kvs)) (hk : keyD k = true) : idxD S (.ref h) k = getK kvs k := by
  simp only [idxD, frozen_dct e, e, if_pos hk]
@[simp] theorem slc_tup {lo hi : Option Int} : slcD S (.tup ds) lo hi = some (.tup (sliced ds lo hi)) := rfl
@[simp] theorem slc_lst {lo hi : Option Int} : slcD S (.lst ds) lo hi = some (.lst (sliced ds lo hi)) := rfl
@[simp] theorem slc_str {lo hi : Option Int} (l : z.length ≤ line) : slcD S (.str z) lo hi = some (.str (sliced z lo hi)) := by simp only [slcD, frozen_str, if_pos l]
@[simp] theorem add_int : opD S .Add (.int i) (.int j) = some (.int (i + j)) := rfl
@[simp] theorem sub_int : opD S .Sub (.int i) (.int j) = some (.int (i - j)) := rfl
@[simp] theorem add_tup (l : ds.length + es.length ≤ line) : opD S .Add (.tup ds) (.tup es) = some (.tup (ds ++ es)) := by simp only [opD, addD, if_pos l]
@[simp] theorem add_str (l : z.length + w.length ≤ line) : opD S .Add (.str z) (.str w) = some (.str (z ++ w)) := by simp only [opD, addD, if_pos l]
@[simp] theorem mul_lst (l : ds.length * i.toNat ≤ line) (h1 : i < 4611686018427387904) (h2 : -4611686018427387904 < i) : opD S .Mult (.lst ds) (.int i) = some (.lst (List.replicate i.toNat ds).flatten) := by
  simp only [opD, mulD, frozen_lst]
  rw [if_pos ⟨l, by omega, by omega⟩]
@[simp] theorem tuple_ref (e : S[h]? = some (.lst ds)) : tupleD S [.ref h] = some (.tup ds) := by simp only [tupleD, frozen_ref e]
@[simp] theorem tuple_lst : tupleD S [.lst ds] = some (.tup ds) := rfl
@[simp] theorem list_tup : listD S [.tup ds] = some (.lst ds) := rfl
@[simp] theorem lift_some {α : Type} {a : α} {S : Store} : RM.lift (some a) S = some (.ok a S) := rfl
@[simp] theorem lift_none {α : Type} {S : Store} : (RM.lift none S : RM α) = none := rfl
@[simp high] theorem app_get0 {X : List Cell} : (S ++ X)[S.length]? = X[0]? := getElem?_app S X 0
@[simp high] theorem app_getk {X : List Cell} {k : Nat} : (S ++ X)[S.length + k]? = X[k]? := getElem?_app S X k
@[simp] theorem app_set0 {X : List Cell} {c : Cell} : (S ++ X).set S.length c = S ++ X.set 0 c := set_app S X 0 c
@[simp] theorem app_setk {X : List Cell} {k : Nat} {c : Cell} : (S ++ X).set (S.length + k) c = S ++ X.set k c := set_app S X k c
end
end Rs
namespace Rs
open Rf
/-! ### loops by what holds between their turns -/
section
variable {C : Ctx} {ρ : Env} {S S1 : Store} {tg : Tg} {ik : IK} {its : List E} {body : List St} {ds xs : List D}
theorem for_inv {s : St} (hs : s = .forS tg ik its body) (e1 : evs C its ρ S = some (.ok ds S1)) (e2 : walkT S1 ik ds tg = some xs) (I : Nat → Env → Store → Prop) (h0 : I 0 ρ S1)
    (hw : ∀ i ρ S, i ≤ xs.length → I i ρ S → walkOf S ik ds = some xs)
    (step : ∀ i d ρ S, xs[i]? = some d → I i ρ S → ∃ ρ1 ρ2 S2, bindTo (pairK ik) tg d ρ = some ρ1 ∧ execs C body ρ1 S = some (.nx ρ2 S2) ∧ I (i + 1) ρ2 S2) :
    ∃ ρ' S', exec C s ρ S = some (.nx ρ' S') ∧ I xs.length ρ' S' := by
  subst hs
  rw [exec, e1]
  simp only [RM.toS_ok, e2]
  exact forRun_inv I (fun i ρ S hi h => by rw [hw i ρ S hi h]; exact beq_self_eq_true _) step h0
variable {elt : E} {vs : List Nat} {cond : List T}
theorem comp_inv {s : E} (hs : s = .comp elt tg vs ik its []) (e1 : evs C its ρ S = some (.ok ds S1)) (hk : realK S1 ik ds = ik) (hk2 : lockS S1 ik ds = S1) (hu : ∀ S, unlockS S ik ds = some S) (e2 : walkT S1 ik ds tg = some xs) (I : Nat → List D → Store → Prop) (h0 : I 0 [] S1)
    (hw : ∀ i acc S, i ≤ xs.length → I i acc S → walkOf S ik ds = some xs)
    (step : ∀ i d acc S, xs[i]? = some d → I i acc S → ∃ ρ1 x S2, bindTo (pairK ik) tg d (wipeE ρ vs) = some ρ1 ∧ ev C elt ρ1 S = some (.ok x S2) ∧ acc.length < line ∧ I (i + 1) (acc ++ [x]) S2) :
    ∃ acc S', ev C s ρ S = some (.ok (.lst acc) S') ∧ I xs.length acc S' := by
  subst hs
  obtain ⟨acc, S', e, h⟩ := compRun_inv (same := fun S => walkOf S ik ds == some xs) (f := fun d S => match bindTo (pairK ik) tg d (wipeE ρ vs) with
      | some ρ1 => RM.bind (evTs C [] ρ1 S) fun k S3 => if k then RM.bind (ev C elt ρ1 S3) fun x S4 => some (.ok (some x) S4) else some (.ok none S3)
      | none => none) I (fun i acc S hi h => by rw [hw i acc S hi h]; exact beq_self_eq_true _) (fun i d acc S hd h => by
    obtain ⟨ρ1, x, S2, a1, a2, a3, a4⟩ := step i d acc S hd h
    exact ⟨x, S2, by rw [a1]; simp only [evTs, RM.bind_ok, if_true, a2], a3, a4⟩) h0
  refine ⟨acc, S', ?_, h⟩
  rw [ev, e1]
  simp only [RM.bind_ok, hk, hk2, e2]
  exact (congrArg (fun o => RM.bind o _) e).trans (by simp only [RM.bind_ok, hu])
theorem comp_map {s : E} (g : D → D) (hs : s = .comp elt tg vs ik its []) (e1 : evs C its ρ S = some (.ok ds S1)) (hk : realK S1 ik ds = ik) (hk2 : lockS S1 ik ds = S1) (hu : ∀ S, unlockS S ik ds = some S) (e2 : walkT S1 ik ds tg = some xs) (hl : xs.length ≤ line)
    (step : ∀ d ∈ xs, ∃ ρ1, bindTo (pairK ik) tg d (wipeE ρ vs) = some ρ1 ∧ ev C elt ρ1 S1 = some (.ok (g d) S1)) :
    ev C s ρ S = some (.ok (.lst (xs.map g)) S1) := by
  subst hs
  have ew : walkOf S1 ik ds = some xs := by
    unfold walkT at e2
    split at e2
    · exact e2
    · cases e2
  have e := compRun_map (same := fun S => walkOf S ik ds == some xs) (f := fun d S => match bindTo (pairK ik) tg d (wipeE ρ vs) with
      | some ρ1 => RM.bind (evTs C [] ρ1 S) fun k S3 => if k then RM.bind (ev C elt ρ1 S3) fun x S4 => some (.ok (some x) S4) else some (.ok none S3)
      | none => none) (g := g) (S := S1) (by rw [ew]; exact beq_self_eq_true _) (ds := xs) (acc := []) (fun d hd => by
    obtain ⟨ρ1, a1, a2⟩ := step d hd
    rw [a1]; simp only [evTs, RM.bind_ok, if_true, a2]) (by simpa using hl)
  rw [ev, e1]
  simp only [RM.bind_ok, hk, hk2, e2]
  exact (congrArg (fun o => RM.bind o _) e).trans (by simp only [RM.bind_ok, hu, List.nil_append])
theorem comp_real {ik' : IK} {S2 S3 : Store} {s : E} (g : D → D) (hs : s = .comp elt tg vs ik its []) (e1 : evs C its ρ S = some (.ok ds S1)) (hk : realK S1 ik ds = ik') (hk2 : lockS S1 ik' ds = S2) (hu : unlockS S2 ik' ds = some S3) (e2 : walkT S2 ik' ds tg = some xs) (hl : xs.length ≤ line)
    (step : ∀ d ∈ xs, ∃ ρ1, bindTo (pairK ik') tg d (wipeE ρ vs) = some ρ1 ∧ ev C elt ρ1 S2 = some (.ok (g d) S2)) :
    ev C s ρ S = some (.ok (.lst (xs.map g)) S3) := by
  subst hs
  have ew : walkOf S2 ik' ds = some xs := by
    unfold walkT at e2
    split at e2
    · exact e2
    · cases e2
  have e := compRun_map (same := fun S => walkOf S ik' ds == some xs) (f := fun d S => match bindTo (pairK ik') tg d (wipeE ρ vs) with
      | some ρ1 => RM.bind (evTs C [] ρ1 S) fun k S3 => if k then RM.bind (ev C elt ρ1 S3) fun x S4 => some (.ok (some x) S4) else some (.ok none S3)
      | none => none) (g := g) (S := S2) (by rw [ew]; exact beq_self_eq_true _) (ds := xs) (acc := []) (fun d hd => by
    obtain ⟨ρ1, a1, a2⟩ := step d hd
    rw [a1]; simp only [evTs, RM.bind_ok, if_true, a2]) (by simpa using hl)
  rw [ev, e1]
  simp only [RM.bind_ok, hk, hk2, e2]
  exact (congrArg (fun o => RM.bind o _) e).trans (by simp only [RM.bind_ok, hu, List.nil_append])
theorem comp_filter {s : E} (p : D → Bool) (g : D → D) (hs : s = .comp elt tg vs ik its cond) (e1 : evs C its ρ S = some (.ok ds S1)) (hk : realK S1 ik ds = ik) (hk2 : lockS S1 ik ds = S1) (hu : ∀ S, unlockS S ik ds = some S) (e2 : walkT S1 ik ds tg = some xs) (hl : xs.length ≤ line)
    (step : ∀ d ∈ xs, ∃ ρ1, bindTo (pairK ik) tg d (wipeE ρ vs) = some ρ1 ∧ evTs C cond ρ1 S1 = some (.ok (p d) S1) ∧ (p d = true → ev C elt ρ1 S1 = some (.ok (g d) S1))) :
    ev C s ρ S = some (.ok (.lst ((xs.filter p).map g)) S1) := by
  subst hs
  have ew : walkOf S1 ik ds = some xs := by
    unfold walkT at e2
    split at e2
    · exact e2
    · cases e2
  have e := compRun_filter (same := fun S => walkOf S ik ds == some xs) (f := fun d S => match bindTo (pairK ik) tg d (wipeE ρ vs) with
      | some ρ1 => RM.bind (evTs C cond ρ1 S) fun k S3 => if k then RM.bind (ev C elt ρ1 S3) fun x S4 => some (.ok (some x) S4) else some (.ok none S3)
      | none => none) (g := g) (p := p) (S := S1) (by rw [ew]; exact beq_self_eq_true _) (ds := xs) (acc := []) (fun d hd => by
    obtain ⟨ρ1, a1, a2, a3⟩ := step d hd
    rw [a1]
    simp only [RM.bind_ok, a2]
    cases hp : p d with
    | true => simp only [if_true, a3 hp, RM.bind_ok]
    | false => simp only [Bool.false_eq_true, if_false]) (by simpa using hl)
  rw [ev, e1]
  simp only [RM.bind_ok, hk, hk2, e2]
  exact (congrArg (fun o => RM.bind o _) e).trans (by simp only [RM.bind_ok, hu, List.nil_append])
end
end Rs
namespace Rs
open Rf
section
variable {α : Type} {xs : List α} {n : Nat}
theorem cut_nat {l : Nat} : cutAt l (n : Int) = min n l := by
  unfold cutAt
  rw [if_pos (by omega), Int.toNat_natCast]
@[simp] theorem sl_take : sliced xs none (some (n : Int)) = xs.take n := by
  simp only [sliced, cut_nat, List.drop_zero, Nat.sub_zero]
  rcases Nat.le_total n xs.length with h | h
  · rw [Nat.min_eq_left h]
  · rw [Nat.min_eq_right h, List.take_of_length_le h, List.take_length]
@[simp] theorem sl_drop : sliced xs (some (n : Int)) none = xs.drop n := by
  simp only [sliced, cut_nat]
  rcases Nat.le_total n xs.length with h | h
  · rw [Nat.min_eq_left h, List.take_of_length_le (by simp)]
  · rw [Nat.min_eq_right h, List.drop_eq_nil_of_le (Nat.le_refl _), List.take_nil, List.drop_eq_nil_of_le h]
@[simp] theorem sl_drop1 : sliced xs (some ((n : Int) + 1)) none = xs.drop (n + 1) := sl_drop (n := n + 1)
theorem sl_take_lit {k : Nat} : sliced xs none (some (OfNat.ofNat k : Int)) = xs.take k := sl_take (n := k)
theorem sl_drop_lit {k : Nat} : sliced xs (some (OfNat.ofNat k : Int)) none = xs.drop k := sl_drop (n := k)
@[simp] theorem rev_tup {S : Store} {ds : List D} : revD S (.tup ds) = some (.tup ds.reverse) := rfl
@[simp] theorem mul_str {S : Store} {z : List Nat} (l : z.length * n ≤ line) (h : n ≤ 1000000) : opD S .Mult (.str z) (.int (n : Nat)) = some (.str (List.replicate n z).flatten) := by
  simp only [opD, mulD, Int.toNat_natCast]
  rw [if_pos ⟨l, by omega, by omega⟩]
@[simp] theorem do_join {S : Store} {z : List Nat} {d : D} {xs : List (List Nat)} (h : frozen S d = .lst (xs.map .str)) (h2 : strsOf (xs.map .str) = some xs) (l : (xs.map (·.length)).sum + xs.length * z.length ≤ line) : mtD S .sJoin (.str z) [d] = some (.ok (.str (joinL z xs)) S) := by
  simp only [mtD, joinD, h, h2, Option.bind_some, if_pos l, lift_some]
end
end Rs
namespace Rs
open Rf
section
variable {S : Store} {h k : Nat} {ds : List D} {d : D}
theorem at_nat {n l : Nat} (hk : n < l) : Rf.placeOf (n : Int) l = some n := by
  unfold Rf.placeOf
  rw [if_pos (by omega), if_pos (by omega)]
  rfl
@[simp] theorem do_pop (e : S[h]? = some (.lst ds)) (hk : ds[k]? = some d) : mtD S .lPop (.ref h) [.int (k : Nat)] = some (.ok d (S.set h (.lst (ds.eraseIdx k)))) := by
  have hl := (List.getElem?_eq_some_iff.mp hk).1
  simp only [mtD, lstSet, e, at_nat hl, Option.bind_some, hk, Option.map_some]
@[simp] theorem pys_strs : ∀ ws : List (List Nat), pysOf (ws.map .str) = some (ws.map fun w => .str ⟨w.toArray⟩)
  | [] => rfl
  | w :: ws => by simp only [List.map_cons, pysOf, pyOf, pys_strs ws]
@[simp] theorem depth_strs : ∀ ws : List (List Nat), depthDs (ws.map .str) = 0
  | [] => rfl
  | i :: c => by simp only [List.map_cons, depthDs, depthD, depth_strs c, Nat.max_self]
theorem eqv_lnil (xs : List PySem.PyData) : PySem.PyData.eqv (.list xs) (.list []) = xs.isEmpty := by
  cases xs <;> rfl
theorem eqv_tnil (xs : List PySem.PyData) : PySem.PyData.eqv (.tuple xs) (.tuple []) = xs.isEmpty := by
  cases xs <;> rfl
@[simp] theorem ne_nil (e : S[h]? = some (.lst ds)) (p : (pysOf ds).isSome = true) (q : depthDs ds < 60) : cmpD S .NotEq (.ref h) (.lst []) = some (!ds.isEmpty) := by
  unfold cmpD
  obtain ⟨ps, hp⟩ := Option.isSome_iff_exists.mp p
  simp only [frozen_ref e, frozen_lst, eqO, depthD, depthDs, eqD, pyOf, hp, pysOf, Option.map_some, Option.bind_some, eqv_lnil]
  rw [if_pos ⟨by omega, by omega⟩]
  have : ps.isEmpty = ds.isEmpty := by
    cases ds with
    | nil => simp only [pysOf, Option.some.injEq] at hp; subst hp; rfl
    | cons a l =>
      simp only [pysOf] at hp
      split at hp
      · simp only [Option.some.injEq] at hp; subst hp; rfl
      · cases hp
  rw [Option.map_some, this]
@[simp] theorem ne_tnil_strs {ws : List (List Nat)} : cmpD S .NotEq (.tup (ws.map .str)) (.tup []) = some (!ws.isEmpty) := by
  unfold cmpD
  simp only [frozen_tup, eqO, depthD, depth_strs, depthDs, eqD, pyOf, pys_strs, pysOf, Option.map_some, Option.bind_some, eqv_tnil]
  simp
end
end Rs
namespace Rs
open Rf
@[simp] theorem then_id (o : Option SO) : (SO.then o fun ρ S => some (.nx ρ S)) = o := by
  unfold SO.then
  split <;> rfl
end Rs
namespace Rs
open Rf
@[simp] theorem key_str {z : List Nat} : keyD (.str z) = true := rfl
@[simp] theorem key_int {i : Int} : keyD (.int i) = true := rfl
end Rs
namespace Rs
open Rf
section
variable {S : Store} {h : Nat} {kvs : List (D × D)} {z : List Nat} {i : Int} {d : D}
@[simp] theorem do_get_str (e : S[h]? = some (.dct kvs)) : mtD S .dGet (.ref h) [.str z, d] = some (.ok ((getK kvs (.str z)).getD d) S) := do_get e rfl
@[simp] theorem idx_dct_str (e : S[h]? = some (.dct kvs)) : idxD S (.ref h) (.str z) = getK kvs (.str z) := idx_dct e rfl
end
end Rs
namespace Rs
open Rf
section
variable {S : Store} {h : Nat} {ds : List D}
@[simp] theorem idx_lst0 : idxD S (.lst ds) (.int 0) = ds[0]? := idx_lst (n := 0)
@[simp] theorem idx_lst1 : idxD S (.lst ds) (.int 1) = ds[1]? := idx_lst (n := 1)
@[simp] theorem idx_lst2 : idxD S (.lst ds) (.int 2) = ds[2]? := idx_lst (n := 2)
@[simp] theorem idx_ref0 (e : S[h]? = some (.lst ds)) : idxD S (.ref h) (.int 0) = ds[0]? := idx_ref (n := 0) e
@[simp] theorem idx_ref1 (e : S[h]? = some (.lst ds)) : idxD S (.ref h) (.int 1) = ds[1]? := idx_ref (n := 1) e
end
end Rs
namespace Rs
open Rf
theorem trunc_chg {S X : Store} {a b : Cell} {d : D} (h : b ≠ a) : trunc (S ++ [a]) d (S ++ b :: X) = S ++ b :: X := trunc_ne fun z => by
  have : (S ++ b :: X).take (S ++ [a]).length = S ++ [b] := by simp [List.take_append, List.take_of_length_le]
  rw [this] at z
  have z := List.append_cancel_left z
  exact h (by injection z)
theorem dcompRun_map {same : Store → Bool} {f : D → Store → RM (Option (D × D))} {g : D → D × D} {S : Store} (hs : same S = true) : ∀ {ds : List D} {acc : List (D × D)}, (∀ d ∈ ds, f d S = some (.ok (some (g d)) S) ∧ keyD (g d).1 = true) → acc.length + ds.length ≤ line →
    dcompRun same f ds acc S = some (.ok ((ds.map g).foldl (fun m p => setK m p.1 p.2) acc) S)
  | [], acc, _, _ => by
    unfold dcompRun
    rw [if_pos hs]
    rfl
  | d :: ds, acc, h, hl => by
    obtain ⟨h1, h2⟩ := h d List.mem_cons_self
    unfold dcompRun
    rw [if_pos hs, h1]
    simp only [RM.bind_ok, List.length_cons] at hl ⊢
    rw [if_pos ⟨by omega, h2⟩, dcompRun_map hs (fun x hx => h x (List.mem_cons_of_mem _ hx))]
    · rfl
    · have : (setK acc (g d).1 (g d).2).length ≤ acc.length + 1 := by
        unfold setK
        split <;> simp
      omega
theorem dcomp_map {C : Ctx} {ρ : Env} {S S1 : Store} {tg : Tg} {ik : IK} {its : List E} {ds xs : List D} {ke ve : E} {vs : List Nat} {s : E} (g : D → D × D) (hs : s = .dcomp ke ve tg vs ik its []) (e1 : evs C its ρ S = some (.ok ds S1)) (hk : realK S1 ik ds = ik) (hk2 : lockS S1 ik ds = S1) (hu : ∀ S, unlockS S ik ds = some S) (e2 : walkT S1 ik ds tg = some xs) (hl : xs.length ≤ line)
    (step : ∀ d ∈ xs, ∃ ρ1, bindTo (pairK ik) tg d (wipeE ρ vs) = some ρ1 ∧ ev C ke ρ1 S1 = some (.ok (g d).1 S1) ∧ ev C ve ρ1 S1 = some (.ok (g d).2 S1) ∧ keyD (g d).1 = true) :
    ev C s ρ S = some (.ok (.ref S1.length) (S1 ++ [.dct ((xs.map g).foldl (fun m p => setK m p.1 p.2) [])])) := by
  subst hs
  have ew : walkOf S1 ik ds = some xs := by
    unfold walkT at e2
    split at e2
    · exact e2
    · cases e2
  have e := dcompRun_map (same := fun S => walkOf S ik ds == some xs) (f := fun d S => match bindTo (pairK ik) tg d (wipeE ρ vs) with
      | some ρ1 => RM.bind (evTs C [] ρ1 S) fun k S3 => if k then RM.bind (ev C ke ρ1 S3) fun x S4 => RM.bind (ev C ve ρ1 S4) fun y S5 => some (.ok (some (x, y)) S5) else some (.ok none S3)
      | none => none) (g := g) (S := S1) (by rw [ew]; exact beq_self_eq_true _) (ds := xs) (acc := []) (fun d hd => by
    obtain ⟨ρ1, a1, a2, a3, a4⟩ := step d hd
    refine ⟨?_, a4⟩
    rw [a1]; simp only [evTs, RM.bind_ok, if_true, a2, a3]) (by simpa using hl)
  rw [ev, e1]
  simp only [RM.bind_ok, hk, hk2, e2]
  exact (congrArg (fun o => RM.bind o _) e).trans (by simp only [RM.bind_ok, hu])
end Rs
namespace Rs
open Rf
section
variable {S : Store} {z w : List Nat} {n c : Nat} {a b : D} {xs ys : List D}
@[simp] theorem do_ljust (h1 : z.length ≤ 1000000) (h2 : n ≤ 1000000) : mtD S .sLjust (.str z) [.int (n : Nat), .str [c]] = some (.ok (.str (z ++ List.replicate (n - z.length) c)) S) := by
  simp only [mtD]
  rw [if_pos ⟨h1, by omega, by omega⟩, Int.toNat_natCast]
@[simp] theorem walk_zip (h1 : seqOf S a = some xs) (h2 : seqOf S b = some ys) : walkOf S .zip [a, b] = some (zipD xs ys) := by
  simp only [walkOf, h1, h2]
@[simp] theorem real_zip : realK S .zip xs = .zip := by unfold realK; split <;> simp_all
end
end Rs
namespace Rs
open Rf
theorem for_nil {C : Ctx} {ρ : Env} {S S1 : Store} {tg : Tg} {ik : IK} {its : List E} {body : List St} {ds : List D} {s : St} (hs : s = .forS tg ik its body) (e1 : evs C its ρ S = some (.ok ds S1)) (e2 : walkT S1 ik ds tg = some []) : exec C s ρ S = some (.nx ρ S1) := by
  obtain ⟨ρ', S', e, r1, r2⟩ := for_inv (xs := []) hs e1 e2 (fun _ ρ' S' => ρ' = ρ ∧ S' = S1) ⟨rfl, rfl⟩ (fun i ρ S _ h => by
    rw [h.2]
    unfold walkT at e2
    split at e2
    · exact e2
    · cases e2) (fun i d ρ S hd _ => by simp at hd)
  rw [e, r1, r2]
end Rs
namespace Rs
open Rf
section
variable {S : Store} {ds es st : List D} {d : D}
theorem ne_lnil (p : (pysOf ds).isSome = true) (q : depthDs ds < 60) : cmpD S .NotEq (.lst ds) (.lst []) = some (!ds.isEmpty) := by
  have e := ne_nil (S := [.lst ds]) (h := 0) (ds := ds) rfl p q
  unfold cmpD at e ⊢
  simp only [frozen_ref (S := [Cell.lst ds]) (h := 0) (ds := ds) rfl, frozen_lst] at e ⊢
  exact e
@[simp] theorem idx_last : idxD S (.lst (ds ++ [d])) (.int (-1)) = some d := by
  simp only [idxD, frozen_lst, Rf.placeOf, List.length_append, List.length_cons, List.length_nil]
  rw [if_neg (by omega), if_pos (by omega)]
  simp only [Option.bind_some]
  rw [show (-1 + ((ds.length + (0 + 1) : Nat) : Int)).toNat = ds.length by omega]
  simp
@[simp] theorem add_lst (l : ds.length + es.length ≤ line) : opD S .Add (.lst ds) (.lst es) = some (.lst (ds ++ es)) := by simp only [opD, addD, frozen_lst, if_pos l]
end
end Rs
namespace Rs
open Rf
section
variable {S : Store} {h : Nat} {ds es : List D} {d x : D}
@[simp] theorem add_ref (e : S[h]? = some (.lst ds)) (l : ds.length + es.length ≤ line) : opD S .Add (.ref h) (.lst es) = some (.lst (ds ++ es)) := by simp only [opD, addD, frozen_ref e, frozen_lst, if_pos l]
theorem do_index {k : Nat} (e : S[h]? = some (.lst ds)) (hd : dataOk x ds = true) (hk : ds.findIdx? (isIt x) = some k) : mtD S .lIndex (.ref h) [x] = some (.ok (.int (k : Nat)) S) := by
  simp only [mtD, lstGet, frozen_ref e, if_pos hd, hk, Option.map_some]
theorem do_remove {k : Nat} (e : S[h]? = some (.lst ds)) (hd : dataOk x ds = true) (hk : ds.findIdx? (isIt x) = some k) : mtD S .lRemove (.ref h) [x] = some (.ok .non (S.set h (.lst (ds.eraseIdx k)))) := by
  simp only [mtD, lstSet, e, if_pos hd, hk, Option.map_some]
end
end Rs
namespace Rs
open Rf
theorem execs_nx {C : Ctx} {s : St} {ss : List St} {ρ ρ' : Env} {S S' : Store} (h : exec C s ρ S = some (.nx ρ' S')) : execs C (s :: ss) ρ S = execs C ss ρ' S' := by
  rw [execs, h]
  rfl
theorem execs_rt {C : Ctx} {s : St} {ss : List St} {ρ : Env} {S S' : Store} {d : D} (h : exec C s ρ S = some (.rt d S')) : execs C (s :: ss) ρ S = some (.rt d S') := by
  rw [execs, h]
  rfl
end Rs
namespace Rs
open Rf
section
variable {S : Store} {h n : Nat} {ds : List D} {d : D}
theorem idx_ref_last (e : S[h]? = some (.lst (ds ++ [d]))) : idxD S (.ref h) (.int (-1)) = some d := by
  have := idx_last (S := S) (ds := ds) (d := d)
  simp only [idxD, frozen_lst, frozen_ref e] at this ⊢
  exact this
theorem walk_r1 (h : n ≤ 1000000000) : walkOf S .range [.int 1, .int ((n : Int) + 1)] = some (upTo 1 n) := by
  simp only [walkOf]
  rw [if_pos ⟨by omega, by omega, by omega, by omega⟩, show ((n : Int) + 1 - 1).toNat = n by omega]
end
end Rs
namespace K90
open PySem Rf
abbrev P : Prog := pf.prog
def c_law_l1 : St := .forS (.nm 2) .range [(.cst (.int 2))] [(.asg 3 (.callG "_law_pool" [(.var 1), (.cst (.int 320))])), (.asg 4 (.callG "_law_some" [(.var 1), (.var 3), (.callG "_law_one" [(.var 1), (.lst [(.cst (.int 0)), (.cst (.int 3)), (.cst (.int 8)), (.cst (.int 20)), (.cst (.int 60))])])])), (.par [5, 6] [(.callG "_law_changed" [(.var 1), (.slc (.var 4) [] [(.cst (.int 54))]), (.var 3)]), (.callG "_law_changed" [(.var 1), (.slc (.var 4) [] [(.cst (.int 54))]), (.var 3)])]), (.iff (.not (.val (.callG "_law_is_joined" [(.var 1), (.var 4), (.var 5), (.var 6)]))) [(.ret (.cst (.bl false)))] []), (.asg 7 (.callG "_law_some" [(.var 1), (.var 3), (.callG "_law_one" [(.var 1), (.lst [(.cst (.int 3)), (.cst (.int 20)), (.cst (.int 60))])])])), (.iff (.or (.not (.val (.callG "_law_is_joined" [(.var 1), (.var 4), (.var 5), (.var 7)]))) (.not (.val (.callG "_law_is_added" [(.var 1), (.var 3)])))) [(.ret (.cst (.bl false)))] []), (.iff (.not (.val (.callG "_law_shelves" [(.var 1), (.callG "_law_pool" [(.var 1), (.cst (.int 150))])]))) [(.ret (.cst (.bl false)))] [])]
def c_law : Fn := ⟨1, 9, [
  (.asg 1 (.callG "_law_hand" [(.var 0)])),
  c_law_l1,
  (.asg 8 (.bin .Mult (.tup [(.cst (.str [98]))]) (.cst (.int 60)))),
  (.iff (.or (.val (.cmp .NotEq (.callB .repr [(.callG "joined" [(.tup []), (.var 8), (.var 8)])]) (.callB .repr [(.bin .Mult (.var 8) (.cst (.int 2)))]))) (.val (.cmp .NotEq (.callB .repr [(.callG "fewest_runs" [(.var 8), (.bin .Mult (.tup [(.cst (.str [97]))]) (.cst (.int 60)))])]) (.cst (.str [49, 50, 48]))))) [(.ret (.cst (.bl false)))] []),
  (.ret (.and (.cmp .Eq (.callB .repr [(.callG "joined" [(.var 8), (.tup []), (.slc (.var 8) [] [(.cst (.int 59))])])]) (.cst (.str [40, 41]))) (.cmp .Eq (.callB .repr [(.callG "fewest_runs" [(.tup []), (.tup [])])]) (.cst (.str [48])))))]⟩
theorem fn_law : P.fns "law" = some (.code c_law) := by kernel_rfl
def c__law_hand_e1 : E := .comp (.ite (.val (.cmp .GtE (.var 2) (.cst (.int 0)))) (.bin .Mult (.var 2) (.cst (.int 2))) (.bin .Sub (.cst (.int 1)) (.bin .Mult (.var 2) (.cst (.int 2))))) (.nm 2) [1, 2] .seq [(.slc (.var 0) [] [(.cst (.int 63))])] []
def c__law_hand : Fn := ⟨1, 3, [
  (.ret (.dct [(.cst (.str [99, 101, 108, 108, 115])), (.mk c__law_hand_e1), (.cst (.str [116, 117, 114, 110])), (.cst (.int 0))]))]⟩
theorem fn__law_hand : P.fns "_law_hand" = some (.code c__law_hand) := by kernel_rfl
def c__law_pool_l1 : St := .forS (.nm 3) .range [(.bin .Add (.cst (.int 1)) (.callG "_law_draw" [(.var 0), (.cst (.int 5))]))] [(.asg 4 (.bin .Mult (.callG "_law_one" [(.var 0), (.cst (.str [97, 98, 99]))]) (.callG "_law_draw" [(.var 0), (.var 1)]))), (.asg 5 (.callG "_law_one" [(.var 0), (.lst [(.callG "_law_text" [(.var 0), (.cst (.int 1))]), (.callG "_law_text" [(.var 0), (.cst (.int 4))]), (.var 4)])])), (.par [6, 7] [(.callG "_law_draw" [(.var 0), (.bin .Add (.callB .len [(.var 5)]) (.cst (.int 1)))]), (.callG "_law_one" [(.var 0), (.cst (.str [97, 98, 99]))])]), (.expr (.meth (.var 2) "extend" [(.lst [(.var 5), (.bin .Add (.bin .Add (.slc (.var 5) [] [(.var 6)]) (.var 7)) (.slc (.var 5) [(.var 6)] [])), (.bin .Add (.bin .Add (.slc (.var 5) [] [(.var 6)]) (.var 7)) (.slc (.var 5) [(.bin .Add (.var 6) (.cst (.int 1)))] []))])]))]
def c__law_pool : Fn := ⟨2, 8, [
  (.asg 2 (.mk (.lst [(.cst (.str []))]))),
  c__law_pool_l1,
  (.ret (.var 2))]⟩
theorem fn__law_pool : P.fns "_law_pool" = some (.code c__law_pool) := by kernel_rfl
def c__law_one : Fn := ⟨2, 2, [
  (.ret (.idx (.var 1) (.callG "_law_draw" [(.var 0), (.callB .len [(.var 1)])])))]⟩
theorem fn__law_one : P.fns "_law_one" = some (.code c__law_one) := by kernel_rfl
def c__law_draw : Fn := ⟨2, 8, [
  (.idxS (.var 0) (.cst (.str [116, 117, 114, 110])) (.bin .Add (.idx (.var 0) (.cst (.str [116, 117, 114, 110]))) (.cst (.int 1)))),
  (.par [2, 3] [(.idx (.var 0) (.cst (.str [116, 117, 114, 110]))), (.idx (.var 0) (.cst (.str [99, 101, 108, 108, 115])))]),
  (.asg 4 (.ite (.val (.cmp .NotEq (.var 3) (.lst []))) (.bin .Mod (.callB .int [(.var 2)]) (.callB .len [(.var 3)])) (.cst (.int 0)))),
  (.asg 5 (.ite (.val (.cmp .NotEq (.var 3) (.lst []))) (.idx (.var 3) (.var 4)) (.cst (.int 0)))),
  (.iff (.val (.cmp .GtE (.var 5) (.bin .Pow (.cst (.int 10)) (.cst (.int 18))))) [(.idxS (.var 3) (.var 4) (.bin .FloorDiv (.callB .int [(.var 5)]) (.var 1))), (.ret (.bin .Mod (.callB .int [(.var 5)]) (.var 1)))] []),
  (.asg 6 (.bin .Pow (.bin .Add (.bin .Add (.bin .Mod (.callB .int [(.var 5)]) (.cst (.int 1000000007))) (.bin .Mult (.cst (.int 30011)) (.var 2))) (.cst (.int 5))) (.cst (.int 5)))),
  (.asg 7 (.bin .Pow (.bin .Add (.bin .Mod (.callB .int [(.var 6)]) (.cst (.int 1000000009))) (.bin .Mult (.cst (.int 7)) (.var 2))) (.cst (.int 3)))),
  (.ret (.bin .Mod (.callB .int [(.bin .Mod (.callB .int [(.var 7)]) (.cst (.int 998244353)))]) (.var 1)))]⟩
theorem fn__law_draw : P.fns "_law_draw" = some (.code c__law_draw) := by kernel_rfl
def c__law_text_e1 : E := .comp (.callG "_law_one" [(.var 0), (.cst (.str [97, 98, 99]))]) (.nm 3) [2, 3] .range [(.callG "_law_draw" [(.var 0), (.bin .Add (.var 1) (.cst (.int 1)))])] []
def c__law_text : Fn := ⟨2, 4, [
  (.ret (.meth (.cst (.str [])) "join" [c__law_text_e1]))]⟩
theorem fn__law_text : P.fns "_law_text" = some (.code c__law_text) := by kernel_rfl
def c__law_some_e1 : E := .comp (.callG "_law_one" [(.var 0), (.var 1)]) (.nm 4) [3, 4] .range [(.callG "_law_draw" [(.var 0), (.bin .Add (.var 2) (.cst (.int 1)))])] []
def c__law_some : Fn := ⟨3, 5, [
  (.ret (.callB .tuple [c__law_some_e1]))]⟩
theorem fn__law_some : P.fns "_law_some" = some (.code c__law_some) := by kernel_rfl
def c__law_changed_l1 : St := .forS (.nm 4) .range [(.callG "_law_draw" [(.var 0), (.cst (.int 7))])] [(.iff (.and (.val (.cmp .NotEq (.var 3) (.lst []))) (.val (.cmp .Eq (.callG "_law_draw" [(.var 0), (.cst (.int 2))]) (.cst (.int 0))))) [(.expr (.meth (.var 3) "pop" [(.callG "_law_draw" [(.var 0), (.callB .len [(.var 3)])])]))] [(.expr (.meth (.var 3) "insert" [(.callG "_law_draw" [(.var 0), (.bin .Add (.callB .len [(.var 3)]) (.cst (.int 1)))]), (.callG "_law_one" [(.var 0), (.var 2)])]))])]
def c__law_changed : Fn := ⟨3, 5, [
  (.asg 3 (.mk (.callB .list [(.var 1)]))),
  c__law_changed_l1,
  (.ret (.callB .tuple [(.var 3)]))]⟩
theorem fn__law_changed : P.fns "_law_changed" = some (.code c__law_changed) := by kernel_rfl
def c__law_is_joined_l1 : St := .forS (.nm 5) .seq [(.lst [(.tup [(.var 2), (.var 3)]), (.tup [(.var 3), (.var 2)]), (.tup [(.callG "_law_turned" [(.var 0), (.var 3)]), (.callG "_law_turned" [(.var 0), (.var 2)])])])] [(.iff (.val (.cmp .NotEq (.callB .repr [(.callG "joined" [(.var 1), (.idx (.var 5) (.cst (.int 0))), (.idx (.var 5) (.cst (.int 1)))])]) (.callB .repr [(.var 4)]))) [(.ret (.cst (.bl false)))] [])]
def c__law_is_joined_l2 : St := .forS (.nm 5) .seq [(.lst [(.tup [(.var 1), (.var 2)]), (.tup [(.var 2), (.var 1)]), (.tup [(.var 3), (.var 2)]), (.tup [(.var 1), (.callG "_law_turned" [(.var 0), (.var 1)])]), (.tup [(.tup []), (.var 2)]), (.tup [(.var 3), (.tup [])])])] [(.iff (.val (.cmp .NotEq (.callB .repr [(.callG "fewest_runs" [(.idx (.var 5) (.cst (.int 0))), (.idx (.var 5) (.cst (.int 1)))])]) (.callB .repr [(.callG "_law_apart" [(.idx (.var 5) (.cst (.int 0))), (.idx (.var 5) (.cst (.int 1)))])]))) [(.ret (.cst (.bl false)))] [])]
def c__law_is_joined : Fn := ⟨4, 6, [
  (.asg 4 (.callG "_law_joined" [(.var 1), (.var 2), (.var 3)])),
  c__law_is_joined_l1,
  (.iff (.val (.cmp .NotEq (.callB .repr [(.callG "joined" [(.callG "_law_turned" [(.var 0), (.var 1)]), (.var 2), (.var 3)])]) (.callB .repr [(.var 4)]))) [(.ret (.cst (.bl false)))] []),
  (.iff (.val (.cmp .NotEq (.callB .repr [(.callG "joined" [(.var 1), (.var 1), (.var 3)])]) (.callB .repr [(.callG "_law_in_order" [(.var 3)])]))) [(.ret (.cst (.bl false)))] []),
  (.iff (.val (.cmp .NotEq (.callB .repr [(.callG "joined" [(.var 1), (.var 2), (.callG "_law_turned" [(.var 0), (.var 1)])])]) (.callB .repr [(.callG "_law_in_order" [(.var 2)])]))) [(.ret (.cst (.bl false)))] []),
  (.iff (.val (.cmp .NotEq (.callB .repr [(.callG "joined" [(.var 1), (.var 2), (.var 2)])]) (.callB .repr [(.callG "_law_joined" [(.var 1), (.var 2), (.var 2)])]))) [(.ret (.cst (.bl false)))] []),
  (.iff (.or (.val (.cmp .NotEq (.callB .repr [(.callG "joined" [(.tup []), (.var 2), (.var 3)])]) (.callB .repr [(.callG "_law_in_order" [(.bin .Add (.var 2) (.var 3))])]))) (.val (.cmp .NotEq (.callB .repr [(.callG "joined" [(.var 1), (.tup []), (.tup [])])]) (.cst (.str [40, 41]))))) [(.ret (.cst (.bl false)))] []),
  c__law_is_joined_l2,
  (.iff (.val (.cmp .LtE (.callB .len [(.var 4)]) (.cst (.int 60)))) [(.ret (.cmp .Eq (.callB .repr [(.callG "fewest_runs" [(.var 1), (.var 4)])]) (.callB .repr [(.callG "_law_apart" [(.var 4), (.var 1)])])))] []),
  (.ret (.cst (.bl true)))]⟩
theorem fn__law_is_joined : P.fns "_law_is_joined" = some (.code c__law_is_joined) := by kernel_rfl
def c__law_joined_l1 : St := .forS (.nm 4) .seq [(.callG "_law_unlike" [(.bin .Add (.bin .Add (.var 0) (.var 1)) (.var 2))])] [(.asg 5 (.bin .Sub (.bin .Add (.meth (.var 1) "count" [(.var 4)]) (.meth (.var 2) "count" [(.var 4)])) (.meth (.var 0) "count" [(.var 4)]))), (.expr (.meth (.var 3) "extend" [(.bin .Mult (.lst [(.var 4)]) (.ite (.val (.cmp .Gt (.var 5) (.cst (.int 0)))) (.var 5) (.cst (.int 0))))]))]
def c__law_joined : Fn := ⟨3, 6, [
  (.asg 3 (.mk (.lst []))),
  c__law_joined_l1,
  (.ret (.callB .tuple [(.var 3)]))]⟩
theorem fn__law_joined : P.fns "_law_joined" = some (.code c__law_joined) := by kernel_rfl
def c__law_unlike_e2 : E := .comp (.var 4) (.nm 4) [3, 4] .seq [(.var 1)] [(.val (.callG "_law_ahead" [(.var 4), (.var 2)]))]
def c__law_unlike_l1 : St := .forS (.nm 2) .seq [(.var 0)] [(.iff (.val (.cmp .NotIn (.var 2) (.var 1))) [(.expr (.meth (.var 1) "insert" [(.callB .len [c__law_unlike_e2]), (.var 2)]))] [])]
def c__law_unlike : Fn := ⟨1, 5, [
  (.asg 1 (.mk (.lst []))),
  c__law_unlike_l1,
  (.ret (.var 1))]⟩
theorem fn__law_unlike : P.fns "_law_unlike" = some (.code c__law_unlike) := by kernel_rfl
def c__law_ahead : Fn := ⟨2, 2, [
  (.ret (.ite (.val (.cmp .Eq (.callB .len [(.var 0)]) (.callB .len [(.var 1)]))) (.cmp .Lt (.var 0) (.var 1)) (.cmp .Lt (.callB .len [(.var 0)]) (.callB .len [(.var 1)]))))]⟩
theorem fn__law_ahead : P.fns "_law_ahead" = some (.code c__law_ahead) := by kernel_rfl
def c__law_turned : Fn := ⟨2, 3, [
  (.asg 2 (.callG "_law_draw" [(.var 0), (.bin .Add (.callB .len [(.var 1)]) (.cst (.int 1)))])),
  (.ret (.bin .Add (.rev (.slc (.var 1) [(.var 2)] [])) (.slc (.var 1) [] [(.var 2)])))]⟩
theorem fn__law_turned : P.fns "_law_turned" = some (.code c__law_turned) := by kernel_rfl
def c_joined_e2 : E := .comp (.tup [(.callB .len [(.var 7)]), (.var 7)]) (.nm 7) [10, 7] .seq [(.callG "how_often" [(.bin .Add (.bin .Add (.var 0) (.var 1)) (.var 2))])] []
def c_joined_l1 : St := .forS (.tup [8, 7]) .seq [(.callB .sorted [c_joined_e2])] [(.asg 9 (.bin .Sub (.bin .Add (.meth (.var 4) "get" [(.var 7), (.cst (.int 0))]) (.meth (.var 5) "get" [(.var 7), (.cst (.int 0))])) (.meth (.var 3) "get" [(.var 7), (.cst (.int 0))]))), (.expr (.meth (.var 6) "extend" [(.bin .Mult (.lst [(.var 7)]) (.callB .max [(.cst (.int 0)), (.var 9)]))]))]
def c_joined : Fn := ⟨3, 11, [
  (.par [3, 4, 5] [(.callG "how_often" [(.var 0)]), (.callG "how_often" [(.var 1)]), (.callG "how_often" [(.var 2)])]),
  (.asg 6 (.mk (.lst []))),
  c_joined_l1,
  (.ret (.callB .tuple [(.var 6)]))]⟩
theorem fn_joined : P.fns "joined" = some (.code c_joined) := by kernel_rfl
def c_how_often_l1 : St := .forS (.nm 2) .seq [(.var 0)] [(.idxS (.var 1) (.var 2) (.bin .Add (.meth (.var 1) "get" [(.var 2), (.cst (.int 0))]) (.cst (.int 1))))]
def c_how_often : Fn := ⟨1, 3, [
  (.asg 1 (.dct [])),
  c_how_often_l1,
  (.ret (.var 1))]⟩
theorem fn_how_often : P.fns "how_often" = some (.code c_how_often) := by kernel_rfl
def c__law_in_order_l1 : St := .forS (.nm 2) .seq [(.callG "_law_unlike" [(.var 0)])] [(.expr (.meth (.var 1) "extend" [(.bin .Mult (.lst [(.var 2)]) (.meth (.var 0) "count" [(.var 2)]))]))]
def c__law_in_order : Fn := ⟨1, 3, [
  (.asg 1 (.mk (.lst []))),
  c__law_in_order_l1,
  (.ret (.callB .tuple [(.var 1)]))]⟩
theorem fn__law_in_order : P.fns "_law_in_order" = some (.code c__law_in_order) := by kernel_rfl
def c_fewest_runs_e1 : E := .comp (.callB .abs [(.bin .Sub (.meth (.var 3) "get" [(.var 5), (.cst (.int 0))]) (.meth (.var 2) "get" [(.var 5), (.cst (.int 0))]))]) (.nm 5) [4, 5] .seq [(.callG "how_often" [(.bin .Add (.var 0) (.var 1))])] []
def c_fewest_runs : Fn := ⟨2, 6, [
  (.unp [2, 3] (.tup [(.callG "how_often" [(.var 0)]), (.callG "how_often" [(.var 1)])])),
  (.ret (.callB .sum [c_fewest_runs_e1]))]⟩
theorem fn_fewest_runs : P.fns "fewest_runs" = some (.code c_fewest_runs) := by kernel_rfl
def c__law_apart_l1 : St := .forS (.nm 3) .seq [(.callG "_law_unlike" [(.bin .Add (.var 0) (.var 1))])] [(.asg 2 (.bin .Add (.var 2) (.callB .abs [(.bin .Sub (.meth (.var 0) "count" [(.var 3)]) (.meth (.var 1) "count" [(.var 3)]))])))]
def c__law_apart : Fn := ⟨2, 4, [
  (.asg 2 (.cst (.int 0))),
  c__law_apart_l1,
  (.ret (.var 2))]⟩
theorem fn__law_apart : P.fns "_law_apart" = some (.code c__law_apart) := by kernel_rfl
def c__law_shelves_e1 : E := .comp (.callG "_law_copy" [(.var 0), (.var 2), (.var 1), (.callG "_law_draw" [(.var 0), (.cst (.int 7))]), (.var 3)]) (.nm 15) [14, 15] .range [(.cst (.int 2))] []
def c__law_shelves_l2 : St := .forS (.tup [8, 9]) .seq [(.var 5)] [(.expr (.meth (.var 7) "append" [(.bin .Add (.slc (.var 4) [] [(.cst (.int 4))]) (.tup [(.var 9)]))])), (.iff (.val (.cmp .NotEq (.callB .repr [(.callG "replayed" [(.tup [(.var 4), (.var 8)])])]) (.callB .repr [(.tup [(.idx (.var 7) (.neg (.cst (.int 1)))), (.tupR [(.cst (.int 1)), (.bin .Add (.callB .len [(.var 8)]) (.cst (.int 1)))])])]))) [(.ret (.cst (.bl false)))] [])]
def c__law_shelves_l3 : St := .forS (.nm 10) .range [(.cst (.int 2))] [(.par [11, 12] [(.idx (.idx (.var 5) (.var 10)) (.cst (.int 1))), (.idx (.idx (.var 5) (.bin .Sub (.cst (.int 1)) (.var 10))) (.cst (.int 1)))]), (.iff (.val (.cmp .NotEq (.callB .repr [(.callG "joined" [(.var 2), (.var 11), (.var 12)])]) (.callB .repr [(.var 6)]))) [(.ret (.cst (.bl false)))] []), (.asg 13 (.callG "_law_follow" [(.var 11), (.var 6)])), (.iff (.or (.val (.cmp .NotEq (.callB .repr [(.callG "fewest_runs" [(.var 11), (.var 6)])]) (.callB .repr [(.callB .len [(.var 13)])]))) (.val (.cmp .NotEq (.callB .repr [(.callG "fewest_runs" [(.var 6), (.var 11)])]) (.callB .repr [(.callB .len [(.var 13)])])))) [(.ret (.cst (.bl false)))] []), (.iff (.val (.cmp .NotEq (.callB .repr [(.callG "replayed" [(.tup [(.idx (.var 7) (.var 10)), (.var 13)])])]) (.callB .repr [(.tup [(.bin .Add (.slc (.var 4) [] [(.cst (.int 4))]) (.tup [(.var 6)])), (.tupR [(.cst (.int 1)), (.bin .Add (.callB .len [(.var 13)]) (.cst (.int 1)))])])]))) [(.ret (.cst (.bl false)))] [])]
def c__law_shelves : Fn := ⟨2, 16, [
  (.unp [2, 3] (.tup [(.callG "_law_in_order" [(.callG "_law_some" [(.var 0), (.var 1), (.callG "_law_one" [(.var 0), (.lst [(.cst (.int 0)), (.cst (.int 2)), (.cst (.int 5)), (.cst (.int 12))])])])]), (.cmp .Eq (.callG "_law_draw" [(.var 0), (.cst (.int 2))]) (.cst (.int 0)))])),
  (.asg 4 (.tup [(.tup [(.cst (.int 3)), (.tup [(.tup [(.cst (.int 0)), (.cst (.int 0)), (.cst (.int 0))])]), (.tup [(.cst (.bl true))])]), (.callG "_law_table" []), (.tup []), (.cst .non), (.var 2)])),
  (.asg 5 c__law_shelves_e1),
  (.par [6, 7] [(.callG "_law_joined" [(.var 2), (.idx (.idx (.var 5) (.cst (.int 0))) (.cst (.int 1))), (.idx (.idx (.var 5) (.cst (.int 1))) (.cst (.int 1)))]), (.mk (.lst []))]),
  c__law_shelves_l2,
  c__law_shelves_l3,
  (.ret (.cst (.bl true)))]⟩
theorem fn__law_shelves : P.fns "_law_shelves" = some (.code c__law_shelves) := by kernel_rfl
def c__law_table_l1 : St := .forS (.nm 1) .seq [(.tup [(.cst (.int 1)), (.cst (.int 2))])] [(.expr (.meth (.var 0) "append" [(.tup [(.var 1), (.var 1), (.var 1), (.cst (.int 4)), (.var 1), (.var 1), (.var 1), (.cst (.int 4)), (.var 1), (.var 1), (.var 1), (.cst (.int 4)), (.cst (.int 3)), (.cst (.int 3)), (.cst (.int 3))])]))]
def c__law_table : Fn := ⟨0, 2, [
  (.asg 0 (.mk (.lst [(.tup [(.cst (.int 0)), (.cst (.int 1)), (.cst (.int 1)), (.cst (.int 4)), (.cst (.int 2)), (.cst (.int 0)), (.cst (.int 1)), (.cst (.int 4)), (.cst (.int 2)), (.cst (.int 2)), (.cst (.int 0)), (.cst (.int 4)), (.cst (.int 3)), (.cst (.int 3)), (.cst (.int 3))])]))),
  c__law_table_l1,
  (.ret (.tup [(.cst (.int 3)), (.callB .tuple [(.bin .Add (.var 0) (.lst [(.bin .Mult (.tup [(.cst (.int 3))]) (.cst (.int 15))), (.bin .Mult (.tup [(.cst (.int 4))]) (.cst (.int 15)))]))]), (.tup [(.cst (.int 0)), (.neg (.cst (.int 1))), (.cst (.int 1)), (.neg (.cst (.int 1))), (.cst (.int 1))])]))]⟩
theorem fn__law_table : P.fns "_law_table" = some (.code c__law_table) := by kernel_rfl
def c__law_copy_l1 : St := .forS (.nm 7) .range [(.var 3)] [(.iff (.and (.val (.cmp .NotEq (.var 5) (.tup []))) (.val (.cmp .Eq (.callG "_law_draw" [(.var 0), (.cst (.int 2))]) (.cst (.int 0))))) [(.asg 8 (.callG "_law_draw" [(.var 0), (.callB .len [(.var 5)])])), (.expr (.meth (.var 6) "append" [(.tup [(.cst (.str [116, 97, 107, 101])), (.var 8)])])), (.asg 5 (.bin .Add (.slc (.var 5) [] [(.var 8)]) (.slc (.var 5) [(.bin .Add (.var 8) (.cst (.int 1)))] [])))] [(.asg 9 (.callG "_law_one" [(.var 0), (.var 2)])), (.expr (.meth (.var 6) "append" [(.tup [(.cst (.str [112, 117, 116])), (.var 9)])])), (.asg 5 (.callG "_law_in_order" [(.bin .Add (.var 5) (.tup [(.var 9)]))]))])]
def c__law_copy : Fn := ⟨5, 10, [
  (.par [5, 6] [(.var 1), (.mk (.lst []))]),
  (.iff (.and (.val (.var 4)) (.val (.cmp .NotEq (.var 5) (.tup [])))) [(.expr (.meth (.var 6) "append" [(.tup [(.cst (.str [116, 97, 107, 101])), (.cst (.int 0))])])), (.asg 5 (.slc (.var 5) [(.cst (.int 1))] []))] []),
  c__law_copy_l1,
  (.ret (.tup [(.callB .tuple [(.var 6)]), (.var 5)]))]⟩
theorem fn__law_copy : P.fns "_law_copy" = some (.code c__law_copy) := by kernel_rfl
def c__law_follow_l2 : St := .forS (.nm 5) .range [(.bin .Sub (.meth (.var 0) "count" [(.var 4)]) (.meth (.var 1) "count" [(.var 4)]))] [(.expr (.meth (.var 2) "append" [(.tup [(.cst (.str [116, 97, 107, 101])), (.meth (.var 3) "index" [(.var 4)])])])), (.expr (.meth (.var 3) "remove" [(.var 4)]))]
def c__law_follow_e4 : E := .comp (.var 7) (.nm 7) [6, 7] .seq [(.var 3)] [(.not (.val (.callG "_law_ahead" [(.var 4), (.var 7)])))]
def c__law_follow_l3 : St := .forS (.nm 5) .range [(.bin .Sub (.meth (.var 1) "count" [(.var 4)]) (.meth (.var 0) "count" [(.var 4)]))] [(.expr (.meth (.var 2) "append" [(.tup [(.cst (.str [112, 117, 116])), (.var 4)])])), (.expr (.meth (.var 3) "insert" [(.callB .len [c__law_follow_e4]), (.var 4)]))]
def c__law_follow_l1 : St := .forS (.nm 4) .seq [(.callG "_law_unlike" [(.bin .Add (.var 0) (.var 1))])] [c__law_follow_l2, c__law_follow_l3]
def c__law_follow : Fn := ⟨2, 8, [
  (.par [2, 3] [(.mk (.lst [])), (.mk (.callB .list [(.var 0)]))]),
  c__law_follow_l1,
  (.ret (.callB .tuple [(.var 2)]))]⟩
theorem fn__law_follow : P.fns "_law_follow" = some (.code c__law_follow) := by kernel_rfl
def c_replayed_e1 : E := .comp (.callG "answer_to" [(.var 1), (.var 4)]) (.nm 4) [3, 4] .seq [(.idx (.var 0) (.cst (.int 1)))] []
def c_replayed : Fn := ⟨1, 5, [
  (.asg 1 (.callG "Play" [(.idx (.var 0) (.cst (.int 0)))])),
  (.asg 2 (.callB .tuple [c_replayed_e1])),
  (.ret (.tup [(.meth (.var 1) "plan_now" []), (.var 2)]))]⟩
theorem fn_replayed : P.fns "replayed" = some (.code c_replayed) := by kernel_rfl
def c_answer_to : Fn := ⟨2, 4, [
  (.unp [2, 3] (.thunk "outcome" (.meth (.var 0) "play" [(.var 1)]))),
  (.ret (.ite (.val (.cmp .Is (.var 3) (.cst .non))) (.var 2) (.var 3)))]⟩
theorem fn_answer_to : P.fns "answer_to" = some (.code c_answer_to) := by kernel_rfl
def c_outcome : Fn := ⟨1, 1, [
  .bad]⟩
theorem fn_outcome : P.fns "outcome" = some (.code c_outcome) := by kernel_rfl
def c_word_outcome : Fn := ⟨1, 1, [
  .bad]⟩
theorem fn_word_outcome : P.fns "word_outcome" = some (.code c_word_outcome) := by kernel_rfl
def c_edited : Fn := ⟨2, 9, [
  (.unp [2, 3] (.var 1)),
  (.unp [4, 5, 6, 7, 8] (.var 0)),
  (.iff (.val (.cmp .Eq (.var 2) (.cst (.str [112, 117, 116])))) [(.ret (.tup [(.var 4), (.var 5), (.var 6), (.var 7), (.callG "put_words" [(.var 0), (.var 3)])]))] []),
  (.iff (.val (.cmp .Eq (.var 2) (.cst (.str [116, 97, 107, 101])))) [(.expr (.callG "word_at" [(.var 8), (.var 3)])), (.ret (.tup [(.var 4), (.var 5), (.var 6), (.var 7), (.bin .Add (.slc (.var 8) [] [(.var 3)]) (.slc (.var 8) [(.bin .Add (.var 3) (.cst (.int 1)))] []))]))] []),
  (.iff (.val (.cmp .Eq (.var 2) (.cst (.str [119, 101, 101, 100])))) [(.ret (.tup [(.var 4), (.var 5), (.var 6), (.var 7), (.callG "weeded" [(.var 0), (.var 3)])]))] []),
  (.iff (.val (.cmp .Eq (.var 2) (.cst (.str [108, 97, 121])))) [(.ret (.tup [(.var 4), (.var 5), (.callG "line_of" [(.var 0), (.var 3)]), (.var 7), (.var 8)]))] []),
  (.iff (.val (.cmp .Eq (.var 2) (.cst (.str [119, 105, 100, 101, 110])))) [(.ret (.tup [(.var 4), (.var 5), (.var 6), (.callG "room_of" [(.var 0), (.var 3)]), (.var 8)]))] []),
  (.expr (.callG "need_order" [(.var 4), (.var 3)])),
  (.ret (.tup [(.var 4), (.var 3), (.var 6), (.var 7), (.callG "sorted_by" [(.var 3), (.var 8)])]))]⟩
theorem fn_edited : P.fns "edited" = some (.code c_edited) := by kernel_rfl
def c_word_at : Fn := ⟨2, 2, [
  (.iff (.not (.val (.callG "is_whole" [(.var 1), (.cst (.int 0)), (.bin .Sub (.callB .len [(.var 0)]) (.cst (.int 1)))]))) [.bad] []),
  (.ret (.idx (.var 0) (.var 1)))]⟩
theorem fn_word_at : P.fns "word_at" = some (.code c_word_at) := by kernel_rfl
def c_is_whole : Fn := ⟨3, 3, [
  (.ret (.and (.callB (.isi "int") [(.var 0)]) (.and (.not (.callB (.isi "bool") [(.var 0)])) (.chain .LtE .LtE (.var 1) (.var 0) (.var 2)))))]⟩
theorem fn_is_whole : P.fns "is_whole" = some (.code c_is_whole) := by kernel_rfl
def c_put_words : Fn := ⟨2, 9, [
  (.unp [2, 3, 4, 5, 6] (.var 0)),
  (.iff (.not (.val (.callG "is_word_of" [(.var 2), (.var 1)]))) [.bad] []),
  (.asg 7 (.callG "image" [(.var 4), (.var 1)])),
  (.iff (.not (.val (.callG "is_of" [(.var 2), (.var 7)]))) [.bad] []),
  (.iff (.val (.cmp .GtE (.callB .len [(.var 6)]) (.glob "MAX_WORDS"))) [.bad] []),
  (.asg 8 (.callG "placed" [(.var 3), (.var 6), (.var 7)])),
  (.expr (.callG "need_space" [(.var 5), (.var 8)])),
  (.ret (.var 8))]⟩
theorem fn_put_words : P.fns "put_words" = some (.code c_put_words) := by kernel_rfl
def c_image_l1 : St := .forS (.nm 5) .seq [(.var 1)] [(.unp [4, 6] (.meth (.var 2) "after" [(.var 4), (.var 5)])), (.expr (.meth (.var 3) "append" [(.var 6)]))]
def c_image : Fn := ⟨2, 7, [
  (.par [2, 3] [(.callG "Walker" [(.var 0)]), (.mk (.lst []))]),
  (.asg 4 (.meth (.var 2) "start" [])),
  c_image_l1,
  (.ret (.bin .Add (.meth (.cst (.str [])) "join" [(.var 3)]) (.meth (.var 2) "last" [(.var 4)])))]⟩
theorem fn_image : P.fns "image" = some (.code c_image) := by kernel_rfl
def c_placed_e1 : E := .comp (.var 5) (.nm 5) [4, 5] .seq [(.var 1)] [(.val (.cmp .Lt (.callG "tells" [(.var 0), (.var 5), (.var 2)]) (.cst (.int 1))))]
def c_placed : Fn := ⟨3, 6, [
  (.asg 3 (.callB .len [c_placed_e1])),
  (.ret (.bin .Add (.bin .Add (.slc (.var 1) [] [(.var 3)]) (.tup [(.var 2)])) (.slc (.var 1) [(.var 3)] [])))]⟩
theorem fn_placed : P.fns "placed" = some (.code c_placed) := by kernel_rfl
def c_tells_l1 : St := .forS (.tup [6, 7]) .zip [(.meth (.var 1) "ljust" [(.var 5), (.glob "END")]), (.meth (.var 2) "ljust" [(.var 5), (.glob "END")])] [(.asg 4 (.meth (.var 3) "after" [(.var 4), (.var 6), (.var 7)]))]
def c_tells : Fn := ⟨3, 8, [
  (.par [3, 4] [(.callG "Reader" [(.var 0)]), (.cst (.int 0))]),
  (.asg 5 (.callB .max [(.callB .len [(.var 1)]), (.callB .len [(.var 2)])])),
  c_tells_l1,
  (.ret (.meth (.var 3) "mark_of" [(.var 4)]))]⟩
theorem fn_tells : P.fns "tells" = some (.code c_tells) := by kernel_rfl
def c_columns_e2 : E := .comp (.bin .Add (.var 3) (.var 5)) (.nm 5) [4, 5] .seq [(.var 1)] []
def c_columns_l1 : St := .forS (.nm 3) .seq [(.var 1)] [(.expr (.meth (.var 2) "extend" [c_columns_e2]))]
def c_columns : Fn := ⟨1, 6, [
  (.par [1, 2] [(.bin .Add (.slc (.glob "LETTERS_comps") [] [(.var 0)]) (.glob "END")), (.mk (.lst []))]),
  c_columns_l1,
  (.ret (.callB .tuple [(.slc (.var 2) [] [(.neg (.cst (.int 1)))])]))]⟩
theorem fn_columns : P.fns "columns" = some (.code c_columns) := by kernel_rfl
def c_need_space : Fn := ⟨2, 2, [
  (.iff (.val (.callG "is_full" [(.var 0), (.var 1)])) [.bad] [])]⟩
theorem fn_need_space : P.fns "need_space" = some (.code c_need_space) := by kernel_rfl
def c_is_full_e1 : E := .comp (.callG "worth" [(.idx (.var 0) (.cst (.int 0))), (.var 3)]) (.nm 3) [2, 3] .seq [(.var 1)] []
def c_is_full : Fn := ⟨2, 4, [
  (.ret (.and (.cmp .IsNot (.var 0) (.cst .non)) (.cmp .Gt (.callB .sum [c_is_full_e1]) (.idx (.var 0) (.cst (.int 1))))))]⟩
theorem fn_is_full : P.fns "is_full" = some (.code c_is_full) := by kernel_rfl
def c_is_word_of : Fn := ⟨2, 2, [
  (.ret (.and (.callG "is_word" [(.idx (.var 0) (.cst (.int 0))), (.var 1)]) (.callG "is_of" [(.var 0), (.var 1)])))]⟩
theorem fn_is_word_of : P.fns "is_word_of" = some (.code c_is_word_of) := by kernel_rfl
def c_is_word_e1 : E := .comp (.var 3) (.nm 3) [2, 3] .seq [(.var 1)] [(.val (.cmp .NotIn (.var 3) (.slc (.glob "LETTERS_texts") [] [(.var 0)])))]
def c_is_word : Fn := ⟨2, 4, [
  (.iff (.or (.not (.val (.callB (.isi "str") [(.var 1)]))) (.val (.cmp .Gt (.callB .len [(.var 1)]) (.glob "MAX_LONG")))) [(.ret (.cst (.bl false)))] []),
  (.ret (.cmp .Eq c_is_word_e1 (.lst [])))]⟩
theorem fn_is_word : P.fns "is_word" = some (.code c_is_word) := by kernel_rfl
def c_is_of_l1 : St := .forS (.nm 3) .seq [(.var 1)] [(.asg 2 (.idx (.idx (.idx (.var 0) (.cst (.int 1))) (.var 2)) (.meth (.glob "LETTERS_machines") "index" [(.var 3)]))), (.iff (.val (.cmp .Is (.var 2) (.cst .non))) [(.ret (.cst (.bl false)))] [])]
def c_is_of : Fn := ⟨2, 4, [
  (.asg 2 (.cst (.int 0))),
  c_is_of_l1,
  (.ret (.idx (.idx (.var 0) (.cst (.int 2))) (.var 2)))]⟩
theorem fn_is_of : P.fns "is_of" = some (.code c_is_of) := by kernel_rfl
def c__law_is_added_e1 : E := .comp (.callG "_law_some" [(.var 0), (.var 1), (.cst (.int 6))]) (.nm 9) [8, 9] .range [(.cst (.int 3))] []
def c__law_is_added : Fn := ⟨2, 10, [
  (.asg 2 (.callG "_law_some" [(.var 0), (.var 1), (.cst (.int 10))])),
  (.asg 3 c__law_is_added_e1),
  (.par [4, 5, 6] [(.bin .Add (.var 2) (.idx (.var 3) (.cst (.int 0)))), (.bin .Add (.idx (.var 3) (.cst (.int 1))) (.var 2)), (.callG "_law_turned" [(.var 0), (.bin .Add (.var 2) (.idx (.var 3) (.cst (.int 2))))])]),
  (.asg 7 (.callB .repr [(.callG "_law_in_order" [(.bin .Add (.bin .Add (.bin .Add (.var 2) (.idx (.var 3) (.cst (.int 0)))) (.idx (.var 3) (.cst (.int 1)))) (.idx (.var 3) (.cst (.int 2))))])])),
  (.iff (.val (.cmp .NotEq (.callB .repr [(.callG "joined" [(.var 2), (.callG "joined" [(.var 2), (.var 4), (.var 5)]), (.var 6)])]) (.var 7))) [(.ret (.cst (.bl false)))] []),
  (.ret (.cmp .Eq (.callB .repr [(.callG "joined" [(.var 2), (.var 4), (.callG "joined" [(.var 2), (.var 6), (.var 5)])])]) (.var 7)))]⟩
theorem fn__law_is_added : P.fns "_law_is_added" = some (.code c__law_is_added) := by kernel_rfl
def c_Play___init__ : Fn := ⟨2, 2, [
  (.fldS (.var 0) "begun" (.var 1)),
  (.fldS (.var 0) "standing" (.lst [])),
  (.fldS (.var 0) "undone" (.lst []))]⟩
theorem mt_Play___init__ : P.meths "Play" "__init__" = some (.code c_Play___init__) := by kernel_rfl
def c_Play_plan_now : Fn := ⟨1, 1, [
  (.ret (.ite (.val (.cmp .NotEq (.fld (.var 0) "standing") (.lst []))) (.idx (.idx (.fld (.var 0) "standing") (.neg (.cst (.int 1)))) (.cst (.int 1))) (.fld (.var 0) "begun")))]⟩
theorem mt_Play_plan_now : P.meths "Play" "plan_now" = some (.code c_Play_plan_now) := by kernel_rfl
def c_Play_play : Fn := ⟨2, 3, [
  (.iff (.val (.cmp .Eq (.idx (.var 1) (.cst (.int 0))) (.cst (.str [117, 110, 100, 111])))) [(.ret (.meth (.var 0) "back" []))] []),
  (.iff (.val (.cmp .Eq (.idx (.var 1) (.cst (.int 0))) (.cst (.str [114, 101, 100, 111])))) [(.ret (.meth (.var 0) "forth" []))] []),
  (.asg 2 (.callG "edited" [(.meth (.var 0) "plan_now" []), (.var 1)])),
  (.fldS (.var 0) "standing" (.bin .Add (.fld (.var 0) "standing") (.lst [(.tup [(.var 1), (.var 2)])]))),
  (.fldS (.var 0) "undone" (.lst [])),
  (.ret (.callB .len [(.fld (.var 0) "standing")]))]⟩
theorem mt_Play_play : P.meths "Play" "play" = some (.code c_Play_play) := by kernel_rfl
def c_Walker___init__ : Fn := ⟨2, 2, [
  (.fldS (.var 0) "line" (.var 1))]⟩
theorem mt_Walker___init__ : P.meths "Walker" "__init__" = some (.code c_Walker___init__) := by kernel_rfl
def c_Walker_after_l2 : St := .forS (.nm 8) .seq [(.var 3)] [(.unp [6, 9] (.callG "step_after" [(.var 5), (.var 6), (.var 8)])), (.asg 7 (.bin .Add (.var 7) (.var 9)))]
def c_Walker_after_l1 : St := .forS (.tup [5, 6]) .zip [(.fld (.var 0) "line"), (.var 1)] [(.asg 7 (.cst (.str []))), c_Walker_after_l2, (.expr (.meth (.var 4) "append" [(.var 6)])), (.asg 3 (.var 7))]
def c_Walker_after : Fn := ⟨3, 10, [
  (.par [3, 4] [(.var 2), (.mk (.lst []))]),
  c_Walker_after_l1,
  (.ret (.tup [(.callB .tuple [(.var 4)]), (.var 3)]))]⟩
theorem mt_Walker_after : P.meths "Walker" "after" = some (.code c_Walker_after) := by kernel_rfl
def c_Walker_last_l2 : St := .forS (.nm 6) .seq [(.var 2)] [(.unp [4, 7] (.callG "step_after" [(.var 3), (.var 4), (.var 6)])), (.asg 5 (.bin .Add (.var 5) (.var 7)))]
def c_Walker_last_l1 : St := .forS (.tup [3, 4]) .zip [(.fld (.var 0) "line"), (.var 1)] [(.asg 5 (.cst (.str []))), c_Walker_last_l2, (.asg 2 (.bin .Add (.var 5) (.callG "step_last" [(.var 3), (.var 4)])))]
def c_Walker_last : Fn := ⟨2, 8, [
  (.asg 2 (.cst (.str []))),
  c_Walker_last_l1,
  (.ret (.var 2))]⟩
theorem mt_Walker_last : P.meths "Walker" "last" = some (.code c_Walker_last) := by kernel_rfl
def c_Reader___init___e1 : E := .dcomp (.var 4) (.var 3) (.tup [3, 4]) [2, 3, 4] .enum [(.callG "columns" [(.idx (.var 1) (.cst (.int 0)))])] []
def c_Reader___init__ : Fn := ⟨2, 5, [
  (.fldS (.var 0) "rows" (.idx (.var 1) (.cst (.int 1)))),
  (.fldS (.var 0) "verdicts" (.idx (.var 1) (.cst (.int 2)))),
  (.fldS (.var 0) "spots" c_Reader___init___e1)]⟩
theorem mt_Reader___init__ : P.meths "Reader" "__init__" = some (.code c_Reader___init__) := by kernel_rfl
def c_Reader_after : Fn := ⟨4, 4, [
  (.iff (.and (.val (.cmp .Eq (.var 2) (.glob "END"))) (.val (.cmp .Eq (.var 3) (.glob "END")))) [(.ret (.var 1))] []),
  (.ret (.idx (.idx (.fld (.var 0) "rows") (.var 1)) (.idx (.fld (.var 0) "spots") (.bin .Add (.var 2) (.var 3)))))]⟩
theorem mt_Reader_after : P.meths "Reader" "after" = some (.code c_Reader_after) := by kernel_rfl
def c_Walker_start_e1 : E := .comp (.callG "begun" [(.var 2)]) (.nm 2) [1, 2] .seq [(.fld (.var 0) "line")] []
def c_Walker_start : Fn := ⟨1, 3, [
  (.ret (.callB .tuple [c_Walker_start_e1]))]⟩
theorem mt_Walker_start : P.meths "Walker" "start" = some (.code c_Walker_start) := by kernel_rfl
def c_Reader_mark_of : Fn := ⟨2, 2, [
  (.ret (.idx (.fld (.var 0) "verdicts") (.var 1)))]⟩
theorem mt_Reader_mark_of : P.meths "Reader" "mark_of" = some (.code c_Reader_mark_of) := by kernel_rfl
end K90
/-! Draws. -/
namespace K90
open Rf
open PySem (Str)

abbrev kCells : D := .str [99, 101, 108, 108, 115]
abbrev kTurn : D := .str [116, 117, 114, 110]
/-- the store with the hand: the cells at 0, the hand at 1 -/
def hs (c : List Int) (t : Int) (T : Store) : Store := .lst (c.map .int) :: .dct [(kCells, .ref 0), (kTurn, .int t)] :: T
theorem clss_f (x : Str) (h1 : x ≠ "Play") (h2 : x ≠ "Walker") (h3 : x ≠ "Reader") : P.clss x = false := by
  show (["Play", "Walker", "Reader"] : List Str).any (fun c => decide (c = x)) = false
  simp [Ne.symm h1, Ne.symm h2, Ne.symm h3]
theorem hs_ne {c c' : List Int} {t t' : Int} {T T' : Store} (h : t ≠ t') : (hs c' t' T').take (hs c t T).length ≠ hs c t T := fun z => by
  unfold hs at z
  simp only [List.length_cons, List.take_succ_cons, List.cons.injEq, Cell.dct.injEq, Prod.mk.injEq, D.int.injEq] at z
  exact h (z.2.1.2.1.2).symm
theorem hs_get0 {c : List Int} {t : Int} {T : Store} : (hs c t T)[0]? = some (.lst (c.map .int)) := rfl
theorem hs_get1 {c : List Int} {t : Int} {T : Store} : (hs c t T)[1]? = some (.dct [(kCells, .ref 0), (kTurn, .int t)]) := rfl
theorem hs_get2 {c : List Int} {t : Int} {T : Store} {k : Nat} : (hs c t T)[k + 2]? = T[k]? := rfl
theorem hs_set0 {c c' : List Int} {t : Int} {T : Store} : (hs c t T).set 0 (.lst (c'.map .int)) = hs c' t T := rfl
theorem hs_set1 {c : List Int} {t t' : Int} {T : Store} : (hs c t T).set 1 (.dct [(kCells, .ref 0), (kTurn, .int t')]) = hs c t' T := rfl
theorem hs_set2 {c : List Int} {t : Int} {T : Store} {k : Nat} {x : Cell} : (hs c t T).set (k + 2) x = hs c t (T.set k x) := rfl
theorem hs_app {c : List Int} {t : Int} {T X : Store} : hs c t T ++ X = hs c t (T ++ X) := rfl
theorem hs_len {c : List Int} {t : Int} {T : Store} : (hs c t T).length = T.length + 2 := rfl
theorem getC {a b : D} : getK [(kCells, a), (kTurn, b)] kCells = some a := by rfl
theorem getT {a b : D} : getK [(kCells, a), (kTurn, b)] kTurn = some b := by rfl
theorem setT {a b d : D} : setK [(kCells, a), (kTurn, b)] kTurn d = [(kCells, a), (kTurn, d)] := by rfl
theorem pys_ints : ∀ c : List Int, pysOf (c.map .int) = some (c.map .int)
  | [] => rfl
  | i :: c => by simp only [List.map_cons, pysOf, pyOf, pys_ints c]
theorem depth_ints : ∀ c : List Int, depthDs (c.map .int) = 0
  | [] => rfl
  | i :: c => by simp only [List.map_cons, depthDs, depthD, depth_ints c, Nat.max_self]
theorem eqv_nil (xs : List PySem.PyData) : PySem.PyData.eqv (.list xs) (.list []) = xs.isEmpty := by
  cases xs <;> rfl
theorem cmp_hs {c : List Int} {t : Int} {T : Store} : cmpD (hs c t T) .NotEq (.ref 0) (.lst []) = some (!c.isEmpty) := by
  unfold cmpD
  simp only [frozen, hs_get0, eqO, depthD, depth_ints, depthDs, eqD, pyOf, pys_ints, pysOf, Option.map_some, Option.bind_some, eqv_nil]
  simp
theorem place_at {i : Int} {n : Nat} (h0 : 0 ≤ i) (h : i < n) : placeOf i n = some i.toNat := by
  unfold placeOf
  rw [if_pos h0, if_pos h]
theorem line_val : line = 16777216 := rfl
theorem len_pos {c : List Int} (h : c.isEmpty = false) : 0 < (c.length : Int) := by
  cases c with
  | nil => cases h
  | cons a l => simp only [List.length_cons]; omega
theorem draw_ok {m : Nat} (hm : 1 ≤ m) {many : Int} (h1 : 1 ≤ many) (h2 : many < 1073741824) (c : List Int) {t : Int} (T : Store) (h0 : 0 ≤ t) (ht : t < 1000000000) :
    ∃ (k : Int) (c' : List Int), 0 ≤ k ∧ k < many ∧ (ctx P m).call "_law_draw" [.ref 1, .int many] (hs c t T) = some (.ok (.int k) (hs c' (t + 1) T)) := by
  rw [call_fn hm (clss_f _ (by decide) (by decide) (by decide)) fn__law_draw rfl]
  have key : ∀ (x at_ : Int) (c : List Int), (1000000000000000000 ≤ x → 0 ≤ at_ ∧ at_ < c.length) → ∃ (k : Int) (c' : List Int), 0 ≤ k ∧ k < many ∧ fin (hs c t T) (execs (ctx P (m - 1)) (c__law_draw.body.drop 4)
      [some (.ref 1), some (.int many), some (.int (t + 1)), some (.ref 0), some (.int at_), some (.int x), none, none] (hs c (t + 1) T)) = some (.ok (.int k) (hs c' (t + 1) T)) := by
    intro x at_ c hx
    by_cases hbig : 1000000000000000000 ≤ x
    · obtain ⟨a0, a1⟩ := hx hbig
      refine ⟨x % many, c.set at_.toNat (x / many), Int.emod_nonneg _ (by omega), Int.emod_lt_of_pos _ (by omega), ?_⟩
      have hh : 0 < many := by omega
      simp [c__law_draw, execs, exec, ev, evs, evT, opD, cmpD, truthD, bltD, intD, hbig, h2, hh, hs_get0, place_at a0 a1, RM.toS, fin]
      rw [← List.map_set, hs_set0]
      exact trunc_ne (hs_ne (by omega))
    · have hnb : ¬ 1000000000000000000 ≤ x := hbig
      have hh : 0 < many := by omega
      have b1 : (x % 1000000007 + 30011 * (t + 1) + 5).natAbs < 18446744073709551616 := by omega
      refine ⟨(((x % 1000000007 + 30011 * (t + 1) + 5) ^ 5 % 1000000009 + 7 * (t + 1)) ^ 3 % 998244353) % many, c, Int.emod_nonneg _ (by omega), Int.emod_lt_of_pos _ (by omega), ?_⟩
      have b2 : ((x % 1000000007 + 30011 * (t + 1) + 5) ^ 5 % 1000000009 + 7 * (t + 1)).natAbs < 18446744073709551616 := by
        generalize (x % 1000000007 + 30011 * (t + 1) + 5) ^ 5 = y
        omega
      simp [c__law_draw, execs, exec, ev, evs, evT, opD, addD, mulD, cmpD, truthD, bltD, intD, hnb, hh, RM.toS, fin, b1, b2]
      exact trunc_ne (hs_ne (by omega))
  have pre : ∀ (o : D) (at_ x : Int), (if c.isEmpty then at_ = 0 ∧ x = 0 else at_ = (t + 1) % c.length ∧ c[at_.toNat]? = some x) →
      fin (hs c t T) (execs (ctx P (m - 1)) c__law_draw.body ([D.ref 1, D.int many].map some ++ List.replicate (c__law_draw.nslots - c__law_draw.np) none) (hs c t T)) =
      fin (hs c t T) (execs (ctx P (m - 1)) (c__law_draw.body.drop 4) [some (.ref 1), some (.int many), some (.int (t + 1)), some (.ref 0), some (.int at_), some (.int x), none, none] (hs c (t + 1) T)) := by
    intro o at_ x hx
    cases hc : c.isEmpty with
    | true =>
      rw [hc] at hx
      simp only [if_true] at hx
      obtain ⟨rfl, rfl⟩ := hx
      simp [c__law_draw, execs, exec, ev, evs, evT, idxD, frozen, keyD, hs_get1, getT, getC, opD, addD, setT, hs_set1, line_val, setAll, cmp_hs, hc, truthD]
    | false =>
      rw [hc] at hx
      simp only [Bool.false_eq_true, if_false] at hx
      obtain ⟨rfl, hx⟩ := hx
      have hl := len_pos hc
      have hl' : 0 < c.length := by omega
      have p0 := Int.emod_nonneg (t + 1) (show (c.length : Int) ≠ 0 by omega)
      have p1 := Int.emod_lt_of_pos (t + 1) hl
      simp [c__law_draw, execs, exec, ev, evs, evT, idxD, frozen, keyD, hs_get0, hs_get1, getT, getC, opD, addD, setT, hs_set1, line_val, setAll, cmp_hs, hc, truthD, bltD, intD, lenD, hl', place_at p0 p1, hx]
  cases hc : c.isEmpty with
  | true =>
    rw [pre (.non) 0 0 (by simp [hc])]
    exact key 0 0 c (fun z => by omega)
  | false =>
    have hl := len_pos hc
    have p0 := Int.emod_nonneg (t + 1) (show (c.length : Int) ≠ 0 by omega)
    have p1 := Int.emod_lt_of_pos (t + 1) hl
    obtain ⟨x, hx⟩ : ∃ x, c[((t + 1) % (c.length : Int)).toNat]? = some x := ⟨_, List.getElem?_eq_getElem (by omega)⟩
    rw [pre (.non) ((t + 1) % c.length) x (by simp [hc, hx])]
    exact key x _ c (fun _ => ⟨p0, p1⟩)
end K90
/-! Rows of words: the law's and the program's counting. -/
namespace K90
open Rf Wd Rs
open PySem (Str)

abbrev W (ws : List Word) : D := .tup (ws.map .str)
/-- no word is too long -/
def Short (ws : List Word) : Prop := ∀ w ∈ ws, w.length ≤ 1000000
theorem below_W (k : Nat) (ws : List Word) : below k (W ws) = true := belows_map_str k ws
theorem below_L (k : Nat) (ws : List Word) : below k (.lst (ws.map .str)) = true := belows_map_str k ws
theorem ahead_ok {m : Nat} (hm : 1 ≤ m) {a b : Word} (ha : a.length ≤ 1000000) (hb : b.length ≤ 1000000) (S : Store) : (ctx P m).call "_law_ahead" [.str a, .str b] S = some (.ok (.bl (lt a b)) S) := by
  rw [call_fn hm (clss_f _ (by decide) (by decide) (by decide)) fn__law_ahead rfl]
  have ha' : a.length ≤ line := le_line (by omega)
  have hb' : b.length ≤ line := le_line (by omega)
  by_cases e : a.length = b.length
  · simp [c__law_ahead, execs, exec.eq_1, exec.eq_2, exec.eq_3, exec.eq_4, exec.eq_5, exec.eq_6, exec.eq_7, exec.eq_8, exec.eq_9, exec.eq_10, exec.eq_13, exec.eq_14, exec.eq_15, exec.eq_16, exec.eq_17, ev.eq_1, ev.eq_2, ev.eq_3, ev.eq_4, ev.eq_5, ev.eq_6, ev.eq_7, ev.eq_8, ev.eq_9, ev.eq_10, ev.eq_11, ev.eq_12, ev.eq_13, ev.eq_14, ev.eq_15, ev.eq_16, ev.eq_17, ev.eq_18, ev.eq_19, ev.eq_20, ev.eq_21, ev.eq_24, ev.eq_25, ev.eq_26, ev.eq_27, evs, evT, evTs, bltD, intD, absD, pairUp, setAll, bindTo, tgK, walkT, pairK, wipeE, ha', hb', e, trunc_same, lt]
  · have e' : ¬ (a.length : Int) = b.length := by omega
    simp [c__law_ahead, execs, exec.eq_1, exec.eq_2, exec.eq_3, exec.eq_4, exec.eq_5, exec.eq_6, exec.eq_7, exec.eq_8, exec.eq_9, exec.eq_10, exec.eq_13, exec.eq_14, exec.eq_15, exec.eq_16, exec.eq_17, ev.eq_1, ev.eq_2, ev.eq_3, ev.eq_4, ev.eq_5, ev.eq_6, ev.eq_7, ev.eq_8, ev.eq_9, ev.eq_10, ev.eq_11, ev.eq_12, ev.eq_13, ev.eq_14, ev.eq_15, ev.eq_16, ev.eq_17, ev.eq_18, ev.eq_19, ev.eq_20, ev.eq_21, ev.eq_24, ev.eq_25, ev.eq_26, ev.eq_27, evs, evT, evTs, bltD, intD, absD, pairUp, setAll, bindTo, tgK, walkT, pairK, wipeE, ha', hb', e, e', trunc_same, lt]
theorem flat_strs (ws : List Word) : (ws.map D.str).all flatD = true := by
  induction ws with
  | nil => rfl
  | cons w ws ih => simp only [List.map_cons, List.all_cons, ih, flatD, Bool.and_self]
theorem in_strs (w : Word) (ws : List Word) : inSeq (.str w) (ws.map .str) = some (decide (w ∈ ws)) := by
  unfold inSeq
  rw [flat_strs]
  simp only [flatD, Bool.and_self, if_true, Option.some.injEq]
  induction ws with
  | nil => rfl
  | cons a ws ih =>
    simp only [List.map_cons, List.any_cons, eq_str, ih]
    by_cases e : a = w
    · subst e; simp
    · simp [e, Ne.symm e]
theorem unl_snoc : ∀ (ws : List Word) (acc : List Word) (w : Word), unl acc (ws ++ [w]) = if w ∈ unl acc ws then unl acc ws else insU w (unl acc ws)
  | [], acc, w => rfl
  | v :: ws, acc, w => by
    rw [List.cons_append, unl, unl]
    exact unl_snoc ws _ w
theorem take_snoc {α : Type} {l : List α} {i : Nat} {x : α} (h : l[i]? = some x) : l.take (i + 1) = l.take i ++ [x] := by
  rw [List.take_add_one, h]
  rfl
def lts (w : Word) : D → Bool
  | .str v => lt v w
  | _ => false
/-- the words of a cell that are ahead of one -/
theorem comp_ahead {m : Nat} (hm : 1 ≤ m) {acc : List Word} {w : Word} {S : Store} {h : Nat} {a0 a3 a4 : Option D} (hS : S[h]? = some (.lst (acc.map .str))) (ha : Short acc) (hw : w.length ≤ 1000000) (hl : acc.length ≤ 1000000) :
    ev (ctx P m) c__law_unlike_e2 [a0, some (.ref h), some (.str w), a3, a4] S = some (.ok (.lst ((acc.filter fun x => lt x w).map .str)) S) := by
  have e := comp_filter (s := c__law_unlike_e2) (C := ctx P m) (ρ := [a0, some (.ref h), some (.str w), a3, a4]) (S := S) (S1 := S) (ds := [.ref h]) (xs := acc.map .str) (lts w) id rfl (by simp [execs, exec.eq_1, exec.eq_2, exec.eq_3, exec.eq_4, exec.eq_5, exec.eq_6, exec.eq_7, exec.eq_8, exec.eq_9, exec.eq_10, exec.eq_13, exec.eq_14, exec.eq_15, exec.eq_16, exec.eq_17, ev.eq_1, ev.eq_2, ev.eq_3, ev.eq_4, ev.eq_5, ev.eq_6, ev.eq_7, ev.eq_8, ev.eq_9, ev.eq_10, ev.eq_11, ev.eq_12, ev.eq_13, ev.eq_14, ev.eq_15, ev.eq_16, ev.eq_17, ev.eq_18, ev.eq_19, ev.eq_20, ev.eq_21, ev.eq_24, ev.eq_25, ev.eq_26, ev.eq_27, evs, evT, evTs, bltD, intD, absD, pairUp, setAll, bindTo, tgK, walkT, pairK, wipeE]) (by simp [hS]) (by simp) (by simp) (by simp [execs, exec.eq_1, exec.eq_2, exec.eq_3, exec.eq_4, exec.eq_5, exec.eq_6, exec.eq_7, exec.eq_8, exec.eq_9, exec.eq_10, exec.eq_13, exec.eq_14, exec.eq_15, exec.eq_16, exec.eq_17, ev.eq_1, ev.eq_2, ev.eq_3, ev.eq_4, ev.eq_5, ev.eq_6, ev.eq_7, ev.eq_8, ev.eq_9, ev.eq_10, ev.eq_11, ev.eq_12, ev.eq_13, ev.eq_14, ev.eq_15, ev.eq_16, ev.eq_17, ev.eq_18, ev.eq_19, ev.eq_20, ev.eq_21, ev.eq_24, ev.eq_25, ev.eq_26, ev.eq_27, evs, evT, evTs, bltD, intD, absD, pairUp, setAll, bindTo, tgK, walkT, pairK, wipeE, hS]) (by simpa using le_line (by omega)) (fun d hd => ?_)
  · rw [List.map_id, List.filter_map] at e
    exact e
  · obtain ⟨v, hv, rfl⟩ := List.mem_map.mp hd
    refine ⟨_, rfl, ?_, ?_⟩
    · by_cases e : lt v w = true <;> simp [execs, exec.eq_1, exec.eq_2, exec.eq_3, exec.eq_4, exec.eq_5, exec.eq_6, exec.eq_7, exec.eq_8, exec.eq_9, exec.eq_10, exec.eq_13, exec.eq_14, exec.eq_15, exec.eq_16, exec.eq_17, ev.eq_1, ev.eq_2, ev.eq_3, ev.eq_4, ev.eq_5, ev.eq_6, ev.eq_7, ev.eq_8, ev.eq_9, ev.eq_10, ev.eq_11, ev.eq_12, ev.eq_13, ev.eq_14, ev.eq_15, ev.eq_16, ev.eq_17, ev.eq_18, ev.eq_19, ev.eq_20, ev.eq_21, ev.eq_24, ev.eq_25, ev.eq_26, ev.eq_27, evs, evT, evTs, bltD, intD, absD, pairUp, setAll, bindTo, tgK, walkT, pairK, wipeE, ahead_ok hm (ha v hv) hw, lts, e]
    · simp [execs, exec.eq_1, exec.eq_2, exec.eq_3, exec.eq_4, exec.eq_5, exec.eq_6, exec.eq_7, exec.eq_8, exec.eq_9, exec.eq_10, exec.eq_13, exec.eq_14, exec.eq_15, exec.eq_16, exec.eq_17, ev.eq_1, ev.eq_2, ev.eq_3, ev.eq_4, ev.eq_5, ev.eq_6, ev.eq_7, ev.eq_8, ev.eq_9, ev.eq_10, ev.eq_11, ev.eq_12, ev.eq_13, ev.eq_14, ev.eq_15, ev.eq_16, ev.eq_17, ev.eq_18, ev.eq_19, ev.eq_20, ev.eq_21, ev.eq_24, ev.eq_25, ev.eq_26, ev.eq_27, evs, evT, evTs, bltD, intD, absD, pairUp, setAll, bindTo, tgK, walkT, pairK, wipeE]
theorem nodup_len : ∀ {l m : List Word}, l.Nodup → (∀ v ∈ l, v ∈ m) → l.length ≤ m.length
  | [], _, _, _ => Nat.zero_le _
  | a :: l, m, h, s => by
    obtain ⟨h1, h2⟩ := List.nodup_cons.mp h
    have ha := s a List.mem_cons_self
    have := nodup_len (m := m.erase a) h2 fun v hv => (List.mem_erase_of_ne (fun e => h1 (by rw [← e]; exact hv))).mpr (s v (List.mem_cons_of_mem _ hv))
    have hl := List.length_erase_of_mem ha
    have := List.length_pos_of_mem ha
    simp only [List.length_cons]
    omega
theorem unl_sub (ws : List Word) (v : Word) (h : v ∈ unl [] ws) : v ∈ ws := by
  have := ((unl_ok ws (acc := []) List.Pairwise.nil).2 v).mp h
  rcases this with h | h
  · cases h
  · exact h
theorem unl_uni (ws : List Word) : Uni (unl [] ws) := (unl_ok ws (acc := []) List.Pairwise.nil).1
theorem unl_len (ws : List Word) : (unl [] ws).length ≤ ws.length := nodup_len (unl_uni ws).nodup (unl_sub ws)
theorem unlike_ok {m : Nat} (hm : 2 ≤ m) {ws : List Word} (hs : Short ws) (hl : ws.length ≤ 1000000) (S : Store) : (ctx P m).call "_law_unlike" [W ws] S = some (.ok (.ref S.length) (S ++ [.lst ((unl [] ws).map .str)])) := by
  rw [call_fn (by omega) (clss_f _ (by decide) (by decide) (by decide)) fn__law_unlike rfl]
  have loop : ∃ ρ' S', exec (ctx P (m - 1)) c__law_unlike_l1 [some (W ws), some (.ref S.length), none, none, none] (S ++ [.lst []]) = some (.nx ρ' S') ∧ ∃ x, ρ' = [some (W ws), some (.ref S.length), x, none, none] ∧ S' = S ++ [.lst ((unl [] (ws.take ws.length)).map .str)] := by
    have := for_inv (s := c__law_unlike_l1) (C := ctx P (m - 1)) (ρ := [some (W ws), some (.ref S.length), none, none, none]) (S := S ++ [.lst []]) (S1 := S ++ [.lst []]) (ds := [W ws]) (xs := ws.map .str) rfl
      (by simp [execs, exec.eq_1, exec.eq_2, exec.eq_3, exec.eq_4, exec.eq_5, exec.eq_6, exec.eq_7, exec.eq_8, exec.eq_9, exec.eq_10, exec.eq_13, exec.eq_14, exec.eq_15, exec.eq_16, exec.eq_17, ev.eq_1, ev.eq_2, ev.eq_3, ev.eq_4, ev.eq_5, ev.eq_6, ev.eq_7, ev.eq_8, ev.eq_9, ev.eq_10, ev.eq_11, ev.eq_12, ev.eq_13, ev.eq_14, ev.eq_15, ev.eq_16, ev.eq_17, ev.eq_18, ev.eq_19, ev.eq_20, ev.eq_21, ev.eq_24, ev.eq_25, ev.eq_26, ev.eq_27, evs, evT, evTs, bltD, intD, absD, pairUp, setAll, bindTo, tgK, walkT, pairK, wipeE]) (by simp [execs, exec.eq_1, exec.eq_2, exec.eq_3, exec.eq_4, exec.eq_5, exec.eq_6, exec.eq_7, exec.eq_8, exec.eq_9, exec.eq_10, exec.eq_13, exec.eq_14, exec.eq_15, exec.eq_16, exec.eq_17, ev.eq_1, ev.eq_2, ev.eq_3, ev.eq_4, ev.eq_5, ev.eq_6, ev.eq_7, ev.eq_8, ev.eq_9, ev.eq_10, ev.eq_11, ev.eq_12, ev.eq_13, ev.eq_14, ev.eq_15, ev.eq_16, ev.eq_17, ev.eq_18, ev.eq_19, ev.eq_20, ev.eq_21, ev.eq_24, ev.eq_25, ev.eq_26, ev.eq_27, evs, evT, evTs, bltD, intD, absD, pairUp, setAll, bindTo, tgK, walkT, pairK, wipeE]) (fun i ρ S1 => ∃ x, ρ = [some (W ws), some (.ref S.length), x, none, none] ∧ S1 = S ++ [.lst ((unl [] (ws.take i)).map .str)]) ⟨none, rfl, rfl⟩ (fun _ _ _ _ _ => by simp) (fun i d ρ S1 hd hI => ?_)
    · rw [List.length_map] at this
      exact this
    · obtain ⟨x, rfl, rfl⟩ := hI
      obtain ⟨w, hw, rfl⟩ : ∃ w, ws[i]? = some w ∧ D.str w = d := by
        rw [List.getElem?_map] at hd
        obtain ⟨w, h1, h2⟩ := Option.map_eq_some_iff.mp hd
        exact ⟨w, h1, h2⟩
      have hwm : w ∈ ws := List.mem_of_getElem? hw
      refine ⟨_, [some (W ws), some (.ref S.length), some (.str w), none, none], S ++ [.lst ((unl [] (ws.take (i + 1))).map .str)], rfl, ?_, some (.str w), rfl, rfl⟩
      have sub : ∀ v ∈ unl [] (ws.take i), v ∈ ws := fun v hv => List.mem_of_mem_take (unl_sub _ v hv)
      have hlen : (unl [] (ws.take i)).length ≤ 1000000 := by
        have := unl_len (ws.take i)
        rw [List.length_take] at this
        omega
      have hS : (S ++ [Cell.lst ((unl [] (ws.take i)).map D.str)])[S.length]? = some (.lst ((unl [] (ws.take i)).map .str)) := getElem?_app0 _ _
      have hc := comp_ahead (m := m - 1) (a0 := some (W ws)) (a3 := none) (a4 := none) (by omega) hS (fun v hv => hs v (sub v hv)) (hs w hwm) hlen
      rw [take_snoc hw, unl_snoc]
      have hin : cmpD (S ++ [Cell.lst ((unl [] (ws.take i)).map D.str)]) .NotIn (.str w) (.ref S.length) = some (!decide (w ∈ unl [] (ws.take i))) := by
        simp only [cmpD, inD, frozen, hS, in_strs, Option.map_some]
      generalize unl [] (ws.take i) = u at *
      by_cases hm2 : w ∈ u
      · simp [execs, exec.eq_1, exec.eq_2, exec.eq_3, exec.eq_4, exec.eq_5, exec.eq_6, exec.eq_7, exec.eq_8, exec.eq_9, exec.eq_10, exec.eq_13, exec.eq_14, exec.eq_15, exec.eq_16, exec.eq_17, ev.eq_1, ev.eq_2, ev.eq_3, ev.eq_4, ev.eq_5, ev.eq_6, ev.eq_7, ev.eq_8, ev.eq_9, ev.eq_10, ev.eq_11, ev.eq_12, ev.eq_13, ev.eq_14, ev.eq_15, ev.eq_16, ev.eq_17, ev.eq_18, ev.eq_19, ev.eq_20, ev.eq_21, ev.eq_24, ev.eq_25, ev.eq_26, ev.eq_27, evs, evT, evTs, bltD, intD, absD, pairUp, setAll, bindTo, tgK, walkT, pairK, wipeE, hin, hm2]
      · have hle : (u.filter fun x => lt x w).length ≤ u.length := List.length_filter_le _ _
        have hlt : u.length < line := lt_line (by omega)
        have hn : (u.filter fun x => lt x w).length < 9223372036854775808 := by omega
        simp [execs, exec.eq_1, exec.eq_2, exec.eq_3, exec.eq_4, exec.eq_5, exec.eq_6, exec.eq_7, exec.eq_8, exec.eq_9, exec.eq_10, exec.eq_13, exec.eq_14, exec.eq_15, exec.eq_16, exec.eq_17, ev.eq_1, ev.eq_2, ev.eq_3, ev.eq_4, ev.eq_5, ev.eq_6, ev.eq_7, ev.eq_8, ev.eq_9, ev.eq_10, ev.eq_11, ev.eq_12, ev.eq_13, ev.eq_14, ev.eq_15, ev.eq_16, ev.eq_17, ev.eq_18, ev.eq_19, ev.eq_20, ev.eq_21, ev.eq_24, ev.eq_25, ev.eq_26, ev.eq_27, evs, evT, evTs, bltD, intD, absD, pairUp, setAll, bindTo, tgK, walkT, pairK, wipeE, hin, hm2, hc, hlt, hn, insU]
  obtain ⟨ρ', S', e, x, e2, e3⟩ := loop
  rw [List.take_length] at e3
  subst e2 e3
  simp [c__law_unlike, execs, exec.eq_1, exec.eq_2, exec.eq_3, exec.eq_4, exec.eq_5, exec.eq_6, exec.eq_7, exec.eq_8, exec.eq_9, exec.eq_10, exec.eq_13, exec.eq_14, exec.eq_15, exec.eq_16, exec.eq_17, ev.eq_1, ev.eq_2, ev.eq_3, ev.eq_4, ev.eq_5, ev.eq_6, ev.eq_7, ev.eq_8, ev.eq_9, ev.eq_10, ev.eq_11, ev.eq_12, ev.eq_13, ev.eq_14, ev.eq_15, ev.eq_16, ev.eq_17, ev.eq_18, ev.eq_19, ev.eq_20, ev.eq_21, ev.eq_24, ev.eq_25, ev.eq_26, ev.eq_27, evs, evT, evTs, bltD, intD, absD, pairUp, setAll, bindTo, tgK, walkT, pairK, wipeE, e, trunc_keep, below]
end K90
/-! What is drawn: texts, pools, rows. -/
namespace K90
open Rf Wd Rs
open PySem (Str)

theorem hs_trunc {c c' : List Int} {t t' : Int} {T T' : Store} {d : D} (h : t ≠ t') : trunc (hs c t T) d (hs c' t' T') = hs c' t' T' := trunc_ne (hs_ne h)
theorem one_ok {m : Nat} (hm : 2 ≤ m) {d : D} {n : Nat} {T : Store} (f : Nat → D) (h1 : 1 ≤ n) (h2 : n < 1073741824) (hlen : ∀ c t, lenD (hs c t T) [d] = some (.int n))
    (hidx : ∀ c t k, k < n → idxD (hs c t T) d (.int (k : Nat)) = some (f k)) (c : List Int) {t : Int} (h0 : 0 ≤ t) (ht : t < 1000000000) :
    ∃ (k : Nat) (c' : List Int), k < n ∧ (ctx P m).call "_law_one" [.ref 1, d] (hs c t T) = some (.ok (f k) (hs c' (t + 1) T)) := by
  rw [call_fn (by omega) (clss_f _ (by decide) (by decide) (by decide)) fn__law_one rfl]
  obtain ⟨k, c', k0, k1, e⟩ := draw_ok (m := m - 1) (by omega) (many := (n : Int)) (by omega) (by omega) c T h0 ht
  refine ⟨k.toNat, c', by omega, ?_⟩
  have hk : ((k.toNat : Nat) : Int) = k := by omega
  have hi := hidx c' (t + 1) k.toNat (by omega)
  rw [hk] at hi
  simp [c__law_one, execs, exec.eq_1, exec.eq_2, exec.eq_3, exec.eq_4, exec.eq_5, exec.eq_6, exec.eq_7, exec.eq_8, exec.eq_9, exec.eq_10, exec.eq_13, exec.eq_14, exec.eq_15, exec.eq_16, exec.eq_17, ev.eq_1, ev.eq_2, ev.eq_3, ev.eq_4, ev.eq_5, ev.eq_6, ev.eq_7, ev.eq_8, ev.eq_9, ev.eq_10, ev.eq_11, ev.eq_12, ev.eq_13, ev.eq_14, ev.eq_15, ev.eq_16, ev.eq_17, ev.eq_18, ev.eq_19, ev.eq_20, ev.eq_21, ev.eq_24, ev.eq_25, ev.eq_26, ev.eq_27, evs, evT, evTs, bltD, intD, absD, pairUp, setAll, bindTo, tgK, walkT, pairK, wipeE, hlen, e, hi]
  exact hs_trunc (by omega)
abbrev abc : D := .str [97, 98, 99]
def Abc (w : Word) : Prop := ∀ x ∈ w, x = 97 ∨ x = 98 ∨ x = 99
theorem abc_ok {m : Nat} (hm : 2 ≤ m) {T : Store} (c : List Int) {t : Int} (h0 : 0 ≤ t) (ht : t < 1000000000) :
    ∃ (x : Nat) (c' : List Int), (x = 97 ∨ x = 98 ∨ x = 99) ∧ (ctx P m).call "_law_one" [.ref 1, abc] (hs c t T) = some (.ok (.str [x]) (hs c' (t + 1) T)) := by
  obtain ⟨k, c', hk, e⟩ := one_ok hm (d := abc) (n := 3) (T := T) (fun k => .str [97 + k]) (by decide) (by decide) (fun _ _ => by simp [le_line]) (fun c t k hk => by
    rw [idx_str (by decide)]
    match k, hk with
    | 0, _ => rfl
    | 1, _ => rfl
    | 2, _ => rfl) c h0 ht
  exact ⟨97 + k, c', by omega, e⟩
theorem ints_ok {m : Nat} (hm : 2 ≤ m) {T : Store} (ns : List Int) (h1 : 1 ≤ ns.length) (h2 : ns.length < 1073741824) (c : List Int) {t : Int} (h0 : 0 ≤ t) (ht : t < 1000000000) :
    ∃ (i : Int) (c' : List Int), i ∈ ns ∧ (ctx P m).call "_law_one" [.ref 1, .lst (ns.map .int)] (hs c t T) = some (.ok (.int i) (hs c' (t + 1) T)) := by
  obtain ⟨k, c', hk, e⟩ := one_ok hm (d := .lst (ns.map .int)) (n := ns.length) (T := T) (fun k => .int (ns[k]?.getD 0)) h1 h2 (fun _ _ => by simp) (fun c t k hk => by
    rw [idx_lst, List.getElem?_map, List.getElem?_eq_getElem hk]; rfl) c h0 ht
  refine ⟨_, c', ?_, e⟩
  rw [List.getElem?_eq_getElem hk]
  exact List.getElem_mem _
/-- one word of a frozen list or a cell of words -/
theorem word_ok {m : Nat} (hm : 2 ≤ m) {T : Store} {d : D} (ws : List Word) (hd : ∀ c t, frozen (hs c t T) d = .lst (ws.map .str)) (h1 : 1 ≤ ws.length) (h2 : ws.length < 1073741824) (c : List Int) {t : Int} (h0 : 0 ≤ t) (ht : t < 1000000000) :
    ∃ (w : Word) (c' : List Int), w ∈ ws ∧ (ctx P m).call "_law_one" [.ref 1, d] (hs c t T) = some (.ok (.str w) (hs c' (t + 1) T)) := by
  obtain ⟨k, c', hk, e⟩ := one_ok hm (d := d) (n := ws.length) (T := T) (fun k => .str (ws[k]?.getD [])) h1 h2 (fun _ _ => by simp [lenD, hd]) (fun c t k hk => by
    have := idx_lst (S := hs c t T) (ds := ws.map .str) (n := k)
    simp only [idxD, hd, Rs.frozen_lst] at this ⊢
    rw [this, List.getElem?_map, List.getElem?_eq_getElem hk]; rfl) c h0 ht
  refine ⟨_, c', ?_, e⟩
  rw [List.getElem?_eq_getElem hk]
  exact List.getElem_mem _
theorem joinL_nil : ∀ xs : List Word, joinL [] xs = xs.flatten
  | [] => rfl
  | [x] => by simp [joinL]
  | x :: y :: r => by simp [joinL, joinL_nil (y :: r)]
theorem strsOf_map : ∀ xs : List Word, strsOf (xs.map .str) = some xs
  | [] => rfl
  | x :: xs => by simp [strsOf, strsOf_map xs]
theorem walk_r {S : Store} {n : Nat} (h : n ≤ 1000000000) : walkOf S .range [.int (n : Nat)] = some (upTo 0 n) := by
  rw [walk_range (by omega) (by omega), Int.toNat_natCast]
theorem walkT_r {S : Store} {n i : Nat} (h : n ≤ 1000000000) : walkT S .range [.int (n : Nat)] (.nm i) = some (upTo 0 n) := by
  rw [walkT]; simp only [tgK, pairK, Bool.not_false, if_true]; exact walk_r h
theorem upTo_len {lo : Int} {n : Nat} : (upTo lo n).length = n := by simp [upTo]
theorem text_ok2 {m : Nat} (hm : 3 ≤ m) {most : Nat} (h1 : most ≤ 1000) {T : Store} (c : List Int) {t : Int} (h0 : 0 ≤ t) (ht : t < 999000000) :
    ∃ (w : Word) (c' : List Int) (t' : Int), w.length ≤ most ∧ Abc w ∧ t < t' ∧ t' ≤ t + most + 1 ∧ (ctx P m).call "_law_text" [.ref 1, .int (most : Nat)] (hs c t T) = some (.ok (.str w) (hs c' t' T)) := by
  rw [call_fn (by omega) (clss_f _ (by decide) (by decide) (by decide)) fn__law_text rfl]
  obtain ⟨k, c1, k0, k1, e⟩ := draw_ok (m := m - 1) (by omega) (many := (most : Int) + 1) (by omega) (by omega) c T h0 (by omega)
  obtain ⟨n, rfl⟩ : ∃ n : Nat, k = n := ⟨k.toNat, by omega⟩
  obtain ⟨acc, S', e2, xs, c2, r1, r2, r3, r4⟩ := comp_inv (s := c__law_text_e1) (C := ctx P (m - 1)) (ρ := [some (.ref 1), some (.int (most : Nat)), none, none]) (S := hs c t T) (S1 := hs c1 (t + 1) T) (ds := [.int (n : Nat)]) (xs := upTo 0 n) rfl (by simp [execs, exec.eq_1, exec.eq_2, exec.eq_3, exec.eq_4, exec.eq_5, exec.eq_6, exec.eq_7, exec.eq_8, exec.eq_9, exec.eq_10, exec.eq_13, exec.eq_14, exec.eq_15, exec.eq_16, exec.eq_17, ev.eq_1, ev.eq_2, ev.eq_3, ev.eq_4, ev.eq_5, ev.eq_6, ev.eq_7, ev.eq_8, ev.eq_9, ev.eq_10, ev.eq_11, ev.eq_12, ev.eq_13, ev.eq_14, ev.eq_15, ev.eq_16, ev.eq_17, ev.eq_18, ev.eq_19, ev.eq_20, ev.eq_21, ev.eq_24, ev.eq_25, ev.eq_26, ev.eq_27, evs, evT, evTs, bltD, intD, absD, pairUp, setAll, bindTo, tgK, walkT, pairK, wipeE, e])
    (by simp) (by simp) (by simp) (walkT_r (by omega)) (fun i acc S => ∃ xs c', acc = xs.map D.str ∧ xs.length = i ∧ (∀ x ∈ xs, x.length = 1 ∧ Abc x) ∧ S = hs c' (t + 1 + i) T) ⟨[], c1, rfl, rfl, fun _ h => (by cases h), by simp⟩
    (fun _ _ _ _ _ => walk_r (by omega)) (fun i d acc S hd hI => by
      obtain ⟨xs, c', rfl, hx, ha, rfl⟩ := hI
      have hi : i < n := by
        have := (List.getElem?_eq_some_iff.mp hd).1
        rwa [upTo_len] at this
      obtain ⟨x, c2, hx2, e⟩ := abc_ok (m := m - 1) (by omega) (T := T) c' (t := t + 1 + i) (by omega) (by omega)
      refine ⟨_, .str [x], hs c2 (t + 1 + i + 1) T, rfl, ?_, by simpa using lt_line (by omega), xs ++ [[x]], c2, by simp, by simp [hx], fun y hy => ?_, by simp; congr 1; omega⟩
      · simp [execs, exec.eq_1, exec.eq_2, exec.eq_3, exec.eq_4, exec.eq_5, exec.eq_6, exec.eq_7, exec.eq_8, exec.eq_9, exec.eq_10, exec.eq_13, exec.eq_14, exec.eq_15, exec.eq_16, exec.eq_17, ev.eq_1, ev.eq_2, ev.eq_3, ev.eq_4, ev.eq_5, ev.eq_6, ev.eq_7, ev.eq_8, ev.eq_9, ev.eq_10, ev.eq_11, ev.eq_12, ev.eq_13, ev.eq_14, ev.eq_15, ev.eq_16, ev.eq_17, ev.eq_18, ev.eq_19, ev.eq_20, ev.eq_21, ev.eq_24, ev.eq_25, ev.eq_26, ev.eq_27, evs, evT, evTs, bltD, intD, absD, pairUp, setAll, bindTo, tgK, walkT, pairK, wipeE, e]
      · rcases List.mem_append.mp hy with h | h
        · exact ha y h
        · rw [List.mem_singleton.mp h]
          exact ⟨rfl, fun z hz => by rw [List.mem_singleton.mp hz]; exact hx2⟩)
  rw [upTo_len] at r2 r4
  subst r1 r4
  have hfl : xs.flatten.length = n := by
    rw [List.length_flatten, ← r2]
    clear e2
    induction xs generalizing n with
    | nil => rfl
    | cons x xs ih => 
      simp only [List.map_cons, List.sum_cons, List.length_cons]
      have := (r3 x List.mem_cons_self).1
      have ih2 : (List.map List.length xs).sum = xs.length := by
        clear ih r2 e
        induction xs with
        | nil => rfl
        | cons y ys ih3 =>
          have := (r3 y (by simp)).1
          have := ih3 fun z hz => r3 z (by rcases List.mem_cons.mp hz with h | h <;> simp [h])
          simp only [List.map_cons, List.sum_cons, List.length_cons]
          omega
      omega
  refine ⟨xs.flatten, c2, t + 1 + n, by omega, ?_, by omega, by omega, ?_⟩
  · intro x hx
    obtain ⟨l, hl, hx⟩ := List.mem_flatten.mp hx
    exact (r3 l hl).2 x hx
  · have hj : joinD (hs c2 (t + 1 + n) T) (.str []) (.lst (xs.map .str)) = some (.str xs.flatten) := by
      simp only [joinD, Rs.frozen_lst, strsOf_map, Option.bind_some, joinL_nil]
      rw [if_pos]
      rw [← List.length_flatten]
      exact le_line (by rw [List.length_nil]; omega)
    simp [c__law_text, execs, exec.eq_1, exec.eq_2, exec.eq_3, exec.eq_4, exec.eq_5, exec.eq_6, exec.eq_7, exec.eq_8, exec.eq_9, exec.eq_10, exec.eq_13, exec.eq_14, exec.eq_15, exec.eq_16, exec.eq_17, ev.eq_1, ev.eq_2, ev.eq_3, ev.eq_4, ev.eq_5, ev.eq_6, ev.eq_7, ev.eq_8, ev.eq_9, ev.eq_10, ev.eq_11, ev.eq_12, ev.eq_13, ev.eq_14, ev.eq_15, ev.eq_16, ev.eq_17, ev.eq_18, ev.eq_19, ev.eq_20, ev.eq_21, ev.eq_24, ev.eq_25, ev.eq_26, ev.eq_27, evs, evT, evTs, bltD, intD, absD, pairUp, setAll, bindTo, tgK, walkT, pairK, wipeE, e2, mtD, hj]
    exact hs_trunc (by omega)
theorem flat_len {w : Word} {n : Nat} : (List.replicate n w).flatten.length = n * w.length := by simp
/-- words drawn: letters, and not too many -/
def Ok (w : Word) : Prop := w.length ≤ 330 ∧ Abc w
theorem some_ok {m : Nat} (hm : 3 ≤ m) {most : Nat} (h1 : most ≤ 1000) {T : Store} {d : D} (ws : List Word) (hd : ∀ c t, frozen (hs c t T) d = .lst (ws.map .str)) (hw : 1 ≤ ws.length) (hw2 : ws.length < 1073741824) (c : List Int) {t : Int} (h0 : 0 ≤ t) (ht : t < 999000000) :
    ∃ (xs : List Word) (c' : List Int) (t' : Int), xs.length ≤ most ∧ (∀ x ∈ xs, x ∈ ws) ∧ t < t' ∧ t' ≤ t + most + 1 ∧ (ctx P m).call "_law_some" [.ref 1, d, .int (most : Nat)] (hs c t T) = some (.ok (W xs) (hs c' t' T)) := by
  rw [call_fn (by omega) (clss_f _ (by decide) (by decide) (by decide)) fn__law_some rfl]
  obtain ⟨k, c1, k0, k1, e⟩ := draw_ok (m := m - 1) (by omega) (many := (most : Int) + 1) (by omega) (by omega) c T h0 (by omega)
  obtain ⟨n, rfl⟩ : ∃ n : Nat, k = n := ⟨k.toNat, by omega⟩
  obtain ⟨acc, S', e2, xs, c2, r1, r2, r3, r4⟩ := comp_inv (s := c__law_some_e1) (C := ctx P (m - 1)) (ρ := [some (.ref 1), some d, some (.int (most : Nat)), none, none]) (S := hs c t T) (S1 := hs c1 (t + 1) T) (ds := [.int (n : Nat)]) (xs := upTo 0 n) rfl (by simp [execs, exec.eq_1, exec.eq_2, exec.eq_3, exec.eq_4, exec.eq_5, exec.eq_6, exec.eq_7, exec.eq_8, exec.eq_9, exec.eq_10, exec.eq_13, exec.eq_14, exec.eq_15, exec.eq_16, exec.eq_17, ev.eq_1, ev.eq_2, ev.eq_3, ev.eq_4, ev.eq_5, ev.eq_6, ev.eq_7, ev.eq_8, ev.eq_9, ev.eq_10, ev.eq_11, ev.eq_12, ev.eq_13, ev.eq_14, ev.eq_15, ev.eq_16, ev.eq_17, ev.eq_18, ev.eq_19, ev.eq_20, ev.eq_21, ev.eq_24, ev.eq_25, ev.eq_26, ev.eq_27, evs, evT, evTs, bltD, intD, absD, pairUp, setAll, bindTo, tgK, walkT, pairK, wipeE, e])
    (by simp) (by simp) (by simp) (walkT_r (by omega)) (fun i acc S => ∃ xs c', acc = xs.map D.str ∧ xs.length = i ∧ (∀ x ∈ xs, x ∈ ws) ∧ S = hs c' (t + 1 + i) T) ⟨[], c1, rfl, rfl, fun _ h => (by cases h), by simp⟩
    (fun _ _ _ _ _ => walk_r (by omega)) (fun i d' acc S hd' hI => by
      obtain ⟨xs, c', rfl, hx, ha, rfl⟩ := hI
      have hi : i < n := by
        have := (List.getElem?_eq_some_iff.mp hd').1
        rwa [upTo_len] at this
      obtain ⟨x, c2, hx2, e⟩ := word_ok (m := m - 1) (by omega) (T := T) ws hd hw hw2 c' (t := t + 1 + i) (by omega) (by omega)
      refine ⟨_, .str x, hs c2 (t + 1 + i + 1) T, rfl, ?_, by simpa using lt_line (by omega), xs ++ [x], c2, by simp, by simp [hx], fun y hy => ?_, by simp; congr 1; omega⟩
      · simp [execs, exec.eq_1, exec.eq_2, exec.eq_3, exec.eq_4, exec.eq_5, exec.eq_6, exec.eq_7, exec.eq_8, exec.eq_9, exec.eq_10, exec.eq_13, exec.eq_14, exec.eq_15, exec.eq_16, exec.eq_17, ev.eq_1, ev.eq_2, ev.eq_3, ev.eq_4, ev.eq_5, ev.eq_6, ev.eq_7, ev.eq_8, ev.eq_9, ev.eq_10, ev.eq_11, ev.eq_12, ev.eq_13, ev.eq_14, ev.eq_15, ev.eq_16, ev.eq_17, ev.eq_18, ev.eq_19, ev.eq_20, ev.eq_21, ev.eq_24, ev.eq_25, ev.eq_26, ev.eq_27, evs, evT, evTs, bltD, intD, absD, pairUp, setAll, bindTo, tgK, walkT, pairK, wipeE, e]
      · rcases List.mem_append.mp hy with h | h
        · exact ha y h
        · rw [List.mem_singleton.mp h]
          exact hx2)
  rw [upTo_len] at r2 r4
  subst r1 r4
  refine ⟨xs, c2, t + 1 + n, by omega, r3, by omega, by omega, ?_⟩
  simp [c__law_some, execs, exec.eq_1, exec.eq_2, exec.eq_3, exec.eq_4, exec.eq_5, exec.eq_6, exec.eq_7, exec.eq_8, exec.eq_9, exec.eq_10, exec.eq_13, exec.eq_14, exec.eq_15, exec.eq_16, exec.eq_17, ev.eq_1, ev.eq_2, ev.eq_3, ev.eq_4, ev.eq_5, ev.eq_6, ev.eq_7, ev.eq_8, ev.eq_9, ev.eq_10, ev.eq_11, ev.eq_12, ev.eq_13, ev.eq_14, ev.eq_15, ev.eq_16, ev.eq_17, ev.eq_18, ev.eq_19, ev.eq_20, ev.eq_21, ev.eq_24, ev.eq_25, ev.eq_26, ev.eq_27, evs, evT, evTs, bltD, intD, absD, pairUp, setAll, bindTo, tgK, walkT, pairK, wipeE, e2]
  exact hs_trunc (by omega)
theorem turned_ok {m : Nat} (hm : 2 ≤ m) {T : Store} (ws : List Word) (hl : ws.length ≤ 1000000) (c : List Int) {t : Int} (h0 : 0 ≤ t) (ht : t < 999000000) :
    ∃ (xs : List Word) (c' : List Int), xs.Perm ws ∧ (ctx P m).call "_law_turned" [.ref 1, W ws] (hs c t T) = some (.ok (W xs) (hs c' (t + 1) T)) := by
  rw [call_fn (by omega) (clss_f _ (by decide) (by decide) (by decide)) fn__law_turned rfl]
  obtain ⟨k, c1, k0, k1, e⟩ := draw_ok (m := m - 1) (by omega) (many := (ws.length : Int) + 1) (by omega) (by omega) c T h0 (by omega)
  obtain ⟨n, rfl⟩ : ∃ n : Nat, k = n := ⟨k.toNat, by omega⟩
  refine ⟨(ws.drop n).reverse ++ ws.take n, c1, ?_, ?_⟩
  · refine ((List.reverse_perm _).append_right _).trans ?_
    exact List.perm_append_comm.trans (by rw [List.take_append_drop])
  · have hl' : (ws.drop n).length + (ws.take n).length ≤ line := le_line (by simp; omega)
    simp at hl'
    simp [c__law_turned, execs, exec.eq_1, exec.eq_2, exec.eq_3, exec.eq_4, exec.eq_5, exec.eq_6, exec.eq_7, exec.eq_8, exec.eq_9, exec.eq_10, exec.eq_13, exec.eq_14, exec.eq_15, exec.eq_16, exec.eq_17, ev.eq_1, ev.eq_2, ev.eq_3, ev.eq_4, ev.eq_5, ev.eq_6, ev.eq_7, ev.eq_8, ev.eq_9, ev.eq_10, ev.eq_11, ev.eq_12, ev.eq_13, ev.eq_14, ev.eq_15, ev.eq_16, ev.eq_17, ev.eq_18, ev.eq_19, ev.eq_20, ev.eq_21, ev.eq_24, ev.eq_25, ev.eq_26, ev.eq_27, evs, evT, evTs, bltD, intD, absD, pairUp, setAll, bindTo, tgK, walkT, pairK, wipeE, e, hl']
    exact hs_trunc (by omega)
end K90
/-! Pools, and rows changed. -/
namespace K90
open Rf Wd Rs
open PySem (Str)

theorem at_app {T X : Store} {h : Nat} {x : Cell} (e : T[h]? = some x) : (T ++ X)[h]? = some x := by
  rw [List.getElem?_append_left (List.getElem?_eq_some_iff.mp e).1, e]
@[simp high] theorem hs_get2' {c : List Int} {t : Int} {T : Store} {k : Nat} : (hs c t T)[k + 2]? = T[k]? := rfl
@[simp] theorem hs_set2' {c : List Int} {t : Int} {T : Store} {k : Nat} {x : Cell} : (hs c t T).set (k + 2) x = hs c t (T.set k x) := rfl
@[simp] theorem hs_app' {c : List Int} {t : Int} {T X : Store} : hs c t T ++ X = hs c t (T ++ X) := rfl
@[simp] theorem hs_len' {c : List Int} {t : Int} {T : Store} : (hs c t T).length = T.length + 2 := rfl
theorem Ok.of {w : Word} (h : w.length ≤ 330) (a : Abc w) : Ok w := ⟨h, a⟩
theorem abc_app {v w : Word} (h1 : Abc v) (h2 : Abc w) : Abc (v ++ w) := fun x hx => (List.mem_append.mp hx).elim (h1 x) (h2 x)
theorem abc_take {v : Word} {k : Nat} (h1 : Abc v) : Abc (v.take k) := fun x hx => h1 x (List.mem_of_mem_take hx)
theorem abc_drop {v : Word} {k : Nat} (h1 : Abc v) : Abc (v.drop k) := fun x hx => h1 x (List.mem_of_mem_drop hx)
theorem pool_ok {m : Nat} (hm : 4 ≤ m) {most : Nat} (hl1 : 1 ≤ most) (hl2 : most ≤ 325) {T : Store} (c : List Int) {t : Int} (h0 : 0 ≤ t) (ht : t < 900000000) :
    ∃ (ws : List Word) (c' : List Int) (t' : Int), 1 ≤ ws.length ∧ ws.length ≤ 16 ∧ (∀ w ∈ ws, w.length ≤ most + 5 ∧ Abc w) ∧ t < t' ∧ t' ≤ t + 100 ∧
      (ctx P m).call "_law_pool" [.ref 1, .int (most : Nat)] (hs c t T) = some (.ok (.ref (T.length + 2)) (hs c' t' (T ++ [.lst (ws.map .str)]))) := by
  rw [call_fn (by omega) (clss_f _ (by decide) (by decide) (by decide)) fn__law_pool rfl]
  obtain ⟨k, c1, k0, k1, e⟩ := draw_ok (m := m - 1) (by omega) (many := 5) (by omega) (by omega) c (T ++ [.lst [.str []]]) h0 (by omega)
  obtain ⟨n, hn⟩ : ∃ n : Nat, 1 + k = n := ⟨(1 + k).toNat, by omega⟩
  obtain ⟨ρ', S', e2, a3, a4, a5, a6, a7, ws, c', t', r1, r2, r3, r4, r5, r6, r7⟩ := for_inv (s := c__law_pool_l1) (C := ctx P (m - 1)) (ρ := [some (.ref 1), some (.int (most : Nat)), some (.ref (T.length + 2)), none, none, none, none, none]) (S := hs c t (T ++ [.lst [.str []]])) (S1 := hs c1 (t + 1) (T ++ [.lst [.str []]])) (ds := [.int (n : Nat)]) (xs := upTo 0 n) rfl
    (by simp [execs, exec.eq_1, exec.eq_2, exec.eq_3, exec.eq_4, exec.eq_5, exec.eq_6, exec.eq_7, exec.eq_8, exec.eq_9, exec.eq_10, exec.eq_13, exec.eq_14, exec.eq_15, exec.eq_16, exec.eq_17, ev.eq_1, ev.eq_2, ev.eq_3, ev.eq_4, ev.eq_5, ev.eq_6, ev.eq_7, ev.eq_8, ev.eq_9, ev.eq_10, ev.eq_11, ev.eq_12, ev.eq_13, ev.eq_14, ev.eq_15, ev.eq_16, ev.eq_17, ev.eq_18, ev.eq_19, ev.eq_20, ev.eq_21, ev.eq_24, ev.eq_25, ev.eq_26, ev.eq_27, evs, evT, evTs, bltD, intD, absD, pairUp, setAll, bindTo, tgK, walkT, pairK, wipeE, e, hn]) (walkT_r (by omega)) (fun i ρ S => ∃ (a3 a4 a5 a6 a7 : Option D) (ws : List Word) (c' : List Int) (t' : Int), ρ = [some (.ref 1), some (.int (most : Nat)), some (.ref (T.length + 2)), a3, a4, a5, a6, a7] ∧ S = hs c' t' (T ++ [.lst (ws.map .str)]) ∧ 1 ≤ ws.length ∧ ws.length ≤ 1 + 3 * i ∧ (∀ w ∈ ws, w.length ≤ most + 5 ∧ Abc w) ∧ t + 1 ≤ t' ∧ t' ≤ t + 1 + 12 * i)
    ⟨none, none, none, none, none, [[]], c1, t + 1, rfl, rfl, by simp, by simp, fun w hw => by rw [List.mem_singleton.mp hw]; exact ⟨by simp, fun x hx => by cases hx⟩, by omega, by omega⟩
    (fun _ _ _ _ _ => walk_r (by omega)) (fun i d ρ S hd hI => by
      obtain ⟨a3, a4, a5, a6, a7, ws, c', t', rfl, rfl, r3, r4, r5, r6, r7⟩ := hI
      have hi : i < n := by
        have := (List.getElem?_eq_some_iff.mp hd).1
        rwa [upTo_len] at this
      obtain ⟨x, d1, hx, e1⟩ := abc_ok (m := m - 1) (by omega) (T := T ++ [.lst (ws.map .str)]) c' (t := t') (by omega) (by omega)
      obtain ⟨k, d2, k0, k1, e2⟩ := draw_ok (m := m - 1) (by omega) (many := (most : Nat)) (by omega) (by omega) d1 (T ++ [.lst (ws.map .str)]) (t := t' + 1) (by omega) (by omega)
      obtain ⟨j, rfl⟩ : ∃ n : Nat, k = n := ⟨k.toNat, by omega⟩
      obtain ⟨w1, d3, t3, w1l, w1a, t3a, t3b, e3⟩ := text_ok2 (m := m - 1) (by omega) (most := 1) (by omega) (T := T ++ [.lst (ws.map .str)]) d2 (t := t' + 1 + 1) (by omega) (by omega)
      obtain ⟨w2, d4, t4, w2l, w2a, t4a, t4b, e4⟩ := text_ok2 (m := m - 1) (by omega) (most := 4) (by omega) (T := T ++ [.lst (ws.map .str)]) d3 (t := t3) (by omega) (by omega)
      rw [show ((1 : Nat) : Int) = 1 from rfl] at e3
      rw [show ((4 : Nat) : Int) = 4 from rfl] at e4
      have hrep : (List.replicate j [x]).flatten = List.replicate j x := by simp
      obtain ⟨w, d5, hw, e5⟩ := word_ok (m := m - 1) (by omega) (T := T ++ [.lst (ws.map .str)]) (d := .lst [.str w1, .str w2, .str (List.replicate j x)]) [w1, w2, List.replicate j x] (fun _ _ => rfl) (by simp) (by simp) d4 (t := t4) (by omega) (by omega)
      have hwo : w.length ≤ most + 4 ∧ Abc w := by
        simp only [List.mem_cons, List.not_mem_nil, or_false] at hw
        rcases hw with rfl | rfl | rfl
        · exact ⟨by omega, w1a⟩
        · exact ⟨by omega, w2a⟩
        · exact ⟨by simp; omega, fun y hy => by rw [List.eq_of_mem_replicate hy]; exact hx⟩
      obtain ⟨k, d6, k2, k3, e6⟩ := draw_ok (m := m - 1) (by omega) (many := (w.length : Int) + 1) (by omega) (by omega) d5 (T ++ [.lst (ws.map .str)]) (t := t4 + 1) (by omega) (by omega)
      obtain ⟨p, rfl⟩ : ∃ n : Nat, k = n := ⟨k.toNat, by omega⟩
      obtain ⟨y, d7, hy, e7⟩ := abc_ok (m := m - 1) (by omega) (T := T ++ [.lst (ws.map .str)]) d6 (t := t4 + 1 + 1) (by omega) (by omega)
      have ya : Abc [y] := fun z hz => by rw [List.mem_singleton.mp hz]; exact hy
      refine ⟨_, [some (.ref 1), some (.int (most : Nat)), some (.ref (T.length + 2)), some d, some (.str (List.replicate j x)), some (.str w), some (.int p), some (.str [y])], hs d7 (t4 + 1 + 1 + 1) (T ++ [.lst ((ws ++ [w, w.take p ++ [y] ++ w.drop p, w.take p ++ [y] ++ w.drop (p + 1)]).map .str)]), rfl, ?_, some d, _, _, _, _, _, d7, t4 + 1 + 1 + 1, rfl, rfl, by simp, by simp; omega, fun v hv => ?_, by omega, by omega⟩
      · have l1 : (1 : Nat) * j ≤ line := le_line (by omega)
        have l2 : j ≤ 1000000 := by omega
        have l3 : w.length ≤ line := le_line (by omega)
        have l4 : min p w.length + 1 ≤ line := le_line (by omega)
        have l5 : min p w.length + 1 + (w.length - p) ≤ line := le_line (by omega)
        have l6 : min p w.length + 1 + (w.length - (p + 1)) ≤ line := le_line (by omega)
        have l7 : ws.length + 3 ≤ line := le_line (by omega)
        simp at l1
        simp [execs, exec.eq_1, exec.eq_2, exec.eq_3, exec.eq_4, exec.eq_5, exec.eq_6, exec.eq_7, exec.eq_8, exec.eq_9, exec.eq_10, exec.eq_13, exec.eq_14, exec.eq_15, exec.eq_16, exec.eq_17, ev.eq_1, ev.eq_2, ev.eq_3, ev.eq_4, ev.eq_5, ev.eq_6, ev.eq_7, ev.eq_8, ev.eq_9, ev.eq_10, ev.eq_11, ev.eq_12, ev.eq_13, ev.eq_14, ev.eq_15, ev.eq_16, ev.eq_17, ev.eq_18, ev.eq_19, ev.eq_20, ev.eq_21, ev.eq_24, ev.eq_25, ev.eq_26, ev.eq_27, evs, evT, evTs, bltD, intD, absD, pairUp, setAll, bindTo, tgK, walkT, pairK, wipeE, e1, e2, e3, e4, e5, e6, e7, l1, l2, l3, l4, l5, l6, l7, hrep]
      · rcases List.mem_append.mp hv with h | h
        · exact r5 v h
        · simp only [List.mem_cons, List.not_mem_nil, or_false] at h
          rcases h with rfl | rfl | rfl
          · exact ⟨by omega, hwo.2⟩
          · exact ⟨by simp; omega, abc_app (abc_app (abc_take hwo.2) ya) (abc_drop hwo.2)⟩
          · exact ⟨by simp; omega, abc_app (abc_app (abc_take hwo.2) ya) (abc_drop hwo.2)⟩)
  rw [upTo_len] at r4 r7
  subst r1 r2
  refine ⟨ws, c', t', r3, by omega, r5, by omega, by omega, ?_⟩
  simp [c__law_pool, execs, exec.eq_1, exec.eq_2, exec.eq_3, exec.eq_4, exec.eq_5, exec.eq_6, exec.eq_7, exec.eq_8, exec.eq_9, exec.eq_10, exec.eq_13, exec.eq_14, exec.eq_15, exec.eq_16, exec.eq_17, ev.eq_1, ev.eq_2, ev.eq_3, ev.eq_4, ev.eq_5, ev.eq_6, ev.eq_7, ev.eq_8, ev.eq_9, ev.eq_10, ev.eq_11, ev.eq_12, ev.eq_13, ev.eq_14, ev.eq_15, ev.eq_16, ev.eq_17, ev.eq_18, ev.eq_19, ev.eq_20, ev.eq_21, ev.eq_24, ev.eq_25, ev.eq_26, ev.eq_27, evs, evT, evTs, bltD, intD, absD, pairUp, setAll, bindTo, tgK, walkT, pairK, wipeE, e2]
  exact hs_trunc (by omega)
theorem map_erase {α β : Type} {f : α → β} : ∀ (l : List α) (k : Nat), (l.map f).eraseIdx k = (l.eraseIdx k).map f
  | [], _ => rfl
  | a :: l, 0 => rfl
  | a :: l, k + 1 => by simp [map_erase l k]
theorem changed_ok {m : Nat} (hm : 3 ≤ m) {T : Store} {h : Nat} {ps : List Word} (hp : T[h]? = some (.lst (ps.map .str))) (hp1 : 1 ≤ ps.length) (hp2 : ps.length < 1000000) (ws : List Word) (hl : ws.length ≤ 1000000) (c : List Int) {t : Int} (h0 : 0 ≤ t) (ht : t < 900000000) :
    ∃ (xs : List Word) (c' : List Int) (t' : Int) (X : Store), xs.length ≤ ws.length + 6 ∧ (∀ x ∈ xs, x ∈ ws ∨ x ∈ ps) ∧ t < t' ∧ t' ≤ t + 20 ∧
      (ctx P m).call "_law_changed" [.ref 1, W ws, .ref (h + 2)] (hs c t T) = some (.ok (W xs) (hs c' t' (T ++ X))) := by
  rw [call_fn (by omega) (clss_f _ (by decide) (by decide) (by decide)) fn__law_changed rfl]
  obtain ⟨k, c1, k0, k1, e⟩ := draw_ok (m := m - 1) (by omega) (many := 7) (by omega) (by omega) c (T ++ [.lst (ws.map .str)]) h0 (by omega)
  obtain ⟨n, rfl⟩ : ∃ n : Nat, k = n := ⟨k.toNat, by omega⟩
  obtain ⟨ρ', S', e2, a4, us, c', t', r1, r2, r3, r4, r5, r6⟩ := for_inv (s := c__law_changed_l1) (C := ctx P (m - 1)) (ρ := [some (.ref 1), some (W ws), some (.ref (h + 2)), some (.ref (T.length + 2)), none]) (S := hs c t (T ++ [.lst (ws.map .str)])) (S1 := hs c1 (t + 1) (T ++ [.lst (ws.map .str)])) (ds := [.int (n : Nat)]) (xs := upTo 0 n) rfl
    (by simp [execs, exec.eq_1, exec.eq_2, exec.eq_3, exec.eq_4, exec.eq_5, exec.eq_6, exec.eq_7, exec.eq_8, exec.eq_9, exec.eq_10, exec.eq_13, exec.eq_14, exec.eq_15, exec.eq_16, exec.eq_17, ev.eq_1, ev.eq_2, ev.eq_3, ev.eq_4, ev.eq_5, ev.eq_6, ev.eq_7, ev.eq_8, ev.eq_9, ev.eq_10, ev.eq_11, ev.eq_12, ev.eq_13, ev.eq_14, ev.eq_15, ev.eq_16, ev.eq_17, ev.eq_18, ev.eq_19, ev.eq_20, ev.eq_21, ev.eq_24, ev.eq_25, ev.eq_26, ev.eq_27, evs, evT, evTs, bltD, intD, absD, pairUp, setAll, bindTo, tgK, walkT, pairK, wipeE, e]) (walkT_r (by omega)) (fun i ρ S => ∃ (a4 : Option D) (us : List Word) (c' : List Int) (t' : Int), ρ = [some (.ref 1), some (W ws), some (.ref (h + 2)), some (.ref (T.length + 2)), a4] ∧ S = hs c' t' (T ++ [.lst (us.map .str)]) ∧ us.length ≤ ws.length + i ∧ (∀ x ∈ us, x ∈ ws ∨ x ∈ ps) ∧ t + 1 ≤ t' ∧ t' ≤ t + 1 + 3 * i)
    ⟨none, ws, c1, t + 1, rfl, rfl, by omega, fun x hx => .inl hx, by omega, by omega⟩
    (fun _ _ _ _ _ => walk_r (by omega)) (fun i d ρ S hd hI => by
      obtain ⟨a4, us, c', t', rfl, rfl, r3, r4, r5, r6⟩ := hI
      have hi : i < n := by
        have := (List.getElem?_eq_some_iff.mp hd).1
        rwa [upTo_len] at this
      have l1 : us.length < line := lt_line (by omega)
      have ins : ∀ (c : List Int) (t1 : Int), 0 ≤ t1 → t1 < 900000100 → ∃ (vs : List Word) (c' : List Int), vs.length ≤ us.length + 1 ∧ (∀ x ∈ vs, x ∈ ws ∨ x ∈ ps) ∧
          execs (ctx P (m - 1)) [(.expr (.meth (.var 3) "insert" [(.callG "_law_draw" [(.var 0), (.bin .Add (.callB .len [(.var 3)]) (.cst (.int 1)))]), (.callG "_law_one" [(.var 0), (.var 2)])]))]
            [some (.ref 1), some (W ws), some (.ref (h + 2)), some (.ref (T.length + 2)), some d] (hs c t1 (T ++ [.lst (us.map .str)])) = some (.nx [some (.ref 1), some (W ws), some (.ref (h + 2)), some (.ref (T.length + 2)), some d] (hs c' (t1 + 2) (T ++ [.lst (vs.map .str)]))) := by
        intro c t1 b1 b2
        obtain ⟨k, d1, k0, k1, e1⟩ := draw_ok (m := m - 1) (by omega) (many := (us.length : Int) + 1) (by omega) (by omega) c (T ++ [.lst (us.map .str)]) (t := t1) (by omega) (by omega)
        obtain ⟨p, rfl⟩ : ∃ n : Nat, k = n := ⟨k.toNat, by omega⟩
        obtain ⟨w, d2, hw, e3⟩ := word_ok (m := m - 1) (by omega) (T := T ++ [.lst (us.map .str)]) (d := .ref (h + 2)) ps (fun c t => frozen_ref (by rw [hs_get2']; exact at_app hp)) hp1 (by omega) d1 (t := t1 + 1) (by omega) (by omega)
        have l2 : p < 9223372036854775808 := by omega
        refine ⟨us.take p ++ [w] ++ us.drop p, d2, by simp; omega, fun x hx => ?_, ?_⟩
        · simp only [List.mem_append, List.mem_singleton] at hx
          rcases hx with (hx | rfl) | hx
          · exact r4 x (List.mem_of_mem_take hx)
          · exact .inr hw
          · exact r4 x (List.mem_of_mem_drop hx)
        · rw [show t1 + 2 = t1 + 1 + 1 by omega]
          simp [execs, exec.eq_1, exec.eq_2, exec.eq_3, exec.eq_4, exec.eq_5, exec.eq_6, exec.eq_7, exec.eq_8, exec.eq_9, exec.eq_10, exec.eq_13, exec.eq_14, exec.eq_15, exec.eq_16, exec.eq_17, ev.eq_1, ev.eq_2, ev.eq_3, ev.eq_4, ev.eq_5, ev.eq_6, ev.eq_7, ev.eq_8, ev.eq_9, ev.eq_10, ev.eq_11, ev.eq_12, ev.eq_13, ev.eq_14, ev.eq_15, ev.eq_16, ev.eq_17, ev.eq_18, ev.eq_19, ev.eq_20, ev.eq_21, ev.eq_24, ev.eq_25, ev.eq_26, ev.eq_27, evs, evT, evTs, bltD, intD, absD, pairUp, setAll, bindTo, tgK, walkT, pairK, wipeE, e1, e3, l1, l2]
      cases hu : us.isEmpty with
      | true =>
        obtain ⟨vs, c2, v1, v2, e3⟩ := ins c' t' (by omega) (by omega)
        refine ⟨_, _, _, rfl, ?_, some d, vs, c2, t' + 2, rfl, rfl, by omega, v2, by omega, by omega⟩
        rw [← e3]
        simp [execs, exec.eq_1, exec.eq_2, exec.eq_3, exec.eq_4, exec.eq_5, exec.eq_6, exec.eq_7, exec.eq_8, exec.eq_9, exec.eq_10, exec.eq_13, exec.eq_14, exec.eq_15, exec.eq_16, exec.eq_17, ev.eq_1, ev.eq_2, ev.eq_3, ev.eq_4, ev.eq_5, ev.eq_6, ev.eq_7, ev.eq_8, ev.eq_9, ev.eq_10, ev.eq_11, ev.eq_12, ev.eq_13, ev.eq_14, ev.eq_15, ev.eq_16, ev.eq_17, ev.eq_18, ev.eq_19, ev.eq_20, ev.eq_21, ev.eq_24, ev.eq_25, ev.eq_26, ev.eq_27, evs, evT, evTs, bltD, intD, absD, pairUp, setAll, bindTo, tgK, walkT, pairK, wipeE, hu]
      | false =>
        obtain ⟨k, d1, k0, k1, e1⟩ := draw_ok (m := m - 1) (by omega) (many := 2) (by omega) (by omega) c' (T ++ [.lst (us.map .str)]) (t := t') (by omega) (by omega)
        by_cases hk : k = 0
        · have hp : 0 < us.length := by
            cases us with
            | nil => cases hu
            | cons => simp
          obtain ⟨k', d2, k2, k3, e3⟩ := draw_ok (m := m - 1) (by omega) (many := (us.length : Nat)) (by omega) (by omega) d1 (T ++ [.lst (us.map .str)]) (t := t' + 1) (by omega) (by omega)
          obtain ⟨p, rfl⟩ : ∃ n : Nat, k' = n := ⟨k'.toNat, by omega⟩
          have hg : (us.map D.str)[p]? = some (.str us[p]) := by
            rw [List.getElem?_map, List.getElem?_eq_getElem (by omega)]; rfl
          have he : (us.map D.str).eraseIdx p = (us.eraseIdx p).map .str := map_erase us p
          refine ⟨_, [some (.ref 1), some (W ws), some (.ref (h + 2)), some (.ref (T.length + 2)), some d], hs d2 (t' + 1 + 1) (T ++ [.lst ((us.eraseIdx p).map .str)]), rfl, ?_, some d, us.eraseIdx p, d2, t' + 1 + 1, rfl, rfl, ?_, fun x hx => r4 x (List.mem_of_mem_eraseIdx hx), by omega, by omega⟩
          · have hg' := do_pop (S := hs d2 (t' + 1 + 1) (T ++ [.lst (us.map .str)])) (h := T.length + 2) (by simp) hg
            rw [he] at hg'
            simp [execs, exec.eq_1, exec.eq_2, exec.eq_3, exec.eq_4, exec.eq_5, exec.eq_6, exec.eq_7, exec.eq_8, exec.eq_9, exec.eq_10, exec.eq_13, exec.eq_14, exec.eq_15, exec.eq_16, exec.eq_17, ev.eq_1, ev.eq_2, ev.eq_3, ev.eq_4, ev.eq_5, ev.eq_6, ev.eq_7, ev.eq_8, ev.eq_9, ev.eq_10, ev.eq_11, ev.eq_12, ev.eq_13, ev.eq_14, ev.eq_15, ev.eq_16, ev.eq_17, ev.eq_18, ev.eq_19, ev.eq_20, ev.eq_21, ev.eq_24, ev.eq_25, ev.eq_26, ev.eq_27, evs, evT, evTs, bltD, intD, absD, pairUp, setAll, bindTo, tgK, walkT, pairK, wipeE, hu, e1, hk, e3, hg']
          · have := List.length_eraseIdx_le us p
            omega
        · obtain ⟨vs, c2, v1, v2, e3⟩ := ins d1 (t' + 1) (by omega) (by omega)
          refine ⟨_, _, _, rfl, ?_, some d, vs, c2, t' + 1 + 2, rfl, rfl, by omega, v2, by omega, by omega⟩
          rw [← e3]
          simp [execs, exec.eq_1, exec.eq_2, exec.eq_3, exec.eq_4, exec.eq_5, exec.eq_6, exec.eq_7, exec.eq_8, exec.eq_9, exec.eq_10, exec.eq_13, exec.eq_14, exec.eq_15, exec.eq_16, exec.eq_17, ev.eq_1, ev.eq_2, ev.eq_3, ev.eq_4, ev.eq_5, ev.eq_6, ev.eq_7, ev.eq_8, ev.eq_9, ev.eq_10, ev.eq_11, ev.eq_12, ev.eq_13, ev.eq_14, ev.eq_15, ev.eq_16, ev.eq_17, ev.eq_18, ev.eq_19, ev.eq_20, ev.eq_21, ev.eq_24, ev.eq_25, ev.eq_26, ev.eq_27, evs, evT, evTs, bltD, intD, absD, pairUp, setAll, bindTo, tgK, walkT, pairK, wipeE, hu, e1, hk])
  rw [upTo_len] at r3 r6
  subst r1 r2
  refine ⟨us, c', t', [.lst (us.map .str)], by omega, r4, by omega, by omega, ?_⟩
  simp [c__law_changed, execs, exec.eq_1, exec.eq_2, exec.eq_3, exec.eq_4, exec.eq_5, exec.eq_6, exec.eq_7, exec.eq_8, exec.eq_9, exec.eq_10, exec.eq_13, exec.eq_14, exec.eq_15, exec.eq_16, exec.eq_17, ev.eq_1, ev.eq_2, ev.eq_3, ev.eq_4, ev.eq_5, ev.eq_6, ev.eq_7, ev.eq_8, ev.eq_9, ev.eq_10, ev.eq_11, ev.eq_12, ev.eq_13, ev.eq_14, ev.eq_15, ev.eq_16, ev.eq_17, ev.eq_18, ev.eq_19, ev.eq_20, ev.eq_21, ev.eq_24, ev.eq_25, ev.eq_26, ev.eq_27, evs, evT, evTs, bltD, intD, absD, pairUp, setAll, bindTo, tgK, walkT, pairK, wipeE, e2]
  exact hs_trunc (by omega)
end K90
/-! Counting. -/
namespace K90
open Rf Wd Rs
open PySem (Str)

/-- a row that is not too long -/
def Small (ws : List Word) : Prop := ws.length ≤ 1000 ∧ Short ws
theorem Small.app {a b : List Word} (ha : Small a) (hb : Small b) : (a ++ b).length ≤ 2000 ∧ Short (a ++ b) :=
  ⟨by have := ha.1; have := hb.1; simp only [List.length_append]; omega, fun w hw => (List.mem_append.mp hw).elim (ha.2 w) (hb.2 w)⟩
@[simp] theorem data_str (w : Word) (ws : List Word) : dataOk (.str w) (ws.map .str) = true := by
  simp [dataOk, pyOf, depthD]
@[simp] theorem count_str (w : Word) (ws : List Word) : (ws.map D.str).countP (isIt (.str w)) = ws.count w := by
  induction ws with
  | nil => rfl
  | cons v ws ih =>
    rw [List.map_cons, List.countP_cons, ih, List.count_cons]
    congr 1
    simp only [isIt, eq_str]
    by_cases h : v = w
    · subst h; simp
    · simp [h]
@[simp] theorem count_str' (w : Word) (ws : List Word) : ws.countP (isIt (.str w) ∘ D.str) = ws.count w := by
  rw [← count_str, List.countP_map]
theorem rep_str (n : Nat) (w : Word) : (List.replicate n [D.str w]).flatten = (List.replicate n w).map .str := by
  induction n with
  | zero => rfl
  | succ n ih => simp only [List.replicate_succ, List.flatten_cons, List.map_cons, ih]; rfl
theorem laid_len {f : Word → Nat} {k : Nat} (h : ∀ w, f w ≤ k) : ∀ l : List Word, (laid f l).length ≤ l.length * k
  | [] => by simp [laid]
  | w :: l => by
    have := laid_len h l
    have := h w
    unfold laid at *
    simp only [List.flatMap_cons, List.length_append, List.length_replicate, List.length_cons, Nat.add_mul, Nat.one_mul]
    omega
theorem laid_snoc {f : Word → Nat} {l : List Word} {i : Nat} {w : Word} (h : l[i]? = some w) : laid f (l.take (i + 1)) = laid f (l.take i) ++ List.replicate (f w) w := by
  rw [take_snoc h]
  simp [laid]
theorem strs_get {l : List Word} {i : Nat} {d : D} (h : (l.map D.str)[i]? = some d) : ∃ w, l[i]? = some w ∧ D.str w = d := by
  rw [List.getElem?_map] at h
  exact Option.map_eq_some_iff.mp h
theorem count_le (w : Word) (ws : List Word) : ws.count w ≤ ws.length := List.count_le_length
theorem in_order_ok {m : Nat} (hm : 3 ≤ m) {ws : List Word} (hs : Short ws) (hl : ws.length ≤ 3000) (S : Store) :
    (ctx P m).call "_law_in_order" [W ws] S = some (.ok (W (laid (fun w => ws.count w) (unl [] ws))) S) := by
  rw [call_fn (by omega) (clss_f _ (by decide) (by decide) (by decide)) fn__law_in_order rfl]
  have e := unlike_ok (m := m - 1) (by omega) hs (by omega) (S ++ [.lst []])
  have hul := unl_len ws
  generalize hu : unl [] ws = us at *
  have blen : ∀ i, (laid (fun w => ws.count w) (us.take i)).length ≤ 9000000 := fun i => by
    have := laid_len (f := fun w => ws.count w) (k := 3000) (fun w => by have := count_le w ws; omega) (us.take i)
    rw [List.length_take] at this
    have : min i us.length * 3000 ≤ 3000 * 3000 := Nat.mul_le_mul_right _ (by omega)
    omega
  obtain ⟨ρ', S', e2, a2, r1, r2⟩ := for_inv (s := c__law_in_order_l1) (C := ctx P (m - 1)) (ρ := [some (W ws), some (.ref S.length), none]) (S := S ++ [.lst []]) (S1 := S ++ [.lst [], .lst (us.map .str)]) (ds := [.ref (S.length + 1)]) (xs := us.map .str) rfl
    (by simp [execs, exec.eq_1, exec.eq_2, exec.eq_3, exec.eq_4, exec.eq_5, exec.eq_6, exec.eq_7, exec.eq_8, exec.eq_9, exec.eq_10, exec.eq_13, exec.eq_14, exec.eq_15, exec.eq_16, exec.eq_17, ev.eq_1, ev.eq_2, ev.eq_3, ev.eq_4, ev.eq_5, ev.eq_6, ev.eq_7, ev.eq_8, ev.eq_9, ev.eq_10, ev.eq_11, ev.eq_12, ev.eq_13, ev.eq_14, ev.eq_15, ev.eq_16, ev.eq_17, ev.eq_18, ev.eq_19, ev.eq_20, ev.eq_21, ev.eq_24, ev.eq_25, ev.eq_26, ev.eq_27, evs, evT, evTs, bltD, intD, absD, pairUp, setAll, bindTo, tgK, walkT, pairK, wipeE, e]) (by simp [execs, exec.eq_1, exec.eq_2, exec.eq_3, exec.eq_4, exec.eq_5, exec.eq_6, exec.eq_7, exec.eq_8, exec.eq_9, exec.eq_10, exec.eq_13, exec.eq_14, exec.eq_15, exec.eq_16, exec.eq_17, ev.eq_1, ev.eq_2, ev.eq_3, ev.eq_4, ev.eq_5, ev.eq_6, ev.eq_7, ev.eq_8, ev.eq_9, ev.eq_10, ev.eq_11, ev.eq_12, ev.eq_13, ev.eq_14, ev.eq_15, ev.eq_16, ev.eq_17, ev.eq_18, ev.eq_19, ev.eq_20, ev.eq_21, ev.eq_24, ev.eq_25, ev.eq_26, ev.eq_27, evs, evT, evTs, bltD, intD, absD, pairUp, setAll, bindTo, tgK, walkT, pairK, wipeE]) (fun i ρ S1 => ∃ (a2 : Option D), ρ = [some (W ws), some (.ref S.length), a2] ∧ S1 = S ++ [.lst ((laid (fun w => ws.count w) (us.take i)).map .str), .lst (us.map .str)])
    ⟨none, rfl, by simp [laid]⟩ (fun i ρ S1 _ h => by obtain ⟨a2, rfl, rfl⟩ := h; simp) (fun i d ρ S1 hd hI => by
      obtain ⟨a2, rfl, rfl⟩ := hI
      obtain ⟨w, hw, rfl⟩ := strs_get hd
      refine ⟨_, [some (W ws), some (.ref S.length), some (.str w)], _, rfl, ?_, some (.str w), rfl, rfl⟩
      have hb := blen i
      have hc := count_le w ws
      rw [laid_snoc hw]
      generalize laid (fun w => ws.count w) (us.take i) = ls at *
      have l1 : ls.length + ws.count w ≤ line := le_line (by omega)
      have l2 : ws.count w ≤ line := le_line (by omega)
      have l3 : (ws.count w : Int) < 4611686018427387904 := by omega
      have l4 : (-4611686018427387904 : Int) < ws.count w := by omega
      simp [execs, exec.eq_1, exec.eq_2, exec.eq_3, exec.eq_4, exec.eq_5, exec.eq_6, exec.eq_7, exec.eq_8, exec.eq_9, exec.eq_10, exec.eq_13, exec.eq_14, exec.eq_15, exec.eq_16, exec.eq_17, ev.eq_1, ev.eq_2, ev.eq_3, ev.eq_4, ev.eq_5, ev.eq_6, ev.eq_7, ev.eq_8, ev.eq_9, ev.eq_10, ev.eq_11, ev.eq_12, ev.eq_13, ev.eq_14, ev.eq_15, ev.eq_16, ev.eq_17, ev.eq_18, ev.eq_19, ev.eq_20, ev.eq_21, ev.eq_24, ev.eq_25, ev.eq_26, ev.eq_27, evs, evT, evTs, bltD, intD, absD, pairUp, setAll, bindTo, tgK, walkT, pairK, wipeE, l1, l2, l3, l4, rep_str])
  rw [List.length_map, List.take_length] at r2
  subst r1 r2
  simp [c__law_in_order, execs, exec.eq_1, exec.eq_2, exec.eq_3, exec.eq_4, exec.eq_5, exec.eq_6, exec.eq_7, exec.eq_8, exec.eq_9, exec.eq_10, exec.eq_13, exec.eq_14, exec.eq_15, exec.eq_16, exec.eq_17, ev.eq_1, ev.eq_2, ev.eq_3, ev.eq_4, ev.eq_5, ev.eq_6, ev.eq_7, ev.eq_8, ev.eq_9, ev.eq_10, ev.eq_11, ev.eq_12, ev.eq_13, ev.eq_14, ev.eq_15, ev.eq_16, ev.eq_17, ev.eq_18, ev.eq_19, ev.eq_20, ev.eq_21, ev.eq_24, ev.eq_25, ev.eq_26, ev.eq_27, evs, evT, evTs, bltD, intD, absD, pairUp, setAll, bindTo, tgK, walkT, pairK, wipeE, e2]
  exact trunc_app (below_W _ _)
/-- how often a word stands in what is joined -/
def jf (x a b : List Word) (w : Word) : Nat := ((a.count w : Int) + b.count w - x.count w).toNat
theorem jf_le {x a b : List Word} (ha : a.length ≤ 1000) (hb : b.length ≤ 1000) (w : Word) : jf x a b w ≤ 2000 := by
  have := count_le w a
  have := count_le w b
  unfold jf
  omega
theorem lawjoined_ok {m : Nat} (hm : 3 ≤ m) {x a b : List Word} (hx : Small x) (ha : Small a) (hb : Small b) (S : Store) :
    (ctx P m).call "_law_joined" [W x, W a, W b] S = some (.ok (W (laid (jf x a b) (unl [] (x ++ a ++ b)))) S) := by
  rw [call_fn (by omega) (clss_f _ (by decide) (by decide) (by decide)) fn__law_joined rfl]
  have hs : Short (x ++ a ++ b) := fun w hw => by
    rcases List.mem_append.mp hw with h | h
    · exact (hx.app ha).2 w h
    · exact hb.2 w h
  have hl : (x ++ a ++ b).length ≤ 3000 := by
    have := (hx.app ha).1
    have := hb.1
    rw [List.length_append]
    omega
  have e := unlike_ok (m := m - 1) (by omega) hs (by omega) (S ++ [.lst []])
  have hul := unl_len (x ++ a ++ b)
  generalize hu : unl [] (x ++ a ++ b) = us at *
  have blen : ∀ i, (laid (jf x a b) (us.take i)).length ≤ 9000000 := fun i => by
    have := laid_len (f := jf x a b) (k := 2000) (jf_le ha.1 hb.1) (us.take i)
    rw [List.length_take] at this
    have : min i us.length * 2000 ≤ 3000 * 2000 := Nat.mul_le_mul_right _ (by omega)
    omega
  have l1 : x.length + a.length ≤ line := le_line (by have := hx.1; have := ha.1; omega)
  have l2 : x.length + a.length + b.length ≤ line := le_line (by have := hx.1; have := ha.1; have := hb.1; omega)
  obtain ⟨ρ', S', e2, a4, a5, r1, r2⟩ := for_inv (s := c__law_joined_l1) (C := ctx P (m - 1)) (ρ := [some (W x), some (W a), some (W b), some (.ref S.length), none, none]) (S := S ++ [.lst []]) (S1 := S ++ [.lst [], .lst (us.map .str)]) (ds := [.ref (S.length + 1)]) (xs := us.map .str) rfl
    (by simp [W] at e; simp [execs, exec.eq_1, exec.eq_2, exec.eq_3, exec.eq_4, exec.eq_5, exec.eq_6, exec.eq_7, exec.eq_8, exec.eq_9, exec.eq_10, exec.eq_13, exec.eq_14, exec.eq_15, exec.eq_16, exec.eq_17, ev.eq_1, ev.eq_2, ev.eq_3, ev.eq_4, ev.eq_5, ev.eq_6, ev.eq_7, ev.eq_8, ev.eq_9, ev.eq_10, ev.eq_11, ev.eq_12, ev.eq_13, ev.eq_14, ev.eq_15, ev.eq_16, ev.eq_17, ev.eq_18, ev.eq_19, ev.eq_20, ev.eq_21, ev.eq_24, ev.eq_25, ev.eq_26, ev.eq_27, evs, evT, evTs, bltD, intD, absD, pairUp, setAll, bindTo, tgK, walkT, pairK, wipeE, e, l1, l2]) (by simp [execs, exec.eq_1, exec.eq_2, exec.eq_3, exec.eq_4, exec.eq_5, exec.eq_6, exec.eq_7, exec.eq_8, exec.eq_9, exec.eq_10, exec.eq_13, exec.eq_14, exec.eq_15, exec.eq_16, exec.eq_17, ev.eq_1, ev.eq_2, ev.eq_3, ev.eq_4, ev.eq_5, ev.eq_6, ev.eq_7, ev.eq_8, ev.eq_9, ev.eq_10, ev.eq_11, ev.eq_12, ev.eq_13, ev.eq_14, ev.eq_15, ev.eq_16, ev.eq_17, ev.eq_18, ev.eq_19, ev.eq_20, ev.eq_21, ev.eq_24, ev.eq_25, ev.eq_26, ev.eq_27, evs, evT, evTs, bltD, intD, absD, pairUp, setAll, bindTo, tgK, walkT, pairK, wipeE]) (fun i ρ S1 => ∃ (a4 a5 : Option D), ρ = [some (W x), some (W a), some (W b), some (.ref S.length), a4, a5] ∧ S1 = S ++ [.lst ((laid (jf x a b) (us.take i)).map .str), .lst (us.map .str)])
    ⟨none, none, rfl, by simp [laid]⟩ (fun i ρ S1 _ h => by obtain ⟨a4, a5, rfl, rfl⟩ := h; simp) (fun i d ρ S1 hd hI => by
      obtain ⟨a4, a5, rfl, rfl⟩ := hI
      obtain ⟨w, hw, rfl⟩ := strs_get hd
      have hb' := blen i
      have hj := jf_le (x := x) ha.1 hb.1 w
      refine ⟨_, [some (W x), some (W a), some (W b), some (.ref S.length), some (.str w), some (.int ((a.count w : Int) + b.count w - x.count w))], _, rfl, ?_, some (.str w), _, rfl, rfl⟩
      rw [laid_snoc hw]
      generalize laid (jf x a b) (us.take i) = ls at *
      unfold jf at *
      have hq : ∀ S, opD S .Sub (.int ((a.count w : Int) + b.count w)) (.int (x.count w : Nat)) = some (.int ((a.count w : Int) + b.count w - x.count w)) := fun _ => rfl
      generalize (a.count w : Int) + b.count w - x.count w = n at *
      by_cases hn : 0 < n
      · have l1 : ls.length + n.toNat ≤ line := le_line (by omega)
        have l2 : n.toNat ≤ line := le_line (by omega)
        have l3 : n < 4611686018427387904 := by omega
        have l4 : (-4611686018427387904 : Int) < n := by omega
        simp [-sub_int, hq, execs, exec.eq_1, exec.eq_2, exec.eq_3, exec.eq_4, exec.eq_5, exec.eq_6, exec.eq_7, exec.eq_8, exec.eq_9, exec.eq_10, exec.eq_13, exec.eq_14, exec.eq_15, exec.eq_16, exec.eq_17, ev.eq_1, ev.eq_2, ev.eq_3, ev.eq_4, ev.eq_5, ev.eq_6, ev.eq_7, ev.eq_8, ev.eq_9, ev.eq_10, ev.eq_11, ev.eq_12, ev.eq_13, ev.eq_14, ev.eq_15, ev.eq_16, ev.eq_17, ev.eq_18, ev.eq_19, ev.eq_20, ev.eq_21, ev.eq_24, ev.eq_25, ev.eq_26, ev.eq_27, evs, evT, evTs, bltD, intD, absD, pairUp, setAll, bindTo, tgK, walkT, pairK, wipeE, hn, l1, l2, l3, l4, rep_str]
      · have h0 : n.toNat = 0 := by omega
        have l1 : ls.length ≤ line := le_line (by omega)
        simp [-sub_int, hq, execs, exec.eq_1, exec.eq_2, exec.eq_3, exec.eq_4, exec.eq_5, exec.eq_6, exec.eq_7, exec.eq_8, exec.eq_9, exec.eq_10, exec.eq_13, exec.eq_14, exec.eq_15, exec.eq_16, exec.eq_17, ev.eq_1, ev.eq_2, ev.eq_3, ev.eq_4, ev.eq_5, ev.eq_6, ev.eq_7, ev.eq_8, ev.eq_9, ev.eq_10, ev.eq_11, ev.eq_12, ev.eq_13, ev.eq_14, ev.eq_15, ev.eq_16, ev.eq_17, ev.eq_18, ev.eq_19, ev.eq_20, ev.eq_21, ev.eq_24, ev.eq_25, ev.eq_26, ev.eq_27, evs, evT, evTs, bltD, intD, absD, pairUp, setAll, bindTo, tgK, walkT, pairK, wipeE, hn, h0, l1])
  rw [List.length_map, List.take_length] at r2
  subst r1 r2
  simp [c__law_joined, execs, exec.eq_1, exec.eq_2, exec.eq_3, exec.eq_4, exec.eq_5, exec.eq_6, exec.eq_7, exec.eq_8, exec.eq_9, exec.eq_10, exec.eq_13, exec.eq_14, exec.eq_15, exec.eq_16, exec.eq_17, ev.eq_1, ev.eq_2, ev.eq_3, ev.eq_4, ev.eq_5, ev.eq_6, ev.eq_7, ev.eq_8, ev.eq_9, ev.eq_10, ev.eq_11, ev.eq_12, ev.eq_13, ev.eq_14, ev.eq_15, ev.eq_16, ev.eq_17, ev.eq_18, ev.eq_19, ev.eq_20, ev.eq_21, ev.eq_24, ev.eq_25, ev.eq_26, ev.eq_27, evs, evT, evTs, bltD, intD, absD, pairUp, setAll, bindTo, tgK, walkT, pairK, wipeE, e2]
  exact trunc_app (below_W _ _)
/-- how far two rows lie apart -/
def gap (x y : List Word) (w : Word) : Nat := ((x.count w : Int) - y.count w).natAbs
def dist (x y : List Word) : Nat := ((unl [] (x ++ y)).map (gap x y)).sum
theorem apart_ok {m : Nat} (hm : 3 ≤ m) {x y : List Word} (hx : Small x) (hy : Small y) (S : Store) :
    (ctx P m).call "_law_apart" [W x, W y] S = some (.ok (.int (dist x y : Nat)) S) := by
  rw [call_fn (by omega) (clss_f _ (by decide) (by decide) (by decide)) fn__law_apart rfl]
  have e := unlike_ok (m := m - 1) (by omega) (hx.app hy).2 (by have := (hx.app hy).1; omega) S
  have l1 : x.length + y.length ≤ line := le_line (by have := hx.1; have := hy.1; omega)
  unfold dist
  generalize hu : unl [] (x ++ y) = us at *
  obtain ⟨ρ', S', e2, a3, r1, r2⟩ := for_inv (s := c__law_apart_l1) (C := ctx P (m - 1)) (ρ := [some (W x), some (W y), some (.int 0), none]) (S := S) (S1 := S ++ [.lst (us.map .str)]) (ds := [.ref S.length]) (xs := us.map .str) rfl
    (by simp [W] at e; simp [execs, exec.eq_1, exec.eq_2, exec.eq_3, exec.eq_4, exec.eq_5, exec.eq_6, exec.eq_7, exec.eq_8, exec.eq_9, exec.eq_10, exec.eq_13, exec.eq_14, exec.eq_15, exec.eq_16, exec.eq_17, ev.eq_1, ev.eq_2, ev.eq_3, ev.eq_4, ev.eq_5, ev.eq_6, ev.eq_7, ev.eq_8, ev.eq_9, ev.eq_10, ev.eq_11, ev.eq_12, ev.eq_13, ev.eq_14, ev.eq_15, ev.eq_16, ev.eq_17, ev.eq_18, ev.eq_19, ev.eq_20, ev.eq_21, ev.eq_24, ev.eq_25, ev.eq_26, ev.eq_27, evs, evT, evTs, bltD, intD, absD, pairUp, setAll, bindTo, tgK, walkT, pairK, wipeE, e, l1]) (by simp [execs, exec.eq_1, exec.eq_2, exec.eq_3, exec.eq_4, exec.eq_5, exec.eq_6, exec.eq_7, exec.eq_8, exec.eq_9, exec.eq_10, exec.eq_13, exec.eq_14, exec.eq_15, exec.eq_16, exec.eq_17, ev.eq_1, ev.eq_2, ev.eq_3, ev.eq_4, ev.eq_5, ev.eq_6, ev.eq_7, ev.eq_8, ev.eq_9, ev.eq_10, ev.eq_11, ev.eq_12, ev.eq_13, ev.eq_14, ev.eq_15, ev.eq_16, ev.eq_17, ev.eq_18, ev.eq_19, ev.eq_20, ev.eq_21, ev.eq_24, ev.eq_25, ev.eq_26, ev.eq_27, evs, evT, evTs, bltD, intD, absD, pairUp, setAll, bindTo, tgK, walkT, pairK, wipeE]) (fun i ρ S1 => ∃ (a3 : Option D), ρ = [some (W x), some (W y), some (.int (((us.take i).map (gap x y)).sum : Nat)), a3] ∧ S1 = S ++ [.lst (us.map .str)])
    ⟨none, by simp, rfl⟩ (fun i ρ S1 _ h => by obtain ⟨a3, rfl, rfl⟩ := h; simp) (fun i d ρ S1 hd hI => by
      obtain ⟨a3, rfl, rfl⟩ := hI
      obtain ⟨w, hw, rfl⟩ := strs_get hd
      refine ⟨_, [some (W x), some (W y), some (.int (((us.take (i + 1)).map (gap x y)).sum : Nat)), some (.str w)], _, rfl, ?_, some (.str w), rfl, rfl⟩
      rw [take_snoc hw, List.map_append, List.sum_append, List.map_singleton, List.sum_singleton]
      generalize ((us.take i).map (gap x y)).sum = n at *
      unfold gap
      simp [execs, exec.eq_1, exec.eq_2, exec.eq_3, exec.eq_4, exec.eq_5, exec.eq_6, exec.eq_7, exec.eq_8, exec.eq_9, exec.eq_10, exec.eq_13, exec.eq_14, exec.eq_15, exec.eq_16, exec.eq_17, ev.eq_1, ev.eq_2, ev.eq_3, ev.eq_4, ev.eq_5, ev.eq_6, ev.eq_7, ev.eq_8, ev.eq_9, ev.eq_10, ev.eq_11, ev.eq_12, ev.eq_13, ev.eq_14, ev.eq_15, ev.eq_16, ev.eq_17, ev.eq_18, ev.eq_19, ev.eq_20, ev.eq_21, ev.eq_24, ev.eq_25, ev.eq_26, ev.eq_27, evs, evT, evTs, bltD, intD, absD, pairUp, setAll, bindTo, tgK, walkT, pairK, wipeE]
      omega)
  rw [List.length_map, List.take_length] at r1
  subst r1 r2
  simp [c__law_apart, execs, exec.eq_1, exec.eq_2, exec.eq_3, exec.eq_4, exec.eq_5, exec.eq_6, exec.eq_7, exec.eq_8, exec.eq_9, exec.eq_10, exec.eq_13, exec.eq_14, exec.eq_15, exec.eq_16, exec.eq_17, ev.eq_1, ev.eq_2, ev.eq_3, ev.eq_4, ev.eq_5, ev.eq_6, ev.eq_7, ev.eq_8, ev.eq_9, ev.eq_10, ev.eq_11, ev.eq_12, ev.eq_13, ev.eq_14, ev.eq_15, ev.eq_16, ev.eq_17, ev.eq_18, ev.eq_19, ev.eq_20, ev.eq_21, ev.eq_24, ev.eq_25, ev.eq_26, ev.eq_27, evs, evT, evTs, bltD, intD, absD, pairUp, setAll, bindTo, tgK, walkT, pairK, wipeE, e2]
  exact trunc_app rfl
/-! ### tallies -/
def tal (l : List Word) (f : Word → Nat) : List (D × D) := l.map fun w => (.str w, .int (f w : Nat))
theorem tal_get {l : List Word} {f : Word → Nat} (h : ∀ w, w ∈ l ↔ f w ≠ 0) (w : Word) : (getK (tal l f) (.str w)).getD (.int 0) = .int (f w : Nat) := by
  have key : ∀ l : List Word, getK (tal l f) (.str w) = if w ∈ l then some (.int (f w : Nat)) else none := by
    intro l
    induction l with
    | nil => rfl
    | cons v l ih =>
      unfold getK tal at *
      rw [List.map_cons, List.find?_cons]
      by_cases e : v = w
      · subst e; simp
      · have e2 : ¬ w = v := fun z => e z.symm
        simp only [D.str.injEq, e, decide_false]
        rw [ih]
        simp [e2]
  rw [key]
  by_cases hw : w ∈ l
  · rw [if_pos hw]; rfl
  · have := mt (h w).mpr hw
    rw [if_neg hw, show f w = 0 from by omega]
    rfl
theorem tal_set {l : List Word} {f : Word → Nat} (hn : l.Nodup) (h : ∀ w, w ∈ l ↔ f w ≠ 0) (w : Word) :
    setK (tal l f) (.str w) (.int ((f w : Int) + 1)) = tal (if w ∈ l then l else l ++ [w]) (fun v => f v + if v = w then 1 else 0) := by
  have any : (tal l f).any (fun kv => decide (kv.1 = .str w)) = decide (w ∈ l) := by
    unfold tal
    rw [List.any_map]
    clear hn h
    induction l with
    | nil => rfl
    | cons v l ih =>
      rw [List.any_cons, ih]
      by_cases e : v = w
      · subst e; simp
      · have : ¬ w = v := fun z => e z.symm
        simp [e, this]
  unfold setK
  rw [any]
  by_cases hw : w ∈ l
  · rw [if_pos (by simpa using hw), if_pos hw]
    unfold tal
    rw [List.map_map]
    refine List.map_congr_left fun v _ => ?_
    simp only [Function.comp, D.str.injEq]
    by_cases e : v = w
    · subst e; simp
    · simp [e]
  · rw [if_neg (by simpa using hw), if_neg hw]
    have h0 : f w = 0 := by have := mt (h w).mpr hw; omega
    unfold tal
    rw [List.map_append]
    congr 1
    · refine List.map_congr_left fun v hv => ?_
      have : ¬ v = w := fun z => hw (z ▸ hv)
      simp [this]
    · simp [h0]
theorem often_ok {m : Nat} (hm : 1 ≤ m) {ws : List Word} (hl : ws.length ≤ 3000) (S : Store) :
    ∃ l : List Word, l.Nodup ∧ (∀ w, w ∈ l ↔ w ∈ ws) ∧ (ctx P m).call "how_often" [W ws] S = some (.ok (.ref S.length) (S ++ [.dct (tal l fun w => ws.count w)])) := by
  rw [call_fn (by omega) (clss_f _ (by decide) (by decide) (by decide)) fn_how_often rfl]
  obtain ⟨ρ', S', e2, a2, l, r1, r2, r3, r4⟩ := for_inv (s := c_how_often_l1) (C := ctx P (m - 1)) (ρ := [some (W ws), some (.ref S.length), none]) (S := S ++ [.dct []]) (S1 := S ++ [.dct []]) (ds := [W ws]) (xs := ws.map .str) rfl
    (by simp [execs, exec.eq_1, exec.eq_2, exec.eq_3, exec.eq_4, exec.eq_5, exec.eq_6, exec.eq_7, exec.eq_8, exec.eq_9, exec.eq_10, exec.eq_13, exec.eq_14, exec.eq_15, exec.eq_16, exec.eq_17, ev.eq_1, ev.eq_2, ev.eq_3, ev.eq_4, ev.eq_5, ev.eq_6, ev.eq_7, ev.eq_8, ev.eq_9, ev.eq_10, ev.eq_11, ev.eq_12, ev.eq_13, ev.eq_14, ev.eq_15, ev.eq_16, ev.eq_17, ev.eq_18, ev.eq_19, ev.eq_20, ev.eq_21, ev.eq_24, ev.eq_25, ev.eq_26, ev.eq_27, evs, evT, evTs, bltD, intD, absD, pairUp, setAll, bindTo, tgK, walkT, pairK, wipeE]) (by simp [execs, exec.eq_1, exec.eq_2, exec.eq_3, exec.eq_4, exec.eq_5, exec.eq_6, exec.eq_7, exec.eq_8, exec.eq_9, exec.eq_10, exec.eq_13, exec.eq_14, exec.eq_15, exec.eq_16, exec.eq_17, ev.eq_1, ev.eq_2, ev.eq_3, ev.eq_4, ev.eq_5, ev.eq_6, ev.eq_7, ev.eq_8, ev.eq_9, ev.eq_10, ev.eq_11, ev.eq_12, ev.eq_13, ev.eq_14, ev.eq_15, ev.eq_16, ev.eq_17, ev.eq_18, ev.eq_19, ev.eq_20, ev.eq_21, ev.eq_24, ev.eq_25, ev.eq_26, ev.eq_27, evs, evT, evTs, bltD, intD, absD, pairUp, setAll, bindTo, tgK, walkT, pairK, wipeE]) (fun i ρ S1 => ∃ (a2 : Option D) (l : List Word), ρ = [some (W ws), some (.ref S.length), a2] ∧ S1 = S ++ [.dct (tal l fun w => (ws.take i).count w)] ∧ l.Nodup ∧ ∀ w, w ∈ l ↔ w ∈ ws.take i)
    ⟨none, [], rfl, rfl, List.Pairwise.nil, by simp⟩ (fun i ρ S1 _ h => by obtain ⟨a2, l, rfl, rfl, _⟩ := h; simp) (fun i d ρ S1 hd hI => by
      obtain ⟨a2, l, rfl, rfl, hn, hm⟩ := hI
      obtain ⟨w, hw, rfl⟩ := strs_get hd
      have hm' : ∀ w, w ∈ l ↔ (ws.take i).count w ≠ 0 := fun w => by rw [hm, ← List.count_pos_iff]; omega
      have eq : (fun v => (ws.take (i + 1)).count v) = fun v => (ws.take i).count v + if v = w then 1 else 0 := funext fun v => by
        rw [take_snoc hw, List.count_append, List.count_singleton]
        by_cases e : v = w
        · subst e; simp
        · have : (w == v) = false := by simpa using fun z => e z.symm
          simp [e, this]
      have hlen : (tal l fun w => (ws.take i).count w).length < line := by
        unfold tal
        rw [List.length_map]
        have := nodup_len hn (fun v hv => (hm v).mp hv)
        rw [List.length_take] at this
        exact lt_line (by omega)
      refine ⟨_, [some (W ws), some (.ref S.length), some (.str w)], _, rfl, ?_, some (.str w), if w ∈ l then l else l ++ [w], rfl, rfl, ?_, fun v => ?_⟩
      · rw [eq, ← tal_set hn hm']
        simp [execs, exec.eq_1, exec.eq_2, exec.eq_3, exec.eq_4, exec.eq_5, exec.eq_6, exec.eq_7, exec.eq_8, exec.eq_9, exec.eq_10, exec.eq_13, exec.eq_14, exec.eq_15, exec.eq_16, exec.eq_17, ev.eq_1, ev.eq_2, ev.eq_3, ev.eq_4, ev.eq_5, ev.eq_6, ev.eq_7, ev.eq_8, ev.eq_9, ev.eq_10, ev.eq_11, ev.eq_12, ev.eq_13, ev.eq_14, ev.eq_15, ev.eq_16, ev.eq_17, ev.eq_18, ev.eq_19, ev.eq_20, ev.eq_21, ev.eq_24, ev.eq_25, ev.eq_26, ev.eq_27, evs, evT, evTs, bltD, intD, absD, pairUp, setAll, bindTo, tgK, walkT, pairK, wipeE, tal_get hm', hlen]
      · split
        · exact hn
        · rename_i h
          refine List.nodup_append.mpr ⟨hn, List.pairwise_singleton _ _, fun a ha b hb => ?_⟩
          rw [List.mem_singleton.mp hb]
          exact fun z => h (z ▸ ha)
      · rw [take_snoc hw, List.mem_append, List.mem_singleton, ← hm]
        split
        · rename_i h
          constructor
          · exact .inl
          · rintro (h1 | rfl)
            · exact h1
            · exact h
        · rw [List.mem_append, List.mem_singleton])
  rw [List.length_map, List.take_length] at r2 r4
  subst r1 r2
  refine ⟨l, r3, r4, ?_⟩
  simp [c_how_often, execs, exec.eq_1, exec.eq_2, exec.eq_3, exec.eq_4, exec.eq_5, exec.eq_6, exec.eq_7, exec.eq_8, exec.eq_9, exec.eq_10, exec.eq_13, exec.eq_14, exec.eq_15, exec.eq_16, exec.eq_17, ev.eq_1, ev.eq_2, ev.eq_3, ev.eq_4, ev.eq_5, ev.eq_6, ev.eq_7, ev.eq_8, ev.eq_9, ev.eq_10, ev.eq_11, ev.eq_12, ev.eq_13, ev.eq_14, ev.eq_15, ev.eq_16, ev.eq_17, ev.eq_18, ev.eq_19, ev.eq_20, ev.eq_21, ev.eq_24, ev.eq_25, ev.eq_26, ev.eq_27, evs, evT, evTs, bltD, intD, absD, pairUp, setAll, bindTo, tgK, walkT, pairK, wipeE, e2, trunc_keep, below]
end K90
/-! The program's own counting. -/
namespace K90
open Rf Wd Rs
open PySem (Str)

def pr (w : Word) : Int × List Nat := ((w.length : Int), w)
def prD (w : Word) : D := .tup [.int w.length, .str w]
theorem isOf_pr : ∀ l : List Word, isOf (l.map prD) = some (l.map pr)
  | [] => rfl
  | w :: l => by simp only [List.map_cons, prD, isOf, isOf_pr l, Option.map_some]; rfl
theorem isLe_pr (a b : Word) : isLe (pr a) (pr b) = le a b := by
  unfold isLe pr le lt
  by_cases e : a.length = b.length
  · rw [if_pos e.symm]
    simp [e]
  · rw [if_neg (fun z => e z.symm)]
    have : ¬ (a.length : Int) = b.length := by omega
    simp [this]
    by_cases h : a.length < b.length
    · simp [h]; omega
    · simp [h]; omega
theorem le_total (a b : Word) : (le a b || le b a) = true := by
  by_cases h : a = b
  · subst h; simp [le_refl]
  · rcases lt_total h with z | z
    · rw [le_iff.mpr (.inl z)]; rfl
    · rw [le_iff.mpr (.inl z), Bool.or_true]
def srt (l : List Word) : List Word := l.mergeSort le
theorem srt_perm (l : List Word) : (srt l).Perm l := List.mergeSort_perm l le
theorem srt_uni {l : List Word} (h : l.Nodup) : Uni (srt l) := by
  have s : (srt l).Pairwise (fun a b => le a b = true) := List.pairwise_mergeSort (le := le) (fun a b c h1 h2 => le_trans h1 h2) le_total l
  have n : (srt l).Nodup := (srt_perm l).nodup_iff.mpr h
  exact s.imp₂ (fun a b h1 h2 => (le_iff.mp h1).resolve_right h2) n
theorem sorted_pr (S : Store) {l : List Word} (h : l.length ≤ line) : sortedD S [.lst (l.map prD)] = some (.lst ((srt l).map prD)) := by
  have e : (l.map pr).mergeSort isLe = (srt l).map pr := (List.map_mergeSort (fun a _ b _ => (isLe_pr a b).symm)).symm
  simp only [sortedD, Rs.frozen_lst, List.length_map, if_pos h, isOf_pr, e, List.map_map]
  rfl
/-- the keys of a tally handed out with their lengths -/
theorem comp_keys {C : Ctx} {S S1 : Store} {ρ : Env} {h : Nat} {kvs : List (D × D)} {its : List E} {elt : E} {v : Nat} {vs : List Nat} {s : E} {l : List Word} (g : Word → D) (hs : s = .comp elt (.nm v) vs .seq its [])
    (e1 : evs C its ρ S = some (.ok [.ref h] S1)) (hS : S1[h]? = some (.dct kvs)) (hk : kvs.map (·.1) = l.map .str) (hl : l.length ≤ line)
    (step : ∀ w ∈ l, ev C elt ((wipeE ρ vs).set v (some (.str w))) (S1.set h (.lck kvs)) = some (.ok (g w) (S1.set h (.lck kvs)))) :
    ev C s ρ S = some (.ok (.lst (l.map g)) S1) := by
  have hlt := (List.getElem?_eq_some_iff.mp hS).1
  have hL : (S1.set h (.lck kvs))[h]? = some (.lck kvs) := by rw [List.getElem?_set_self hlt]
  have hb : (S1.set h (.lck kvs)).set h (.dct kvs) = S1 := by
    rw [List.set_set]
    obtain ⟨h1, h2⟩ := List.getElem?_eq_some_iff.mp hS
    rw [← h2]
    exact List.set_getElem_self h1
  have e := comp_real (C := C) (ρ := ρ) (S := S) (S1 := S1) (ds := [.ref h]) (ik' := .keys) (S2 := S1.set h (.lck kvs)) (S3 := S1) (xs := l.map .str) (fun d => match d with | .str w => g w | _ => .non) hs e1 (real_dct hS) (lock_keys hS) (by rw [unlock_keys hL, hb])
    (by simp only [walkT, tgK, pairK, Bool.not_false, if_true, walk_keys hL, hk]) (by rw [List.length_map]; exact hl) (fun d hd => by
      obtain ⟨w, hw, rfl⟩ := List.mem_map.mp hd
      exact ⟨_, rfl, step w hw⟩)
  rw [e, List.map_map]
  rfl
theorem tal_keys (l : List Word) (f : Word → Nat) : (tal l f).map (·.1) = l.map .str := by
  unfold tal
  rw [List.map_map]
  rfl
theorem tal_get' {ws l : List Word} (h : ∀ w, w ∈ l ↔ w ∈ ws) (w : Word) : (getK (tal l fun w => ws.count w) (.str w)).getD (.int 0) = .int (ws.count w : Nat) :=
  tal_get (fun w => by rw [h, ← List.count_pos_iff]; omega) w
theorem fewest_ok {m : Nat} (hm : 2 ≤ m) {x y : List Word} (hx : Small x) (hy : Small y) (S : Store) :
    (ctx P m).call "fewest_runs" [W x, W y] S = some (.ok (.int (dist x y : Nat)) S) := by
  rw [call_fn (by omega) (clss_f _ (by decide) (by decide) (by decide)) fn_fewest_runs rfl]
  obtain ⟨l1, n1, m1, e1⟩ := often_ok (m := m - 1) (by omega) (ws := x) (by have := hx.1; omega) S
  obtain ⟨l2, n2, m2, e2⟩ := often_ok (m := m - 1) (by omega) (ws := y) (by have := hy.1; omega) (S ++ [.dct (tal l1 fun w => x.count w)])
  obtain ⟨l3, n3, m3, e3⟩ := often_ok (m := m - 1) (by omega) (ws := x ++ y) (by have := (hx.app hy).1; omega) (S ++ [.dct (tal l1 fun w => x.count w), .dct (tal l2 fun w => y.count w)])
  have k3 := tal_keys l3 fun w => (x ++ y).count w
  generalize (tal l3 fun w => (x ++ y).count w) = t3 at e3 k3
  have hp : l3.Perm (unl [] (x ++ y)) := (List.perm_ext_iff_of_nodup n3 (unl_uni _).nodup).mpr fun w => by
    rw [m3, (unl_ok (x ++ y) (acc := []) List.Pairwise.nil).2 w]
    simp
  have hd : dist x y = (l3.map (gap x y)).sum := by
    unfold dist
    exact ((hp.map _).sum_nat).symm
  have ll : l3.length ≤ line := le_line (by
    have := nodup_len n3 (fun v hv => (m3 v).mp hv)
    have := (hx.app hy).1
    omega)
  have la : x.length + y.length ≤ line := le_line (by have := hx.1; have := hy.1; omega)
  have ec := comp_keys (s := c_fewest_runs_e1) (C := ctx P (m - 1)) (ρ := [some (W x), some (W y), some (.ref S.length), some (.ref (S.length + 1)), none, none]) (S := S ++ [.dct (tal l1 fun w => x.count w), .dct (tal l2 fun w => y.count w)])
    (S1 := S ++ [.dct (tal l1 fun w => x.count w), .dct (tal l2 fun w => y.count w), .dct t3]) (h := S.length + 2) (l := l3) (fun w => .int (gap x y w : Nat)) rfl
    (by simp [W] at e3; simp [execs, exec.eq_1, exec.eq_2, exec.eq_3, exec.eq_4, exec.eq_5, exec.eq_6, exec.eq_7, exec.eq_8, exec.eq_9, exec.eq_10, exec.eq_13, exec.eq_14, exec.eq_15, exec.eq_16, exec.eq_17, ev.eq_1, ev.eq_2, ev.eq_3, ev.eq_4, ev.eq_5, ev.eq_6, ev.eq_7, ev.eq_8, ev.eq_9, ev.eq_10, ev.eq_11, ev.eq_12, ev.eq_13, ev.eq_14, ev.eq_15, ev.eq_16, ev.eq_17, ev.eq_18, ev.eq_19, ev.eq_20, ev.eq_21, ev.eq_24, ev.eq_25, ev.eq_26, ev.eq_27, evs, evT, evTs, bltD, intD, absD, pairUp, setAll, bindTo, tgK, walkT, pairK, wipeE, e3, la]) (by simp) k3 ll (fun w hw => by
      simp [execs, exec.eq_1, exec.eq_2, exec.eq_3, exec.eq_4, exec.eq_5, exec.eq_6, exec.eq_7, exec.eq_8, exec.eq_9, exec.eq_10, exec.eq_13, exec.eq_14, exec.eq_15, exec.eq_16, exec.eq_17, ev.eq_1, ev.eq_2, ev.eq_3, ev.eq_4, ev.eq_5, ev.eq_6, ev.eq_7, ev.eq_8, ev.eq_9, ev.eq_10, ev.eq_11, ev.eq_12, ev.eq_13, ev.eq_14, ev.eq_15, ev.eq_16, ev.eq_17, ev.eq_18, ev.eq_19, ev.eq_20, ev.eq_21, ev.eq_24, ev.eq_25, ev.eq_26, ev.eq_27, evs, evT, evTs, bltD, intD, absD, pairUp, setAll, bindTo, tgK, walkT, pairK, wipeE, tal_get' m1, tal_get' m2]
      unfold gap
      omega)
  have hi : ∀ l : List Word, intsOf (l.map fun w => .int (gap x y w : Nat)) = some (l.map fun w => (gap x y w : Int)) := by
    intro l
    induction l with
    | nil => rfl
    | cons w l ih => simp only [List.map_cons, intsOf, ih, Option.map_some]
  have hsum : ∀ l : List Word, (l.map fun w => (gap x y w : Int)).sum = ((l.map (gap x y)).sum : Nat) := by
    intro l
    induction l with
    | nil => rfl
    | cons w l ih => simp only [List.map_cons, List.sum_cons, ih]; omega
  simp at e2
  simp [c_fewest_runs, execs, exec.eq_1, exec.eq_2, exec.eq_3, exec.eq_4, exec.eq_5, exec.eq_6, exec.eq_7, exec.eq_8, exec.eq_9, exec.eq_10, exec.eq_13, exec.eq_14, exec.eq_15, exec.eq_16, exec.eq_17, ev.eq_1, ev.eq_2, ev.eq_3, ev.eq_4, ev.eq_5, ev.eq_6, ev.eq_7, ev.eq_8, ev.eq_9, ev.eq_10, ev.eq_11, ev.eq_12, ev.eq_13, ev.eq_14, ev.eq_15, ev.eq_16, ev.eq_17, ev.eq_18, ev.eq_19, ev.eq_20, ev.eq_21, ev.eq_24, ev.eq_25, ev.eq_26, ev.eq_27, evs, evT, evTs, bltD, intD, absD, pairUp, setAll, bindTo, tgK, walkT, pairK, wipeE, e1, e2, ec, sumD, hi, hsum, hd]
  exact trunc_app rfl
theorem joined_ok {m : Nat} (hm : 2 ≤ m) {x a b : List Word} (hx : Small x) (ha : Small a) (hb : Small b) (S : Store) :
    ∃ us : List Word, Uni us ∧ (∀ w, w ∈ us ↔ w ∈ x ++ a ++ b) ∧ (ctx P m).call "joined" [W x, W a, W b] S = some (.ok (W (laid (jf x a b) us)) S) := by
  rw [call_fn (by omega) (clss_f _ (by decide) (by decide) (by decide)) fn_joined rfl]
  have hs : Short (x ++ a ++ b) := fun w hw => by
    rcases List.mem_append.mp hw with h | h
    · exact (hx.app ha).2 w h
    · exact hb.2 w h
  have hl : (x ++ a ++ b).length ≤ 3000 := by
    have := (hx.app ha).1
    have := hb.1
    rw [List.length_append]
    omega
  obtain ⟨l0, n0, m0, e0⟩ := often_ok (m := m - 1) (by omega) (ws := x) (by have := hx.1; omega) S
  obtain ⟨l1, n1, m1, e1⟩ := often_ok (m := m - 1) (by omega) (ws := a) (by have := ha.1; omega) (S ++ [.dct (tal l0 fun w => x.count w)])
  obtain ⟨l2, n2, m2, e2⟩ := often_ok (m := m - 1) (by omega) (ws := b) (by have := hb.1; omega) (S ++ [.dct (tal l0 fun w => x.count w), .dct (tal l1 fun w => a.count w)])
  obtain ⟨l3, n3, m3, e3⟩ := often_ok (m := m - 1) (by omega) hl (S ++ [.dct (tal l0 fun w => x.count w), .dct (tal l1 fun w => a.count w), .dct (tal l2 fun w => b.count w), .lst []])
  have k3 := tal_keys l3 fun w => (x ++ a ++ b).count w
  generalize (tal l3 fun w => (x ++ a ++ b).count w) = t3 at e3 k3
  have hul : l3.length ≤ 3000 := by
    have := nodup_len n3 (fun v hv => (m3 v).mp hv)
    omega
  have ll : l3.length ≤ line := le_line (by omega)
  have la : x.length + a.length ≤ line := le_line (by have := hx.1; have := ha.1; omega)
  have lb : x.length + (a.length + b.length) ≤ line := le_line (by have := hx.1; have := ha.1; have := hb.1; omega)
  have lb' : x.length + a.length + b.length ≤ line := le_line (by have := hx.1; have := ha.1; have := hb.1; omega)
  have ec := comp_keys (s := c_joined_e2) (C := ctx P (m - 1)) (ρ := [some (W x), some (W a), some (W b), some (.ref S.length), some (.ref (S.length + 1)), some (.ref (S.length + 2)), some (.ref (S.length + 3)), none, none, none, none]) (S := S ++ [.dct (tal l0 fun w => x.count w), .dct (tal l1 fun w => a.count w), .dct (tal l2 fun w => b.count w), .lst []])
    (S1 := S ++ [.dct (tal l0 fun w => x.count w), .dct (tal l1 fun w => a.count w), .dct (tal l2 fun w => b.count w), .lst [], .dct t3]) (h := S.length + 4) (l := l3) prD rfl
    (by simp [W] at e3; simp [execs, exec.eq_1, exec.eq_2, exec.eq_3, exec.eq_4, exec.eq_5, exec.eq_6, exec.eq_7, exec.eq_8, exec.eq_9, exec.eq_10, exec.eq_13, exec.eq_14, exec.eq_15, exec.eq_16, exec.eq_17, ev.eq_1, ev.eq_2, ev.eq_3, ev.eq_4, ev.eq_5, ev.eq_6, ev.eq_7, ev.eq_8, ev.eq_9, ev.eq_10, ev.eq_11, ev.eq_12, ev.eq_13, ev.eq_14, ev.eq_15, ev.eq_16, ev.eq_17, ev.eq_18, ev.eq_19, ev.eq_20, ev.eq_21, ev.eq_24, ev.eq_25, ev.eq_26, ev.eq_27, evs, evT, evTs, bltD, intD, absD, pairUp, setAll, bindTo, tgK, walkT, pairK, wipeE, e3, la, lb, lb']) (by simp) k3 ll (fun w hw => by
      have lw : w.length ≤ line := le_line (by have := hs w ((m3 w).mp hw); omega)
      simp [execs, exec.eq_1, exec.eq_2, exec.eq_3, exec.eq_4, exec.eq_5, exec.eq_6, exec.eq_7, exec.eq_8, exec.eq_9, exec.eq_10, exec.eq_13, exec.eq_14, exec.eq_15, exec.eq_16, exec.eq_17, ev.eq_1, ev.eq_2, ev.eq_3, ev.eq_4, ev.eq_5, ev.eq_6, ev.eq_7, ev.eq_8, ev.eq_9, ev.eq_10, ev.eq_11, ev.eq_12, ev.eq_13, ev.eq_14, ev.eq_15, ev.eq_16, ev.eq_17, ev.eq_18, ev.eq_19, ev.eq_20, ev.eq_21, ev.eq_24, ev.eq_25, ev.eq_26, ev.eq_27, evs, evT, evTs, bltD, intD, absD, pairUp, setAll, bindTo, tgK, walkT, pairK, wipeE, lw, prD])
  have hu := srt_uni n3
  have hm3 : ∀ w, w ∈ srt l3 ↔ w ∈ x ++ a ++ b := fun w => by rw [(srt_perm l3).mem_iff, m3]
  have hlen : (srt l3).length = l3.length := (srt_perm l3).length_eq
  refine ⟨srt l3, hu, hm3, ?_⟩
  have es := sorted_pr (S ++ [.dct (tal l0 fun w => x.count w), .dct (tal l1 fun w => a.count w), .dct (tal l2 fun w => b.count w), .lst [], .dct t3]) ll
  generalize srt l3 = us at *
  have blen : ∀ i, (laid (jf x a b) (us.take i)).length ≤ 9000000 := fun i => by
    have := laid_len (f := jf x a b) (k := 2000) (jf_le ha.1 hb.1) (us.take i)
    rw [List.length_take] at this
    have : min i us.length * 2000 ≤ 3000 * 2000 := Nat.mul_le_mul_right _ (by omega)
    omega
  obtain ⟨ρ', S', ef, a7, a8, a9, a10, r1, r2⟩ := for_inv (s := c_joined_l1) (C := ctx P (m - 1)) (ρ := [some (W x), some (W a), some (W b), some (.ref S.length), some (.ref (S.length + 1)), some (.ref (S.length + 2)), some (.ref (S.length + 3)), none, none, none, none]) (S := S ++ [.dct (tal l0 fun w => x.count w), .dct (tal l1 fun w => a.count w), .dct (tal l2 fun w => b.count w), .lst []])
    (S1 := S ++ [.dct (tal l0 fun w => x.count w), .dct (tal l1 fun w => a.count w), .dct (tal l2 fun w => b.count w), .lst [], .dct t3]) (ds := [.lst (us.map prD)]) (xs := us.map prD) rfl
    (by simp [execs, exec.eq_1, exec.eq_2, exec.eq_3, exec.eq_4, exec.eq_5, exec.eq_6, exec.eq_7, exec.eq_8, exec.eq_9, exec.eq_10, exec.eq_13, exec.eq_14, exec.eq_15, exec.eq_16, exec.eq_17, ev.eq_1, ev.eq_2, ev.eq_3, ev.eq_4, ev.eq_5, ev.eq_6, ev.eq_7, ev.eq_8, ev.eq_9, ev.eq_10, ev.eq_11, ev.eq_12, ev.eq_13, ev.eq_14, ev.eq_15, ev.eq_16, ev.eq_17, ev.eq_18, ev.eq_19, ev.eq_20, ev.eq_21, ev.eq_24, ev.eq_25, ev.eq_26, ev.eq_27, evs, evT, evTs, bltD, intD, absD, pairUp, setAll, bindTo, tgK, walkT, pairK, wipeE, ec, es]) (by simp [execs, exec.eq_1, exec.eq_2, exec.eq_3, exec.eq_4, exec.eq_5, exec.eq_6, exec.eq_7, exec.eq_8, exec.eq_9, exec.eq_10, exec.eq_13, exec.eq_14, exec.eq_15, exec.eq_16, exec.eq_17, ev.eq_1, ev.eq_2, ev.eq_3, ev.eq_4, ev.eq_5, ev.eq_6, ev.eq_7, ev.eq_8, ev.eq_9, ev.eq_10, ev.eq_11, ev.eq_12, ev.eq_13, ev.eq_14, ev.eq_15, ev.eq_16, ev.eq_17, ev.eq_18, ev.eq_19, ev.eq_20, ev.eq_21, ev.eq_24, ev.eq_25, ev.eq_26, ev.eq_27, evs, evT, evTs, bltD, intD, absD, pairUp, setAll, bindTo, tgK, walkT, pairK, wipeE]) (fun i ρ S1 => ∃ (a7 a8 a9 a10 : Option D), ρ = [some (W x), some (W a), some (W b), some (.ref S.length), some (.ref (S.length + 1)), some (.ref (S.length + 2)), some (.ref (S.length + 3)), a7, a8, a9, a10] ∧
      S1 = S ++ [.dct (tal l0 fun w => x.count w), .dct (tal l1 fun w => a.count w), .dct (tal l2 fun w => b.count w), .lst ((laid (jf x a b) (us.take i)).map .str), .dct t3])
    ⟨none, none, none, none, rfl, by simp [laid]⟩ (fun i ρ S1 _ h => by simp) (fun i d ρ S1 hd hI => by
      obtain ⟨a7, a8, a9, a10, rfl, rfl⟩ := hI
      obtain ⟨w, hw, rfl⟩ : ∃ w, us[i]? = some w ∧ prD w = d := by
        rw [List.getElem?_map] at hd
        exact Option.map_eq_some_iff.mp hd
      have hb' := blen i
      have hj := jf_le (x := x) ha.1 hb.1 w
      refine ⟨[some (W x), some (W a), some (W b), some (.ref S.length), some (.ref (S.length + 1)), some (.ref (S.length + 2)), some (.ref (S.length + 3)), some (.str w), some (.int w.length), a9, a10],
        [some (W x), some (W a), some (W b), some (.ref S.length), some (.ref (S.length + 1)), some (.ref (S.length + 2)), some (.ref (S.length + 3)), some (.str w), some (.int w.length), some (.int ((a.count w : Int) + b.count w - x.count w)), a10], _, rfl, ?_, some (.str w), _, _, a10, rfl, rfl⟩
      rw [laid_snoc hw]
      generalize laid (jf x a b) (us.take i) = ls at *
      unfold jf at *
      have hq : ∀ S, opD S .Sub (.int ((a.count w : Int) + b.count w)) (.int (x.count w : Nat)) = some (.int ((a.count w : Int) + b.count w - x.count w)) := fun _ => rfl
      have hmx : ∀ n : Int, (if n > 0 then n else 0).toNat = n.toNat := fun n => by split <;> omega
      generalize (a.count w : Int) + b.count w - x.count w = n at *
      have l1 : ls.length + n.toNat ≤ line := le_line (by omega)
      have l2 : n.toNat ≤ line := le_line (by omega)
      by_cases hn : 0 < n
      · have l3 : n < 4611686018427387904 := by omega
        have l4 : (-4611686018427387904 : Int) < n := by omega
        simp [-sub_int, hq, execs, exec.eq_1, exec.eq_2, exec.eq_3, exec.eq_4, exec.eq_5, exec.eq_6, exec.eq_7, exec.eq_8, exec.eq_9, exec.eq_10, exec.eq_13, exec.eq_14, exec.eq_15, exec.eq_16, exec.eq_17, ev.eq_1, ev.eq_2, ev.eq_3, ev.eq_4, ev.eq_5, ev.eq_6, ev.eq_7, ev.eq_8, ev.eq_9, ev.eq_10, ev.eq_11, ev.eq_12, ev.eq_13, ev.eq_14, ev.eq_15, ev.eq_16, ev.eq_17, ev.eq_18, ev.eq_19, ev.eq_20, ev.eq_21, ev.eq_24, ev.eq_25, ev.eq_26, ev.eq_27, evs, evT, evTs, bltD, intD, absD, pairUp, setAll, bindTo, tgK, walkT, pairK, wipeE, maxD, hn, l1, l2, l3, l4, rep_str, tal_get' m0, tal_get' m1, tal_get' m2]
      · have h0 : n.toNat = 0 := by omega
        have l1 : ls.length ≤ line := le_line (by omega)
        simp [-sub_int, hq, execs, exec.eq_1, exec.eq_2, exec.eq_3, exec.eq_4, exec.eq_5, exec.eq_6, exec.eq_7, exec.eq_8, exec.eq_9, exec.eq_10, exec.eq_13, exec.eq_14, exec.eq_15, exec.eq_16, exec.eq_17, ev.eq_1, ev.eq_2, ev.eq_3, ev.eq_4, ev.eq_5, ev.eq_6, ev.eq_7, ev.eq_8, ev.eq_9, ev.eq_10, ev.eq_11, ev.eq_12, ev.eq_13, ev.eq_14, ev.eq_15, ev.eq_16, ev.eq_17, ev.eq_18, ev.eq_19, ev.eq_20, ev.eq_21, ev.eq_24, ev.eq_25, ev.eq_26, ev.eq_27, evs, evT, evTs, bltD, intD, absD, pairUp, setAll, bindTo, tgK, walkT, pairK, wipeE, maxD, hn, h0, l1, tal_get' m0, tal_get' m1, tal_get' m2])
  rw [List.length_map, List.take_length] at r2
  subst r1 r2
  simp at e1 e2
  simp [c_joined, execs, exec.eq_1, exec.eq_2, exec.eq_3, exec.eq_4, exec.eq_5, exec.eq_6, exec.eq_7, exec.eq_8, exec.eq_9, exec.eq_10, exec.eq_13, exec.eq_14, exec.eq_15, exec.eq_16, exec.eq_17, ev.eq_1, ev.eq_2, ev.eq_3, ev.eq_4, ev.eq_5, ev.eq_6, ev.eq_7, ev.eq_8, ev.eq_9, ev.eq_10, ev.eq_11, ev.eq_12, ev.eq_13, ev.eq_14, ev.eq_15, ev.eq_16, ev.eq_17, ev.eq_18, ev.eq_19, ev.eq_20, ev.eq_21, ev.eq_24, ev.eq_25, ev.eq_26, ev.eq_27, evs, evT, evTs, bltD, intD, absD, pairUp, setAll, bindTo, tgK, walkT, pairK, wipeE, e0, e1, e2, ef]
  exact trunc_app (below_W _ _)
/-- the program joins as the law does -/
theorem joined_eq {x a b us : List Word} (hu : Uni us) (hm : ∀ w, w ∈ us ↔ w ∈ x ++ a ++ b) : Row (jf x a b) (laid (jf x a b) us) := laid_row hu fun v hv => by
  rw [hm]
  unfold jf at hv
  have : 0 < a.count v ∨ 0 < b.count v := by omega
  rcases this with h | h
  · simp [List.count_pos_iff.mp h]
  · simp [List.count_pos_iff.mp h]
end K90
/-! What repr shows; rows joined. -/
namespace K90
open Rf Wd Rs
open PySem (Str PyData)

/-! ### repr -/
def RepOk (d : D) (k n : Nat) : Prop := ∃ x, pyOf d = some x ∧ x.showable = true ∧ x.canLay0 = true ∧ x.depth ≤ k ∧ x.weight ≤ n ∧ x.intsShort 13 = true
def RepsOk (ds : List D) (k n : Nat) : Prop := ∃ xs, pysOf ds = some xs ∧ PyData.showableAll xs = true ∧ PyData.canLayAll0 xs = true ∧ PyData.depthAll xs ≤ k ∧ PyData.weightAll xs ≤ n ∧ PyData.intsShortAll 13 xs = true
theorem RepsOk.nil {k n : Nat} : RepsOk [] k n := ⟨[], rfl, rfl, rfl, Nat.zero_le _, Nat.zero_le _, rfl⟩
theorem RepsOk.cons {d : D} {ds : List D} {k n m : Nat} (h : RepOk d k n) (hs : RepsOk ds k m) : RepsOk (d :: ds) k (n + 1 + m) := by
  obtain ⟨x, a1, a2, a3, a4, a5, a6⟩ := h
  obtain ⟨xs, b1, b2, b3, b4, b5, b6⟩ := hs
  refine ⟨x :: xs, by simp only [pysOf, a1, b1], ?_, ?_, ?_, ?_, ?_⟩
  · simp only [PyData.showableAll, a2, b2, Bool.and_self]
  · simp only [PyData.canLayAll0, a3, b3, Bool.and_self]
  · simp only [PyData.depthAll]; omega
  · simp only [PyData.weightAll]; omega
  · simp only [PyData.intsShortAll, a6, b6, Bool.and_self]
theorem RepsOk.tup {ds : List D} {k n : Nat} (h : RepsOk ds k n) : RepOk (.tup ds) (k + 1) n := by
  obtain ⟨xs, b1, b2, b3, b4, b5, b6⟩ := h
  refine ⟨.tuple xs, by simp only [pyOf, b1, Option.map_some], ?_, ?_, ?_, ?_, ?_⟩
  · simp only [PyData.showable, b2]
  · simp only [PyData.canLay0, b3]
  · simp only [PyData.depth]; omega
  · simp only [PyData.weight]; omega
  · simp only [PyData.intsShort, b6]
theorem RepOk.mono {d : D} {k n k' n' : Nat} (h : RepOk d k n) (h1 : k ≤ k') (h2 : n ≤ n') : RepOk d k' n' := by
  obtain ⟨x, a1, a2, a3, a4, a5, a6⟩ := h
  exact ⟨x, a1, a2, a3, by omega, by omega, a6⟩
theorem RepOk.str {w : Word} {k : Nat} (h : Ok w) : RepOk (.str w) k 330 := by
  refine ⟨.str ⟨w.toArray⟩, rfl, rfl, ?_, Nat.zero_le _, ?_, rfl⟩
  · simp only [PyData.canLay0, PyData.strOk]
    rw [Array.all_eq_true_iff_forall_mem]
    intro x hx
    have := h.2 x (by simpa using hx)
    simp only [decide_eq_true_eq]
    omega
  · simp only [PyData.weight]
    exact h.1
theorem RepOk.int {i : Int} {k : Nat} (h : i.natAbs < 1000000000) : RepOk (.int i) k 40 := by
  have hl : i.natAbs.log2 < 40 := by
    by_cases h0 : i.natAbs = 0
    · rw [h0]; decide
    · exact (Nat.log2_lt h0).mpr (by omega)
  refine ⟨.int i, rfl, ?_, rfl, Nat.zero_le _, ?_, ?_⟩
  · simp only [PyData.showable, decide_eq_true_eq]; omega
  · simp only [PyData.weight]; split <;> omega
  · simp only [PyData.intsShort, decide_eq_true_eq]
    exact PyData.shown_int_le (by omega)
theorem RepOk.bl {b : Bool} {k n : Nat} : RepOk (.bl b) k n := ⟨.bool b, rfl, rfl, rfl, Nat.zero_le _, Nat.zero_le _, rfl⟩
theorem RepOk.non {k n : Nat} : RepOk .non k n := ⟨.none, rfl, rfl, rfl, Nat.zero_le _, Nat.zero_le _, rfl⟩
theorem RepsOk.words {k : Nat} : ∀ {ws : List Word}, (∀ w ∈ ws, Ok w) → RepsOk (ws.map .str) k (ws.length * 331)
  | [], _ => RepsOk.nil
  | w :: ws, h => by
    have := (RepOk.str (k := k) (h w List.mem_cons_self)).mono (Nat.le_refl _) (Nat.le_refl _)
    have h2 := RepsOk.cons this (RepsOk.words fun v hv => h v (List.mem_cons_of_mem _ hv))
    rw [show (w :: ws).length * 331 = 330 + 1 + ws.length * 331 by simp only [List.length_cons]; omega]
    exact h2
theorem RepOk.repr {d : D} {k n : Nat} (h : RepOk d k n) (h1 : k ≤ 60) (h2 : n ≤ 1048576) : ∃ z, reprD [d] = some (.str z) := by
  obtain ⟨x, a1, a2, a3, a4, a5, a6⟩ := h
  refine ⟨x.shown.cps.toList, ?_⟩
  simp only [reprD, a1]
  rw [if_pos]
  simp only [PyData.layable0, a2, a3, a6, Bool.and_eq_true, decide_eq_true_eq, true_and, and_true]
  exact ⟨⟨by omega, by show _ ≤ 1048576; omega⟩, by omega⟩
/-! ### rows -/
def Dr (n : Nat) (ws : List Word) : Prop := ws.length ≤ n ∧ ∀ w ∈ ws, Ok w
theorem Dr.small {n : Nat} {ws : List Word} (h : Dr n ws) (hn : n ≤ 1000) : Small ws := ⟨by have := h.1; omega, fun w hw => by have := (h.2 w hw).1; omega⟩
theorem Dr.rep {n : Nat} {ws : List Word} (h : Dr n ws) (hn : n ≤ 3000) : ∃ z, reprD [W ws] = some (.str z) :=
  (RepsOk.words (k := 0) h.2).tup.repr (by omega) (by have := h.1; have : ws.length * 331 ≤ 3000 * 331 := Nat.mul_le_mul_right _ (by omega); omega)
theorem Dr.perm {n : Nat} {a b : List Word} (h : Dr n a) (p : b.Perm a) : Dr n b := ⟨by rw [p.length_eq]; exact h.1, fun w hw => h.2 w (p.mem_iff.mp hw)⟩
theorem Dr.app {n m : Nat} {a b : List Word} (h : Dr n a) (g : Dr m b) : Dr (n + m) (a ++ b) := ⟨by have := h.1; have := g.1; rw [List.length_append]; omega, fun w hw => (List.mem_append.mp hw).elim (h.2 w) (g.2 w)⟩
theorem Dr.take {n k : Nat} {a : List Word} (h : Dr n a) : Dr k (a.take k) := ⟨by rw [List.length_take]; omega, fun w hw => h.2 w (List.mem_of_mem_take hw)⟩
theorem Dr.mono {n m : Nat} {a : List Word} (h : Dr n a) (hm : n ≤ m) : Dr m a := ⟨by have := h.1; omega, h.2⟩
theorem Dr.nil {n : Nat} : Dr n [] := ⟨Nat.zero_le _, fun _ h => by cases h⟩
theorem count_len : ∀ {r l : List Word}, (∀ w, r.count w ≤ l.count w) → r.length ≤ l.length
  | [], _, _ => Nat.zero_le _
  | w :: r, l, h => by
    have hw : w ∈ l := List.count_pos_iff.mp (by have := h w; rw [List.count_cons_self] at this; omega)
    have := count_len (r := r) (l := l.erase w) fun v => by
      have := h v
      rw [List.count_cons] at this
      rw [List.count_erase]
      by_cases e : w = v
      · subst e; simp at this ⊢; omega
      · have e2 : (w == v) = false := by simpa using e
        have e3 : (v == w) = false := by simpa using fun z => e z.symm
        simp [e2] at this
        simp [e2, e3]
        omega
    have hl := List.length_erase_of_mem hw
    have := List.length_pos_of_mem hw
    simp only [List.length_cons]
    omega
theorem Row.dr {f : Word → Nat} {r l : List Word} {n : Nat} (h : Row f r) (hl : Dr n l) (hf : ∀ w, f w ≤ l.count w) : Dr n r :=
  ⟨by have := count_len (r := r) (l := l) (fun w => by rw [h.2]; exact hf w); have := hl.1; omega, fun w hw => hl.2 w (by
    have := List.count_pos_iff.mpr hw
    rw [h.2] at this
    exact List.count_pos_iff.mp (by have := hf w; omega))⟩
/-- the law's joining, and a row in order -/
def J (x a b : List Word) : List Word := laid (jf x a b) (unl [] (x ++ a ++ b))
def O (ws : List Word) : List Word := laid (fun w => ws.count w) (unl [] ws)
theorem unl_mem (ws : List Word) (w : Word) : w ∈ unl [] ws ↔ w ∈ ws := by
  rw [(unl_ok ws (acc := []) List.Pairwise.nil).2 w]
  simp
theorem J_row (x a b : List Word) : Row (jf x a b) (J x a b) := joined_eq (unl_uni _) (unl_mem _)
theorem O_row (ws : List Word) : Row (fun w => ws.count w) (O ws) := laid_row (unl_uni _) fun v hv => by
  rw [unl_mem]
  exact List.count_pos_iff.mp (by omega)
theorem J_dr {n m : Nat} {x a b : List Word} (ha : Dr n a) (hb : Dr m b) : Dr (n + m) (J x a b) := Row.dr (J_row x a b) (ha.app hb) fun w => by
  unfold jf
  rw [List.count_append]
  omega
theorem O_dr {n : Nat} {a : List Word} (ha : Dr n a) : Dr n (O a) := Row.dr (O_row a) ha fun w => Nat.le_refl _
theorem J_eq {x a b x' a' b' : List Word} (h : ∀ w, jf x a b w = jf x' a' b' w) : J x a b = J x' a' b' := Row.eq (J_row x a b) (J_row x' a' b') h
theorem J_O {x a b c : List Word} (h : ∀ w, jf x a b w = c.count w) : J x a b = O c := Row.eq (J_row x a b) (O_row c) h
theorem O_eq {a b : List Word} (h : ∀ w, a.count w = b.count w) : O a = O b := Row.eq (O_row a) (O_row b) h
theorem join_ok {m : Nat} (hm : 2 ≤ m) {x a b : List Word} (hx : Small x) (ha : Small a) (hb : Small b) (S : Store) : (ctx P m).call "joined" [W x, W a, W b] S = some (.ok (W (J x a b)) S) := by
  obtain ⟨us, h1, h2, e⟩ := joined_ok hm hx ha hb S
  rw [e, Row.eq (joined_eq h1 h2) (J_row x a b) fun _ => rfl]
theorem dist_comm (x y : List Word) : dist x y = dist y x := by
  have hp : (unl [] (x ++ y)).Perm (unl [] (y ++ x)) := (List.perm_ext_iff_of_nodup (unl_uni _).nodup (unl_uni _).nodup).mpr fun w => by
    rw [unl_mem, unl_mem]
    simp [or_comm]
  have e : gap x y = gap y x := funext fun w => by unfold gap; omega
  unfold dist
  rw [e]
  exact (hp.map _).sum_nat
theorem dist_le {x y : List Word} (hx : Small x) (hy : Small y) : dist x y < 10000000 := by
  have h : ∀ l : List Word, (l.map (gap x y)).sum ≤ l.length * 2000 := by
    intro l
    induction l with
    | nil => simp
    | cons w l ih =>
      have := count_le w x
      have := count_le w y
      have := hx.1
      have := hy.1
      have : gap x y w ≤ 2000 := by unfold gap; omega
      simp only [List.map_cons, List.sum_cons, List.length_cons, Nat.add_mul, Nat.one_mul]
      omega
  have h1 := h (unl [] (x ++ y))
  have h2 := unl_len (x ++ y)
  rw [List.length_append] at h2
  have := hx.1
  have := hy.1
  unfold dist
  have : (unl [] (x ++ y)).length * 2000 ≤ 2000 * 2000 := Nat.mul_le_mul_right _ (by omega)
  omega
end K90
/-! Whether rows are joined as the law says. -/
namespace K90
open Rf Wd Rs
open PySem (Str PyData)

theorem jf_perm {x a b x' a' b' : List Word} (h1 : x'.Perm x) (h2 : a'.Perm a) (h3 : b'.Perm b) (w : Word) : jf x' a' b' w = jf x a b w := by
  unfold jf
  rw [h1.count_eq, h2.count_eq, h3.count_eq]
theorem isj_ok {m : Nat} (hm : 4 ≤ m) {x a b : List Word} (hx : Dr 400 x) (ha : Dr 400 a) (hb : Dr 400 b) {T : Store} (c : List Int) {t : Int} (h0 : 0 ≤ t) (ht : t < 900000000) :
    ∃ (c' : List Int), (ctx P m).call "_law_is_joined" [.ref 1, W x, W a, W b] (hs c t T) = some (.ok (.bl true) (hs c' (t + 5) T)) := by
  rw [call_fn (by omega) (clss_f _ (by decide) (by decide) (by decide)) fn__law_is_joined rfl]
  have sx := hx.small (by omega); have sa := ha.small (by omega); have sb := hb.small (by omega)
  have e4 := lawjoined_ok (m := m - 1) (by omega) sx sa sb (hs c t T)
  have hj : Dr 800 (J x a b) := J_dr ha hb
  obtain ⟨zj, ej⟩ := hj.rep (by omega)
  change _ = some (Res.ok (W (J x a b)) _) at e4
  obtain ⟨b', c1, pb, e5⟩ := turned_ok (m := m - 1) (by omega) (T := T) b (by have := hb.1; omega) c h0 (by omega)
  obtain ⟨a', c2, pa, e6⟩ := turned_ok (m := m - 1) (by omega) (T := T) a (by have := ha.1; omega) c1 (t := t + 1) (by omega) (by omega)
  obtain ⟨x', c3, px, e7⟩ := turned_ok (m := m - 1) (by omega) (T := T) x (by have := hx.1; omega) c2 (t := t + 1 + 1) (by omega) (by omega)
  obtain ⟨x2, c4, px2, e8⟩ := turned_ok (m := m - 1) (by omega) (T := T) x (by have := hx.1; omega) c3 (t := t + 1 + 1 + 1) (by omega) (by omega)
  obtain ⟨x3, c5, px3, e9⟩ := turned_ok (m := m - 1) (by omega) (T := T) x (by have := hx.1; omega) c4 (t := t + 1 + 1 + 1 + 1) (by omega) (by omega)
  have sa' := (ha.perm pa).small (by omega); have sb' := (hb.perm pb).small (by omega); have sx' := (hx.perm px).small (by omega); have sx2 := (hx.perm px2).small (by omega); have sx3 := (hx.perm px3).small (by omega)
  obtain ⟨ρ1, S1, l1, a5, r1, r2⟩ := for_inv (s := c__law_is_joined_l1) (C := ctx P (m - 1)) (ρ := [some (.ref 1), some (W x), some (W a), some (W b), some (W (J x a b)), none]) (S := hs c t T) (S1 := hs c2 (t + 1 + 1) T)
    (ds := [.lst [.tup [W a, W b], .tup [W b, W a], .tup [W b', W a']]]) (xs := [.tup [W a, W b], .tup [W b, W a], .tup [W b', W a']]) rfl (by simp [execs, exec.eq_1, exec.eq_2, exec.eq_3, exec.eq_4, exec.eq_5, exec.eq_6, exec.eq_7, exec.eq_8, exec.eq_9, exec.eq_10, exec.eq_13, exec.eq_14, exec.eq_15, exec.eq_16, exec.eq_17, ev.eq_1, ev.eq_2, ev.eq_3, ev.eq_4, ev.eq_5, ev.eq_6, ev.eq_7, ev.eq_8, ev.eq_9, ev.eq_10, ev.eq_11, ev.eq_12, ev.eq_13, ev.eq_14, ev.eq_15, ev.eq_16, ev.eq_17, ev.eq_18, ev.eq_19, ev.eq_20, ev.eq_21, ev.eq_24, ev.eq_25, ev.eq_26, ev.eq_27, evs, evT, evTs, bltD, intD, absD, pairUp, setAll, bindTo, tgK, walkT, pairK, wipeE, e5, e6]) (by simp [execs, exec.eq_1, exec.eq_2, exec.eq_3, exec.eq_4, exec.eq_5, exec.eq_6, exec.eq_7, exec.eq_8, exec.eq_9, exec.eq_10, exec.eq_13, exec.eq_14, exec.eq_15, exec.eq_16, exec.eq_17, ev.eq_1, ev.eq_2, ev.eq_3, ev.eq_4, ev.eq_5, ev.eq_6, ev.eq_7, ev.eq_8, ev.eq_9, ev.eq_10, ev.eq_11, ev.eq_12, ev.eq_13, ev.eq_14, ev.eq_15, ev.eq_16, ev.eq_17, ev.eq_18, ev.eq_19, ev.eq_20, ev.eq_21, ev.eq_24, ev.eq_25, ev.eq_26, ev.eq_27, evs, evT, evTs, bltD, intD, absD, pairUp, setAll, bindTo, tgK, walkT, pairK, wipeE])
    (fun i ρ S => ∃ (a5 : Option D), ρ = [some (.ref 1), some (W x), some (W a), some (W b), some (W (J x a b)), a5] ∧ S = hs c2 (t + 1 + 1) T) ⟨none, rfl, rfl⟩ (fun _ _ _ _ _ => rfl) (fun i d ρ S hd hI => by
      obtain ⟨a5, rfl, rfl⟩ := hI
      have key : ∀ p q : List Word, Small p → Small q → (∀ w, jf x p q w = jf x a b w) → d = .tup [W p, W q] → ∃ ρ1 ρ2 S2, bindTo (pairK .seq) (.nm 5) d [some (.ref 1), some (W x), some (W a), some (W b), some (W (J x a b)), a5] = some ρ1 ∧
          execs (ctx P (m - 1)) [(.iff (.val (.cmp .NotEq (.callB .repr [(.callG "joined" [(.var 1), (.idx (.var 5) (.cst (.int 0))), (.idx (.var 5) (.cst (.int 1)))])]) (.callB .repr [(.var 4)]))) [(.ret (.cst (.bl false)))] [])] ρ1 (hs c2 (t + 1 + 1) T) = some (.nx ρ2 S2) ∧
          ∃ (a5 : Option D), ρ2 = [some (.ref 1), some (W x), some (W a), some (W b), some (W (J x a b)), a5] ∧ S2 = hs c2 (t + 1 + 1) T := by
        intro p q hp hq hj rfl
        have e := join_ok (m := m - 1) (by omega) sx hp hq (hs c2 (t + 1 + 1) T)
        rw [J_eq hj] at e
        refine ⟨_, _, _, rfl, ?_, some (.tup [W p, W q]), rfl, rfl⟩
        simp [execs, exec.eq_1, exec.eq_2, exec.eq_3, exec.eq_4, exec.eq_5, exec.eq_6, exec.eq_7, exec.eq_8, exec.eq_9, exec.eq_10, exec.eq_13, exec.eq_14, exec.eq_15, exec.eq_16, exec.eq_17, ev.eq_1, ev.eq_2, ev.eq_3, ev.eq_4, ev.eq_5, ev.eq_6, ev.eq_7, ev.eq_8, ev.eq_9, ev.eq_10, ev.eq_11, ev.eq_12, ev.eq_13, ev.eq_14, ev.eq_15, ev.eq_16, ev.eq_17, ev.eq_18, ev.eq_19, ev.eq_20, ev.eq_21, ev.eq_24, ev.eq_25, ev.eq_26, ev.eq_27, evs, evT, evTs, bltD, intD, absD, pairUp, setAll, bindTo, tgK, walkT, pairK, wipeE, e, ej]
      have hd := List.mem_of_getElem? hd
      simp only [List.mem_cons, List.not_mem_nil, or_false] at hd
      rcases hd with h | h | h
      · exact key a b sa sb (fun _ => rfl) h
      · exact key b a sb sa (fun w => by unfold jf; omega) h
      · exact key b' a' sb' sa' (fun w => by rw [jf_perm (List.Perm.refl _) pb pa]; unfold jf; omega) h)
  subst r1 r2
  have f1 := join_ok (m := m - 1) (by omega) sx' sa sb (hs c3 (t + 1 + 1 + 1) T)
  rw [J_eq (jf_perm px (List.Perm.refl _) (List.Perm.refl _))] at f1
  have f2 := join_ok (m := m - 1) (by omega) sx sx sb (hs c3 (t + 1 + 1 + 1) T)
  rw [J_O (c := b) (fun w => by unfold jf; omega)] at f2
  have f2' := in_order_ok (m := m - 1) (by omega) sb.2 (by have := sb.1; omega) (hs c3 (t + 1 + 1 + 1) T)
  change _ = some (Res.ok (W (O b)) _) at f2'
  have f3 := join_ok (m := m - 1) (by omega) sx sa sx2 (hs c4 (t + 1 + 1 + 1 + 1) T)
  rw [J_O (c := a) (fun w => by unfold jf; rw [px2.count_eq]; omega)] at f3
  have f3' := in_order_ok (m := m - 1) (by omega) sa.2 (by have := sa.1; omega) (hs c4 (t + 1 + 1 + 1 + 1) T)
  change _ = some (Res.ok (W (O a)) _) at f3'
  have f4 := join_ok (m := m - 1) (by omega) sx sa sa (hs c4 (t + 1 + 1 + 1 + 1) T)
  have f4' := lawjoined_ok (m := m - 1) (by omega) sx sa sa (hs c4 (t + 1 + 1 + 1 + 1) T)
  change _ = some (Res.ok (W (J x a a)) _) at f4'
  have s0 : Small [] := ⟨by simp, fun _ h => by cases h⟩
  have f5 := join_ok (m := m - 1) (by omega) s0 sa sb (hs c4 (t + 1 + 1 + 1 + 1) T)
  rw [J_O (c := a ++ b) (fun w => by unfold jf; rw [List.count_append]; simp; omega)] at f5
  have f5' := in_order_ok (m := m - 1) (by omega) (ws := a ++ b) (sa.app sb).2 (by have := (sa.app sb).1; omega) (hs c4 (t + 1 + 1 + 1 + 1) T)
  change _ = some (Res.ok (W (O (a ++ b))) _) at f5'
  have f6 := join_ok (m := m - 1) (by omega) sx s0 s0 (hs c4 (t + 1 + 1 + 1 + 1) T)
  have O0 : O [] = [] := rfl
  rw [J_O (c := []) (fun w => by unfold jf; simp), O0] at f6
  obtain ⟨z2, g2⟩ := (O_dr hb).rep (by omega)
  obtain ⟨z3, g3⟩ := (O_dr ha).rep (by omega)
  obtain ⟨z4, g4⟩ := (J_dr (x := x) ha ha).rep (by omega)
  obtain ⟨z5, g5⟩ := (O_dr (ha.app hb)).rep (by omega)
  have g6 : reprD [.tup []] = some (.str [40, 41]) := by decide +kernel
  obtain ⟨ρ2, S2, l2, a5', r1, r2⟩ := for_inv (s := c__law_is_joined_l2) (C := ctx P (m - 1)) (ρ := [some (.ref 1), some (W x), some (W a), some (W b), some (W (J x a b)), a5]) (S := hs c4 (t + 1 + 1 + 1 + 1) T) (S1 := hs c5 (t + 1 + 1 + 1 + 1 + 1) T)
    (ds := [.lst [.tup [W x, W a], .tup [W a, W x], .tup [W b, W a], .tup [W x, W x3], .tup [W [], W a], .tup [W b, W []]]]) (xs := [.tup [W x, W a], .tup [W a, W x], .tup [W b, W a], .tup [W x, W x3], .tup [W [], W a], .tup [W b, W []]]) rfl (by simp [execs, exec.eq_1, exec.eq_2, exec.eq_3, exec.eq_4, exec.eq_5, exec.eq_6, exec.eq_7, exec.eq_8, exec.eq_9, exec.eq_10, exec.eq_13, exec.eq_14, exec.eq_15, exec.eq_16, exec.eq_17, ev.eq_1, ev.eq_2, ev.eq_3, ev.eq_4, ev.eq_5, ev.eq_6, ev.eq_7, ev.eq_8, ev.eq_9, ev.eq_10, ev.eq_11, ev.eq_12, ev.eq_13, ev.eq_14, ev.eq_15, ev.eq_16, ev.eq_17, ev.eq_18, ev.eq_19, ev.eq_20, ev.eq_21, ev.eq_24, ev.eq_25, ev.eq_26, ev.eq_27, evs, evT, evTs, bltD, intD, absD, pairUp, setAll, bindTo, tgK, walkT, pairK, wipeE, e9]) (by simp [execs, exec.eq_1, exec.eq_2, exec.eq_3, exec.eq_4, exec.eq_5, exec.eq_6, exec.eq_7, exec.eq_8, exec.eq_9, exec.eq_10, exec.eq_13, exec.eq_14, exec.eq_15, exec.eq_16, exec.eq_17, ev.eq_1, ev.eq_2, ev.eq_3, ev.eq_4, ev.eq_5, ev.eq_6, ev.eq_7, ev.eq_8, ev.eq_9, ev.eq_10, ev.eq_11, ev.eq_12, ev.eq_13, ev.eq_14, ev.eq_15, ev.eq_16, ev.eq_17, ev.eq_18, ev.eq_19, ev.eq_20, ev.eq_21, ev.eq_24, ev.eq_25, ev.eq_26, ev.eq_27, evs, evT, evTs, bltD, intD, absD, pairUp, setAll, bindTo, tgK, walkT, pairK, wipeE])
    (fun i ρ S => ∃ (a5 : Option D), ρ = [some (.ref 1), some (W x), some (W a), some (W b), some (W (J x a b)), a5] ∧ S = hs c5 (t + 1 + 1 + 1 + 1 + 1) T) ⟨a5, rfl, rfl⟩ (fun _ _ _ _ _ => rfl) (fun i d ρ S hd hI => by
      obtain ⟨a5, rfl, rfl⟩ := hI
      have key : ∀ p q : List Word, Small p → Small q → d = .tup [W p, W q] → ∃ ρ1 ρ2 S2, bindTo (pairK .seq) (.nm 5) d [some (.ref 1), some (W x), some (W a), some (W b), some (W (J x a b)), a5] = some ρ1 ∧
          execs (ctx P (m - 1)) [(.iff (.val (.cmp .NotEq (.callB .repr [(.callG "fewest_runs" [(.idx (.var 5) (.cst (.int 0))), (.idx (.var 5) (.cst (.int 1)))])]) (.callB .repr [(.callG "_law_apart" [(.idx (.var 5) (.cst (.int 0))), (.idx (.var 5) (.cst (.int 1)))])]))) [(.ret (.cst (.bl false)))] [])] ρ1 (hs c5 (t + 1 + 1 + 1 + 1 + 1) T) = some (.nx ρ2 S2) ∧
          ∃ (a5 : Option D), ρ2 = [some (.ref 1), some (W x), some (W a), some (W b), some (W (J x a b)), a5] ∧ S2 = hs c5 (t + 1 + 1 + 1 + 1 + 1) T := by
        intro p q hp hq rfl
        have e := fewest_ok (m := m - 1) (by omega) hp hq (hs c5 (t + 1 + 1 + 1 + 1 + 1) T)
        have e' := apart_ok (m := m - 1) (by omega) hp hq (hs c5 (t + 1 + 1 + 1 + 1 + 1) T)
        obtain ⟨z, ez⟩ := (RepOk.int (i := (dist p q : Nat)) (k := 0) (by have := dist_le hp hq; omega)).repr (by omega) (by omega)
        refine ⟨_, _, _, rfl, ?_, some (.tup [W p, W q]), rfl, rfl⟩
        simp [execs, exec.eq_1, exec.eq_2, exec.eq_3, exec.eq_4, exec.eq_5, exec.eq_6, exec.eq_7, exec.eq_8, exec.eq_9, exec.eq_10, exec.eq_13, exec.eq_14, exec.eq_15, exec.eq_16, exec.eq_17, ev.eq_1, ev.eq_2, ev.eq_3, ev.eq_4, ev.eq_5, ev.eq_6, ev.eq_7, ev.eq_8, ev.eq_9, ev.eq_10, ev.eq_11, ev.eq_12, ev.eq_13, ev.eq_14, ev.eq_15, ev.eq_16, ev.eq_17, ev.eq_18, ev.eq_19, ev.eq_20, ev.eq_21, ev.eq_24, ev.eq_25, ev.eq_26, ev.eq_27, evs, evT, evTs, bltD, intD, absD, pairUp, setAll, bindTo, tgK, walkT, pairK, wipeE, e, e', ez]
      have hd := List.mem_of_getElem? hd
      simp only [List.mem_cons, List.not_mem_nil, or_false] at hd
      rcases hd with h | h | h | h | h | h
      · exact key x a sx sa h
      · exact key a x sa sx h
      · exact key b a sb sa h
      · exact key x x3 sx sx3 h
      · exact key [] a s0 sa h
      · exact key b [] sb s0 h)
  subst r1 r2
  have sj := hj.small (by omega)
  have k1 := fewest_ok (m := m - 1) (by omega) sx sj (hs c5 (t + 1 + 1 + 1 + 1 + 1) T)
  have k2 := apart_ok (m := m - 1) (by omega) sj sx (hs c5 (t + 1 + 1 + 1 + 1 + 1) T)
  rw [dist_comm] at k2
  obtain ⟨z, ez⟩ := (RepOk.int (i := (dist x (J x a b) : Nat)) (k := 0) (by have := dist_le sx sj; omega)).repr (by omega) (by omega)
  refine ⟨c5, ?_⟩
  rw [show t + 5 = t + 1 + 1 + 1 + 1 + 1 by omega]
  have lab : a.length + b.length ≤ line := le_line (by have := sa.1; have := sb.1; omega)
  simp [W] at f5' f5 f6
  have fin0 : ∀ d, fin (hs c t T) (some (.rt d (hs c5 (t + 1 + 1 + 1 + 1 + 1) T))) = some (.ok d (hs c5 (t + 1 + 1 + 1 + 1 + 1) T)) := fun d => by
    rw [fin_rt, hs_trunc (by omega)]
  simp [W] at g5
  by_cases h60 : ((J x a b).length : Int) ≤ 60
  · simp [-fin_rt, fin0, c__law_is_joined, execs, exec.eq_1, exec.eq_2, exec.eq_3, exec.eq_4, exec.eq_5, exec.eq_6, exec.eq_7, exec.eq_8, exec.eq_9, exec.eq_10, exec.eq_13, exec.eq_14, exec.eq_15, exec.eq_16, exec.eq_17, ev.eq_1, ev.eq_2, ev.eq_3, ev.eq_4, ev.eq_5, ev.eq_6, ev.eq_7, ev.eq_8, ev.eq_9, ev.eq_10, ev.eq_11, ev.eq_12, ev.eq_13, ev.eq_14, ev.eq_15, ev.eq_16, ev.eq_17, ev.eq_18, ev.eq_19, ev.eq_20, ev.eq_21, ev.eq_24, ev.eq_25, ev.eq_26, ev.eq_27, evs, evT, evTs, bltD, intD, absD, pairUp, setAll, bindTo, tgK, walkT, pairK, wipeE, e4, l1, e7, f1, ej, f2, f2', g2, e8, f3, f3', g3, f4, f4', g4, f5, f5', g5, f6, g6, l2, k1, k2, ez, h60, lab]
  · simp [-fin_rt, fin0, c__law_is_joined, execs, exec.eq_1, exec.eq_2, exec.eq_3, exec.eq_4, exec.eq_5, exec.eq_6, exec.eq_7, exec.eq_8, exec.eq_9, exec.eq_10, exec.eq_13, exec.eq_14, exec.eq_15, exec.eq_16, exec.eq_17, ev.eq_1, ev.eq_2, ev.eq_3, ev.eq_4, ev.eq_5, ev.eq_6, ev.eq_7, ev.eq_8, ev.eq_9, ev.eq_10, ev.eq_11, ev.eq_12, ev.eq_13, ev.eq_14, ev.eq_15, ev.eq_16, ev.eq_17, ev.eq_18, ev.eq_19, ev.eq_20, ev.eq_21, ev.eq_24, ev.eq_25, ev.eq_26, ev.eq_27, evs, evT, evTs, bltD, intD, absD, pairUp, setAll, bindTo, tgK, walkT, pairK, wipeE, e4, l1, e7, f1, ej, f2, f2', g2, e8, f3, f3', g3, f4, f4', g4, f5, f5', g5, f6, g6, l2, k1, k2, ez, h60, lab]
theorem pool_at {T : Store} {h : Nat} {ps : List Word} (hp : T[h]? = some (.lst (ps.map .str))) (c : List Int) (t : Int) : frozen (hs c t T) (.ref (h + 2)) = .lst (ps.map .str) := frozen_ref (by rw [hs_get2']; exact hp)
theorem isa_ok {m : Nat} (hm : 4 ≤ m) {T : Store} {h : Nat} {ps : List Word} (hp : T[h]? = some (.lst (ps.map .str))) (hp1 : 1 ≤ ps.length) (hp2 : ps.length < 1000000) (hpo : ∀ w ∈ ps, Ok w) (c : List Int) {t : Int} (h0 : 0 ≤ t) (ht : t < 900000000) :
    ∃ (c' : List Int) (t' : Int), t < t' ∧ t' ≤ t + 100 ∧ (ctx P m).call "_law_is_added" [.ref 1, .ref (h + 2)] (hs c t T) = some (.ok (.bl true) (hs c' t' T)) := by
  rw [call_fn (by omega) (clss_f _ (by decide) (by decide) (by decide)) fn__law_is_added rfl]
  obtain ⟨x, c1, t1, x1, x2, ta, tb, e1⟩ := some_ok (m := m - 1) (by omega) (most := 10) (by omega) (T := T) ps (pool_at hp) hp1 (by omega) c h0 (by omega)
  rw [show ((10 : Nat) : Int) = 10 from rfl] at e1
  have dx : Dr 10 x := ⟨x1, fun w hw => hpo w (x2 w hw)⟩
  obtain ⟨acc, S', e2, rs, c2, t2, r1, r2, r3, r4, r5, r6⟩ := comp_inv (s := c__law_is_added_e1) (C := ctx P (m - 1)) (ρ := [some (.ref 1), some (.ref (h + 2)), some (W x), none, none, none, none, none, none, none]) (S := hs c1 t1 T) (S1 := hs c1 t1 T) (ds := [.int 3]) (xs := upTo 0 3) rfl (by simp [execs, exec.eq_1, exec.eq_2, exec.eq_3, exec.eq_4, exec.eq_5, exec.eq_6, exec.eq_7, exec.eq_8, exec.eq_9, exec.eq_10, exec.eq_13, exec.eq_14, exec.eq_15, exec.eq_16, exec.eq_17, ev.eq_1, ev.eq_2, ev.eq_3, ev.eq_4, ev.eq_5, ev.eq_6, ev.eq_7, ev.eq_8, ev.eq_9, ev.eq_10, ev.eq_11, ev.eq_12, ev.eq_13, ev.eq_14, ev.eq_15, ev.eq_16, ev.eq_17, ev.eq_18, ev.eq_19, ev.eq_20, ev.eq_21, ev.eq_24, ev.eq_25, ev.eq_26, ev.eq_27, evs, evT, evTs, bltD, intD, absD, pairUp, setAll, bindTo, tgK, walkT, pairK, wipeE])
    (by simp) (by simp) (by simp) (walkT_r (n := 3) (by omega)) (fun i acc S => ∃ (rs : List (List Word)) (c' : List Int) (t' : Int), acc = rs.map W ∧ rs.length = i ∧ (∀ r ∈ rs, Dr 6 r) ∧ t1 ≤ t' ∧ t' ≤ t1 + 7 * i ∧ S = hs c' t' T) ⟨[], c1, t1, rfl, rfl, fun _ h => (by cases h), by omega, by omega, rfl⟩
    (fun _ _ _ _ _ => walk_r (n := 3) (by omega)) (fun i d acc S hd hI => by
      obtain ⟨rs, c', t', rfl, hx, ha, u1, u2, rfl⟩ := hI
      have hi : i < 3 := by
        have := (List.getElem?_eq_some_iff.mp hd).1
        rwa [upTo_len] at this
      obtain ⟨r, c2, t2, y1, y2, ta, tb, e⟩ := some_ok (m := m - 1) (by omega) (most := 6) (by omega) (T := T) ps (pool_at hp) hp1 (by omega) c' (t := t') (by omega) (by omega)
      rw [show ((6 : Nat) : Int) = 6 from rfl] at e
      refine ⟨_, W r, hs c2 t2 T, rfl, ?_, by simpa using lt_line (by omega), rs ++ [r], c2, t2, by simp, by simp [hx], fun y hy => ?_, by omega, by omega, rfl⟩
      · simp [execs, exec.eq_1, exec.eq_2, exec.eq_3, exec.eq_4, exec.eq_5, exec.eq_6, exec.eq_7, exec.eq_8, exec.eq_9, exec.eq_10, exec.eq_13, exec.eq_14, exec.eq_15, exec.eq_16, exec.eq_17, ev.eq_1, ev.eq_2, ev.eq_3, ev.eq_4, ev.eq_5, ev.eq_6, ev.eq_7, ev.eq_8, ev.eq_9, ev.eq_10, ev.eq_11, ev.eq_12, ev.eq_13, ev.eq_14, ev.eq_15, ev.eq_16, ev.eq_17, ev.eq_18, ev.eq_19, ev.eq_20, ev.eq_21, ev.eq_24, ev.eq_25, ev.eq_26, ev.eq_27, evs, evT, evTs, bltD, intD, absD, pairUp, setAll, bindTo, tgK, walkT, pairK, wipeE, e]
      · rcases List.mem_append.mp hy with h | h
        · exact ha y h
        · rw [List.mem_singleton.mp h]
          exact ⟨y1, fun w hw => hpo w (y2 w hw)⟩)
  rw [upTo_len] at r2 r5
  subst r1 r6
  obtain ⟨p, q, r, rfl⟩ : ∃ p q r, rs = [p, q, r] := by
    match rs, r2 with
    | [p, q, r], _ => exact ⟨p, q, r, rfl⟩
  have dp := r3 p (by simp); have dq := r3 q (by simp); have dr := r3 r (by simp)
  obtain ⟨d, c3, pd, e3⟩ := turned_ok (m := m - 1) (by omega) (T := T) (x ++ r) (by have := (dx.app dr).1; omega) c2 (t := t2) (by omega) (by omega)
  have da := (dx.app dp).small (by omega); have db := (dq.app dx).small (by omega); have dd := ((dx.app dr).perm pd).small (by omega); have sx := dx.small (by omega)
  have sab := (J_dr (x := x) (dx.app dp) (dq.app dx)).small (by omega)
  have sdb := (J_dr (x := x) ((dx.app dr).perm pd) (dq.app dx)).small (by omega)
  have l1 : x.length + p.length ≤ line := le_line (by have := dx.1; have := dp.1; omega)
  have l2 : q.length + x.length ≤ line := le_line (by have := dx.1; have := dq.1; omega)
  have l3 : x.length + r.length ≤ line := le_line (by have := dx.1; have := dr.1; omega)
  have l4 : x.length + p.length + q.length ≤ line := le_line (by have := dx.1; have := dp.1; have := dq.1; omega)
  have l5 : x.length + p.length + q.length + r.length ≤ line := le_line (by have := dx.1; have := dp.1; have := dq.1; have := dr.1; omega)
  have l6 : x.length + (p.length + q.length) + r.length ≤ line := le_line (by have := dx.1; have := dp.1; have := dq.1; have := dr.1; omega)
  have dall := ((dx.app dp).app dq).app dr
  have e4 := in_order_ok (m := m - 1) (by omega) (ws := x ++ p ++ q ++ r) (dall.small (by omega)).2 (by have := dall.1; omega) (hs c3 (t2 + 1) T)
  change _ = some (Res.ok (W (O (x ++ p ++ q ++ r))) _) at e4
  obtain ⟨z, ez⟩ := (O_dr dall).rep (by omega)
  have f1 := join_ok (m := m - 1) (by omega) sx da db (hs c3 (t2 + 1) T)
  have f2 := join_ok (m := m - 1) (by omega) sx sab dd (hs c3 (t2 + 1) T)
  rw [J_O (x := x) (a := J x (x ++ p) (q ++ x)) (b := d) (c := x ++ p ++ q ++ r) (fun w => by
    have := (J_row x (x ++ p) (q ++ x)).2 w
    unfold jf at *
    rw [this, pd.count_eq]
    simp only [List.count_append]
    omega)] at f2
  have f3 := join_ok (m := m - 1) (by omega) sx dd db (hs c3 (t2 + 1) T)
  have f4 := join_ok (m := m - 1) (by omega) sx da sdb (hs c3 (t2 + 1) T)
  rw [J_O (x := x) (a := x ++ p) (b := J x d (q ++ x)) (c := x ++ p ++ q ++ r) (fun w => by
    have := (J_row x d (q ++ x)).2 w
    unfold jf at *
    rw [this, pd.count_eq]
    simp only [List.count_append]
    omega)] at f4
  refine ⟨c3, t2 + 1, by omega, by omega, ?_⟩
  have fin0 : ∀ d, fin (hs c t T) (some (.rt d (hs c3 (t2 + 1) T))) = some (.ok d (hs c3 (t2 + 1) T)) := fun d => by
    rw [fin_rt, hs_trunc (by omega)]
  simp [W] at f1 f2 f3 f4 e3 e4 e1 e2
  simp [W] at f1 f2 f3 f4 e3 e4 ez
  simp [-fin_rt, fin0, c__law_is_added, execs, exec.eq_1, exec.eq_2, exec.eq_3, exec.eq_4, exec.eq_5, exec.eq_6, exec.eq_7, exec.eq_8, exec.eq_9, exec.eq_10, exec.eq_13, exec.eq_14, exec.eq_15, exec.eq_16, exec.eq_17, ev.eq_1, ev.eq_2, ev.eq_3, ev.eq_4, ev.eq_5, ev.eq_6, ev.eq_7, ev.eq_8, ev.eq_9, ev.eq_10, ev.eq_11, ev.eq_12, ev.eq_13, ev.eq_14, ev.eq_15, ev.eq_16, ev.eq_17, ev.eq_18, ev.eq_19, ev.eq_20, ev.eq_21, ev.eq_24, ev.eq_25, ev.eq_26, ev.eq_27, evs, evT, evTs, bltD, intD, absD, pairUp, setAll, bindTo, tgK, walkT, pairK, wipeE, e1, e2, e3, e4, f1, f2, f3, f4, ez, l1, l2, l3, l4, l5, l6]
end K90
/-! The order of words as the program reads it. -/
namespace K90
open Rf Wd Rs
open PySem (Str PyData)

theorem g_end {m : Nat} : (ctx P m).glob "END" = some (.str [46]) := by rw [ctx_glob]; kernel_rfl
theorem g_lc {m : Nat} : (ctx P m).glob "LETTERS_comps" = some (.str [97, 98, 99]) := by rw [ctx_glob]; kernel_rfl
theorem g_lt {m : Nat} : (ctx P m).glob "LETTERS_texts" = some (.str [97, 98, 99]) := by rw [ctx_glob]; kernel_rfl
theorem g_lm {m : Nat} : (ctx P m).glob "LETTERS_machines" = some (.str [97, 98, 99]) := by rw [ctx_glob]; kernel_rfl
theorem g_mw {m : Nat} : (ctx P m).glob "MAX_WORDS" = some (.int 60) := by rw [ctx_glob]; kernel_rfl
theorem g_ml {m : Nat} : (ctx P m).glob "MAX_LONG" = some (.int 200) := by rw [ctx_glob]; kernel_rfl
theorem fl_rows {m : Nat} : (ctx P m).fld "Reader" "rows" = true := by rw [ctx_fld]; kernel_rfl
theorem fl_verd {m : Nat} : (ctx P m).fld "Reader" "verdicts" = true := by rw [ctx_fld]; kernel_rfl
theorem fl_spots {m : Nat} : (ctx P m).fld "Reader" "spots" = true := by rw [ctx_fld]; kernel_rfl
def col (x : Nat) : List D := [.str [x, 97], .str [x, 98], .str [x, 99], .str [x, 46]]
def cols16 : List D := col 97 ++ col 98 ++ col 99 ++ col 46
def cols : List D := col 97 ++ col 98 ++ col 99 ++ [.str [46, 97], .str [46, 98], .str [46, 99]]
theorem columns_ok {m : Nat} (hm : 1 ≤ m) (S : Store) : (ctx P m).call "columns" [.int 3] S = some (.ok (.tup cols) S) := by
  rw [call_fn (by omega) (clss_f _ (by decide) (by decide) (by decide)) fn_columns rfl]
  have l4 : (4 : Nat) ≤ line := by decide
  have l3 : (3 : Nat) ≤ line := by decide
  have l2 : (2 : Nat) ≤ line := by decide
  have ec : ∀ (x : Nat) (a4 a5 : Option D) (S1 : Store), ev (ctx P (m - 1)) c_columns_e2 [some (.int 3), some (.str [97, 98, 99, 46]), some (.ref S.length), some (.str [x]), a4, a5] S1 = some (.ok (.lst (col x)) S1) := by
    intro x a4 a5 S1
    have := comp_map (s := c_columns_e2) (C := ctx P (m - 1)) (ρ := [some (.int 3), some (.str [97, 98, 99, 46]), some (.ref S.length), some (.str [x]), a4, a5]) (S := S1) (S1 := S1) (ds := [.str [97, 98, 99, 46]]) (xs := signsOf [97, 98, 99, 46])
      (fun d => match d with | .str z => .str (x :: z) | _ => .non) rfl (by simp [execs, exec.eq_1, exec.eq_2, exec.eq_3, exec.eq_4, exec.eq_5, exec.eq_6, exec.eq_7, exec.eq_8, exec.eq_9, exec.eq_10, exec.eq_13, exec.eq_14, exec.eq_15, exec.eq_16, exec.eq_17, ev.eq_1, ev.eq_2, ev.eq_3, ev.eq_4, ev.eq_5, ev.eq_6, ev.eq_7, ev.eq_8, ev.eq_9, ev.eq_10, ev.eq_11, ev.eq_12, ev.eq_13, ev.eq_14, ev.eq_15, ev.eq_16, ev.eq_17, ev.eq_18, ev.eq_19, ev.eq_20, ev.eq_21, ev.eq_24, ev.eq_25, ev.eq_26, ev.eq_27, evs, evT, evTs, bltD, intD, absD, pairUp, setAll, bindTo, tgK, walkT, pairK, wipeE]) rfl (by simp) (by simp) rfl (by decide) (fun d hd => by
        obtain ⟨c, hc, rfl⟩ := List.mem_map.mp hd
        refine ⟨_, rfl, ?_⟩
        simp [execs, exec.eq_1, exec.eq_2, exec.eq_3, exec.eq_4, exec.eq_5, exec.eq_6, exec.eq_7, exec.eq_8, exec.eq_9, exec.eq_10, exec.eq_13, exec.eq_14, exec.eq_15, exec.eq_16, exec.eq_17, ev.eq_1, ev.eq_2, ev.eq_3, ev.eq_4, ev.eq_5, ev.eq_6, ev.eq_7, ev.eq_8, ev.eq_9, ev.eq_10, ev.eq_11, ev.eq_12, ev.eq_13, ev.eq_14, ev.eq_15, ev.eq_16, ev.eq_17, ev.eq_18, ev.eq_19, ev.eq_20, ev.eq_21, ev.eq_24, ev.eq_25, ev.eq_26, ev.eq_27, evs, evT, evTs, bltD, intD, absD, pairUp, setAll, bindTo, tgK, walkT, pairK, wipeE, l2])
    exact this
  obtain ⟨ρ', S', e2, a3, r1, r2⟩ := for_inv (s := c_columns_l1) (C := ctx P (m - 1)) (ρ := [some (.int 3), some (.str [97, 98, 99, 46]), some (.ref S.length), none, none, none]) (S := S ++ [.lst []]) (S1 := S ++ [.lst []]) (ds := [.str [97, 98, 99, 46]]) (xs := signsOf [97, 98, 99, 46]) rfl
    (by simp [execs, exec.eq_1, exec.eq_2, exec.eq_3, exec.eq_4, exec.eq_5, exec.eq_6, exec.eq_7, exec.eq_8, exec.eq_9, exec.eq_10, exec.eq_13, exec.eq_14, exec.eq_15, exec.eq_16, exec.eq_17, ev.eq_1, ev.eq_2, ev.eq_3, ev.eq_4, ev.eq_5, ev.eq_6, ev.eq_7, ev.eq_8, ev.eq_9, ev.eq_10, ev.eq_11, ev.eq_12, ev.eq_13, ev.eq_14, ev.eq_15, ev.eq_16, ev.eq_17, ev.eq_18, ev.eq_19, ev.eq_20, ev.eq_21, ev.eq_24, ev.eq_25, ev.eq_26, ev.eq_27, evs, evT, evTs, bltD, intD, absD, pairUp, setAll, bindTo, tgK, walkT, pairK, wipeE]) rfl (fun i ρ S1 => ∃ (a3 : Option D), ρ = [some (.int 3), some (.str [97, 98, 99, 46]), some (.ref S.length), a3, none, none] ∧ S1 = S ++ [.lst (cols16.take (4 * i))])
    ⟨none, rfl, rfl⟩ (fun _ _ _ _ _ => rfl) (fun i d ρ S1 hd hI => by
      obtain ⟨a3, rfl, rfl⟩ := hI
      have step : ∀ (c : Nat) (cs cs' : List D), cs.length ≤ 12 → cs' = cs ++ col c → ∃ ρ1 ρ2 S2, bindTo (pairK .seq) (.nm 3) (.str [c]) [some (.int 3), some (.str [97, 98, 99, 46]), some (.ref S.length), a3, none, none] = some ρ1 ∧
          execs (ctx P (m - 1)) [(.expr (.meth (.var 2) "extend" [c_columns_e2]))] ρ1 (S ++ [.lst cs]) = some (.nx ρ2 S2) ∧
          ∃ (a3 : Option D), ρ2 = [some (.int 3), some (.str [97, 98, 99, 46]), some (.ref S.length), a3, none, none] ∧ S2 = S ++ [.lst cs'] := by
        intro c cs cs' hc rfl
        have l : cs.length + (col c).length ≤ line := le_line (by rw [show (col c).length = 4 from rfl]; omega)
        refine ⟨_, _, _, rfl, ?_, some (.str [c]), rfl, rfl⟩
        have hx := do_extend (S := S ++ [.lst cs]) (h := S.length) (ds := cs) (x := .lst (col c)) (es := col c) (by simp) rfl l
        simp [execs, exec.eq_1, exec.eq_2, exec.eq_3, exec.eq_4, exec.eq_5, exec.eq_6, exec.eq_7, exec.eq_8, exec.eq_9, exec.eq_10, exec.eq_13, exec.eq_14, exec.eq_15, exec.eq_16, exec.eq_17, ev.eq_1, ev.eq_2, ev.eq_3, ev.eq_4, ev.eq_5, ev.eq_6, ev.eq_7, ev.eq_8, ev.eq_9, ev.eq_10, ev.eq_11, ev.eq_12, ev.eq_13, ev.eq_14, ev.eq_15, ev.eq_16, ev.eq_17, ev.eq_18, ev.eq_19, ev.eq_20, ev.eq_21, ev.eq_24, ev.eq_25, ev.eq_26, ev.eq_27, evs, evT, evTs, bltD, intD, absD, pairUp, setAll, bindTo, tgK, walkT, pairK, wipeE, ec, hx]
      match i, hd with
      | 0, hd => cases hd; exact step 97 _ _ (by decide) rfl
      | 1, hd => cases hd; exact step 98 _ _ (by decide) rfl
      | 2, hd => cases hd; exact step 99 _ _ (by decide) rfl
      | 3, hd => cases hd; exact step 46 _ _ (by decide) rfl)
  subst r1 r2
  have hs : slcD (S ++ [.lst cols16]) (.ref S.length) none (some (-1)) = some (.lst cols) := by
    simp only [slcD, frozen_ref (getElem?_app0 S [.lst cols16])]
    rfl
  have e3 := e2
  rw [show (List.take (4 * (signsOf [97, 98, 99, 46]).length) cols16) = cols16 from rfl] at e3
  have hl : sliced [97, 98, 99] none (some (3 : Int)) = [97, 98, 99] := rfl
  simp [c_columns, execs, exec.eq_1, exec.eq_2, exec.eq_3, exec.eq_4, exec.eq_5, exec.eq_6, exec.eq_7, exec.eq_8, exec.eq_9, exec.eq_10, exec.eq_13, exec.eq_14, exec.eq_15, exec.eq_16, exec.eq_17, ev.eq_1, ev.eq_2, ev.eq_3, ev.eq_4, ev.eq_5, ev.eq_6, ev.eq_7, ev.eq_8, ev.eq_9, ev.eq_10, ev.eq_11, ev.eq_12, ev.eq_13, ev.eq_14, ev.eq_15, ev.eq_16, ev.eq_17, ev.eq_18, ev.eq_19, ev.eq_20, ev.eq_21, ev.eq_24, ev.eq_25, ev.eq_26, ev.eq_27, evs, evT, evTs, bltD, intD, absD, pairUp, setAll, bindTo, tgK, walkT, pairK, wipeE, g_lc, g_end, l3, l4, hl, e3, hs]
  exact trunc_app (d := .tup cols) rfl
def tabR (k : Int) : D := .tup [.int k, .int k, .int k, .int 4, .int k, .int k, .int k, .int 4, .int k, .int k, .int k, .int 4, .int 3, .int 3, .int 3]
def tab0 : D := .tup [.int 0, .int 1, .int 1, .int 4, .int 2, .int 0, .int 1, .int 4, .int 2, .int 2, .int 0, .int 4, .int 3, .int 3, .int 3]
def tabC (k : Int) : D := .tup (List.replicate 15 (.int k))
def rowsT : List D := [tab0, tabR 1, tabR 2, tabC 3, tabC 4]
def verdT : List D := [.int 0, .int (-1), .int 1, .int (-1), .int 1]
def tableD : D := .tup [.int 3, .tup rowsT, .tup verdT]
def spotsK : List (D × D) := [(.str [97, 97], .int 0), (.str [97, 98], .int 1), (.str [97, 99], .int 2), (.str [97, 46], .int 3), (.str [98, 97], .int 4), (.str [98, 98], .int 5), (.str [98, 99], .int 6), (.str [98, 46], .int 7),
  (.str [99, 97], .int 8), (.str [99, 98], .int 9), (.str [99, 99], .int 10), (.str [99, 46], .int 11), (.str [46, 97], .int 12), (.str [46, 98], .int 13), (.str [46, 99], .int 14)]
def readerF : List (Str × D) := [("rows", .tup rowsT), ("verdicts", .tup verdT)]
theorem put1 {d : D} : putA [] "rows" d = [(("rows" : Str), d)] := rfl
theorem put2 {x d : D} : putA [(("rows" : Str), x)] "verdicts" d = [(("rows" : Str), x), (("verdicts" : Str), d)] := by kernel_rfl
theorem put3 {x y d : D} : putA [(("rows" : Str), x), (("verdicts" : Str), y)] "spots" d = [(("rows" : Str), x), (("verdicts" : Str), y), (("spots" : Str), d)] := by kernel_rfl
theorem look1 {x y z : D} : List.lookup ("rows" : Str) [(("rows" : Str), x), (("verdicts" : Str), y), (("spots" : Str), z)] = some x := by kernel_rfl
theorem look2 {x y z : D} : List.lookup ("verdicts" : Str) [(("rows" : Str), x), (("verdicts" : Str), y), (("spots" : Str), z)] = some y := by kernel_rfl
theorem look3 {x y z : D} : List.lookup ("spots" : Str) [(("rows" : Str), x), (("verdicts" : Str), y), (("spots" : Str), z)] = some z := by kernel_rfl
theorem spots_ok {m : Nat} (hm : 1 ≤ m) (S : Store) {ρ : Env} (h1 : ρ[1]? = some (some tableD)) (hl : ρ.length = 5) : ev (ctx P m) c_Reader___init___e1 ρ S = some (.ok (.ref S.length) (S ++ [.dct spotsK])) := by
  match ρ, hl, h1 with
  | [a0, a1, a2, a3, a4], _, h1 =>
  simp at h1
  subst h1
  have i0 : ∀ S, idxD S tableD (.int 0) = some (.int 3) := fun _ => idx_tup0
  have e := dcomp_map (s := c_Reader___init___e1) (C := ctx P m) (ρ := [a0, some tableD, a2, a3, a4]) (S := S) (S1 := S) (ds := [.tup cols]) (xs := enumFrom 0 cols) (fun d => match d with | .tup [i, z] => (z, i) | _ => (.non, .non)) rfl (by simp [execs, exec.eq_1, exec.eq_2, exec.eq_3, exec.eq_4, exec.eq_5, exec.eq_6, exec.eq_7, exec.eq_8, exec.eq_9, exec.eq_10, exec.eq_13, exec.eq_14, exec.eq_15, exec.eq_16, exec.eq_17, ev.eq_1, ev.eq_2, ev.eq_3, ev.eq_4, ev.eq_5, ev.eq_6, ev.eq_7, ev.eq_8, ev.eq_9, ev.eq_10, ev.eq_11, ev.eq_12, ev.eq_13, ev.eq_14, ev.eq_15, ev.eq_16, ev.eq_17, ev.eq_18, ev.eq_19, ev.eq_20, ev.eq_21, ev.eq_24, ev.eq_25, ev.eq_26, ev.eq_27, evs, evT, evTs, bltD, intD, absD, pairUp, setAll, bindTo, tgK, walkT, pairK, wipeE, i0, columns_ok hm]) (by rfl) (by rfl) (fun _ => rfl) rfl (by decide) (fun d hd => by
    have key : ∀ (i : Int) (z : List Nat), d = .tup [.int i, .str z] → ∃ ρ1, bindTo (pairK .enum) (.tup [3, 4]) d (wipeE [a0, some tableD, a2, a3, a4] [2, 3, 4]) = some ρ1 ∧ ev (ctx P m) (.var 4) ρ1 S = some (.ok (match d with | .tup [i, z] => (z, i) | _ => (D.non, D.non)).1 S) ∧
        ev (ctx P m) (.var 3) ρ1 S = some (.ok (match d with | .tup [i, z] => (z, i) | _ => (D.non, D.non)).2 S) ∧ keyD (match d with | .tup [i, z] => (z, i) | _ => (D.non, D.non)).1 = true := by
      intro i z rfl
      exact ⟨_, rfl, by simp [execs, exec.eq_1, exec.eq_2, exec.eq_3, exec.eq_4, exec.eq_5, exec.eq_6, exec.eq_7, exec.eq_8, exec.eq_9, exec.eq_10, exec.eq_13, exec.eq_14, exec.eq_15, exec.eq_16, exec.eq_17, ev.eq_1, ev.eq_2, ev.eq_3, ev.eq_4, ev.eq_5, ev.eq_6, ev.eq_7, ev.eq_8, ev.eq_9, ev.eq_10, ev.eq_11, ev.eq_12, ev.eq_13, ev.eq_14, ev.eq_15, ev.eq_16, ev.eq_17, ev.eq_18, ev.eq_19, ev.eq_20, ev.eq_21, ev.eq_24, ev.eq_25, ev.eq_26, ev.eq_27, evs, evT, evTs, bltD, intD, absD, pairUp, setAll, bindTo, tgK, walkT, pairK, wipeE], by simp [execs, exec.eq_1, exec.eq_2, exec.eq_3, exec.eq_4, exec.eq_5, exec.eq_6, exec.eq_7, exec.eq_8, exec.eq_9, exec.eq_10, exec.eq_13, exec.eq_14, exec.eq_15, exec.eq_16, exec.eq_17, ev.eq_1, ev.eq_2, ev.eq_3, ev.eq_4, ev.eq_5, ev.eq_6, ev.eq_7, ev.eq_8, ev.eq_9, ev.eq_10, ev.eq_11, ev.eq_12, ev.eq_13, ev.eq_14, ev.eq_15, ev.eq_16, ev.eq_17, ev.eq_18, ev.eq_19, ev.eq_20, ev.eq_21, ev.eq_24, ev.eq_25, ev.eq_26, ev.eq_27, evs, evT, evTs, bltD, intD, absD, pairUp, setAll, bindTo, tgK, walkT, pairK, wipeE], rfl⟩
    simp only [cols, col, List.cons_append, List.nil_append, enumFrom, List.mem_cons, List.not_mem_nil, or_false] at hd
    rcases hd with h | h | h | h | h | h | h | h | h | h | h | h | h | h | h <;> exact key _ _ h)
  exact e
theorem reader_ok {m : Nat} (hm : 2 ≤ m) (S : Store) : (ctx P m).call "Reader" [tableD] S = some (.ok (.ref S.length) (S ++ [.ins "Reader" [("rows", .tup rowsT), ("verdicts", .tup verdT), ("spots", .ref (S.length + 1))], .dct spotsK])) := by
  rw [call_cls (F := c_Reader___init__) (by omega) (by kernel_rfl) mt_Reader___init__ rfl]
  have e := spots_ok (m := m - 1) (by omega) (S ++ [.ins "Reader" [("rows", .tup rowsT), ("verdicts", .tup verdT)]]) (ρ := [some (.ref S.length), some tableD, none, none, none]) rfl rfl
  have i1 : ∀ S, idxD S tableD (.int 1) = some (.tup rowsT) := fun _ => idx_tup1
  have i2 : ∀ S, idxD S tableD (.int 2) = some (.tup verdT) := fun _ => idx_tup2
  simp at e
  simp [c_Reader___init__, execs, exec.eq_1, exec.eq_2, exec.eq_3, exec.eq_4, exec.eq_5, exec.eq_6, exec.eq_7, exec.eq_8, exec.eq_9, exec.eq_10, exec.eq_13, exec.eq_14, exec.eq_15, exec.eq_16, exec.eq_17, ev.eq_1, ev.eq_2, ev.eq_3, ev.eq_4, ev.eq_5, ev.eq_6, ev.eq_7, ev.eq_8, ev.eq_9, ev.eq_10, ev.eq_11, ev.eq_12, ev.eq_13, ev.eq_14, ev.eq_15, ev.eq_16, ev.eq_17, ev.eq_18, ev.eq_19, ev.eq_20, ev.eq_21, ev.eq_24, ev.eq_25, ev.eq_26, ev.eq_27, evs, evT, evTs, bltD, intD, absD, pairUp, setAll, bindTo, tgK, walkT, pairK, wipeE, i1, i2, fl_rows, fl_verd, fl_spots, put1, put2, put3, e]
  rw [trunc_chg (by simp)]
/-! ### the table read -/
def dl (s x y : Nat) : Nat := if x = 46 ∧ y = 46 then s else match s with
  | 0 => if y = 46 then 4 else if x = 46 then 3 else if x < y then 1 else if y < x then 2 else 0
  | 1 => if y = 46 then 4 else if x = 46 then 3 else 1
  | 2 => if y = 46 then 4 else if x = 46 then 3 else 2
  | 3 => 3
  | _ => 4
def tb (s x y : Nat) : Option D := match rowsT[s]?, getK spotsK (.str [x, y]) with
  | some (.tup row), some (.int (.ofNat k)) => row[k]?
  | _, _ => none
theorem tb_ok : ∀ s ∈ List.range 5, ∀ x ∈ [97, 98, 99, 46], ∀ y ∈ [97, 98, 99, 46], (x = 46 ∧ y = 46) ∨ tb s x y = some (.int (dl s x y : Nat)) := by decide +kernel
theorem dl_lt {s x y : Nat} (h : s < 5) : dl s x y < 5 := by
  unfold dl
  split
  · exact h
  · split <;> (repeat' split) <;> omega
def Sg (x : Nat) : Prop := x = 97 ∨ x = 98 ∨ x = 99 ∨ x = 46
theorem Sg.mem {x : Nat} (h : Sg x) : x ∈ [97, 98, 99, 46] := by simpa [Sg] using h
abbrev rdr (h : Nat) : Cell := .ins "Reader" [("rows", .tup rowsT), ("verdicts", .tup verdT), ("spots", .ref h)]
theorem after_ok {m : Nat} (hm : 1 ≤ m) {S : Store} {h : Nat} (h1 : S[h]? = some (rdr (h + 1))) (h2 : S[h + 1]? = some (.dct spotsK)) {s x y : Nat} (hs : s < 5) (hx : Sg x) (hy : Sg y) :
    (ctx P m).meth "Reader" "after" [.ref h, .int (s : Nat), .str [x], .str [y]] S = some (.ok (.int (dl s x y : Nat)) S) := by
  rw [call_meth (by omega) mt_Reader_after rfl]
  have l2 : (2 : Nat) ≤ line := by decide
  by_cases e : x = 46 ∧ y = 46
  · have : dl s x y = s := by unfold dl; rw [if_pos e]
    rw [this]
    obtain ⟨rfl, rfl⟩ := e
    simp [c_Reader_after, execs, exec.eq_1, exec.eq_2, exec.eq_3, exec.eq_4, exec.eq_5, exec.eq_6, exec.eq_7, exec.eq_8, exec.eq_9, exec.eq_10, exec.eq_13, exec.eq_14, exec.eq_15, exec.eq_16, exec.eq_17, ev.eq_1, ev.eq_2, ev.eq_3, ev.eq_4, ev.eq_5, ev.eq_6, ev.eq_7, ev.eq_8, ev.eq_9, ev.eq_10, ev.eq_11, ev.eq_12, ev.eq_13, ev.eq_14, ev.eq_15, ev.eq_16, ev.eq_17, ev.eq_18, ev.eq_19, ev.eq_20, ev.eq_21, ev.eq_24, ev.eq_25, ev.eq_26, ev.eq_27, evs, evT, evTs, bltD, intD, absD, pairUp, setAll, bindTo, tgK, walkT, pairK, wipeE, g_end, trunc_same]
  · have ht := (tb_ok s (by simpa using hs) x hx.mem y hy.mem).resolve_left e
    unfold tb at ht
    split at ht
    · rename_i row k hr hk
      have hk' : getK spotsK (.str [x, y]) = some (.int (k : Nat)) := hk
      have hi : ∀ S, idxD S (.tup row) (.int (k : Nat)) = some (.int (dl s x y : Nat)) := fun S => by rw [idx_tup, ht]
      have e' : x = 46 → ¬ y = 46 := fun a b => e ⟨a, b⟩
      by_cases hx46 : x = 46
      · have hy46 := e' hx46
        subst hx46
        simp [c_Reader_after, execs, exec.eq_1, exec.eq_2, exec.eq_3, exec.eq_4, exec.eq_5, exec.eq_6, exec.eq_7, exec.eq_8, exec.eq_9, exec.eq_10, exec.eq_13, exec.eq_14, exec.eq_15, exec.eq_16, exec.eq_17, ev.eq_1, ev.eq_2, ev.eq_3, ev.eq_4, ev.eq_5, ev.eq_6, ev.eq_7, ev.eq_8, ev.eq_9, ev.eq_10, ev.eq_11, ev.eq_12, ev.eq_13, ev.eq_14, ev.eq_15, ev.eq_16, ev.eq_17, ev.eq_18, ev.eq_19, ev.eq_20, ev.eq_21, ev.eq_24, ev.eq_25, ev.eq_26, ev.eq_27, evs, evT, evTs, bltD, intD, absD, pairUp, setAll, bindTo, tgK, walkT, pairK, wipeE, g_end, hy46, trunc_same, h1, h2, fl_rows, fl_spots, look1, look3, hr, l2, hk', hi]
      · simp [c_Reader_after, execs, exec.eq_1, exec.eq_2, exec.eq_3, exec.eq_4, exec.eq_5, exec.eq_6, exec.eq_7, exec.eq_8, exec.eq_9, exec.eq_10, exec.eq_13, exec.eq_14, exec.eq_15, exec.eq_16, exec.eq_17, ev.eq_1, ev.eq_2, ev.eq_3, ev.eq_4, ev.eq_5, ev.eq_6, ev.eq_7, ev.eq_8, ev.eq_9, ev.eq_10, ev.eq_11, ev.eq_12, ev.eq_13, ev.eq_14, ev.eq_15, ev.eq_16, ev.eq_17, ev.eq_18, ev.eq_19, ev.eq_20, ev.eq_21, ev.eq_24, ev.eq_25, ev.eq_26, ev.eq_27, evs, evT, evTs, bltD, intD, absD, pairUp, setAll, bindTo, tgK, walkT, pairK, wipeE, g_end, hx46, trunc_same, h1, h2, fl_rows, fl_spots, look1, look3, hr, l2, hk', hi]
    · cases ht
theorem mark_ok {m : Nat} (hm : 1 ≤ m) {S : Store} {h : Nat} (h1 : S[h]? = some (rdr (h + 1))) {s : Nat} {d : D} (hd : verdT[s]? = some d) :
    (ctx P m).meth "Reader" "mark_of" [.ref h, .int (s : Nat)] S = some (.ok d S) := by
  rw [call_meth (by omega) mt_Reader_mark_of rfl]
  simp [c_Reader_mark_of, execs, exec.eq_1, exec.eq_2, exec.eq_3, exec.eq_4, exec.eq_5, exec.eq_6, exec.eq_7, exec.eq_8, exec.eq_9, exec.eq_10, exec.eq_13, exec.eq_14, exec.eq_15, exec.eq_16, exec.eq_17, ev.eq_1, ev.eq_2, ev.eq_3, ev.eq_4, ev.eq_5, ev.eq_6, ev.eq_7, ev.eq_8, ev.eq_9, ev.eq_10, ev.eq_11, ev.eq_12, ev.eq_13, ev.eq_14, ev.eq_15, ev.eq_16, ev.eq_17, ev.eq_18, ev.eq_19, ev.eq_20, ev.eq_21, ev.eq_24, ev.eq_25, ev.eq_26, ev.eq_27, evs, evT, evTs, bltD, intD, absD, pairUp, setAll, bindTo, tgK, walkT, pairK, wipeE, h1, fl_verd, look2, hd, trunc_same]
/-- the run of the table over two words -/
def rn : Nat → List Nat → List Nat → Nat
  | s, x :: u, y :: v => rn (dl s x y) u v
  | s, [], y :: v => rn (dl s 46 y) [] v
  | s, x :: u, [] => rn (dl s x 46) u []
  | s, [], [] => s
def pad (u v : List Nat) : List Nat := u ++ List.replicate (max u.length v.length - u.length) 46
theorem pad_cons (x y : Nat) (u v : List Nat) : pad (x :: u) (y :: v) = x :: pad u v := by
  unfold pad
  simp only [List.length_cons, List.cons_append]
  rw [show max (u.length + 1) (v.length + 1) - (u.length + 1) = max u.length v.length - u.length by omega]
theorem pad_nil (y : Nat) (v : List Nat) : pad [] (y :: v) = 46 :: pad [] v := by
  unfold pad
  simp only [List.length_cons, List.length_nil, List.nil_append]
  rw [show max 0 (v.length + 1) - 0 = (max 0 v.length - 0) + 1 by omega, List.replicate_succ]
theorem pad_full (x : Nat) (u : List Nat) : pad (x :: u) [] = x :: pad u [] := by
  unfold pad
  simp only [List.length_cons, List.length_nil, List.cons_append]
  rw [show max (u.length + 1) 0 - (u.length + 1) = max u.length 0 - u.length by omega]
theorem rn_fold : ∀ (s : Nat) (u v : List Nat), ((pad u v).zip (pad v u)).foldl (fun s p => dl s p.1 p.2) s = rn s u v
  | s, x :: u, y :: v => by
    rw [pad_cons, pad_cons, List.zip_cons_cons, List.foldl_cons, rn]
    exact rn_fold _ u v
  | s, [], y :: v => by
    rw [pad_nil, pad_full, List.zip_cons_cons, List.foldl_cons, rn]
    exact rn_fold _ [] v
  | s, x :: u, [] => by
    rw [pad_nil, pad_full, List.zip_cons_cons, List.foldl_cons, rn]
    exact rn_fold _ u []
  | s, [], [] => by simp [rn, pad]
theorem rn3 : ∀ (u v : List Nat), rn 3 u v = 3
  | x :: u, y :: v => by rw [rn, show dl 3 x y = 3 by unfold dl; split <;> rfl]; exact rn3 u v
  | [], y :: v => by rw [rn, show dl 3 46 y = 3 by unfold dl; split <;> rfl]; exact rn3 [] v
  | x :: u, [] => by rw [rn, show dl 3 x 46 = 3 by unfold dl; split <;> rfl]; exact rn3 u []
  | [], [] => by rw [rn]
theorem rn4 : ∀ (u v : List Nat), rn 4 u v = 4
  | x :: u, y :: v => by rw [rn, show dl 4 x y = 4 by unfold dl; split <;> rfl]; exact rn4 u v
  | [], y :: v => by rw [rn, show dl 4 46 y = 4 by unfold dl; split <;> rfl]; exact rn4 [] v
  | x :: u, [] => by rw [rn, show dl 4 x 46 = 4 by unfold dl; split <;> rfl]; exact rn4 u []
  | [], [] => by rw [rn]
theorem abc_ne {u : Word} {x : Nat} (h : Abc (x :: u)) : x ≠ 46 ∧ Abc u := ⟨by have := h x (by simp); omega, fun y hy => h y (by simp [hy])⟩
theorem rnk {k : Nat} (hk : k = 1 ∨ k = 2) : ∀ {u v : List Nat}, Abc u → Abc v → rn k u v = if u.length < v.length then 3 else if v.length < u.length then 4 else k
  | x :: u, y :: v, hu, hv => by
    obtain ⟨x1, hu⟩ := abc_ne hu
    obtain ⟨y1, hv⟩ := abc_ne hv
    rw [rn, show dl k x y = k by unfold dl; rcases hk with rfl | rfl <;> simp [x1, y1], rnk hk hu hv]
    simp
  | [], y :: v, hu, hv => by
    obtain ⟨y1, hv⟩ := abc_ne hv
    rw [rn, show dl k 46 y = 3 by unfold dl; rcases hk with rfl | rfl <;> simp [y1], rn3]
    simp
  | x :: u, [], hu, hv => by
    obtain ⟨x1, hu⟩ := abc_ne hu
    rw [rn, show dl k x 46 = 4 by unfold dl; rcases hk with rfl | rfl <;> simp [x1], rn4]
    simp
  | [], [], _, _ => by simp [rn]
theorem rn0 : ∀ {u v : List Nat}, Abc u → Abc v → rn 0 u v = if u.length < v.length then 3 else if v.length < u.length then 4 else if u < v then 1 else if v < u then 2 else 0
  | x :: u, y :: v, hu, hv => by
    obtain ⟨x1, hu'⟩ := abc_ne hu
    obtain ⟨y1, hv'⟩ := abc_ne hv
    rw [rn]
    have ll : ∀ a b : Nat, (a + 1 < b + 1) = (a < b) := fun a b => by simp
    simp only [List.length_cons, ll, List.cons_lt_cons_iff]
    by_cases h1 : x < y
    · rw [show dl 0 x y = 1 by unfold dl; simp [x1, y1, h1], rnk (.inl rfl) hu' hv']
      simp [h1]
    · by_cases h2 : y < x
      · rw [show dl 0 x y = 2 by unfold dl; simp [x1, y1, h1, h2], rnk (.inr rfl) hu' hv']
        have : ¬ x = y := by omega
        simp [h1, h2, this]
      · have e : x = y := by omega
        subst e
        rw [show dl 0 x x = 0 by unfold dl; simp [x1], rn0 hu' hv']
        simp
  | [], y :: v, hu, hv => by
    obtain ⟨y1, hv⟩ := abc_ne hv
    rw [rn, show dl 0 46 y = 3 by unfold dl; simp [y1], rn3]
    simp
  | x :: u, [], hu, hv => by
    obtain ⟨x1, hu⟩ := abc_ne hu
    rw [rn, show dl 0 x 46 = 4 by unfold dl; simp [x1], rn4]
    simp
  | [], [], _, _ => by simp [rn]
/-- what the order says of two words -/
def vd (u v : Word) : Int := if u = v then 0 else if lt u v then -1 else 1
theorem rn_lt (s : Nat) (u v : List Nat) (hs : s < 5) : rn s u v < 5 := by
  fun_induction rn s u v with
  | case1 s x u y v ih => exact ih (dl_lt hs)
  | case2 s y v ih => exact ih (dl_lt hs)
  | case3 s x u ih => exact ih (dl_lt hs)
  | case4 s => exact hs
theorem vd_at {u v : Word} (hu : Abc u) (hv : Abc v) : verdT[rn 0 u v]? = some (.int (vd u v)) := by
  rw [rn0 hu hv]
  unfold vd lt
  by_cases e : u = v
  · subst e
    have : ¬ u < u := List.lt_irrefl u
    simp [this, verdT]
  · by_cases h1 : u.length < v.length
    · have : ¬ u.length = v.length := by omega
      simp [h1, this, e, verdT]
    · by_cases h2 : v.length < u.length
      · have : ¬ u.length = v.length := by omega
        simp [h1, h2, this, e, verdT]
      · have hl : u.length = v.length := by omega
        have e2 : ¬ v = u := fun z => e z.symm
        by_cases h3 : u < v
        · simp [h3, hl, e, verdT]
        · have h4 : v < u := by
            rcases Std.le_total (a := u) (b := v) with z | z
            · exact absurd (List.le_antisymm z (List.not_lt.mp h3)) e
            · by_cases h : v < u
              · exact h
              · exact absurd (List.le_antisymm (List.not_lt.mp h) z) e
          simp [h3, h4, hl, e, verdT]
theorem vd_le (u v : Word) : (vd u v < 1) ↔ le u v = true := by
  unfold vd
  by_cases e : u = v
  · subst e; simp [le_refl]
  · rcases lt_total e with h | h
    · simp [e, h, le_iff]
    · have h2 : lt u v = false := by
        cases z : lt u v with
        | false => rfl
        | true => exact (lt_asymm z h).elim
      simp [e, h2, le_iff]
end K90
/-! Words placed, put and taken. -/
namespace K90
open Rf Wd Rs
open PySem (Str PyData)

theorem zip_signs : ∀ p q : List Nat, zipD (signsOf p) (signsOf q) = (p.zip q).map fun r => .tup [.str [r.1], .str [r.2]]
  | [], q => by cases q <;> rfl
  | x :: p, [] => rfl
  | x :: p, y :: q => by
    have := zip_signs p q
    simp only [signsOf, List.map_cons, zipD, List.zip_cons_cons] at this ⊢
    rw [this]
theorem pad_sg {u v : Word} (hu : Abc u) : ∀ x ∈ pad u v, Sg x := fun x hx => by
  rcases List.mem_append.mp hx with h | h
  · have := hu x h
    unfold Sg
    omega
  · rw [List.eq_of_mem_replicate h]
    exact .inr (.inr (.inr rfl))
theorem tells_ok {m : Nat} (hm : 3 ≤ m) {u v : Word} (hu : Abc u) (hv : Abc v) (lu : u.length ≤ 1000) (lv : v.length ≤ 1000) (S : Store) : (ctx P m).call "tells" [tableD, .str u, .str v] S = some (.ok (.int (vd u v)) S) := by
  rw [call_fn (by omega) (clss_f _ (by decide) (by decide) (by decide)) fn_tells rfl]
  have er := reader_ok (m := m - 1) (by omega) S
  have a1 : u.length ≤ line := le_line (by omega)
  have a2 : v.length ≤ line := le_line (by omega)
  have a3 : u.length ≤ 1000000 := by omega
  have a4 : v.length ≤ 1000000 := by omega
  have a5 : max u.length v.length ≤ 1000000 := by omega
  have hmax : maxD [.int u.length, .int v.length] = some (.int (max u.length v.length : Nat)) := by
    simp only [maxD, Option.some.injEq, D.int.injEq]
    split <;> omega
  generalize hT : S ++ [rdr (S.length + 1), .dct spotsK] = T at *
  have t1 : T[S.length]? = some (rdr (S.length + 1)) := by rw [← hT]; exact getElem?_app0 S _
  have t2 : T[S.length + 1]? = some (.dct spotsK) := by rw [← hT]; exact getElem?_app S _ 1
  have c1 : clsOf T (.ref S.length) "after" = some ("Reader" : Str) := by
    simp only [clsOf, t1]
    rw [if_pos (by kernel_rfl)]
  have c2 : clsOf T (.ref S.length) "mark_of" = some ("Reader" : Str) := by
    simp only [clsOf, t1]
    rw [if_pos (by kernel_rfl)]
  have p1 : pad u v = u ++ List.replicate (max u.length v.length - u.length) 46 := rfl
  have p2 : pad v u = v ++ List.replicate (max u.length v.length - v.length) 46 := by unfold pad; rw [Nat.max_comm]
  obtain ⟨ρ', S', e2, a6, a7, r1, r2⟩ := for_inv (s := c_tells_l1) (C := ctx P (m - 1)) (ρ := [some tableD, some (.str u), some (.str v), some (.ref S.length), some (.int 0), some (.int (max u.length v.length : Nat)), none, none]) (S := T) (S1 := T) (ds := [.str (pad u v), .str (pad v u)])
    (xs := ((pad u v).zip (pad v u)).map fun r => .tup [.str [r.1], .str [r.2]]) rfl (by simp [execs, exec.eq_1, exec.eq_2, exec.eq_3, exec.eq_4, exec.eq_5, exec.eq_6, exec.eq_7, exec.eq_8, exec.eq_9, exec.eq_10, exec.eq_13, exec.eq_14, exec.eq_15, exec.eq_16, exec.eq_17, ev.eq_1, ev.eq_2, ev.eq_3, ev.eq_4, ev.eq_5, ev.eq_6, ev.eq_7, ev.eq_8, ev.eq_9, ev.eq_10, ev.eq_11, ev.eq_12, ev.eq_13, ev.eq_14, ev.eq_15, ev.eq_16, ev.eq_17, ev.eq_18, ev.eq_19, ev.eq_20, ev.eq_21, ev.eq_24, ev.eq_25, ev.eq_26, ev.eq_27, evs, evT, evTs, bltD, intD, absD, pairUp, setAll, bindTo, tgK, walkT, pairK, wipeE, g_end, a3, a4, a5, p1, p2]) (by simp only [walkT, tgK, if_true]; rw [walk_zip rfl rfl, zip_signs])
    (fun i ρ S1 => ∃ (a6 a7 : Option D), ρ = [some tableD, some (.str u), some (.str v), some (.ref S.length), some (.int ((((pad u v).zip (pad v u)).take i).foldl (fun s p => dl s p.1 p.2) 0 : Nat)), some (.int (max u.length v.length : Nat)), a6, a7] ∧ S1 = T ∧ (((pad u v).zip (pad v u)).take i).foldl (fun s p => dl s p.1 p.2) 0 < 5)
    ⟨none, none, rfl, rfl, by show 0 < 5; decide⟩ (fun i ρ S1 _ h => by rw [walk_zip rfl rfl, zip_signs]) (fun i d ρ S1 hd hI => by
      obtain ⟨a6, a7, rfl, rfl, h5⟩ := hI
      rw [List.getElem?_map] at hd
      obtain ⟨⟨x, y⟩, hxy, rfl⟩ := Option.map_eq_some_iff.mp hd
      have hm2 := List.mem_of_getElem? hxy
      have hx := pad_sg hu x (List.of_mem_zip hm2).1
      have hy := pad_sg hv y (List.of_mem_zip hm2).2
      have e := after_ok (m := m - 1) (by omega) t1 t2 h5 hx hy
      refine ⟨_, _, _, rfl, ?_, some (.str [x]), some (.str [y]), rfl, rfl, ?_⟩
      · rw [take_snoc hxy, List.foldl_append]
        simp [execs, exec.eq_1, exec.eq_2, exec.eq_3, exec.eq_4, exec.eq_5, exec.eq_6, exec.eq_7, exec.eq_8, exec.eq_9, exec.eq_10, exec.eq_13, exec.eq_14, exec.eq_15, exec.eq_16, exec.eq_17, ev.eq_1, ev.eq_2, ev.eq_3, ev.eq_4, ev.eq_5, ev.eq_6, ev.eq_7, ev.eq_8, ev.eq_9, ev.eq_10, ev.eq_11, ev.eq_12, ev.eq_13, ev.eq_14, ev.eq_15, ev.eq_16, ev.eq_17, ev.eq_18, ev.eq_19, ev.eq_20, ev.eq_21, ev.eq_24, ev.eq_25, ev.eq_26, ev.eq_27, evs, evT, evTs, bltD, intD, absD, pairUp, setAll, bindTo, tgK, walkT, pairK, wipeE, c1, e]
      · rw [take_snoc hxy, List.foldl_append]
        exact dl_lt h5)
  have hl : (((pad u v).zip (pad v u)).map fun r => D.tup [.str [r.1], .str [r.2]]).length = ((pad u v).zip (pad v u)).length := List.length_map _
  rw [hl, List.take_length, rn_fold] at r1
  obtain ⟨r2, h5⟩ := r2
  subst r1 r2
  have em := mark_ok (m := m - 1) (by omega) t1 (vd_at hu hv)
  simp [c_tells, execs, exec.eq_1, exec.eq_2, exec.eq_3, exec.eq_4, exec.eq_5, exec.eq_6, exec.eq_7, exec.eq_8, exec.eq_9, exec.eq_10, exec.eq_13, exec.eq_14, exec.eq_15, exec.eq_16, exec.eq_17, ev.eq_1, ev.eq_2, ev.eq_3, ev.eq_4, ev.eq_5, ev.eq_6, ev.eq_7, ev.eq_8, ev.eq_9, ev.eq_10, ev.eq_11, ev.eq_12, ev.eq_13, ev.eq_14, ev.eq_15, ev.eq_16, ev.eq_17, ev.eq_18, ev.eq_19, ev.eq_20, ev.eq_21, ev.eq_24, ev.eq_25, ev.eq_26, ev.eq_27, evs, evT, evTs, bltD, intD, absD, pairUp, setAll, bindTo, tgK, walkT, pairK, wipeE, er, hmax, a1, a2, e2, c2, em]
  rw [← hT]
  exact trunc_app (d := .int (vd u v)) rfl
def les (w : Word) : D → Bool
  | .str v => le v w
  | _ => false
/-- the words that may stand in a shelf -/
def Wk (w : Word) : Prop := w.length ≤ 200 ∧ Abc w
theorem placed_ok {m : Nat} (hm : 4 ≤ m) {ws : List Word} {w : Word} (hs : ∀ v ∈ ws, Wk v) (hw : Wk w) (hl : ws.length ≤ 1000) (S : Store) : (ctx P m).call "placed" [tableD, W ws, .str w] S = some (.ok (W (ins w ws)) S) := by
  rw [call_fn (by omega) (clss_f _ (by decide) (by decide) (by decide)) fn_placed rfl]
  have e := comp_filter (s := c_placed_e1) (C := ctx P (m - 1)) (ρ := [some tableD, some (W ws), some (.str w), none, none, none]) (S := S) (S1 := S) (ds := [W ws]) (xs := ws.map .str) (les w) id rfl (by simp [execs, exec.eq_1, exec.eq_2, exec.eq_3, exec.eq_4, exec.eq_5, exec.eq_6, exec.eq_7, exec.eq_8, exec.eq_9, exec.eq_10, exec.eq_13, exec.eq_14, exec.eq_15, exec.eq_16, exec.eq_17, ev.eq_1, ev.eq_2, ev.eq_3, ev.eq_4, ev.eq_5, ev.eq_6, ev.eq_7, ev.eq_8, ev.eq_9, ev.eq_10, ev.eq_11, ev.eq_12, ev.eq_13, ev.eq_14, ev.eq_15, ev.eq_16, ev.eq_17, ev.eq_18, ev.eq_19, ev.eq_20, ev.eq_21, ev.eq_24, ev.eq_25, ev.eq_26, ev.eq_27, evs, evT, evTs, bltD, intD, absD, pairUp, setAll, bindTo, tgK, walkT, pairK, wipeE]) (by simp) (by simp) (by simp) rfl (by simpa using le_line (by omega)) (fun d hd => by
    obtain ⟨v, hv, rfl⟩ := List.mem_map.mp hd
    have e := tells_ok (m := m - 1) (by omega) (hs v hv).2 hw.2 (by have := (hs v hv).1; omega) (by have := hw.1; omega) S
    have hb := vd_le v w
    refine ⟨_, rfl, ?_, ?_⟩
    · by_cases h : le v w = true
      · simp [execs, exec.eq_1, exec.eq_2, exec.eq_3, exec.eq_4, exec.eq_5, exec.eq_6, exec.eq_7, exec.eq_8, exec.eq_9, exec.eq_10, exec.eq_13, exec.eq_14, exec.eq_15, exec.eq_16, exec.eq_17, ev.eq_1, ev.eq_2, ev.eq_3, ev.eq_4, ev.eq_5, ev.eq_6, ev.eq_7, ev.eq_8, ev.eq_9, ev.eq_10, ev.eq_11, ev.eq_12, ev.eq_13, ev.eq_14, ev.eq_15, ev.eq_16, ev.eq_17, ev.eq_18, ev.eq_19, ev.eq_20, ev.eq_21, ev.eq_24, ev.eq_25, ev.eq_26, ev.eq_27, evs, evT, evTs, bltD, intD, absD, pairUp, setAll, bindTo, tgK, walkT, pairK, wipeE, e, les, h, hb.mpr h]
      · have h' : ¬ vd v w < 1 := fun z => h (hb.mp z)
        simp [execs, exec.eq_1, exec.eq_2, exec.eq_3, exec.eq_4, exec.eq_5, exec.eq_6, exec.eq_7, exec.eq_8, exec.eq_9, exec.eq_10, exec.eq_13, exec.eq_14, exec.eq_15, exec.eq_16, exec.eq_17, ev.eq_1, ev.eq_2, ev.eq_3, ev.eq_4, ev.eq_5, ev.eq_6, ev.eq_7, ev.eq_8, ev.eq_9, ev.eq_10, ev.eq_11, ev.eq_12, ev.eq_13, ev.eq_14, ev.eq_15, ev.eq_16, ev.eq_17, ev.eq_18, ev.eq_19, ev.eq_20, ev.eq_21, ev.eq_24, ev.eq_25, ev.eq_26, ev.eq_27, evs, evT, evTs, bltD, intD, absD, pairUp, setAll, bindTo, tgK, walkT, pairK, wipeE, e, les, h, h']
    · simp [execs, exec.eq_1, exec.eq_2, exec.eq_3, exec.eq_4, exec.eq_5, exec.eq_6, exec.eq_7, exec.eq_8, exec.eq_9, exec.eq_10, exec.eq_13, exec.eq_14, exec.eq_15, exec.eq_16, exec.eq_17, ev.eq_1, ev.eq_2, ev.eq_3, ev.eq_4, ev.eq_5, ev.eq_6, ev.eq_7, ev.eq_8, ev.eq_9, ev.eq_10, ev.eq_11, ev.eq_12, ev.eq_13, ev.eq_14, ev.eq_15, ev.eq_16, ev.eq_17, ev.eq_18, ev.eq_19, ev.eq_20, ev.eq_21, ev.eq_24, ev.eq_25, ev.eq_26, ev.eq_27, evs, evT, evTs, bltD, intD, absD, pairUp, setAll, bindTo, tgK, walkT, pairK, wipeE])
  rw [List.map_id, List.filter_map] at e
  have ef : (ws.map D.str).filter (les w) = (ws.filter fun x => le x w).map .str := by rw [List.filter_map]; rfl
  have hfl := List.length_filter_le (fun x => le x w) ws
  have he : ev (ctx P (m - 1)) c_placed_e1 [some tableD, some (W ws), some (.str w), none, none, none] S = some (.ok (.lst ((ws.filter fun x => le x w).map .str)) S) := e
  have l1 : min (ws.filter fun x => le x w).length ws.length + 1 ≤ line := le_line (by omega)
  have l2 : min (ws.filter fun x => le x w).length ws.length + 1 + (ws.length - (ws.filter fun x => le x w).length) ≤ line := le_line (by omega)
  simp [c_placed, execs, exec.eq_1, exec.eq_2, exec.eq_3, exec.eq_4, exec.eq_5, exec.eq_6, exec.eq_7, exec.eq_8, exec.eq_9, exec.eq_10, exec.eq_13, exec.eq_14, exec.eq_15, exec.eq_16, exec.eq_17, ev.eq_1, ev.eq_2, ev.eq_3, ev.eq_4, ev.eq_5, ev.eq_6, ev.eq_7, ev.eq_8, ev.eq_9, ev.eq_10, ev.eq_11, ev.eq_12, ev.eq_13, ev.eq_14, ev.eq_15, ev.eq_16, ev.eq_17, ev.eq_18, ev.eq_19, ev.eq_20, ev.eq_21, ev.eq_24, ev.eq_25, ev.eq_26, ev.eq_27, evs, evT, evTs, bltD, intD, absD, pairUp, setAll, bindTo, tgK, walkT, pairK, wipeE, he, l1, l2, ins, trunc_same]
theorem g_is_word {m : Nat} (hm : 1 ≤ m) {w : Word} (hw : Wk w) (S : Store) : (ctx P m).call "is_word" [.int 3, .str w] S = some (.ok (.bl true) S) := by
  rw [call_fn (by omega) (clss_f _ (by decide) (by decide) (by decide)) fn_is_word rfl]
  have l1 : w.length ≤ line := le_line (by have := hw.1; omega)
  have l3 : (3 : Nat) ≤ line := by decide
  have n1 : ¬ (200 : Int) < w.length := by have := hw.1; omega
  have hsl : sliced [97, 98, 99] none (some (3 : Int)) = [97, 98, 99] := rfl
  have e := comp_filter (s := c_is_word_e1) (C := ctx P (m - 1)) (ρ := [some (.int 3), some (.str w), none, none]) (S := S) (S1 := S) (ds := [.str w]) (xs := signsOf w) (fun _ => false) id rfl (by simp [execs, exec.eq_1, exec.eq_2, exec.eq_3, exec.eq_4, exec.eq_5, exec.eq_6, exec.eq_7, exec.eq_8, exec.eq_9, exec.eq_10, exec.eq_13, exec.eq_14, exec.eq_15, exec.eq_16, exec.eq_17, ev.eq_1, ev.eq_2, ev.eq_3, ev.eq_4, ev.eq_5, ev.eq_6, ev.eq_7, ev.eq_8, ev.eq_9, ev.eq_10, ev.eq_11, ev.eq_12, ev.eq_13, ev.eq_14, ev.eq_15, ev.eq_16, ev.eq_17, ev.eq_18, ev.eq_19, ev.eq_20, ev.eq_21, ev.eq_24, ev.eq_25, ev.eq_26, ev.eq_27, evs, evT, evTs, bltD, intD, absD, pairUp, setAll, bindTo, tgK, walkT, pairK, wipeE]) (by simp) (by simp) (by simp) rfl (by simpa [signsOf] using l1) (fun d hd => by
    obtain ⟨c, hc, rfl⟩ := List.mem_map.mp hd
    have hx := hw.2 c hc
    have hin : ∀ S, cmpD S .NotIn (.str [c]) (.str [97, 98, 99]) = some false := fun S => by
      have : c ∈ [97, 98, 99] := by simpa using hx
      simp only [cmpD, inD, Rs.frozen_str, Option.map_some, this, decide_true, Bool.not_true]
    refine ⟨_, rfl, ?_, ?_⟩
    · simp [execs, exec.eq_1, exec.eq_2, exec.eq_3, exec.eq_4, exec.eq_5, exec.eq_6, exec.eq_7, exec.eq_8, exec.eq_9, exec.eq_10, exec.eq_13, exec.eq_14, exec.eq_15, exec.eq_16, exec.eq_17, ev.eq_1, ev.eq_2, ev.eq_3, ev.eq_4, ev.eq_5, ev.eq_6, ev.eq_7, ev.eq_8, ev.eq_9, ev.eq_10, ev.eq_11, ev.eq_12, ev.eq_13, ev.eq_14, ev.eq_15, ev.eq_16, ev.eq_17, ev.eq_18, ev.eq_19, ev.eq_20, ev.eq_21, ev.eq_24, ev.eq_25, ev.eq_26, ev.eq_27, evs, evT, evTs, bltD, intD, absD, pairUp, setAll, bindTo, tgK, walkT, pairK, wipeE, g_lt, l3, hsl, hin]
    · simp)
  have hnil : ∀ S, cmpD S .Eq (.lst []) (.lst []) = some true := fun S => by
    simp only [cmpD, eqO, Rs.frozen_lst, depthD, depthDs, eqD, pyOf, pysOf]
    rfl
  have hisi : ∀ S, isiL S "str" [.str w] = some (.bl true) := fun S => by
    simp only [isiL, tyName, isiD]
    rw [if_pos (by decide)]
    rfl
  have e0 : ((signsOf w).filter (fun _ => false)).map id = [] := by simp
  rw [e0] at e
  simp [c_is_word, execs, exec.eq_1, exec.eq_2, exec.eq_3, exec.eq_4, exec.eq_5, exec.eq_6, exec.eq_7, exec.eq_8, exec.eq_9, exec.eq_10, exec.eq_13, exec.eq_14, exec.eq_15, exec.eq_16, exec.eq_17, ev.eq_1, ev.eq_2, ev.eq_3, ev.eq_4, ev.eq_5, ev.eq_6, ev.eq_7, ev.eq_8, ev.eq_9, ev.eq_10, ev.eq_11, ev.eq_12, ev.eq_13, ev.eq_14, ev.eq_15, ev.eq_16, ev.eq_17, ev.eq_18, ev.eq_19, ev.eq_20, ev.eq_21, ev.eq_24, ev.eq_25, ev.eq_26, ev.eq_27, evs, evT, evTs, bltD, intD, absD, pairUp, setAll, bindTo, tgK, walkT, pairK, wipeE, hisi, l1, g_ml, n1, e, hnil, trunc_same]
def machD : D := .tup [.int 3, .tup [.tup [.int 0, .int 0, .int 0]], .tup [.bl true]]
theorem sidx {c : Nat} (h : c = 97 ∨ c = 98 ∨ c = 99) : ∃ k : Nat, k < 3 ∧ ∀ S, mtD S .sIndex (.str [97, 98, 99]) [.str [c]] = some (.ok (.int (k : Nat)) S) := by
  rcases h with rfl | rfl | rfl
  · exact ⟨0, by decide, fun _ => rfl⟩
  · exact ⟨1, by decide, fun _ => rfl⟩
  · exact ⟨2, by decide, fun _ => rfl⟩
theorem is_of_ok {m : Nat} (hm : 1 ≤ m) {w : Word} (hw : Wk w) (S : Store) : (ctx P m).call "is_of" [machD, .str w] S = some (.ok (.bl true) S) := by
  rw [call_fn (by omega) (clss_f _ (by decide) (by decide) (by decide)) fn_is_of rfl]
  obtain ⟨ρ', S', e2, a3, r1, r2⟩ := for_inv (s := c_is_of_l1) (C := ctx P (m - 1)) (ρ := [some machD, some (.str w), some (.int 0), none]) (S := S) (S1 := S) (ds := [.str w]) (xs := signsOf w) rfl (by simp [execs, exec.eq_1, exec.eq_2, exec.eq_3, exec.eq_4, exec.eq_5, exec.eq_6, exec.eq_7, exec.eq_8, exec.eq_9, exec.eq_10, exec.eq_13, exec.eq_14, exec.eq_15, exec.eq_16, exec.eq_17, ev.eq_1, ev.eq_2, ev.eq_3, ev.eq_4, ev.eq_5, ev.eq_6, ev.eq_7, ev.eq_8, ev.eq_9, ev.eq_10, ev.eq_11, ev.eq_12, ev.eq_13, ev.eq_14, ev.eq_15, ev.eq_16, ev.eq_17, ev.eq_18, ev.eq_19, ev.eq_20, ev.eq_21, ev.eq_24, ev.eq_25, ev.eq_26, ev.eq_27, evs, evT, evTs, bltD, intD, absD, pairUp, setAll, bindTo, tgK, walkT, pairK, wipeE]) rfl
    (fun i ρ S1 => ∃ (a3 : Option D), ρ = [some machD, some (.str w), some (.int 0), a3] ∧ S1 = S) ⟨none, rfl, rfl⟩ (fun _ _ _ _ _ => rfl) (fun i d ρ S1 hd hI => by
      obtain ⟨a3, rfl, rfl⟩ := hI
      obtain ⟨c, hc, rfl⟩ := List.mem_map.mp (List.mem_of_getElem? hd)
      obtain ⟨k, hk, e⟩ := sidx (hw.2 c hc)
      refine ⟨_, _, _, rfl, ?_, some (.str [c]), rfl, rfl⟩
      match k, hk with
      | 0, _ => simp [execs, exec.eq_1, exec.eq_2, exec.eq_3, exec.eq_4, exec.eq_5, exec.eq_6, exec.eq_7, exec.eq_8, exec.eq_9, exec.eq_10, exec.eq_13, exec.eq_14, exec.eq_15, exec.eq_16, exec.eq_17, ev.eq_1, ev.eq_2, ev.eq_3, ev.eq_4, ev.eq_5, ev.eq_6, ev.eq_7, ev.eq_8, ev.eq_9, ev.eq_10, ev.eq_11, ev.eq_12, ev.eq_13, ev.eq_14, ev.eq_15, ev.eq_16, ev.eq_17, ev.eq_18, ev.eq_19, ev.eq_20, ev.eq_21, ev.eq_24, ev.eq_25, ev.eq_26, ev.eq_27, evs, evT, evTs, bltD, intD, absD, pairUp, setAll, bindTo, tgK, walkT, pairK, wipeE, machD, g_lm, e]
      | 1, _ => simp [execs, exec.eq_1, exec.eq_2, exec.eq_3, exec.eq_4, exec.eq_5, exec.eq_6, exec.eq_7, exec.eq_8, exec.eq_9, exec.eq_10, exec.eq_13, exec.eq_14, exec.eq_15, exec.eq_16, exec.eq_17, ev.eq_1, ev.eq_2, ev.eq_3, ev.eq_4, ev.eq_5, ev.eq_6, ev.eq_7, ev.eq_8, ev.eq_9, ev.eq_10, ev.eq_11, ev.eq_12, ev.eq_13, ev.eq_14, ev.eq_15, ev.eq_16, ev.eq_17, ev.eq_18, ev.eq_19, ev.eq_20, ev.eq_21, ev.eq_24, ev.eq_25, ev.eq_26, ev.eq_27, evs, evT, evTs, bltD, intD, absD, pairUp, setAll, bindTo, tgK, walkT, pairK, wipeE, machD, g_lm, e]
      | 2, _ => simp [execs, exec.eq_1, exec.eq_2, exec.eq_3, exec.eq_4, exec.eq_5, exec.eq_6, exec.eq_7, exec.eq_8, exec.eq_9, exec.eq_10, exec.eq_13, exec.eq_14, exec.eq_15, exec.eq_16, exec.eq_17, ev.eq_1, ev.eq_2, ev.eq_3, ev.eq_4, ev.eq_5, ev.eq_6, ev.eq_7, ev.eq_8, ev.eq_9, ev.eq_10, ev.eq_11, ev.eq_12, ev.eq_13, ev.eq_14, ev.eq_15, ev.eq_16, ev.eq_17, ev.eq_18, ev.eq_19, ev.eq_20, ev.eq_21, ev.eq_24, ev.eq_25, ev.eq_26, ev.eq_27, evs, evT, evTs, bltD, intD, absD, pairUp, setAll, bindTo, tgK, walkT, pairK, wipeE, machD, g_lm, e])
  subst r1 r2
  have i2 : ∀ S, idxD S machD (.int 2) = some (.tup [.bl true]) := fun _ => idx_tup2
  simp [c_is_of, execs, exec.eq_1, exec.eq_2, exec.eq_3, exec.eq_4, exec.eq_5, exec.eq_6, exec.eq_7, exec.eq_8, exec.eq_9, exec.eq_10, exec.eq_13, exec.eq_14, exec.eq_15, exec.eq_16, exec.eq_17, ev.eq_1, ev.eq_2, ev.eq_3, ev.eq_4, ev.eq_5, ev.eq_6, ev.eq_7, ev.eq_8, ev.eq_9, ev.eq_10, ev.eq_11, ev.eq_12, ev.eq_13, ev.eq_14, ev.eq_15, ev.eq_16, ev.eq_17, ev.eq_18, ev.eq_19, ev.eq_20, ev.eq_21, ev.eq_24, ev.eq_25, ev.eq_26, ev.eq_27, evs, evT, evTs, bltD, intD, absD, pairUp, setAll, bindTo, tgK, walkT, pairK, wipeE, e2, i2, trunc_same]
theorem sum_ones : ∀ w : Word, ((w.map fun c => [c]).map (·.length)).sum = w.length
  | [] => rfl
  | c :: w => by simp only [List.map_cons, List.sum_cons, sum_ones w, List.length_cons, List.length_nil]; omega
theorem flat_ones : ∀ w : Word, (w.map fun c => [c]).flatten = w
  | [] => rfl
  | c :: w => by simp only [List.map_cons, List.flatten_cons, flat_ones w, List.singleton_append]
theorem is_word_of_ok {m : Nat} (hm : 2 ≤ m) {w : Word} (hw : Wk w) (S : Store) : (ctx P m).call "is_word_of" [machD, .str w] S = some (.ok (.bl true) S) := by
  rw [call_fn (by omega) (clss_f _ (by decide) (by decide) (by decide)) fn_is_word_of rfl]
  have e1 := g_is_word (m := m - 1) (by omega) hw S
  have e2 := is_of_ok (m := m - 1) (by omega) hw S
  have i0 : ∀ S, idxD S machD (.int 0) = some (.int 3) := fun _ => idx_tup0
  simp [c_is_word_of, execs, exec.eq_1, exec.eq_2, exec.eq_3, exec.eq_4, exec.eq_5, exec.eq_6, exec.eq_7, exec.eq_8, exec.eq_9, exec.eq_10, exec.eq_13, exec.eq_14, exec.eq_15, exec.eq_16, exec.eq_17, ev.eq_1, ev.eq_2, ev.eq_3, ev.eq_4, ev.eq_5, ev.eq_6, ev.eq_7, ev.eq_8, ev.eq_9, ev.eq_10, ev.eq_11, ev.eq_12, ev.eq_13, ev.eq_14, ev.eq_15, ev.eq_16, ev.eq_17, ev.eq_18, ev.eq_19, ev.eq_20, ev.eq_21, ev.eq_24, ev.eq_25, ev.eq_26, ev.eq_27, evs, evT, evTs, bltD, intD, absD, pairUp, setAll, bindTo, tgK, walkT, pairK, wipeE, e1, e2, i0, trunc_same]
theorem fl_line {m : Nat} : (ctx P m).fld "Walker" "line" = true := by rw [ctx_fld]; kernel_rfl
theorem putl {d : D} : putA [] "line" d = [(("line" : Str), d)] := rfl
theorem lookl {x : D} : List.lookup ("line" : Str) [(("line" : Str), x)] = some x := by kernel_rfl
abbrev wlk : Cell := .ins "Walker" [("line", .tup [])]
theorem walker_ok {m : Nat} (hm : 1 ≤ m) (S : Store) : (ctx P m).call "Walker" [.tup []] S = some (.ok (.ref S.length) (S ++ [wlk])) := by
  rw [call_cls (F := c_Walker___init__) (by omega) (by kernel_rfl) mt_Walker___init__ rfl]
  simp [c_Walker___init__, execs, exec.eq_1, exec.eq_2, exec.eq_3, exec.eq_4, exec.eq_5, exec.eq_6, exec.eq_7, exec.eq_8, exec.eq_9, exec.eq_10, exec.eq_13, exec.eq_14, exec.eq_15, exec.eq_16, exec.eq_17, ev.eq_1, ev.eq_2, ev.eq_3, ev.eq_4, ev.eq_5, ev.eq_6, ev.eq_7, ev.eq_8, ev.eq_9, ev.eq_10, ev.eq_11, ev.eq_12, ev.eq_13, ev.eq_14, ev.eq_15, ev.eq_16, ev.eq_17, ev.eq_18, ev.eq_19, ev.eq_20, ev.eq_21, ev.eq_24, ev.eq_25, ev.eq_26, ev.eq_27, evs, evT, evTs, bltD, intD, absD, pairUp, setAll, bindTo, tgK, walkT, pairK, wipeE, fl_line, putl]
  rw [trunc_chg (by simp)]
theorem start_ok {m : Nat} (hm : 1 ≤ m) {S : Store} {h : Nat} (hS : S[h]? = some wlk) : (ctx P m).meth "Walker" "start" [.ref h] S = some (.ok (.tup []) S) := by
  rw [call_meth (by omega) mt_Walker_start rfl]
  have e := comp_map (s := c_Walker_start_e1) (C := ctx P (m - 1)) (ρ := [some (.ref h), none, none]) (S := S) (S1 := S) (ds := [.tup []]) (xs := []) id rfl (by simp [execs, exec.eq_1, exec.eq_2, exec.eq_3, exec.eq_4, exec.eq_5, exec.eq_6, exec.eq_7, exec.eq_8, exec.eq_9, exec.eq_10, exec.eq_13, exec.eq_14, exec.eq_15, exec.eq_16, exec.eq_17, ev.eq_1, ev.eq_2, ev.eq_3, ev.eq_4, ev.eq_5, ev.eq_6, ev.eq_7, ev.eq_8, ev.eq_9, ev.eq_10, ev.eq_11, ev.eq_12, ev.eq_13, ev.eq_14, ev.eq_15, ev.eq_16, ev.eq_17, ev.eq_18, ev.eq_19, ev.eq_20, ev.eq_21, ev.eq_24, ev.eq_25, ev.eq_26, ev.eq_27, evs, evT, evTs, bltD, intD, absD, pairUp, setAll, bindTo, tgK, walkT, pairK, wipeE, hS, fl_line, lookl]) (by simp) (by simp) (by simp) rfl (by simp) (fun d hd => by cases hd)
  simp [c_Walker_start, execs, exec.eq_1, exec.eq_2, exec.eq_3, exec.eq_4, exec.eq_5, exec.eq_6, exec.eq_7, exec.eq_8, exec.eq_9, exec.eq_10, exec.eq_13, exec.eq_14, exec.eq_15, exec.eq_16, exec.eq_17, ev.eq_1, ev.eq_2, ev.eq_3, ev.eq_4, ev.eq_5, ev.eq_6, ev.eq_7, ev.eq_8, ev.eq_9, ev.eq_10, ev.eq_11, ev.eq_12, ev.eq_13, ev.eq_14, ev.eq_15, ev.eq_16, ev.eq_17, ev.eq_18, ev.eq_19, ev.eq_20, ev.eq_21, ev.eq_24, ev.eq_25, ev.eq_26, ev.eq_27, evs, evT, evTs, bltD, intD, absD, pairUp, setAll, bindTo, tgK, walkT, pairK, wipeE, e, trunc_same]
theorem wafter_ok {m : Nat} (hm : 1 ≤ m) {S : Store} {h : Nat} (hS : S[h]? = some wlk) (c : Nat) : (ctx P m).meth "Walker" "after" [.ref h, .tup [], .str [c]] S = some (.ok (.tup [.tup [], .str [c]]) S) := by
  rw [call_meth (by omega) mt_Walker_after rfl]
  have hS' : (S ++ [Cell.lst []])[h]? = some wlk := at_app hS
  have e := for_nil (s := c_Walker_after_l1) (C := ctx P (m - 1)) (ρ := [some (.ref h), some (.tup []), some (.str [c]), some (.str [c]), some (.ref S.length), none, none, none, none, none]) (S := S ++ [.lst []]) (S1 := S ++ [.lst []]) (ds := [.tup [], .tup []]) rfl (by simp [execs, exec.eq_1, exec.eq_2, exec.eq_3, exec.eq_4, exec.eq_5, exec.eq_6, exec.eq_7, exec.eq_8, exec.eq_9, exec.eq_10, exec.eq_13, exec.eq_14, exec.eq_15, exec.eq_16, exec.eq_17, ev.eq_1, ev.eq_2, ev.eq_3, ev.eq_4, ev.eq_5, ev.eq_6, ev.eq_7, ev.eq_8, ev.eq_9, ev.eq_10, ev.eq_11, ev.eq_12, ev.eq_13, ev.eq_14, ev.eq_15, ev.eq_16, ev.eq_17, ev.eq_18, ev.eq_19, ev.eq_20, ev.eq_21, ev.eq_24, ev.eq_25, ev.eq_26, ev.eq_27, evs, evT, evTs, bltD, intD, absD, pairUp, setAll, bindTo, tgK, walkT, pairK, wipeE, hS', fl_line, lookl]) rfl
  simp [c_Walker_after, execs, exec.eq_1, exec.eq_2, exec.eq_3, exec.eq_4, exec.eq_5, exec.eq_6, exec.eq_7, exec.eq_8, exec.eq_9, exec.eq_10, exec.eq_13, exec.eq_14, exec.eq_15, exec.eq_16, exec.eq_17, ev.eq_1, ev.eq_2, ev.eq_3, ev.eq_4, ev.eq_5, ev.eq_6, ev.eq_7, ev.eq_8, ev.eq_9, ev.eq_10, ev.eq_11, ev.eq_12, ev.eq_13, ev.eq_14, ev.eq_15, ev.eq_16, ev.eq_17, ev.eq_18, ev.eq_19, ev.eq_20, ev.eq_21, ev.eq_24, ev.eq_25, ev.eq_26, ev.eq_27, evs, evT, evTs, bltD, intD, absD, pairUp, setAll, bindTo, tgK, walkT, pairK, wipeE, e]
  exact trunc_app (d := .tup [.tup [], .str [c]]) rfl
theorem last_ok {m : Nat} (hm : 1 ≤ m) {S : Store} {h : Nat} (hS : S[h]? = some wlk) : (ctx P m).meth "Walker" "last" [.ref h, .tup []] S = some (.ok (.str []) S) := by
  rw [call_meth (by omega) mt_Walker_last rfl]
  have e := for_nil (s := c_Walker_last_l1) (C := ctx P (m - 1)) (ρ := [some (.ref h), some (.tup []), some (.str []), none, none, none, none, none]) (S := S) (S1 := S) (ds := [.tup [], .tup []]) rfl (by simp [execs, exec.eq_1, exec.eq_2, exec.eq_3, exec.eq_4, exec.eq_5, exec.eq_6, exec.eq_7, exec.eq_8, exec.eq_9, exec.eq_10, exec.eq_13, exec.eq_14, exec.eq_15, exec.eq_16, exec.eq_17, ev.eq_1, ev.eq_2, ev.eq_3, ev.eq_4, ev.eq_5, ev.eq_6, ev.eq_7, ev.eq_8, ev.eq_9, ev.eq_10, ev.eq_11, ev.eq_12, ev.eq_13, ev.eq_14, ev.eq_15, ev.eq_16, ev.eq_17, ev.eq_18, ev.eq_19, ev.eq_20, ev.eq_21, ev.eq_24, ev.eq_25, ev.eq_26, ev.eq_27, evs, evT, evTs, bltD, intD, absD, pairUp, setAll, bindTo, tgK, walkT, pairK, wipeE, hS, fl_line, lookl]) rfl
  simp [c_Walker_last, execs, exec.eq_1, exec.eq_2, exec.eq_3, exec.eq_4, exec.eq_5, exec.eq_6, exec.eq_7, exec.eq_8, exec.eq_9, exec.eq_10, exec.eq_13, exec.eq_14, exec.eq_15, exec.eq_16, exec.eq_17, ev.eq_1, ev.eq_2, ev.eq_3, ev.eq_4, ev.eq_5, ev.eq_6, ev.eq_7, ev.eq_8, ev.eq_9, ev.eq_10, ev.eq_11, ev.eq_12, ev.eq_13, ev.eq_14, ev.eq_15, ev.eq_16, ev.eq_17, ev.eq_18, ev.eq_19, ev.eq_20, ev.eq_21, ev.eq_24, ev.eq_25, ev.eq_26, ev.eq_27, evs, evT, evTs, bltD, intD, absD, pairUp, setAll, bindTo, tgK, walkT, pairK, wipeE, e, trunc_same]
theorem cls_wlk {S : Store} {h : Nat} (hS : S[h]? = some wlk) {f : Str} (hf : f ≠ "line") : clsOf S (.ref h) f = some ("Walker" : Str) := by
  simp only [clsOf, hS]
  have : ((("line" : Str), D.tup []) :: []).lookup f = none := by
    rw [List.lookup_cons]
    have : (f == "line") = false := by simpa using hf
    rw [this]
    rfl
  rw [this]
  rfl
theorem image_ok {m : Nat} (hm : 2 ≤ m) {w : Word} (hw : Wk w) (S : Store) : (ctx P m).call "image" [.tup [], .str w] S = some (.ok (.str w) S) := by
  rw [call_fn (by omega) (clss_f _ (by decide) (by decide) (by decide)) fn_image rfl]
  have e0 := walker_ok (m := m - 1) (by omega) S
  have hw1 := hw.1
  have at_ : ∀ X, (S ++ wlk :: X)[S.length]? = some wlk := fun X => getElem?_app0 S _
  have s1 := start_ok (m := m - 1) (by omega) (at_ [.lst []])
  obtain ⟨ρ', S', e2, a5, a6, r1, r2⟩ := for_inv (s := c_image_l1) (C := ctx P (m - 1)) (ρ := [some (.tup []), some (.str w), some (.ref S.length), some (.ref (S.length + 1)), some (.tup []), none, none]) (S := S ++ [wlk, .lst []]) (S1 := S ++ [wlk, .lst []]) (ds := [.str w]) (xs := signsOf w) rfl (by simp [execs, exec.eq_1, exec.eq_2, exec.eq_3, exec.eq_4, exec.eq_5, exec.eq_6, exec.eq_7, exec.eq_8, exec.eq_9, exec.eq_10, exec.eq_13, exec.eq_14, exec.eq_15, exec.eq_16, exec.eq_17, ev.eq_1, ev.eq_2, ev.eq_3, ev.eq_4, ev.eq_5, ev.eq_6, ev.eq_7, ev.eq_8, ev.eq_9, ev.eq_10, ev.eq_11, ev.eq_12, ev.eq_13, ev.eq_14, ev.eq_15, ev.eq_16, ev.eq_17, ev.eq_18, ev.eq_19, ev.eq_20, ev.eq_21, ev.eq_24, ev.eq_25, ev.eq_26, ev.eq_27, evs, evT, evTs, bltD, intD, absD, pairUp, setAll, bindTo, tgK, walkT, pairK, wipeE]) rfl
    (fun i ρ S1 => ∃ (a5 a6 : Option D), ρ = [some (.tup []), some (.str w), some (.ref S.length), some (.ref (S.length + 1)), some (.tup []), a5, a6] ∧ S1 = S ++ [wlk, .lst ((signsOf w).take i)]) ⟨none, none, rfl, rfl⟩ (fun _ _ _ _ _ => rfl) (fun i d ρ S1 hd hI => by
      obtain ⟨a5, a6, rfl, rfl⟩ := hI
      have hi := (List.getElem?_eq_some_iff.mp hd).1
      rw [take_snoc hd]
      obtain ⟨c, hc, rfl⟩ := List.mem_map.mp (List.mem_of_getElem? hd)
      have ea := wafter_ok (m := m - 1) (by omega) (at_ [.lst ((signsOf w).take i)]) c
      have ec := cls_wlk (at_ [.lst ((signsOf w).take i)]) (f := "after") (by decide)
      have ll : ((signsOf w).take i).length < line := lt_line (by rw [List.length_take]; unfold signsOf; rw [List.length_map]; omega)
      refine ⟨_, _, _, rfl, ?_, some (.str [c]), some (.str [c]), rfl, rfl⟩
      generalize (signsOf w).take i = ls at *
      simp [execs, exec.eq_1, exec.eq_2, exec.eq_3, exec.eq_4, exec.eq_5, exec.eq_6, exec.eq_7, exec.eq_8, exec.eq_9, exec.eq_10, exec.eq_13, exec.eq_14, exec.eq_15, exec.eq_16, exec.eq_17, ev.eq_1, ev.eq_2, ev.eq_3, ev.eq_4, ev.eq_5, ev.eq_6, ev.eq_7, ev.eq_8, ev.eq_9, ev.eq_10, ev.eq_11, ev.eq_12, ev.eq_13, ev.eq_14, ev.eq_15, ev.eq_16, ev.eq_17, ev.eq_18, ev.eq_19, ev.eq_20, ev.eq_21, ev.eq_24, ev.eq_25, ev.eq_26, ev.eq_27, evs, evT, evTs, bltD, intD, absD, pairUp, setAll, bindTo, tgK, walkT, pairK, wipeE, ea, ec, ll])
  subst r1 r2
  rw [List.take_length] at e2
  have ec := cls_wlk (at_ [.lst []]) (f := "start") (by decide)
  have ec2 := cls_wlk (at_ [.lst (signsOf w)]) (f := "last") (by decide)
  have el := last_ok (m := m - 1) (by omega) (at_ [.lst (signsOf w)])
  have hj : ∀ S', S'[S.length + 1]? = some (.lst (signsOf w)) → mtD S' .sJoin (.str []) [.ref (S.length + 1)] = some (.ok (.str w) S') := fun S' h => by
    have e : signsOf w = (w.map fun c => [c]).map .str := by unfold signsOf; rw [List.map_map]; rfl
    have := do_join (S := S') (z := []) (d := .ref (S.length + 1)) (xs := w.map fun c => [c]) (by rw [frozen_ref h, e]) (strsOf_map _) (le_line (by
      rw [sum_ones, List.length_nil, Nat.mul_zero]
      omega))
    rw [this, joinL_nil, flat_ones]
  have hj2 := hj (S ++ [wlk, .lst (signsOf w)]) (getElem?_app S _ 1)
  have lw : w.length ≤ line := le_line (by omega)
  simp [c_image, execs, exec.eq_1, exec.eq_2, exec.eq_3, exec.eq_4, exec.eq_5, exec.eq_6, exec.eq_7, exec.eq_8, exec.eq_9, exec.eq_10, exec.eq_13, exec.eq_14, exec.eq_15, exec.eq_16, exec.eq_17, ev.eq_1, ev.eq_2, ev.eq_3, ev.eq_4, ev.eq_5, ev.eq_6, ev.eq_7, ev.eq_8, ev.eq_9, ev.eq_10, ev.eq_11, ev.eq_12, ev.eq_13, ev.eq_14, ev.eq_15, ev.eq_16, ev.eq_17, ev.eq_18, ev.eq_19, ev.eq_20, ev.eq_21, ev.eq_24, ev.eq_25, ev.eq_26, ev.eq_27, evs, evT, evTs, bltD, intD, absD, pairUp, setAll, bindTo, tgK, walkT, pairK, wipeE, e0, s1, ec, e2, ec2, el, hj2, lw]
  exact trunc_app (d := .str w) rfl
end K90
/-! Plays: words put and taken by turns. -/
namespace K90
open Rf Wd Rs
open PySem (Str PyData)

def planD (ws : List Word) : D := .tup [machD, tableD, .tup [], .non, W ws]
def Wks (ws : List Word) : Prop := ∀ v ∈ ws, Wk v
theorem space_ok {m : Nat} (hm : 2 ≤ m) (d : D) (S : Store) : (ctx P m).call "need_space" [.non, d] S = some (.ok .non S) := by
  rw [call_fn (by omega) (clss_f _ (by decide) (by decide) (by decide)) fn_need_space rfl]
  have e : (ctx P (m - 1)).call "is_full" [.non, d] S = some (.ok (.bl false) S) := by
    rw [call_fn (by omega) (clss_f _ (by decide) (by decide) (by decide)) fn_is_full rfl]
    simp [c_is_full, execs, exec.eq_1, exec.eq_2, exec.eq_3, exec.eq_4, exec.eq_5, exec.eq_6, exec.eq_7, exec.eq_8, exec.eq_9, exec.eq_10, exec.eq_13, exec.eq_14, exec.eq_15, exec.eq_16, exec.eq_17, ev.eq_1, ev.eq_2, ev.eq_3, ev.eq_4, ev.eq_5, ev.eq_6, ev.eq_7, ev.eq_8, ev.eq_9, ev.eq_10, ev.eq_11, ev.eq_12, ev.eq_13, ev.eq_14, ev.eq_15, ev.eq_16, ev.eq_17, ev.eq_18, ev.eq_19, ev.eq_20, ev.eq_21, ev.eq_24, ev.eq_25, ev.eq_26, ev.eq_27, evs, evT, evTs, bltD, intD, absD, pairUp, setAll, bindTo, tgK, walkT, pairK, wipeE, trunc_same]
  simp [c_need_space, execs, exec.eq_1, exec.eq_2, exec.eq_3, exec.eq_4, exec.eq_5, exec.eq_6, exec.eq_7, exec.eq_8, exec.eq_9, exec.eq_10, exec.eq_13, exec.eq_14, exec.eq_15, exec.eq_16, exec.eq_17, ev.eq_1, ev.eq_2, ev.eq_3, ev.eq_4, ev.eq_5, ev.eq_6, ev.eq_7, ev.eq_8, ev.eq_9, ev.eq_10, ev.eq_11, ev.eq_12, ev.eq_13, ev.eq_14, ev.eq_15, ev.eq_16, ev.eq_17, ev.eq_18, ev.eq_19, ev.eq_20, ev.eq_21, ev.eq_24, ev.eq_25, ev.eq_26, ev.eq_27, evs, evT, evTs, bltD, intD, absD, pairUp, setAll, bindTo, tgK, walkT, pairK, wipeE, e, trunc_same]
theorem put_ok {m : Nat} (hm : 5 ≤ m) {ws : List Word} {w : Word} (hs : Wks ws) (hw : Wk w) (hl : ws.length < 60) (S : Store) : (ctx P m).call "put_words" [planD ws, .str w] S = some (.ok (W (ins w ws)) S) := by
  rw [call_fn (by omega) (clss_f _ (by decide) (by decide) (by decide)) fn_put_words rfl]
  have e1 := is_word_of_ok (m := m - 1) (by omega) hw S
  have e2 := image_ok (m := m - 1) (by omega) hw S
  have e3 := is_of_ok (m := m - 1) (by omega) hw S
  have e4 := placed_ok (m := m - 1) (by omega) hs hw (by omega) S
  have e5 := space_ok (m := m - 1) (by omega) (W (ins w ws)) S
  have hn : ¬ (60 : Int) ≤ ws.length := by omega
  simp [c_put_words, execs, exec.eq_1, exec.eq_2, exec.eq_3, exec.eq_4, exec.eq_5, exec.eq_6, exec.eq_7, exec.eq_8, exec.eq_9, exec.eq_10, exec.eq_13, exec.eq_14, exec.eq_15, exec.eq_16, exec.eq_17, ev.eq_1, ev.eq_2, ev.eq_3, ev.eq_4, ev.eq_5, ev.eq_6, ev.eq_7, ev.eq_8, ev.eq_9, ev.eq_10, ev.eq_11, ev.eq_12, ev.eq_13, ev.eq_14, ev.eq_15, ev.eq_16, ev.eq_17, ev.eq_18, ev.eq_19, ev.eq_20, ev.eq_21, ev.eq_24, ev.eq_25, ev.eq_26, ev.eq_27, evs, evT, evTs, bltD, intD, absD, pairUp, setAll, bindTo, tgK, walkT, pairK, wipeE, planD, e1, e2, e3, e4, e5, g_mw, hn, trunc_same]
theorem whole_ok {m : Nat} (hm : 1 ≤ m) {k n : Nat} (h : k < n) (S : Store) : (ctx P m).call "is_whole" [.int (k : Nat), .int 0, .int ((n : Int) - 1)] S = some (.ok (.bl true) S) := by
  rw [call_fn (by omega) (clss_f _ (by decide) (by decide) (by decide)) fn_is_whole rfl]
  have h1 : ∀ S, isiL S "int" [.int (k : Nat)] = some (.bl true) := fun S => by
    simp only [isiL, tyName, isiD]
    rw [if_pos (by decide)]
    rfl
  have h2 : ∀ S, isiL S "bool" [.int (k : Nat)] = some (.bl false) := fun S => by
    simp only [isiL, tyName, isiD]
    rw [if_pos (by decide)]
    rfl
  have h3 : (k : Int) ≤ (n : Int) - 1 := by omega
  simp [c_is_whole, execs, exec.eq_1, exec.eq_2, exec.eq_3, exec.eq_4, exec.eq_5, exec.eq_6, exec.eq_7, exec.eq_8, exec.eq_9, exec.eq_10, exec.eq_13, exec.eq_14, exec.eq_15, exec.eq_16, exec.eq_17, ev.eq_1, ev.eq_2, ev.eq_3, ev.eq_4, ev.eq_5, ev.eq_6, ev.eq_7, ev.eq_8, ev.eq_9, ev.eq_10, ev.eq_11, ev.eq_12, ev.eq_13, ev.eq_14, ev.eq_15, ev.eq_16, ev.eq_17, ev.eq_18, ev.eq_19, ev.eq_20, ev.eq_21, ev.eq_24, ev.eq_25, ev.eq_26, ev.eq_27, evs, evT, evTs, bltD, intD, absD, pairUp, setAll, bindTo, tgK, walkT, pairK, wipeE, h1, h2, h3, trunc_same]
inductive En where
  | take (k : Nat)
  | put (w : Word)
def enD : En → D
  | .take k => .tup [.str [116, 97, 107, 101], .int (k : Nat)]
  | .put w => .tup [.str [112, 117, 116], .str w]
def stE (ws : List Word) : En → List Word
  | .take k => ws.take k ++ ws.drop (k + 1)
  | .put w => ins w ws
def okE (ws : List Word) (e : En) : Prop := Wks ws ∧ ws.length < 60 ∧ (match e with
  | .take k => k < ws.length
  | .put w => Wk w)
theorem edited_ok {m : Nat} (hm : 6 ≤ m) {ws : List Word} {e : En} (h : okE ws e) (S : Store) : (ctx P m).call "edited" [planD ws, enD e] S = some (.ok (planD (stE ws e)) S) := by
  rw [call_fn (by omega) (clss_f _ (by decide) (by decide) (by decide)) fn_edited rfl]
  obtain ⟨h1, h2, h3⟩ := h
  cases e with
  | put w =>
    have e := put_ok (m := m - 1) (by omega) h1 h3 h2 S
    unfold planD at e
    simp [c_edited, execs, exec.eq_1, exec.eq_2, exec.eq_3, exec.eq_4, exec.eq_5, exec.eq_6, exec.eq_7, exec.eq_8, exec.eq_9, exec.eq_10, exec.eq_13, exec.eq_14, exec.eq_15, exec.eq_16, exec.eq_17, ev.eq_1, ev.eq_2, ev.eq_3, ev.eq_4, ev.eq_5, ev.eq_6, ev.eq_7, ev.eq_8, ev.eq_9, ev.eq_10, ev.eq_11, ev.eq_12, ev.eq_13, ev.eq_14, ev.eq_15, ev.eq_16, ev.eq_17, ev.eq_18, ev.eq_19, ev.eq_20, ev.eq_21, ev.eq_24, ev.eq_25, ev.eq_26, ev.eq_27, evs, evT, evTs, bltD, intD, absD, pairUp, setAll, bindTo, tgK, walkT, pairK, wipeE, planD, enD, stE, e, trunc_same]
  | take k =>
    have h3 : k < ws.length := h3
    have ew : (ctx P (m - 1)).call "word_at" [W ws, .int (k : Nat)] S = some (.ok (.str ws[k]) S) := by
      rw [call_fn (by omega) (clss_f _ (by decide) (by decide) (by decide)) fn_word_at rfl]
      have e := whole_ok (m := m - 1 - 1) (by omega) h3 S
      have hg : (ws.map D.str)[k]? = some (.str ws[k]) := by rw [List.getElem?_map, List.getElem?_eq_getElem h3]; rfl
      simp [c_word_at, execs, exec.eq_1, exec.eq_2, exec.eq_3, exec.eq_4, exec.eq_5, exec.eq_6, exec.eq_7, exec.eq_8, exec.eq_9, exec.eq_10, exec.eq_13, exec.eq_14, exec.eq_15, exec.eq_16, exec.eq_17, ev.eq_1, ev.eq_2, ev.eq_3, ev.eq_4, ev.eq_5, ev.eq_6, ev.eq_7, ev.eq_8, ev.eq_9, ev.eq_10, ev.eq_11, ev.eq_12, ev.eq_13, ev.eq_14, ev.eq_15, ev.eq_16, ev.eq_17, ev.eq_18, ev.eq_19, ev.eq_20, ev.eq_21, ev.eq_24, ev.eq_25, ev.eq_26, ev.eq_27, evs, evT, evTs, bltD, intD, absD, pairUp, setAll, bindTo, tgK, walkT, pairK, wipeE, e, hg, trunc_same]
    have l1 : min k ws.length + (ws.length - (k + 1)) ≤ line := le_line (by omega)
    simp [c_edited, execs, exec.eq_1, exec.eq_2, exec.eq_3, exec.eq_4, exec.eq_5, exec.eq_6, exec.eq_7, exec.eq_8, exec.eq_9, exec.eq_10, exec.eq_13, exec.eq_14, exec.eq_15, exec.eq_16, exec.eq_17, ev.eq_1, ev.eq_2, ev.eq_3, ev.eq_4, ev.eq_5, ev.eq_6, ev.eq_7, ev.eq_8, ev.eq_9, ev.eq_10, ev.eq_11, ev.eq_12, ev.eq_13, ev.eq_14, ev.eq_15, ev.eq_16, ev.eq_17, ev.eq_18, ev.eq_19, ev.eq_20, ev.eq_21, ev.eq_24, ev.eq_25, ev.eq_26, ev.eq_27, evs, evT, evTs, bltD, intD, absD, pairUp, setAll, bindTo, tgK, walkT, pairK, wipeE, planD, enD, stE, ew, l1, trunc_same]
/-! ### plays -/
theorem fl_begun {m : Nat} : (ctx P m).fld "Play" "begun" = true := by rw [ctx_fld]; kernel_rfl
theorem fl_stand {m : Nat} : (ctx P m).fld "Play" "standing" = true := by rw [ctx_fld]; kernel_rfl
theorem fl_undone {m : Nat} : (ctx P m).fld "Play" "undone" = true := by rw [ctx_fld]; kernel_rfl
abbrev plF (p : D) (st : List D) : List (Str × D) := [(("begun" : Str), p), (("standing" : Str), .lst st), (("undone" : Str), .lst [])]
abbrev plS (p : D) (st : List D) : Cell := .ins "Play" (plF p st)
theorem putb {d : D} : putA [] "begun" d = [(("begun" : Str), d)] := rfl
theorem puts {x d : D} : putA [(("begun" : Str), x)] "standing" d = [(("begun" : Str), x), (("standing" : Str), d)] := by kernel_rfl
theorem putu {x y d : D} : putA [(("begun" : Str), x), (("standing" : Str), y)] "undone" d = [(("begun" : Str), x), (("standing" : Str), y), (("undone" : Str), d)] := by kernel_rfl
theorem puts' {x y z d : D} : putA [(("begun" : Str), x), (("standing" : Str), y), (("undone" : Str), z)] "standing" d = [(("begun" : Str), x), (("standing" : Str), d), (("undone" : Str), z)] := by kernel_rfl
theorem putu' {x y z d : D} : putA [(("begun" : Str), x), (("standing" : Str), y), (("undone" : Str), z)] "undone" d = [(("begun" : Str), x), (("standing" : Str), y), (("undone" : Str), d)] := by kernel_rfl
theorem lookb {x y z : D} : List.lookup ("begun" : Str) [(("begun" : Str), x), (("standing" : Str), y), (("undone" : Str), z)] = some x := by kernel_rfl
theorem looks {x y z : D} : List.lookup ("standing" : Str) [(("begun" : Str), x), (("standing" : Str), y), (("undone" : Str), z)] = some y := by kernel_rfl
theorem cls_pl {S : Store} {h : Nat} {p : D} {st : List D} (hS : S[h]? = some (plS p st)) {f : Str} (h1 : f ≠ "begun") (h2 : f ≠ "standing") (h3 : f ≠ "undone") : clsOf S (.ref h) f = some ("Play" : Str) := by
  simp only [clsOf, hS]
  have : (plF p st).lookup f = none := by
    have a1 : (f == "begun") = false := by simpa using h1
    have a2 : (f == "standing") = false := by simpa using h2
    have a3 : (f == "undone") = false := by simpa using h3
    rw [List.lookup_cons, a1]
    show List.lookup f [_, _] = none
    rw [List.lookup_cons, a2]
    show List.lookup f [_] = none
    rw [List.lookup_cons, a3]
    rfl
  rw [this]
  rfl
theorem play_new {m : Nat} (hm : 1 ≤ m) (p : D) (S : Store) : (ctx P m).call "Play" [p] S = some (.ok (.ref S.length) (S ++ [plS p []])) := by
  rw [call_cls (F := c_Play___init__) (by omega) (by kernel_rfl) mt_Play___init__ rfl]
  simp [c_Play___init__, execs, exec.eq_1, exec.eq_2, exec.eq_3, exec.eq_4, exec.eq_5, exec.eq_6, exec.eq_7, exec.eq_8, exec.eq_9, exec.eq_10, exec.eq_13, exec.eq_14, exec.eq_15, exec.eq_16, exec.eq_17, ev.eq_1, ev.eq_2, ev.eq_3, ev.eq_4, ev.eq_5, ev.eq_6, ev.eq_7, ev.eq_8, ev.eq_9, ev.eq_10, ev.eq_11, ev.eq_12, ev.eq_13, ev.eq_14, ev.eq_15, ev.eq_16, ev.eq_17, ev.eq_18, ev.eq_19, ev.eq_20, ev.eq_21, ev.eq_24, ev.eq_25, ev.eq_26, ev.eq_27, evs, evT, evTs, bltD, intD, absD, pairUp, setAll, bindTo, tgK, walkT, pairK, wipeE, fl_begun, fl_stand, fl_undone, putb, puts, putu]
  rw [trunc_chg (by simp)]
/-- what was played so far -/
def tr : List Word → List En → List D
  | _, [] => []
  | ws, e :: es => .tup [enD e, planD (stE ws e)] :: tr (stE ws e) es
def endE (ws : List Word) (es : List En) : List Word := es.foldl stE ws
theorem tr_snoc : ∀ (ws : List Word) (es : List En) (e : En), tr ws (es ++ [e]) = tr ws es ++ [.tup [enD e, planD (stE (endE ws es) e)]]
  | ws, [], e => rfl
  | ws, a :: es, e => by
    rw [List.cons_append, tr, tr, tr_snoc, List.cons_append]
    rfl
theorem tr_len : ∀ (ws : List Word) (es : List En), (tr ws es).length = es.length
  | ws, [] => rfl
  | ws, a :: es => by rw [tr, List.length_cons, List.length_cons, tr_len]
theorem py_plan (ws : List Word) : ∃ x, pyOf (planD ws) = some x := by
  simp [planD, machD, tableD, rowsT, verdT, tab0, tabR, tabC, pyOf, pysOf]
theorem depth_plan (ws : List Word) : depthD (planD ws) ≤ 10 := by
  simp [planD, machD, tableD, rowsT, verdT, tab0, tabR, tabC, depthD, depthDs]
theorem py_en (e : En) : ∃ x, pyOf (enD e) = some x := by
  cases e <;> simp [enD, pyOf, pysOf]
theorem depth_en (e : En) : depthD (enD e) ≤ 10 := by
  cases e <;> simp [enD, depthD, depthDs]
theorem py_tr : ∀ (ws : List Word) (es : List En), (pysOf (tr ws es)).isSome = true
  | ws, [] => rfl
  | ws, e :: es => by
    obtain ⟨x, hx⟩ := py_en e
    obtain ⟨y, hy⟩ := py_plan (stE ws e)
    obtain ⟨z, hz⟩ := Option.isSome_iff_exists.mp (py_tr (stE ws e) es)
    simp [tr, pysOf, pyOf, hx, hy, hz]
theorem depth_tr : ∀ (ws : List Word) (es : List En), depthDs (tr ws es) ≤ 20
  | ws, [] => by simp [tr, depthDs]
  | ws, e :: es => by
    have h1 := depth_en e
    have h2 := depth_plan (stE ws e)
    have h3 := depth_tr (stE ws e) es
    simp only [tr, depthDs, depthD]
    omega
theorem now_ok {m : Nat} (hm : 1 ≤ m) {S : Store} {h : Nat} {ws : List Word} {es : List En} (hS : S[h]? = some (plS (planD ws) (tr ws es))) : (ctx P m).meth "Play" "plan_now" [.ref h] S = some (.ok (planD (endE ws es)) S) := by
  rw [call_meth (by omega) mt_Play_plan_now rfl]
  have hn : ∀ S, cmpD S .NotEq (.lst (tr ws es)) (.lst []) = some (!(tr ws es).isEmpty) := fun S => ne_lnil (py_tr ws es) (by have := depth_tr ws es; omega)
  rcases List.eq_nil_or_concat es with rfl | ⟨es', e, rfl⟩
  · simp [tr] at hn hS
    simp [c_Play_plan_now, execs, exec.eq_1, exec.eq_2, exec.eq_3, exec.eq_4, exec.eq_5, exec.eq_6, exec.eq_7, exec.eq_8, exec.eq_9, exec.eq_10, exec.eq_13, exec.eq_14, exec.eq_15, exec.eq_16, exec.eq_17, ev.eq_1, ev.eq_2, ev.eq_3, ev.eq_4, ev.eq_5, ev.eq_6, ev.eq_7, ev.eq_8, ev.eq_9, ev.eq_10, ev.eq_11, ev.eq_12, ev.eq_13, ev.eq_14, ev.eq_15, ev.eq_16, ev.eq_17, ev.eq_18, ev.eq_19, ev.eq_20, ev.eq_21, ev.eq_24, ev.eq_25, ev.eq_26, ev.eq_27, evs, evT, evTs, bltD, intD, absD, pairUp, setAll, bindTo, tgK, walkT, pairK, wipeE, hS, fl_stand, looks, hn, tr, fl_begun, lookb, trunc_same, endE]
  · rw [List.concat_eq_append] at *
    rw [tr_snoc] at hn hS
    have he : endE ws (es' ++ [e]) = stE (endE ws es') e := by simp [endE]
    simp [c_Play_plan_now, execs, exec.eq_1, exec.eq_2, exec.eq_3, exec.eq_4, exec.eq_5, exec.eq_6, exec.eq_7, exec.eq_8, exec.eq_9, exec.eq_10, exec.eq_13, exec.eq_14, exec.eq_15, exec.eq_16, exec.eq_17, ev.eq_1, ev.eq_2, ev.eq_3, ev.eq_4, ev.eq_5, ev.eq_6, ev.eq_7, ev.eq_8, ev.eq_9, ev.eq_10, ev.eq_11, ev.eq_12, ev.eq_13, ev.eq_14, ev.eq_15, ev.eq_16, ev.eq_17, ev.eq_18, ev.eq_19, ev.eq_20, ev.eq_21, ev.eq_24, ev.eq_25, ev.eq_26, ev.eq_27, evs, evT, evTs, bltD, intD, absD, pairUp, setAll, bindTo, tgK, walkT, pairK, wipeE, hS, fl_stand, looks, hn, fl_begun, lookb, trunc_same, he]
theorem set_ne {S : Store} {h : Nat} {x y : Cell} (hS : S[h]? = some x) (hxy : y ≠ x) {d : D} : trunc S d (S.set h y) = S.set h y := trunc_ne fun z => by
  have hl := (List.getElem?_eq_some_iff.mp hS).1
  rw [List.take_of_length_le (by simp)] at z
  have : (S.set h y)[h]? = some y := List.getElem?_set_self hl
  rw [z, hS] at this
  exact hxy (by injection this with t; exact t.symm)
theorem play_ok {m : Nat} (hm : 7 ≤ m) {S : Store} {h : Nat} {ws : List Word} {es : List En} {e : En} (hS : S[h]? = some (plS (planD ws) (tr ws es))) (ho : okE (endE ws es) e) (hl : es.length ≤ 1000) :
    (ctx P m).meth "Play" "play" [.ref h, enD e] S = some (.ok (.int ((es.length : Int) + 1)) (S.set h (plS (planD ws) (tr ws (es ++ [e]))))) := by
  rw [call_meth (by omega) mt_Play_play rfl]
  have e1 := now_ok (m := m - 1) (by omega) hS
  have e2 := edited_ok (m := m - 1) (by omega) ho S
  have ec := cls_pl hS (f := "plan_now") (by decide) (by decide) (by decide)
  have hlt := (List.getElem?_eq_some_iff.mp hS).1
  have i0 : ∃ z, (∀ S, idxD S (enD e) (.int 0) = some (.str z)) ∧ ¬ z = [117, 110, 100, 111] ∧ ¬ z = [114, 101, 100, 111] := by
    cases e with
    | take k => exact ⟨_, fun _ => idx_tup0, by decide, by decide⟩
    | put w => exact ⟨_, fun _ => idx_tup0, by decide, by decide⟩
  obtain ⟨z, i0, z1, z2⟩ := i0
  have ll : (tr ws es).length + 1 ≤ line := le_line (by rw [tr_len]; omega)
  have ll2 : es.length + 1 ≤ line := le_line (by omega)
  have g1 : ∀ x, (S.set h x)[h]? = some x := fun x => List.getElem?_set_self hlt
  have hne : plS (planD ws) (tr ws (es ++ [e])) ≠ plS (planD ws) (tr ws es) := fun z => by
    injection z with _ z
    simp only [plF, List.cons.injEq, Prod.mk.injEq, D.lst.injEq, true_and, and_true] at z
    have := congrArg List.length z
    rw [tr_len, tr_len, List.length_append] at this
    simp at this
  simp [c_Play_play, execs, exec.eq_1, exec.eq_2, exec.eq_3, exec.eq_4, exec.eq_5, exec.eq_6, exec.eq_7, exec.eq_8, exec.eq_9, exec.eq_10, exec.eq_13, exec.eq_14, exec.eq_15, exec.eq_16, exec.eq_17, ev.eq_1, ev.eq_2, ev.eq_3, ev.eq_4, ev.eq_5, ev.eq_6, ev.eq_7, ev.eq_8, ev.eq_9, ev.eq_10, ev.eq_11, ev.eq_12, ev.eq_13, ev.eq_14, ev.eq_15, ev.eq_16, ev.eq_17, ev.eq_18, ev.eq_19, ev.eq_20, ev.eq_21, ev.eq_24, ev.eq_25, ev.eq_26, ev.eq_27, evs, evT, evTs, bltD, intD, absD, pairUp, setAll, bindTo, tgK, walkT, pairK, wipeE, i0, z1, z2, ec, e1, e2, hS, fl_stand, fl_undone, looks, ll, ll2, g1, puts', putu', tr_len]
  rw [← tr_snoc]
  exact set_ne hS hne
theorem answer_ok {m : Nat} (hm : 8 ≤ m) {S : Store} {h : Nat} {ws : List Word} {es : List En} {e : En} (hS : S[h]? = some (plS (planD ws) (tr ws es))) (ho : okE (endE ws es) e) (hl : es.length ≤ 1000) :
    (ctx P m).call "answer_to" [.ref h, enD e] S = some (.ok (.int ((es.length : Int) + 1)) (S.set h (plS (planD ws) (tr ws (es ++ [e]))))) := by
  rw [call_fn (by omega) (clss_f _ (by decide) (by decide) (by decide)) fn_answer_to rfl]
  have e1 := play_ok (m := m - 1) (by omega) hS ho hl
  have ec := cls_pl hS (f := "play") (by decide) (by decide) (by decide)
  have et : (ctx P (m - 1)).thk "outcome" = true := by rw [ctx_thk]; kernel_rfl
  have hne : plS (planD ws) (tr ws (es ++ [e])) ≠ plS (planD ws) (tr ws es) := fun z => by
    injection z with _ z
    simp only [plF, List.cons.injEq, Prod.mk.injEq, D.lst.injEq, true_and, and_true] at z
    have := congrArg List.length z
    rw [tr_len, tr_len, List.length_append] at this
    simp at this
  simp [c_answer_to, execs, exec.eq_1, exec.eq_2, exec.eq_3, exec.eq_4, exec.eq_5, exec.eq_6, exec.eq_7, exec.eq_8, exec.eq_9, exec.eq_10, exec.eq_13, exec.eq_14, exec.eq_15, exec.eq_16, exec.eq_17, ev.eq_1, ev.eq_2, ev.eq_3, ev.eq_4, ev.eq_5, ev.eq_6, ev.eq_7, ev.eq_8, ev.eq_9, ev.eq_10, ev.eq_11, ev.eq_12, ev.eq_13, ev.eq_14, ev.eq_15, ev.eq_16, ev.eq_17, ev.eq_18, ev.eq_19, ev.eq_20, ev.eq_21, ev.eq_24, ev.eq_25, ev.eq_26, ev.eq_27, evs, evT, evTs, bltD, intD, absD, pairUp, setAll, bindTo, tgK, walkT, pairK, wipeE, e1, ec, et]
  exact set_ne hS hne
/-- all of a run's turns may be done -/
def okR (ws : List Word) (es : List En) : Prop := ∀ i e, es[i]? = some e → okE (endE ws (es.take i)) e
theorem replayed_ok {m : Nat} (hm : 9 ≤ m) {ws : List Word} {es : List En} (ho : okR ws es) (hl : es.length ≤ 1000) (S : Store) :
    (ctx P m).call "replayed" [.tup [planD ws, .tup (es.map enD)]] S = some (.ok (.tup [planD (endE ws es), .tup (upTo 1 es.length)]) S) := by
  rw [call_fn (by omega) (clss_f _ (by decide) (by decide) (by decide)) fn_replayed rfl]
  have e0 := play_new (m := m - 1) (by omega) (planD ws) S
  obtain ⟨acc, S', e2, r1, r2⟩ := comp_inv (s := c_replayed_e1) (C := ctx P (m - 1)) (ρ := [some (.tup [planD ws, .tup (es.map enD)]), some (.ref S.length), none, none, none]) (S := S ++ [plS (planD ws) []]) (S1 := S ++ [plS (planD ws) []]) (ds := [.tup (es.map enD)]) (xs := es.map enD) rfl
    (by simp [execs, exec.eq_1, exec.eq_2, exec.eq_3, exec.eq_4, exec.eq_5, exec.eq_6, exec.eq_7, exec.eq_8, exec.eq_9, exec.eq_10, exec.eq_13, exec.eq_14, exec.eq_15, exec.eq_16, exec.eq_17, ev.eq_1, ev.eq_2, ev.eq_3, ev.eq_4, ev.eq_5, ev.eq_6, ev.eq_7, ev.eq_8, ev.eq_9, ev.eq_10, ev.eq_11, ev.eq_12, ev.eq_13, ev.eq_14, ev.eq_15, ev.eq_16, ev.eq_17, ev.eq_18, ev.eq_19, ev.eq_20, ev.eq_21, ev.eq_24, ev.eq_25, ev.eq_26, ev.eq_27, evs, evT, evTs, bltD, intD, absD, pairUp, setAll, bindTo, tgK, walkT, pairK, wipeE]) (by simp) (by simp) (by simp) rfl (fun i acc S1 => acc = upTo 1 i ∧ S1 = S ++ [plS (planD ws) (tr ws (es.take i))]) ⟨rfl, rfl⟩ (fun _ _ _ _ _ => rfl) (fun i d acc S1 hd hI => by
      obtain ⟨rfl, rfl⟩ := hI
      rw [List.getElem?_map] at hd
      obtain ⟨e, he, rfl⟩ := Option.map_eq_some_iff.mp hd
      have hi := (List.getElem?_eq_some_iff.mp he).1
      have ea := answer_ok (m := m - 1) (by omega) (S := S ++ [plS (planD ws) (tr ws (es.take i))]) (h := S.length) (getElem?_app0 S _) (ho i e he) (by rw [List.length_take]; omega)
      rw [← take_snoc he, List.length_take, Nat.min_eq_left (by omega)] at ea
      refine ⟨_, .int ((i : Int) + 1), S ++ [plS (planD ws) (tr ws (es.take (i + 1)))], rfl, ?_, lt_line (by rw [upTo_len]; omega), ?_, rfl⟩
      · simp [execs, exec.eq_1, exec.eq_2, exec.eq_3, exec.eq_4, exec.eq_5, exec.eq_6, exec.eq_7, exec.eq_8, exec.eq_9, exec.eq_10, exec.eq_13, exec.eq_14, exec.eq_15, exec.eq_16, exec.eq_17, ev.eq_1, ev.eq_2, ev.eq_3, ev.eq_4, ev.eq_5, ev.eq_6, ev.eq_7, ev.eq_8, ev.eq_9, ev.eq_10, ev.eq_11, ev.eq_12, ev.eq_13, ev.eq_14, ev.eq_15, ev.eq_16, ev.eq_17, ev.eq_18, ev.eq_19, ev.eq_20, ev.eq_21, ev.eq_24, ev.eq_25, ev.eq_26, ev.eq_27, evs, evT, evTs, bltD, intD, absD, pairUp, setAll, bindTo, tgK, walkT, pairK, wipeE, ea]
      · unfold upTo
        rw [List.range_succ, List.map_append, List.map_singleton]
        congr 3
        omega)
  rw [List.length_map, List.take_length] at r2
  rw [List.length_map] at r1
  subst r1 r2
  have en := now_ok (m := m - 1) (by omega) (S := S ++ [plS (planD ws) (tr ws es)]) (h := S.length) (getElem?_app0 S _)
  have ec := cls_pl (S := S ++ [plS (planD ws) (tr ws es)]) (h := S.length) (getElem?_app0 S _) (f := "plan_now") (by decide) (by decide) (by decide)
  simp [c_replayed, execs, exec.eq_1, exec.eq_2, exec.eq_3, exec.eq_4, exec.eq_5, exec.eq_6, exec.eq_7, exec.eq_8, exec.eq_9, exec.eq_10, exec.eq_13, exec.eq_14, exec.eq_15, exec.eq_16, exec.eq_17, ev.eq_1, ev.eq_2, ev.eq_3, ev.eq_4, ev.eq_5, ev.eq_6, ev.eq_7, ev.eq_8, ev.eq_9, ev.eq_10, ev.eq_11, ev.eq_12, ev.eq_13, ev.eq_14, ev.eq_15, ev.eq_16, ev.eq_17, ev.eq_18, ev.eq_19, ev.eq_20, ev.eq_21, ev.eq_24, ev.eq_25, ev.eq_26, ev.eq_27, evs, evT, evTs, bltD, intD, absD, pairUp, setAll, bindTo, tgK, walkT, pairK, wipeE, e0, e2, ec, en]
  refine trunc_app ?_
  have hb : ∀ (lo : Int) (n : Nat), belows S.length (upTo lo n) = true := by
    intro lo n
    unfold upTo
    induction (List.range n) with
    | nil => rfl
    | cons a l ih => simp only [List.map_cons, belows, below, ih, Bool.and_self]
  have hp : below S.length (planD (endE ws es)) = true := by
    simp [planD, machD, tableD, rowsT, verdT, tab0, tabR, tabC, below, belows, belows_map_str]
  simp only [below, belows, hb, hp, Bool.and_self]
end K90
/-! Copies of a shelf changed by runs. -/
namespace K90
open Rf Wd Rs
open PySem (Str PyData)

theorem table_ok {m : Nat} (hm : 1 ≤ m) (S : Store) : (ctx P m).call "_law_table" [] S = some (.ok tableD S) := by
  rw [call_fn (by omega) (clss_f _ (by decide) (by decide) (by decide)) fn__law_table rfl]
  have l5 : (5 : Nat) ≤ line := by decide
  obtain ⟨ρ', S', e2, a1, r1, r2⟩ := for_inv (s := c__law_table_l1) (C := ctx P (m - 1)) (ρ := [some (.ref S.length), none]) (S := S ++ [.lst [tab0]]) (S1 := S ++ [.lst [tab0]]) (ds := [.tup [.int 1, .int 2]]) (xs := [.int 1, .int 2]) rfl (by simp [execs, exec.eq_1, exec.eq_2, exec.eq_3, exec.eq_4, exec.eq_5, exec.eq_6, exec.eq_7, exec.eq_8, exec.eq_9, exec.eq_10, exec.eq_13, exec.eq_14, exec.eq_15, exec.eq_16, exec.eq_17, ev.eq_1, ev.eq_2, ev.eq_3, ev.eq_4, ev.eq_5, ev.eq_6, ev.eq_7, ev.eq_8, ev.eq_9, ev.eq_10, ev.eq_11, ev.eq_12, ev.eq_13, ev.eq_14, ev.eq_15, ev.eq_16, ev.eq_17, ev.eq_18, ev.eq_19, ev.eq_20, ev.eq_21, ev.eq_24, ev.eq_25, ev.eq_26, ev.eq_27, evs, evT, evTs, bltD, intD, absD, pairUp, setAll, bindTo, tgK, walkT, pairK, wipeE]) rfl
    (fun i ρ S1 => ∃ (a1 : Option D), ρ = [some (.ref S.length), a1] ∧ S1 = S ++ [.lst ([tab0, tabR 1, tabR 2].take (i + 1))]) ⟨none, rfl, rfl⟩ (fun _ _ _ _ _ => rfl) (fun i d ρ S1 hd hI => by
      obtain ⟨a1, rfl, rfl⟩ := hI
      have l1 : (1 : Nat) < line := by decide
      have l2 : (2 : Nat) < line := by decide
      match i, hd with
      | 0, hd => cases hd; exact ⟨_, [some (.ref S.length), some (.int 1)], S ++ [.lst ([tab0, tabR 1, tabR 2].take (0 + 1 + 1))], rfl, by simp [execs, exec.eq_1, exec.eq_2, exec.eq_3, exec.eq_4, exec.eq_5, exec.eq_6, exec.eq_7, exec.eq_8, exec.eq_9, exec.eq_10, exec.eq_13, exec.eq_14, exec.eq_15, exec.eq_16, exec.eq_17, ev.eq_1, ev.eq_2, ev.eq_3, ev.eq_4, ev.eq_5, ev.eq_6, ev.eq_7, ev.eq_8, ev.eq_9, ev.eq_10, ev.eq_11, ev.eq_12, ev.eq_13, ev.eq_14, ev.eq_15, ev.eq_16, ev.eq_17, ev.eq_18, ev.eq_19, ev.eq_20, ev.eq_21, ev.eq_24, ev.eq_25, ev.eq_26, ev.eq_27, evs, evT, evTs, bltD, intD, absD, pairUp, setAll, bindTo, tgK, walkT, pairK, wipeE, l1, tabR], some (.int 1), rfl, rfl⟩
      | 1, hd => cases hd; exact ⟨_, [some (.ref S.length), some (.int 2)], S ++ [.lst ([tab0, tabR 1, tabR 2].take (1 + 1 + 1))], rfl, by simp [execs, exec.eq_1, exec.eq_2, exec.eq_3, exec.eq_4, exec.eq_5, exec.eq_6, exec.eq_7, exec.eq_8, exec.eq_9, exec.eq_10, exec.eq_13, exec.eq_14, exec.eq_15, exec.eq_16, exec.eq_17, ev.eq_1, ev.eq_2, ev.eq_3, ev.eq_4, ev.eq_5, ev.eq_6, ev.eq_7, ev.eq_8, ev.eq_9, ev.eq_10, ev.eq_11, ev.eq_12, ev.eq_13, ev.eq_14, ev.eq_15, ev.eq_16, ev.eq_17, ev.eq_18, ev.eq_19, ev.eq_20, ev.eq_21, ev.eq_24, ev.eq_25, ev.eq_26, ev.eq_27, evs, evT, evTs, bltD, intD, absD, pairUp, setAll, bindTo, tgK, walkT, pairK, wipeE, l2, tabR], some (.int 2), rfl, rfl⟩)
  subst r1 r2
  have m3 : ∀ S, opD S .Mult (.tup [.int 3]) (.int 15) = some (tabC 3) := fun _ => rfl
  have m4 : ∀ S, opD S .Mult (.tup [.int 4]) (.int 15) = some (tabC 4) := fun _ => rfl
  rw [show ([tab0, tabR 1, tabR 2].take ([D.int 1, D.int 2].length + 1)) = [tab0, tabR 1, tabR 2] from rfl] at e2
  unfold tab0 at e2
  simp [c__law_table, execs, exec.eq_1, exec.eq_2, exec.eq_3, exec.eq_4, exec.eq_5, exec.eq_6, exec.eq_7, exec.eq_8, exec.eq_9, exec.eq_10, exec.eq_13, exec.eq_14, exec.eq_15, exec.eq_16, exec.eq_17, ev.eq_1, ev.eq_2, ev.eq_3, ev.eq_4, ev.eq_5, ev.eq_6, ev.eq_7, ev.eq_8, ev.eq_9, ev.eq_10, ev.eq_11, ev.eq_12, ev.eq_13, ev.eq_14, ev.eq_15, ev.eq_16, ev.eq_17, ev.eq_18, ev.eq_19, ev.eq_20, ev.eq_21, ev.eq_24, ev.eq_25, ev.eq_26, ev.eq_27, evs, evT, evTs, bltD, intD, absD, pairUp, setAll, bindTo, tgK, walkT, pairK, wipeE, e2, m3, m4, l5]
  exact ⟨rfl, trunc_app (d := tableD) rfl⟩
theorem okR_snoc {ws : List Word} {es : List En} {e : En} (h : okR ws es) (h2 : okE (endE ws es) e) : okR ws (es ++ [e]) := fun i a ha => by
  by_cases hi : i < es.length
  · rw [List.getElem?_append_left hi] at ha
    rw [List.take_append_of_le_length (by omega)]
    exact h i a ha
  · rw [List.getElem?_append_right (by omega)] at ha
    have h0 : i - es.length = 0 := by
      have := (List.getElem?_eq_some_iff.mp ha).1
      simp only [List.length_cons, List.length_nil] at this
      omega
    rw [h0] at ha
    simp only [List.getElem?_cons_zero, Option.some.injEq] at ha
    subst ha
    rw [show i = es.length by omega, List.take_left']
    · exact h2
    · rfl
theorem endE_snoc (ws : List Word) (es : List En) (e : En) : endE ws (es ++ [e]) = stE (endE ws es) e := by simp [endE]
theorem ins_len (w : Word) (l : List Word) : (ins w l).length = l.length + 1 := by
  have := List.length_filter_le (fun x => le x w) l
  unfold ins
  simp only [List.length_append, List.length_take, List.length_drop, List.length_cons, List.length_nil]
  omega
theorem ins_mem {w v : Word} {l : List Word} (h : v ∈ ins w l) : v = w ∨ v ∈ l := by
  unfold ins at h
  simp only [List.mem_append, List.mem_singleton] at h
  rcases h with (h | h) | h
  · exact .inr (List.mem_of_mem_take h)
  · exact .inl h
  · exact .inr (List.mem_of_mem_drop h)
theorem O_ins {w : Word} {l : List Word} (h : Sorted l) : O (l ++ [w]) = ins w l := Row.eq (O_row _) (g := fun v => l.count v + if v = w then 1 else 0) ⟨(ins_sorted h).1, (ins_sorted h).2⟩ fun v => by
  rw [List.count_append, List.count_singleton]
  by_cases e : v = w
  · subst e; simp
  · have : (w == v) = false := by simpa using fun z => e z.symm
    simp [e, this]
theorem take_erase (l : List Word) (k : Nat) : l.take k ++ l.drop (k + 1) = l.eraseIdx k := by rw [List.eraseIdx_eq_take_drop_succ]
theorem trunc_or {S S' : Store} {d : D} : trunc S d S' = S' ∨ trunc S d S' = S := by
  unfold trunc
  split
  · exact .inr rfl
  · exact .inl rfl
/-- what a state of a shelf keeps -/
structure Shf (n : Nat) (ws : List Word) : Prop where
  so : Sorted ws
  wk : Wks ws
  ln : ws.length ≤ n
theorem Shf.take {n : Nat} {ws : List Word} (h : Shf n ws) (k : Nat) : Shf n (stE ws (.take k)) := by
  have s : (stE ws (.take k)).Sublist ws := by
    show (ws.take k ++ ws.drop (k + 1)).Sublist ws
    rw [take_erase]
    exact List.eraseIdx_sublist _ _
  exact ⟨h.so.sublist s, fun v hv => h.wk v (s.subset hv), Nat.le_trans s.length_le h.ln⟩
theorem Shf.put {n : Nat} {ws : List Word} {w : Word} (h : Shf n ws) (hw : Wk w) : Shf (n + 1) (stE ws (.put w)) :=
  ⟨(ins_sorted h.so).1, fun v hv => (ins_mem hv).elim (fun e => e ▸ hw) (h.wk v), by show (ins w ws).length ≤ _; rw [ins_len]; have := h.ln; omega⟩
theorem Shf.mono {n k : Nat} {ws : List Word} (h : Shf n ws) (hk : n ≤ k) : Shf k ws := ⟨h.so, h.wk, by have := h.ln; omega⟩
abbrev cpE (ws : List Word) (h many : Nat) (ahead : Bool) (st : List Word) (n : Nat) (a7 a8 a9 : Option D) : Env :=
  [some (.ref 1), some (W ws), some (.ref (h + 2)), some (.int (many : Nat)), some (.bl ahead), some (W st), some (.ref (n + 2)), a7, a8, a9]
def cpPre : St := .iff (.and (.val (.var 4)) (.val (.cmp .NotEq (.var 5) (.tup [])))) [(.expr (.meth (.var 6) "append" [(.tup [(.cst (.str [116, 97, 107, 101])), (.cst (.int 0))])])), (.asg 5 (.slc (.var 5) [(.cst (.int 1))] []))] []
theorem copy_pre {C : Ctx} {T : Store} {h many n : Nat} {ws : List Word} (hw : Shf n ws) (hn : n < 50) (ahead : Bool) (c : List Int) (t : Int) : ∃ es0 : List En, okR ws es0 ∧ Shf n (endE ws es0) ∧ es0.length ≤ 1 ∧
    exec C cpPre (cpE ws h many ahead ws T.length none none none) (hs c t (T ++ [.lst []])) = some (.nx (cpE ws h many ahead (endE ws es0) T.length none none none) (hs c t (T ++ [.lst (es0.map enD)]))) := by
  have base : okR ws [] := fun i e he => by simp at he
  have l0 : (0 : Nat) < line := by decide
  cases ahead with
  | false => exact ⟨[], base, hw, by simp, by simp [cpPre, execs, exec.eq_1, exec.eq_2, exec.eq_3, exec.eq_4, exec.eq_5, exec.eq_6, exec.eq_7, exec.eq_8, exec.eq_9, exec.eq_10, exec.eq_13, exec.eq_14, exec.eq_15, exec.eq_16, exec.eq_17, ev.eq_1, ev.eq_2, ev.eq_3, ev.eq_4, ev.eq_5, ev.eq_6, ev.eq_7, ev.eq_8, ev.eq_9, ev.eq_10, ev.eq_11, ev.eq_12, ev.eq_13, ev.eq_14, ev.eq_15, ev.eq_16, ev.eq_17, ev.eq_18, ev.eq_19, ev.eq_20, ev.eq_21, ev.eq_24, ev.eq_25, ev.eq_26, ev.eq_27, evs, evT, evTs, bltD, intD, absD, pairUp, setAll, bindTo, tgK, walkT, pairK, wipeE, endE]⟩
  | true =>
    cases he : ws.isEmpty with
    | true => exact ⟨[], base, hw, by simp, by simp [cpPre, execs, exec.eq_1, exec.eq_2, exec.eq_3, exec.eq_4, exec.eq_5, exec.eq_6, exec.eq_7, exec.eq_8, exec.eq_9, exec.eq_10, exec.eq_13, exec.eq_14, exec.eq_15, exec.eq_16, exec.eq_17, ev.eq_1, ev.eq_2, ev.eq_3, ev.eq_4, ev.eq_5, ev.eq_6, ev.eq_7, ev.eq_8, ev.eq_9, ev.eq_10, ev.eq_11, ev.eq_12, ev.eq_13, ev.eq_14, ev.eq_15, ev.eq_16, ev.eq_17, ev.eq_18, ev.eq_19, ev.eq_20, ev.eq_21, ev.eq_24, ev.eq_25, ev.eq_26, ev.eq_27, evs, evT, evTs, bltD, intD, absD, pairUp, setAll, bindTo, tgK, walkT, pairK, wipeE, he, endE]⟩
    | false =>
      have hpos : 0 < ws.length := by
        cases ws with
        | nil => cases he
        | cons => simp
      refine ⟨[.take 0], okR_snoc base ⟨hw.wk, by have := hw.ln; show ws.length < 60; omega, hpos⟩, hw.take 0, by simp, ?_⟩
      have hsl : sliced (ws.map D.str) (some (1 : Int)) none = (ws.drop 1).map .str := by
        rw [show (1 : Int) = ((1 : Nat) : Int) from rfl, sl_drop, List.map_drop]
      simp [cpPre, execs, exec.eq_1, exec.eq_2, exec.eq_3, exec.eq_4, exec.eq_5, exec.eq_6, exec.eq_7, exec.eq_8, exec.eq_9, exec.eq_10, exec.eq_13, exec.eq_14, exec.eq_15, exec.eq_16, exec.eq_17, ev.eq_1, ev.eq_2, ev.eq_3, ev.eq_4, ev.eq_5, ev.eq_6, ev.eq_7, ev.eq_8, ev.eq_9, ev.eq_10, ev.eq_11, ev.eq_12, ev.eq_13, ev.eq_14, ev.eq_15, ev.eq_16, ev.eq_17, ev.eq_18, ev.eq_19, ev.eq_20, ev.eq_21, ev.eq_24, ev.eq_25, ev.eq_26, ev.eq_27, evs, evT, evTs, bltD, intD, absD, pairUp, setAll, bindTo, tgK, walkT, pairK, wipeE, he, l0, hsl, endE, stE, enD]
def cpPut : List St := [(.asg 9 (.callG "_law_one" [(.var 0), (.var 2)])), (.expr (.meth (.var 6) "append" [(.tup [(.cst (.str [112, 117, 116])), (.var 9)])])), (.asg 5 (.callG "_law_in_order" [(.bin .Add (.var 5) (.tup [(.var 9)]))]))]
theorem copy_put {m : Nat} (hm : 3 ≤ m) {T : Store} {h many k : Nat} {ps ws : List Word} (hp : T[h]? = some (.lst (ps.map .str))) (hp1 : 1 ≤ ps.length) (hp2 : ps.length < 1000000) (hpo : Wks ps) {es : List En} (q4 : Shf k (endE ws es)) (hk : k < 60) (hl : es.length ≤ 100) (ahead : Bool) (a7 a8 a9 : Option D)
    (c : List Int) (t : Int) (h0 : 0 ≤ t) (ht : t < 910000000) :
    ∃ w a9' c', Wk w ∧ execs (ctx P m) cpPut (cpE ws h many ahead (endE ws es) T.length a7 a8 a9) (hs c t (T ++ [.lst (es.map enD)])) =
      some (.nx (cpE ws h many ahead (endE ws (es ++ [En.put w])) T.length a7 a8 a9') (hs c' (t + 1) (T ++ [.lst ((es ++ [En.put w]).map enD)]))) := by
  have hln := q4.ln
  have le1 : es.length < line := lt_line (by omega)
  obtain ⟨w, c2, hwm, e1⟩ := word_ok (m := m) (by omega) (T := T ++ [.lst (es.map enD)]) (d := .ref (h + 2)) ps (fun c t => frozen_ref (by rw [hs_get2']; exact at_app hp)) hp1 (by omega) c (t := t) (by omega) (by omega)
  have hwk := hpo w hwm
  have ei := in_order_ok (m := m) (by omega) (ws := endE ws es ++ [w]) (fun v hv => by
    rcases List.mem_append.mp hv with hv | hv
    · have := (q4.wk v hv).1; omega
    · rw [List.mem_singleton.mp hv]; have := hwk.1; omega) (by rw [List.length_append]; simp; omega) (hs c2 (t + 1) (T ++ [.lst ((es ++ [En.put w]).map enD)]))
  change _ = some (Res.ok (W (O (endE ws es ++ [w]))) _) at ei
  rw [O_ins q4.so] at ei
  have la : (endE ws es).length + 1 ≤ line := le_line (by omega)
  refine ⟨w, some (.str w), c2, hwk, ?_⟩
  rw [endE_snoc]
  simp [W, enD] at ei
  simp [cpPut, execs, exec.eq_1, exec.eq_2, exec.eq_3, exec.eq_4, exec.eq_5, exec.eq_6, exec.eq_7, exec.eq_8, exec.eq_9, exec.eq_10, exec.eq_13, exec.eq_14, exec.eq_15, exec.eq_16, exec.eq_17, ev.eq_1, ev.eq_2, ev.eq_3, ev.eq_4, ev.eq_5, ev.eq_6, ev.eq_7, ev.eq_8, ev.eq_9, ev.eq_10, ev.eq_11, ev.eq_12, ev.eq_13, ev.eq_14, ev.eq_15, ev.eq_16, ev.eq_17, ev.eq_18, ev.eq_19, ev.eq_20, ev.eq_21, ev.eq_24, ev.eq_25, ev.eq_26, ev.eq_27, evs, evT, evTs, bltD, intD, absD, pairUp, setAll, bindTo, tgK, walkT, pairK, wipeE, e1, le1, la, enD, ei, stE]
def cpTake : List St := [(.asg 8 (.callG "_law_draw" [(.var 0), (.callB .len [(.var 5)])])), (.expr (.meth (.var 6) "append" [(.tup [(.cst (.str [116, 97, 107, 101])), (.var 8)])])), (.asg 5 (.bin .Add (.slc (.var 5) [] [(.var 8)]) (.slc (.var 5) [(.bin .Add (.var 8) (.cst (.int 1)))] [])))]
theorem copy_take {m : Nat} (hm : 2 ≤ m) {T : Store} {h many k : Nat} {ws : List Word} {es : List En} (q4 : Shf k (endE ws es)) (hk : k < 60) (hl : es.length ≤ 100) (hp : 0 < (endE ws es).length) (ahead : Bool) (a7 a8 a9 : Option D) (c : List Int) (t : Int) (h0 : 0 ≤ t) (ht : t < 910000000) :
    ∃ p c', p < (endE ws es).length ∧ execs (ctx P m) cpTake (cpE ws h many ahead (endE ws es) T.length a7 a8 a9) (hs c t (T ++ [.lst (es.map enD)])) =
      some (.nx (cpE ws h many ahead (endE ws (es ++ [En.take p])) T.length a7 (some (.int p)) a9) (hs c' (t + 1) (T ++ [.lst ((es ++ [En.take p]).map enD)]))) := by
  have hln := q4.ln
  have le1 : es.length < line := lt_line (by omega)
  obtain ⟨k', d2, k2, k3, e3⟩ := draw_ok (m := m) (by omega) (many := ((endE ws es).length : Nat)) (by omega) (by omega) c (T ++ [.lst (es.map enD)]) (t := t) (by omega) (by omega)
  obtain ⟨p, rfl⟩ : ∃ n : Nat, k' = n := ⟨k'.toNat, by omega⟩
  have l1 : min p (endE ws es).length + ((endE ws es).length - (p + 1)) ≤ line := le_line (by omega)
  refine ⟨p, d2, by omega, ?_⟩
  rw [endE_snoc]
  simp [cpTake, execs, exec.eq_1, exec.eq_2, exec.eq_3, exec.eq_4, exec.eq_5, exec.eq_6, exec.eq_7, exec.eq_8, exec.eq_9, exec.eq_10, exec.eq_13, exec.eq_14, exec.eq_15, exec.eq_16, exec.eq_17, ev.eq_1, ev.eq_2, ev.eq_3, ev.eq_4, ev.eq_5, ev.eq_6, ev.eq_7, ev.eq_8, ev.eq_9, ev.eq_10, ev.eq_11, ev.eq_12, ev.eq_13, ev.eq_14, ev.eq_15, ev.eq_16, ev.eq_17, ev.eq_18, ev.eq_19, ev.eq_20, ev.eq_21, ev.eq_24, ev.eq_25, ev.eq_26, ev.eq_27, evs, evT, evTs, bltD, intD, absD, pairUp, setAll, bindTo, tgK, walkT, pairK, wipeE, e3, le1, l1, enD, stE]
theorem copy_cond {m : Nat} (hm : 1 ≤ m) {T X : Store} {h many : Nat} {ws st : List Word} (ahead : Bool) (a7 a8 a9 : Option D) (A B : List St) (c : List Int) (t : Int) (h0 : 0 ≤ t) (ht : t < 910000000) :
    ∃ (b : Bool) (c' : List Int) (t' : Int), (b = true → 0 < st.length) ∧ t ≤ t' ∧ t' ≤ t + 1 ∧
      execs (ctx P m) [.iff (.and (.val (.cmp .NotEq (.var 5) (.tup []))) (.val (.cmp .Eq (.callG "_law_draw" [(.var 0), (.cst (.int 2))]) (.cst (.int 0))))) A B] (cpE ws h many ahead st T.length a7 a8 a9) (hs c t X) =
      execs (ctx P m) (if b then A else B) (cpE ws h many ahead st T.length a7 a8 a9) (hs c' t' X) := by
  cases hu : st.isEmpty with
  | true => exact ⟨false, c, t, by simp, by omega, by omega, by simp [execs, exec.eq_1, exec.eq_2, exec.eq_3, exec.eq_4, exec.eq_5, exec.eq_6, exec.eq_7, exec.eq_8, exec.eq_9, exec.eq_10, exec.eq_13, exec.eq_14, exec.eq_15, exec.eq_16, exec.eq_17, ev.eq_1, ev.eq_2, ev.eq_3, ev.eq_4, ev.eq_5, ev.eq_6, ev.eq_7, ev.eq_8, ev.eq_9, ev.eq_10, ev.eq_11, ev.eq_12, ev.eq_13, ev.eq_14, ev.eq_15, ev.eq_16, ev.eq_17, ev.eq_18, ev.eq_19, ev.eq_20, ev.eq_21, ev.eq_24, ev.eq_25, ev.eq_26, ev.eq_27, evs, evT, evTs, bltD, intD, absD, pairUp, setAll, bindTo, tgK, walkT, pairK, wipeE, hu]⟩
  | false =>
    obtain ⟨k, d1, k0, k1, e1⟩ := draw_ok (m := m) (by omega) (many := 2) (by omega) (by omega) c X (t := t) (by omega) (by omega)
    refine ⟨decide (k = 0), d1, t + 1, fun _ => ?_, by omega, by omega, ?_⟩
    · cases st with
      | nil => cases hu
      | cons => simp
    · by_cases hk : k = 0
      · simp [execs, exec.eq_1, exec.eq_2, exec.eq_3, exec.eq_4, exec.eq_5, exec.eq_6, exec.eq_7, exec.eq_8, exec.eq_9, exec.eq_10, exec.eq_13, exec.eq_14, exec.eq_15, exec.eq_16, exec.eq_17, ev.eq_1, ev.eq_2, ev.eq_3, ev.eq_4, ev.eq_5, ev.eq_6, ev.eq_7, ev.eq_8, ev.eq_9, ev.eq_10, ev.eq_11, ev.eq_12, ev.eq_13, ev.eq_14, ev.eq_15, ev.eq_16, ev.eq_17, ev.eq_18, ev.eq_19, ev.eq_20, ev.eq_21, ev.eq_24, ev.eq_25, ev.eq_26, ev.eq_27, evs, evT, evTs, bltD, intD, absD, pairUp, setAll, bindTo, tgK, walkT, pairK, wipeE, hu, e1, hk]
      · simp [execs, exec.eq_1, exec.eq_2, exec.eq_3, exec.eq_4, exec.eq_5, exec.eq_6, exec.eq_7, exec.eq_8, exec.eq_9, exec.eq_10, exec.eq_13, exec.eq_14, exec.eq_15, exec.eq_16, exec.eq_17, ev.eq_1, ev.eq_2, ev.eq_3, ev.eq_4, ev.eq_5, ev.eq_6, ev.eq_7, ev.eq_8, ev.eq_9, ev.eq_10, ev.eq_11, ev.eq_12, ev.eq_13, ev.eq_14, ev.eq_15, ev.eq_16, ev.eq_17, ev.eq_18, ev.eq_19, ev.eq_20, ev.eq_21, ev.eq_24, ev.eq_25, ev.eq_26, ev.eq_27, evs, evT, evTs, bltD, intD, absD, pairUp, setAll, bindTo, tgK, walkT, pairK, wipeE, hu, e1, hk]
theorem copy_loop {m : Nat} (hm : 3 ≤ m) {T : Store} {h : Nat} {ps : List Word} (hp : T[h]? = some (.lst (ps.map .str))) (hp1 : 1 ≤ ps.length) (hp2 : ps.length < 1000000) (hpo : Wks ps) {ws : List Word} {n many : Nat} (hn : n + many < 50) (ahead : Bool) (c : List Int) {t : Int} (h0 : 0 ≤ t) (ht : t < 900000000)
    {es0 : List En} (r1 : okR ws es0) (r2 : Shf n (endE ws es0)) (r3 : es0.length ≤ 1) :
    ∃ (a7 a8 a9 : Option D) (es : List En) (c' : List Int) (t' : Int), exec (ctx P m) c__law_copy_l1 (cpE ws h many ahead (endE ws es0) T.length none none none) (hs c t (T ++ [.lst (es0.map enD)])) = some (.nx (cpE ws h many ahead (endE ws es) T.length a7 a8 a9) (hs c' t' (T ++ [.lst (es.map enD)]))) ∧
      okR ws es ∧ Shf (n + many) (endE ws es) ∧ es.length ≤ many + 1 ∧ t ≤ t' ∧ t' ≤ t + 2 * many := by
  obtain ⟨ρ', S', e2, a7, a8, a9, es, c', t', q1, q2, q3, q4, q5, q6, q7⟩ := for_inv (s := c__law_copy_l1) (C := ctx P m) (ρ := cpE ws h many ahead (endE ws es0) T.length none none none) (S := hs c t (T ++ [.lst (es0.map enD)])) (S1 := hs c t (T ++ [.lst (es0.map enD)])) (ds := [.int (many : Nat)]) (xs := upTo 0 many) rfl
    (by simp [execs, exec.eq_1, exec.eq_2, exec.eq_3, exec.eq_4, exec.eq_5, exec.eq_6, exec.eq_7, exec.eq_8, exec.eq_9, exec.eq_10, exec.eq_13, exec.eq_14, exec.eq_15, exec.eq_16, exec.eq_17, ev.eq_1, ev.eq_2, ev.eq_3, ev.eq_4, ev.eq_5, ev.eq_6, ev.eq_7, ev.eq_8, ev.eq_9, ev.eq_10, ev.eq_11, ev.eq_12, ev.eq_13, ev.eq_14, ev.eq_15, ev.eq_16, ev.eq_17, ev.eq_18, ev.eq_19, ev.eq_20, ev.eq_21, ev.eq_24, ev.eq_25, ev.eq_26, ev.eq_27, evs, evT, evTs, bltD, intD, absD, pairUp, setAll, bindTo, tgK, walkT, pairK, wipeE]) (walkT_r (by omega)) (fun i ρ S => ∃ (a7 a8 a9 : Option D) (es : List En) (c' : List Int) (t' : Int), ρ = cpE ws h many ahead (endE ws es) T.length a7 a8 a9 ∧ S = hs c' t' (T ++ [.lst (es.map enD)]) ∧
      okR ws es ∧ Shf (n + i) (endE ws es) ∧ es.length ≤ i + 1 ∧ t ≤ t' ∧ t' ≤ t + 2 * i)
    ⟨none, none, none, es0, c, t, rfl, rfl, r1, r2, by omega, by omega, by omega⟩ (fun _ _ _ _ _ => walk_r (by omega)) (fun i d ρ S hd hI => by
      obtain ⟨a7, a8, a9, es, c', t', rfl, rfl, q3, q4, q5, q6, q7⟩ := hI
      have hi : i < many := by
        have := (List.getElem?_eq_some_iff.mp hd).1
        rwa [upTo_len] at this
      have hln := q4.ln
      obtain ⟨b, c1, t1, hb, b1, b2, e1⟩ := copy_cond (m := m) (by omega) (T := T) (X := T ++ [.lst (es.map enD)]) (h := h) (many := many) (ws := ws) (st := endE ws es) ahead (some d) a8 a9 cpTake cpPut c' t' (by omega) (by omega)
      cases b with
      | true =>
        obtain ⟨p, c2, hp, e2⟩ := copy_take (m := m) (by omega) (T := T) (h := h) (many := many) q4 (by omega) (by omega) (hb rfl) ahead (some d) a8 a9 c1 t1 (by omega) (by omega)
        refine ⟨_, _, _, rfl, e1.trans e2, some d, _, a9, es ++ [En.take p], c2, t1 + 1, rfl, rfl, okR_snoc q3 ⟨q4.wk, by omega, hp⟩, ?_, by simp; omega, by omega, by omega⟩
        rw [endE_snoc]
        exact (q4.take p).mono (by omega)
      | false =>
        obtain ⟨w, a9', c2, hwk, e2⟩ := copy_put (m := m) (by omega) (T := T) (h := h) (many := many) hp hp1 hp2 hpo q4 (by omega) (by omega) ahead (some d) a8 a9 c1 t1 (by omega) (by omega)
        refine ⟨_, _, _, rfl, e1.trans e2, some d, a8, a9', es ++ [En.put w], c2, t1 + 1, rfl, rfl, okR_snoc q3 ⟨q4.wk, by omega, hwk⟩, ?_, by simp; omega, by omega, by omega⟩
        rw [endE_snoc]
        exact (q4.put hwk).mono (by omega))
  rw [upTo_len] at q4 q5 q7
  subst q1 q2
  exact ⟨a7, a8, a9, es, c', t', e2, q3, q4, q5, q6, q7⟩
theorem copy_ok {m : Nat} (hm : 4 ≤ m) {T : Store} {h : Nat} {ps : List Word} (hp : T[h]? = some (.lst (ps.map .str))) (hp1 : 1 ≤ ps.length) (hp2 : ps.length < 1000000) (hpo : Wks ps) {ws : List Word} {n many : Nat} (hw : Shf n ws) (hn : n + many < 50) (ahead : Bool) (c : List Int) {t : Int} (h0 : 0 ≤ t) (ht : t < 900000000) :
    ∃ (es : List En) (c' : List Int) (t' : Int) (X : Store), okR ws es ∧ Shf (n + many) (endE ws es) ∧ es.length ≤ many + 1 ∧ t ≤ t' ∧ t' ≤ t + 2 * many ∧
      (ctx P m).call "_law_copy" [.ref 1, W ws, .ref (h + 2), .int (many : Nat), .bl ahead] (hs c t T) = some (.ok (.tup [.tup (es.map enD), W (endE ws es)]) (hs c' t' (T ++ X))) := by
  rw [call_fn (by omega) (clss_f _ (by decide) (by decide) (by decide)) fn__law_copy rfl]
  obtain ⟨es0, r1, r2, r3, e1⟩ := copy_pre (C := ctx P (m - 1)) (T := T) (h := h) (many := many) hw (by omega) ahead c t
  obtain ⟨a7, a8, a9, es, c', t', e2, q3, q4, q5, q6, q7⟩ := copy_loop (m := m - 1) (by omega) hp hp1 hp2 hpo hn ahead c h0 ht r1 r2 r3
  have ea : exec (ctx P (m - 1)) (.par [5, 6] [(.var 1), (.mk (.lst []))]) [some (D.ref 1), some (W ws), some (.ref (h + 2)), some (.int (many : Nat)), some (.bl ahead), none, none, none, none, none] (hs c t T) = some (.nx (cpE ws h many ahead ws T.length none none none) (hs c t (T ++ [.lst []]))) := by
    simp [execs, exec.eq_1, exec.eq_2, exec.eq_3, exec.eq_4, exec.eq_5, exec.eq_6, exec.eq_7, exec.eq_8, exec.eq_9, exec.eq_10, exec.eq_13, exec.eq_14, exec.eq_15, exec.eq_16, exec.eq_17, ev.eq_1, ev.eq_2, ev.eq_3, ev.eq_4, ev.eq_5, ev.eq_6, ev.eq_7, ev.eq_8, ev.eq_9, ev.eq_10, ev.eq_11, ev.eq_12, ev.eq_13, ev.eq_14, ev.eq_15, ev.eq_16, ev.eq_17, ev.eq_18, ev.eq_19, ev.eq_20, ev.eq_21, ev.eq_24, ev.eq_25, ev.eq_26, ev.eq_27, evs, evT, evTs, bltD, intD, absD, pairUp, setAll, bindTo, tgK, walkT, pairK, wipeE]
  have ez : exec (ctx P (m - 1)) (.ret (.tup [(.callB .tuple [(.var 6)]), (.var 5)])) (cpE ws h many ahead (endE ws es) T.length a7 a8 a9) (hs c' t' (T ++ [.lst (es.map enD)])) = some (.rt (.tup [.tup (es.map enD), W (endE ws es)]) (hs c' t' (T ++ [.lst (es.map enD)]))) := by
    simp [execs, exec.eq_1, exec.eq_2, exec.eq_3, exec.eq_4, exec.eq_5, exec.eq_6, exec.eq_7, exec.eq_8, exec.eq_9, exec.eq_10, exec.eq_13, exec.eq_14, exec.eq_15, exec.eq_16, exec.eq_17, ev.eq_1, ev.eq_2, ev.eq_3, ev.eq_4, ev.eq_5, ev.eq_6, ev.eq_7, ev.eq_8, ev.eq_9, ev.eq_10, ev.eq_11, ev.eq_12, ev.eq_13, ev.eq_14, ev.eq_15, ev.eq_16, ev.eq_17, ev.eq_18, ev.eq_19, ev.eq_20, ev.eq_21, ev.eq_24, ev.eq_25, ev.eq_26, ev.eq_27, evs, evT, evTs, bltD, intD, absD, pairUp, setAll, bindTo, tgK, walkT, pairK, wipeE]
  have e3 : fin (hs c t T) (execs (ctx P (m - 1)) c__law_copy.body ([D.ref 1, W ws, .ref (h + 2), .int (many : Nat), .bl ahead].map some ++ List.replicate (c__law_copy.nslots - c__law_copy.np) none) (hs c t T)) =
      some (.ok (.tup [.tup (es.map enD), W (endE ws es)]) (trunc (hs c t T) (.tup [.tup (es.map enD), W (endE ws es)]) (hs c' t' (T ++ [.lst (es.map enD)])))) := by
    have hb : c__law_copy.body = [(.par [5, 6] [(.var 1), (.mk (.lst []))]), cpPre, c__law_copy_l1, (.ret (.tup [(.callB .tuple [(.var 6)]), (.var 5)]))] := rfl
    rw [hb]
    show fin _ (execs _ _ [some (D.ref 1), some (W ws), some (.ref (h + 2)), some (.int (many : Nat)), some (.bl ahead), none, none, none, none, none] _) = _
    rw [execs_nx ea, execs_nx e1, execs_nx e2, execs_rt ez, fin_rt]
  rw [e3]
  rcases trunc_or (S := hs c t T) (d := .tup [.tup (es.map enD), W (endE ws es)]) (S' := hs c' t' (T ++ [.lst (es.map enD)])) with e | e
  · exact ⟨es, c', t', [.lst (es.map enD)], q3, q4, q5, q6, q7, by rw [e]⟩
  · exact ⟨es, c, t, [], q3, q4, q5, by omega, by omega, by rw [e, List.append_nil]⟩
end K90
/-! A run that leads from one shelf to another. -/
namespace K90
open Rf Wd Rs
open PySem (Str PyData)

/-- where a word stands first -/
theorem find_str {w : Word} : ∀ {st : List Word}, w ∈ st → ∃ k, k < st.length ∧ st[k]? = some w ∧ (st.map D.str).findIdx? (isIt (.str w)) = some k
  | [], h => by cases h
  | v :: st, h => by
    rw [List.map_cons, List.findIdx?_cons]
    by_cases e : v = w
    · subst e
      have : isIt (.str v) (.str v) = true := by simp [isIt, eq_str]
      exact ⟨0, by simp, rfl, by rw [this]; rfl⟩
    · have h0 : isIt (.str w) (.str v) = false := by simp [isIt, eq_str, e]
      obtain ⟨k, h1, h2, h3⟩ := find_str (st := st) ((List.mem_cons.mp h).resolve_left fun z => e z.symm)
      exact ⟨k + 1, by simp; omega, by simpa using h2, by rw [h0, h3]; rfl⟩
theorem count_erase {v w : Word} : ∀ {l : List Word} {k : Nat}, l[k]? = some w → (l.eraseIdx k).count v + (if v = w then 1 else 0) = l.count v
  | [], k, h => by simp at h
  | a :: l, 0, h => by
    simp only [List.getElem?_cons_zero, Option.some.injEq] at h
    subst h
    rw [List.eraseIdx_cons_zero, List.count_cons]
    by_cases e : v = a
    · subst e; simp
    · have : (a == v) = false := by simpa using fun z => e z.symm
      simp [e, this]
  | a :: l, k + 1, h => by
    have := count_erase (v := v) (l := l) (k := k) (by simpa using h)
    rw [List.eraseIdx_cons_succ, List.count_cons, List.count_cons]
    omega
/-- the words of a cell that stay ahead of a new one -/
theorem comp_stay {m : Nat} (hm : 1 ≤ m) {st : List Word} {w : Word} {S : Store} {h : Nat} {a0 a1 a2 a5 a6 a7 : Option D} (hS : S[h]? = some (.lst (st.map .str))) (ha : Short st) (hw : w.length ≤ 1000000) (hl : st.length ≤ 1000000) :
    ev (ctx P m) c__law_follow_e4 [a0, a1, a2, some (.ref h), some (.str w), a5, a6, a7] S = some (.ok (.lst ((st.filter fun x => le x w).map .str)) S) := by
  have e := comp_filter (s := c__law_follow_e4) (C := ctx P m) (ρ := [a0, a1, a2, some (.ref h), some (.str w), a5, a6, a7]) (S := S) (S1 := S) (ds := [.ref h]) (xs := st.map .str) (les w) id rfl (by simp [execs, exec.eq_1, exec.eq_2, exec.eq_3, exec.eq_4, exec.eq_5, exec.eq_6, exec.eq_7, exec.eq_8, exec.eq_9, exec.eq_10, exec.eq_13, exec.eq_14, exec.eq_15, exec.eq_16, exec.eq_17, ev.eq_1, ev.eq_2, ev.eq_3, ev.eq_4, ev.eq_5, ev.eq_6, ev.eq_7, ev.eq_8, ev.eq_9, ev.eq_10, ev.eq_11, ev.eq_12, ev.eq_13, ev.eq_14, ev.eq_15, ev.eq_16, ev.eq_17, ev.eq_18, ev.eq_19, ev.eq_20, ev.eq_21, ev.eq_24, ev.eq_25, ev.eq_26, ev.eq_27, evs, evT, evTs, bltD, intD, absD, pairUp, setAll, bindTo, tgK, walkT, pairK, wipeE]) (by simp [hS]) (by simp) (by simp) (by simp [execs, exec.eq_1, exec.eq_2, exec.eq_3, exec.eq_4, exec.eq_5, exec.eq_6, exec.eq_7, exec.eq_8, exec.eq_9, exec.eq_10, exec.eq_13, exec.eq_14, exec.eq_15, exec.eq_16, exec.eq_17, ev.eq_1, ev.eq_2, ev.eq_3, ev.eq_4, ev.eq_5, ev.eq_6, ev.eq_7, ev.eq_8, ev.eq_9, ev.eq_10, ev.eq_11, ev.eq_12, ev.eq_13, ev.eq_14, ev.eq_15, ev.eq_16, ev.eq_17, ev.eq_18, ev.eq_19, ev.eq_20, ev.eq_21, ev.eq_24, ev.eq_25, ev.eq_26, ev.eq_27, evs, evT, evTs, bltD, intD, absD, pairUp, setAll, bindTo, tgK, walkT, pairK, wipeE, hS]) (by simpa using le_line (by omega)) (fun d hd => ?_)
  · rw [List.map_id, List.filter_map] at e
    exact e
  · obtain ⟨v, hv, rfl⟩ := List.mem_map.mp hd
    refine ⟨_, rfl, ?_, ?_⟩
    · rcases Bool.eq_false_or_eq_true (lt w v) with e | e <;> simp [execs, exec.eq_1, exec.eq_2, exec.eq_3, exec.eq_4, exec.eq_5, exec.eq_6, exec.eq_7, exec.eq_8, exec.eq_9, exec.eq_10, exec.eq_13, exec.eq_14, exec.eq_15, exec.eq_16, exec.eq_17, ev.eq_1, ev.eq_2, ev.eq_3, ev.eq_4, ev.eq_5, ev.eq_6, ev.eq_7, ev.eq_8, ev.eq_9, ev.eq_10, ev.eq_11, ev.eq_12, ev.eq_13, ev.eq_14, ev.eq_15, ev.eq_16, ev.eq_17, ev.eq_18, ev.eq_19, ev.eq_20, ev.eq_21, ev.eq_24, ev.eq_25, ev.eq_26, ev.eq_27, evs, evT, evTs, bltD, intD, absD, pairUp, setAll, bindTo, tgK, walkT, pairK, wipeE, ahead_ok hm hw (ha v hv), les, le, e]
    · simp [execs, exec.eq_1, exec.eq_2, exec.eq_3, exec.eq_4, exec.eq_5, exec.eq_6, exec.eq_7, exec.eq_8, exec.eq_9, exec.eq_10, exec.eq_13, exec.eq_14, exec.eq_15, exec.eq_16, exec.eq_17, ev.eq_1, ev.eq_2, ev.eq_3, ev.eq_4, ev.eq_5, ev.eq_6, ev.eq_7, ev.eq_8, ev.eq_9, ev.eq_10, ev.eq_11, ev.eq_12, ev.eq_13, ev.eq_14, ev.eq_15, ev.eq_16, ev.eq_17, ev.eq_18, ev.eq_19, ev.eq_20, ev.eq_21, ev.eq_24, ev.eq_25, ev.eq_26, ev.eq_27, evs, evT, evTs, bltD, intD, absD, pairUp, setAll, bindTo, tgK, walkT, pairK, wipeE]
abbrev flE (own due : List Word) (n : Nat) (a4 a5 a6 a7 : Option D) : Env := [some (W own), some (W due), some (.ref n), some (.ref (n + 1)), a4, a5, a6, a7]
abbrev flS (S : Store) (es : List En) (st us : List Word) : Store := S ++ [.lst (es.map enD), .lst (st.map .str), .lst (us.map .str)]
/-- what holds of a state on the way -/
structure On (own : List Word) (es : List En) (n : Nat) (f : Word → Nat) : Prop where
  run : okR own es
  shf : Shf n (endE own es)
  cnt : ∀ v, (endE own es).count v = f v
theorem On.step {own : List Word} {es : List En} {n : Nat} {f : Word → Nat} (h : On own es n f) : Shf n (endE own es) := h.shf
theorem fl_take {m : Nat} (hm : 1 ≤ m) {own due us : List Word} {S : Store} {w : Word} {n j : Nat} {f : Word → Nat} (hn : n < 60) {es0 : List En} (h0 : On own es0 n f) (hl : es0.length ≤ 10000) (ho : own.length ≤ 1000) (hd : due.length ≤ 1000) (hw : j = own.count w - due.count w) (hc : j ≤ f w) (a5 a6 a7 : Option D) :
    ∃ (a5' : Option D) (es : List En), exec (ctx P m) c__law_follow_l2 (flE own due S.length (some (.str w)) a5 a6 a7) (flS S es0 (endE own es0) us) = some (.nx (flE own due S.length (some (.str w)) a5' a6 a7) (flS S es (endE own es) us)) ∧
      On own es n (fun v => f v - if v = w then j else 0) ∧ es.length = es0.length + j := by
  have c1 := count_le w own
  have c2 := count_le w due
  have hj : ((own.count w : Int) - due.count w).toNat = j := by omega
  obtain ⟨ρ', S', e, a5', es, q1, q2, q3, q4⟩ := for_inv (s := c__law_follow_l2) (C := ctx P m) (ρ := flE own due S.length (some (.str w)) a5 a6 a7) (S := flS S es0 (endE own es0) us) (S1 := flS S es0 (endE own es0) us) (ds := [.int ((own.count w : Int) - due.count w)]) (xs := upTo 0 j) rfl (by simp [execs, exec.eq_1, exec.eq_2, exec.eq_3, exec.eq_4, exec.eq_5, exec.eq_6, exec.eq_7, exec.eq_8, exec.eq_9, exec.eq_10, exec.eq_13, exec.eq_14, exec.eq_15, exec.eq_16, exec.eq_17, ev.eq_1, ev.eq_2, ev.eq_3, ev.eq_4, ev.eq_5, ev.eq_6, ev.eq_7, ev.eq_8, ev.eq_9, ev.eq_10, ev.eq_11, ev.eq_12, ev.eq_13, ev.eq_14, ev.eq_15, ev.eq_16, ev.eq_17, ev.eq_18, ev.eq_19, ev.eq_20, ev.eq_21, ev.eq_24, ev.eq_25, ev.eq_26, ev.eq_27, evs, evT, evTs, bltD, intD, absD, pairUp, setAll, bindTo, tgK, walkT, pairK, wipeE])
    (by simp only [walkT, tgK, pairK, Bool.not_false, if_true]; rw [walk_range (by omega) (by omega), hj])
    (fun i ρ S1 => ∃ (a5' : Option D) (es : List En), ρ = flE own due S.length (some (.str w)) a5' a6 a7 ∧ S1 = flS S es (endE own es) us ∧ On own es n (fun v => f v - if v = w then i else 0) ∧ es.length = es0.length + i)
    ⟨a5, es0, rfl, rfl, ⟨h0.run, h0.shf, fun v => by rw [h0.cnt]; simp⟩, rfl⟩ (fun _ _ _ _ _ => by rw [walk_range (by omega) (by omega), hj]) (fun i d ρ S1 hd hI => by
      obtain ⟨a5', es, rfl, rfl, q3, q4⟩ := hI
      have hi : i < j := by
        have := (List.getElem?_eq_some_iff.mp hd).1
        rwa [upTo_len] at this
      have hcw := q3.cnt w
      simp only [if_true] at hcw
      obtain ⟨k, k1, k2, k3⟩ := find_str (st := endE own es) (w := w) (List.count_pos_iff.mp (by omega))
      have hsh := q3.shf.ln
      have hx : ∀ A C, mtD (S ++ [A, .lst ((endE own es).map .str), C]) .lIndex (.ref (S.length + 1)) [.str w] = some (.ok (.int (k : Nat)) (S ++ [A, .lst ((endE own es).map .str), C])) := fun A C => do_index (getElem?_app S _ 1) (data_str w _) k3
      have hr : ∀ A C, mtD (S ++ [A, .lst ((endE own es).map .str), C]) .lRemove (.ref (S.length + 1)) [.str w] = some (.ok .non (S ++ [A, .lst (((endE own es).eraseIdx k).map .str), C])) := fun A C => by
        rw [do_remove (getElem?_app S _ 1) (data_str w _) k3, set_app, map_erase]
        rfl
      have ll : es.length < line := lt_line (by omega)
      refine ⟨flE own due S.length (some (.str w)) (some d) a6 a7, flE own due S.length (some (.str w)) (some d) a6 a7, flS S (es ++ [En.take k]) (endE own (es ++ [En.take k])) us, rfl, ?_, some d, es ++ [En.take k], rfl, rfl, ⟨okR_snoc q3.run ⟨q3.shf.wk, by omega, k1⟩, ?_, fun v => ?_⟩, by simp; omega⟩
      · rw [endE_snoc, show stE (endE own es) (En.take k) = (endE own es).eraseIdx k from take_erase _ _]
        simp [execs, exec.eq_1, exec.eq_2, exec.eq_3, exec.eq_4, exec.eq_5, exec.eq_6, exec.eq_7, exec.eq_8, exec.eq_9, exec.eq_10, exec.eq_13, exec.eq_14, exec.eq_15, exec.eq_16, exec.eq_17, ev.eq_1, ev.eq_2, ev.eq_3, ev.eq_4, ev.eq_5, ev.eq_6, ev.eq_7, ev.eq_8, ev.eq_9, ev.eq_10, ev.eq_11, ev.eq_12, ev.eq_13, ev.eq_14, ev.eq_15, ev.eq_16, ev.eq_17, ev.eq_18, ev.eq_19, ev.eq_20, ev.eq_21, ev.eq_24, ev.eq_25, ev.eq_26, ev.eq_27, evs, evT, evTs, bltD, intD, absD, pairUp, setAll, bindTo, tgK, walkT, pairK, wipeE, hx, hr, ll, enD]
      · rw [endE_snoc]
        exact q3.shf.take k
      · rw [endE_snoc, show stE (endE own es) (En.take k) = (endE own es).eraseIdx k from take_erase _ _]
        have h1 := count_erase (v := v) k2
        have h2 := q3.cnt v
        by_cases e : v = w
        · subst e; simp at h1 h2 ⊢; omega
        · simp [e] at h1 h2 ⊢; omega)
  rw [upTo_len] at q3 q4
  subst q1 q2
  exact ⟨a5', es, e, q3, q4⟩
theorem fl_put {m : Nat} (hm : 1 ≤ m) {own due us : List Word} {S : Store} {w : Word} {n j : Nat} {f : Word → Nat} (hn : n + j < 60) {es0 : List En} (h0 : On own es0 n f) (hl : es0.length ≤ 10000) (ho : own.length ≤ 1000) (hd : due.length ≤ 1000) (hwk : Wk w) (hw : j = due.count w - own.count w) (a5 a6 a7 : Option D) :
    ∃ (a5' : Option D) (es : List En), exec (ctx P m) c__law_follow_l3 (flE own due S.length (some (.str w)) a5 a6 a7) (flS S es0 (endE own es0) us) = some (.nx (flE own due S.length (some (.str w)) a5' a6 a7) (flS S es (endE own es) us)) ∧
      On own es (n + j) (fun v => f v + if v = w then j else 0) ∧ es.length = es0.length + j := by
  have c1 := count_le w own
  have c2 := count_le w due
  have hj : ((due.count w : Int) - own.count w).toNat = j := by omega
  obtain ⟨ρ', S', e, a5', es, q1, q2, q3, q4⟩ := for_inv (s := c__law_follow_l3) (C := ctx P m) (ρ := flE own due S.length (some (.str w)) a5 a6 a7) (S := flS S es0 (endE own es0) us) (S1 := flS S es0 (endE own es0) us) (ds := [.int ((due.count w : Int) - own.count w)]) (xs := upTo 0 j) rfl (by simp [execs, exec.eq_1, exec.eq_2, exec.eq_3, exec.eq_4, exec.eq_5, exec.eq_6, exec.eq_7, exec.eq_8, exec.eq_9, exec.eq_10, exec.eq_13, exec.eq_14, exec.eq_15, exec.eq_16, exec.eq_17, ev.eq_1, ev.eq_2, ev.eq_3, ev.eq_4, ev.eq_5, ev.eq_6, ev.eq_7, ev.eq_8, ev.eq_9, ev.eq_10, ev.eq_11, ev.eq_12, ev.eq_13, ev.eq_14, ev.eq_15, ev.eq_16, ev.eq_17, ev.eq_18, ev.eq_19, ev.eq_20, ev.eq_21, ev.eq_24, ev.eq_25, ev.eq_26, ev.eq_27, evs, evT, evTs, bltD, intD, absD, pairUp, setAll, bindTo, tgK, walkT, pairK, wipeE])
    (by simp only [walkT, tgK, pairK, Bool.not_false, if_true]; rw [walk_range (by omega) (by omega), hj])
    (fun i ρ S1 => ∃ (a5' : Option D) (es : List En), ρ = flE own due S.length (some (.str w)) a5' a6 a7 ∧ S1 = flS S es (endE own es) us ∧ On own es (n + i) (fun v => f v + if v = w then i else 0) ∧ es.length = es0.length + i)
    ⟨a5, es0, rfl, rfl, ⟨h0.run, h0.shf, fun v => by rw [h0.cnt]; simp⟩, rfl⟩ (fun _ _ _ _ _ => by rw [walk_range (by omega) (by omega), hj]) (fun i d ρ S1 hd hI => by
      obtain ⟨a5', es, rfl, rfl, q3, q4⟩ := hI
      have hi : i < j := by
        have := (List.getElem?_eq_some_iff.mp hd).1
        rwa [upTo_len] at this
      have hsh := q3.shf.ln
      have hfl := List.length_filter_le (fun x => le x w) (endE own es)
      have ec : ∀ A C, ev (ctx P m) c__law_follow_e4 (flE own due S.length (some (.str w)) (some d) a6 a7) (S ++ [A, .lst ((endE own es).map .str), C]) = some (.ok (.lst (((endE own es).filter fun x => le x w).map .str)) (S ++ [A, .lst ((endE own es).map .str), C])) := fun A C =>
        comp_stay hm (getElem?_app S _ 1) (fun v hv => by have := (q3.shf.wk v hv).1; omega) (by have := hwk.1; omega) (by omega)
      have hx : ∀ A C, mtD (S ++ [A, .lst ((endE own es).map .str), C]) .lInsert (.ref (S.length + 1)) [.int (((endE own es).filter fun x => le x w).length : Nat), .str w] = some (.ok .non (S ++ [A, .lst ((ins w (endE own es)).map .str), C])) := fun A C => by
        rw [do_insert (getElem?_app S _ 1) (lt_line (by rw [List.length_map]; omega)) (by omega), set_app]
        simp [ins]
      have ll : es.length < line := lt_line (by omega)
      refine ⟨flE own due S.length (some (.str w)) (some d) a6 a7, flE own due S.length (some (.str w)) (some d) a6 a7, flS S (es ++ [En.put w]) (endE own (es ++ [En.put w])) us, rfl, ?_, some d, es ++ [En.put w], rfl, rfl, ⟨okR_snoc q3.run ⟨q3.shf.wk, by omega, hwk⟩, ?_, fun v => ?_⟩, by simp; omega⟩
      · rw [endE_snoc, show stE (endE own es) (En.put w) = ins w (endE own es) from rfl]
        simp [execs, exec.eq_1, exec.eq_2, exec.eq_3, exec.eq_4, exec.eq_5, exec.eq_6, exec.eq_7, exec.eq_8, exec.eq_9, exec.eq_10, exec.eq_13, exec.eq_14, exec.eq_15, exec.eq_16, exec.eq_17, ev.eq_1, ev.eq_2, ev.eq_3, ev.eq_4, ev.eq_5, ev.eq_6, ev.eq_7, ev.eq_8, ev.eq_9, ev.eq_10, ev.eq_11, ev.eq_12, ev.eq_13, ev.eq_14, ev.eq_15, ev.eq_16, ev.eq_17, ev.eq_18, ev.eq_19, ev.eq_20, ev.eq_21, ev.eq_24, ev.eq_25, ev.eq_26, ev.eq_27, evs, evT, evTs, bltD, intD, absD, pairUp, setAll, bindTo, tgK, walkT, pairK, wipeE, ec, hx, ll, enD]
      · rw [endE_snoc]
        exact (q3.shf.put hwk).mono (by omega)
      · rw [endE_snoc, show stE (endE own es) (En.put w) = ins w (endE own es) from rfl, (ins_sorted q3.shf.so).2, q3.cnt]
        by_cases e : v = w
        · subst e; simp; omega
        · simp [e])
  rw [upTo_len] at q3 q4
  subst q1 q2
  exact ⟨a5', es, e, q3, q4⟩
theorem below_en (k : Nat) : ∀ es : List En, belows k (es.map enD) = true
  | [] => rfl
  | e :: es => by
    have := below_en k es
    cases e <;> simp [enD, below, belows, this]
theorem follow_ok {m : Nat} (hm : 3 ≤ m) {own due : List Word} (h1 : Sorted own) (h2 : Sorted due) (w1 : Wks own) (w2 : Wks due) (hN : own.length + due.length < 60) (S : Store) :
    ∃ es : List En, okR own es ∧ endE own es = due ∧ es.length = dist own due ∧ (ctx P m).call "_law_follow" [W own, W due] S = some (.ok (.tup (es.map enD)) S) := by
  rw [call_fn (by omega) (clss_f _ (by decide) (by decide) (by decide)) fn__law_follow rfl]
  have hsh : Short (own ++ due) := fun w hw => by
    rcases List.mem_append.mp hw with h | h
    · have := (w1 w h).1; omega
    · have := (w2 w h).1; omega
  have e0 := unlike_ok (m := m - 1) (by omega) hsh (by rw [List.length_append]; omega) (S ++ [.lst [], .lst (own.map .str)])
  have hul := unl_len (own ++ due)
  rw [List.length_append] at hul
  have hun := unl_uni (own ++ due)
  have hum := unl_mem (own ++ due)
  have hd : dist own due = ((unl [] (own ++ due)).map (gap own due)).sum := rfl
  generalize unl [] (own ++ due) = us at *
  have la : own.length + due.length ≤ line := le_line (by omega)
  have gl : ∀ i, i ≤ us.length → ((us.take i).map (gap own due)).sum ≤ i * 60 := by
    intro i
    induction i with
    | zero => intro _; simp
    | succ i ih =>
      intro hi
      have := ih (by omega)
      rw [take_snoc (List.getElem?_eq_getElem (by omega)), List.map_append, List.sum_append, List.map_singleton, List.sum_singleton]
      have c1 := count_le us[i] own
      have c2 := count_le us[i] due
      have : gap own due us[i] ≤ 60 := by unfold gap; omega
      omega
  obtain ⟨ρ', S', e2, a4, a5, es, q1, q2, q3, q4⟩ := for_inv (s := c__law_follow_l1) (C := ctx P (m - 1)) (ρ := flE own due S.length none none none none) (S := S ++ [.lst [], .lst (own.map .str)]) (S1 := flS S [] own us) (ds := [.ref (S.length + 2)]) (xs := us.map .str) rfl
    (by simp [W] at e0; simp [execs, exec.eq_1, exec.eq_2, exec.eq_3, exec.eq_4, exec.eq_5, exec.eq_6, exec.eq_7, exec.eq_8, exec.eq_9, exec.eq_10, exec.eq_13, exec.eq_14, exec.eq_15, exec.eq_16, exec.eq_17, ev.eq_1, ev.eq_2, ev.eq_3, ev.eq_4, ev.eq_5, ev.eq_6, ev.eq_7, ev.eq_8, ev.eq_9, ev.eq_10, ev.eq_11, ev.eq_12, ev.eq_13, ev.eq_14, ev.eq_15, ev.eq_16, ev.eq_17, ev.eq_18, ev.eq_19, ev.eq_20, ev.eq_21, ev.eq_24, ev.eq_25, ev.eq_26, ev.eq_27, evs, evT, evTs, bltD, intD, absD, pairUp, setAll, bindTo, tgK, walkT, pairK, wipeE, e0, la]) (by simp only [walkT, tgK, pairK, Bool.not_false, if_true]; exact walk_ref (getElem?_app S _ 2))
    (fun i ρ S1 => ∃ (a4 a5 : Option D) (es : List En), ρ = flE own due S.length a4 a5 none none ∧ S1 = flS S es (endE own es) us ∧ On own es (own.length + due.length) (fun v => if v ∈ us.take i then due.count v else own.count v) ∧ es.length = ((us.take i).map (gap own due)).sum)
    ⟨none, none, [], rfl, rfl, ⟨fun i e he => by simp at he, ⟨h1, w1, by show own.length ≤ _; omega⟩, fun v => by simp [endE]⟩, by simp⟩ (fun i ρ S1 _ h => by obtain ⟨a4, a5, es, rfl, rfl, _⟩ := h; exact walk_ref (getElem?_app S _ 2)) (fun i d ρ S1 hd hI => by
      obtain ⟨a4, a5, es, rfl, rfl, q3, q4⟩ := hI
      obtain ⟨w, hw, rfl⟩ := strs_get hd
      have hi := (List.getElem?_eq_some_iff.mp hw).1
      have hwm : w ∈ us := List.mem_of_getElem? hw
      have hwn : w ∉ us.take i := fun z => by
        obtain ⟨k, hk, ek⟩ := List.mem_iff_getElem.mp z
        rw [List.length_take] at hk
        rw [List.getElem_take] at ek
        have hnd := hun.nodup
        have : us[i] = w := (List.getElem?_eq_some_iff.mp hw).2
        have := (List.getElem_inj (h₀ := (by omega : k < us.length)) (h₁ := hi) hnd).mp (ek.trans this.symm)
        omega
      have hwk : Wk w := (List.mem_append.mp ((hum w).mp hwm)).elim (w1 w) (w2 w)
      have g1 := gl i (by omega)
      have cc1 := count_le w own
      have cc2 := count_le w due
      have hf0 : (if w ∈ us.take i then due.count w else own.count w) = own.count w := if_neg hwn
      obtain ⟨b5, es1, x1, o1, n1⟩ := fl_take (m := m - 1) (by omega) (own := own) (due := due) (us := us) (S := S) (w := w) (j := own.count w - due.count w) hN q3 (by omega) (by omega) (by omega) rfl (by rw [hf0]; omega) a5 none none
      have hlen : (endE own es1).length + (due.count w - own.count w) ≤ own.length + due.length := by
        have := count_len (r := endE own es1 ++ List.replicate (due.count w - own.count w) w) (l := own ++ due) fun v => by
          rw [List.count_append, List.count_append, o1.cnt, List.count_replicate]
          by_cases e : v = w
          · subst e
            simp only [hf0, if_true, beq_self_eq_true]
            omega
          · have e2 : (w == v) = false := by simpa using fun z => e z.symm
            simp only [e, if_false, e2, Bool.false_eq_true]
            split <;> omega
        simpa using this
      have o1' : On own es1 (own.length + due.length - (due.count w - own.count w)) _ := ⟨o1.run, ⟨o1.shf.so, o1.shf.wk, by omega⟩, o1.cnt⟩
      obtain ⟨b5', es2, x2, o2, n2⟩ := fl_put (m := m - 1) (by omega) (own := own) (due := due) (us := us) (S := S) (w := w) (j := due.count w - own.count w) (by omega) o1' (by omega) (by omega) (by omega) hwk rfl b5 none none
      refine ⟨flE own due S.length (some (.str w)) a5 none none, flE own due S.length (some (.str w)) b5' none none, flS S es2 (endE own es2) us, rfl, ?_, some (.str w), b5', es2, rfl, rfl, ⟨o2.run, ⟨o2.shf.so, o2.shf.wk, by have := o2.shf.ln; omega⟩, fun v => ?_⟩, ?_⟩
      · rw [execs_nx x1, execs_nx x2]
        rfl
      · rw [o2.cnt, take_snoc hw]
        by_cases e : v = w
        · subst e
          simp only [hf0, if_true, List.mem_append, List.mem_singleton, or_true]
          omega
        · simp [e]
      · rw [take_snoc hw, List.map_append, List.sum_append, List.map_singleton, List.sum_singleton, ← q4]
        unfold gap
        omega)
  rw [List.length_map, List.take_length] at q3 q4
  subst q1 q2
  refine ⟨es, q3.run, sorted_eq q3.shf.so h2 fun v => ?_, by rw [q4, hd], ?_⟩
  · rw [q3.cnt]
    split
    · rfl
    · rename_i h
      rw [hum, List.mem_append] at h
      have a := List.count_eq_zero.mpr (fun z => h (.inl z))
      have b := List.count_eq_zero.mpr (fun z => h (.inr z))
      rw [a, b]
  · have ea : exec (ctx P (m - 1)) (.par [2, 3] [(.mk (.lst [])), (.mk (.callB .list [(.var 0)]))]) [some (W own), some (W due), none, none, none, none, none, none] S = some (.nx (flE own due S.length none none none none) (S ++ [.lst [], .lst (own.map .str)])) := by
      simp [execs, exec.eq_1, exec.eq_2, exec.eq_3, exec.eq_4, exec.eq_5, exec.eq_6, exec.eq_7, exec.eq_8, exec.eq_9, exec.eq_10, exec.eq_13, exec.eq_14, exec.eq_15, exec.eq_16, exec.eq_17, ev.eq_1, ev.eq_2, ev.eq_3, ev.eq_4, ev.eq_5, ev.eq_6, ev.eq_7, ev.eq_8, ev.eq_9, ev.eq_10, ev.eq_11, ev.eq_12, ev.eq_13, ev.eq_14, ev.eq_15, ev.eq_16, ev.eq_17, ev.eq_18, ev.eq_19, ev.eq_20, ev.eq_21, ev.eq_24, ev.eq_25, ev.eq_26, ev.eq_27, evs, evT, evTs, bltD, intD, absD, pairUp, setAll, bindTo, tgK, walkT, pairK, wipeE]
    have ez : exec (ctx P (m - 1)) (.ret (.callB .tuple [(.var 2)])) (flE own due S.length a4 a5 none none) (flS S es (endE own es) us) = some (.rt (.tup (es.map enD)) (flS S es (endE own es) us)) := by
      simp [execs, exec.eq_1, exec.eq_2, exec.eq_3, exec.eq_4, exec.eq_5, exec.eq_6, exec.eq_7, exec.eq_8, exec.eq_9, exec.eq_10, exec.eq_13, exec.eq_14, exec.eq_15, exec.eq_16, exec.eq_17, ev.eq_1, ev.eq_2, ev.eq_3, ev.eq_4, ev.eq_5, ev.eq_6, ev.eq_7, ev.eq_8, ev.eq_9, ev.eq_10, ev.eq_11, ev.eq_12, ev.eq_13, ev.eq_14, ev.eq_15, ev.eq_16, ev.eq_17, ev.eq_18, ev.eq_19, ev.eq_20, ev.eq_21, ev.eq_24, ev.eq_25, ev.eq_26, ev.eq_27, evs, evT, evTs, bltD, intD, absD, pairUp, setAll, bindTo, tgK, walkT, pairK, wipeE]
    have hb : c__law_follow.body = [(.par [2, 3] [(.mk (.lst [])), (.mk (.callB .list [(.var 0)]))]), c__law_follow_l1, (.ret (.callB .tuple [(.var 2)]))] := rfl
    rw [hb]
    show fin _ (execs _ _ [some (W own), some (W due), none, none, none, none, none, none] _) = _
    rw [execs_nx ea, execs_nx e2, execs_rt ez, fin_rt, trunc_app (d := .tup (es.map enD)) (below_en _ _)]
end K90
/-! Shelves whose copies come together. -/
namespace K90
open Rf Wd Rs
open PySem (Str PyData)

theorem Wk.ok {w : Word} (h : Wk w) : Ok w := ⟨by have := h.1; omega, h.2⟩
theorem rep_mach : RepOk machD 3 100 := ⟨_, rfl, by decide +kernel, by decide +kernel, by decide +kernel, by decide +kernel, by decide +kernel⟩
theorem rep_table : RepOk tableD 3 1000 := ⟨_, rfl, by decide +kernel, by decide +kernel, by decide +kernel, by decide +kernel, by decide +kernel⟩
theorem rep_upTo {k : Nat} : ∀ (n : Nat) (lo : Int), 0 ≤ lo → lo + n < 1000000000 → RepsOk (upTo lo n) k (n * 41)
  | 0, lo, _, _ => RepsOk.nil
  | n + 1, lo, h, h2 => by
    have e : upTo lo (n + 1) = .int lo :: upTo (lo + 1) n := by
      unfold upTo
      rw [List.range_succ_eq_map, List.map_cons, List.map_map]
      simp only [Int.natCast_zero, Int.add_zero, List.cons.injEq, true_and]
      refine List.map_congr_left fun i _ => ?_
      simp only [Function.comp, D.int.injEq]
      omega
    rw [e, show (n + 1) * 41 = 40 + 1 + n * 41 by omega]
    exact RepsOk.cons (RepOk.int (by omega)) (rep_upTo n (lo + 1) (by omega) (by omega))
theorem rep_plan {ws : List Word} (h : Wks ws) (hl : ws.length ≤ 60) : RepOk (planD ws) 5 30000 := by
  have hw : RepOk (W ws) 4 20000 := (RepsOk.words (k := 3) fun w hw => (h w hw).ok).tup.mono (Nat.le_refl _) (by have : ws.length * 331 ≤ 60 * 331 := Nat.mul_le_mul_right _ hl; omega)
  have e : RepOk (.tup []) 4 0 := (RepsOk.nil (k := 3)).tup
  have := (RepsOk.cons (rep_mach.mono (k' := 4) (by omega) (Nat.le_refl _)) (RepsOk.cons (rep_table.mono (k' := 4) (by omega) (Nat.le_refl _)) (RepsOk.cons e (RepsOk.cons (RepOk.non (n := 0)) (RepsOk.cons hw (RepsOk.nil (n := 0))))))).tup
  exact this.mono (Nat.le_refl _) (by omega)
theorem rep_answer {ws : List Word} {n : Nat} (h : Wks ws) (hl : ws.length ≤ 60) (hn : n ≤ 10000) : ∃ z, reprD [.tup [planD ws, .tup (upTo 1 n)]] = some (.str z) := by
  have e : RepOk (.tup (upTo 1 n)) 5 410000 := (rep_upTo (k := 4) n 1 (by omega) (by omega)).tup.mono (Nat.le_refl _) (by omega)
  exact (RepsOk.cons (rep_plan h hl) (RepsOk.cons e (RepsOk.nil (n := 0)))).tup.repr (by omega) (by omega)
def p4 : List D := [machD, tableD, .tup [], .non]
theorem slc_plan (S : Store) (ws : List Word) : slcD S (planD ws) none (some 4) = some (.tup p4) := rfl
theorem add_plan (S : Store) (ws : List Word) : opD S .Add (.tup p4) (.tup [W ws]) = some (planD ws) := by
  rw [add_tup (le_line (by simp [p4]))]
  rfl
abbrev cpD (es : List En) (st : List Word) : D := .tup [.tup (es.map enD), W st]
abbrev shE (base due : List Word) (h n : Nat) (ahead : Bool) (cps : D) (a8 a9 a10 a11 a12 a13 a14 a15 : Option D) : Env :=
  [some (.ref 1), some (.ref (h + 2)), some (W base), some (.bl ahead), some (planD base), some cps, some (W due), some (.ref (n + 2)), a8, a9, a10, a11, a12, a13, a14, a15]
def shB : List St := [(.expr (.meth (.var 7) "append" [(.bin .Add (.slc (.var 4) [] [(.cst (.int 4))]) (.tup [(.var 9)]))])), (.iff (.val (.cmp .NotEq (.callB .repr [(.callG "replayed" [(.tup [(.var 4), (.var 8)])])]) (.callB .repr [(.tup [(.idx (.var 7) (.neg (.cst (.int 1)))), (.tupR [(.cst (.int 1)), (.bin .Add (.callB .len [(.var 8)]) (.cst (.int 1)))])])]))) [(.ret (.cst (.bl false)))] [])]
theorem sh_step2 {m : Nat} (hm : 9 ≤ m) {base due : List Word} {h : Nat} {ahead : Bool} {cps : D} {T : Store} {es : List En} (ho : okR base es) (hl : es.length ≤ 1000) (hw : Wks (endE base es)) (hwl : (endE base es).length ≤ 60) {pls : List D} (hp : pls.length ≤ 10) (c : List Int) (t : Int) (a10 a11 a12 a13 a14 a15 : Option D) :
    execs (ctx P m) shB (shE base due h T.length ahead cps (some (.tup (es.map enD))) (some (W (endE base es))) a10 a11 a12 a13 a14 a15) (hs c t (T ++ [.lst pls])) =
      some (.nx (shE base due h T.length ahead cps (some (.tup (es.map enD))) (some (W (endE base es))) a10 a11 a12 a13 a14 a15) (hs c t (T ++ [.lst (pls ++ [planD (endE base es)])]))) := by
  have e1 := replayed_ok hm ho hl (hs c t (T ++ [.lst (pls ++ [planD (endE base es)])]))
  obtain ⟨z, ez⟩ := rep_answer (n := es.length) hw hwl (by omega)
  have ll : pls.length < line := lt_line (by omega)
  have hi : idxD (hs c t (T ++ [.lst (pls ++ [planD (endE base es)])])) (.ref (T.length + 2)) (.int (-1)) = some (planD (endE base es)) := idx_ref_last (by rw [hs_get2']; exact getElem?_app0 T _)
  have hr : ∀ S, walkOf S .range [.int 1, .int ((es.length : Int) + 1)] = some (upTo 1 es.length) := fun S => walk_r1 (by omega)
  have hul : (upTo 1 es.length).length ≤ line := le_line (by rw [upTo_len]; omega)
  have x1 : exec (ctx P m) (.expr (.meth (.var 7) "append" [(.bin .Add (.slc (.var 4) [] [(.cst (.int 4))]) (.tup [(.var 9)]))])) (shE base due h T.length ahead cps (some (.tup (es.map enD))) (some (W (endE base es))) a10 a11 a12 a13 a14 a15) (hs c t (T ++ [.lst pls])) =
      some (.nx (shE base due h T.length ahead cps (some (.tup (es.map enD))) (some (W (endE base es))) a10 a11 a12 a13 a14 a15) (hs c t (T ++ [.lst (pls ++ [planD (endE base es)])]))) := by
    simp -implicitDefEqProofs [execs, exec.eq_1, exec.eq_2, exec.eq_3, exec.eq_4, exec.eq_5, exec.eq_6, exec.eq_7, exec.eq_8, exec.eq_9, exec.eq_10, exec.eq_13, exec.eq_14, exec.eq_15, exec.eq_16, exec.eq_17, ev.eq_1, ev.eq_2, ev.eq_3, ev.eq_4, ev.eq_5, ev.eq_6, ev.eq_7, ev.eq_8, ev.eq_9, ev.eq_10, ev.eq_11, ev.eq_12, ev.eq_13, ev.eq_14, ev.eq_15, ev.eq_16, ev.eq_17, ev.eq_18, ev.eq_19, ev.eq_20, ev.eq_21, ev.eq_24, ev.eq_25, ev.eq_26, ev.eq_27, evs, evT, evTs, bltD, intD, absD, pairUp, setAll, bindTo, tgK, walkT, pairK, wipeE, slc_plan, add_plan, ll]
  have x2 : exec (ctx P m) (.iff (.val (.cmp .NotEq (.callB .repr [(.callG "replayed" [(.tup [(.var 4), (.var 8)])])]) (.callB .repr [(.tup [(.idx (.var 7) (.neg (.cst (.int 1)))), (.tupR [(.cst (.int 1)), (.bin .Add (.callB .len [(.var 8)]) (.cst (.int 1)))])])]))) [(.ret (.cst (.bl false)))] []) (shE base due h T.length ahead cps (some (.tup (es.map enD))) (some (W (endE base es))) a10 a11 a12 a13 a14 a15) (hs c t (T ++ [.lst (pls ++ [planD (endE base es)])])) =
      some (.nx (shE base due h T.length ahead cps (some (.tup (es.map enD))) (some (W (endE base es))) a10 a11 a12 a13 a14 a15) (hs c t (T ++ [.lst (pls ++ [planD (endE base es)])]))) := by
    generalize hs c t (T ++ [.lst (pls ++ [planD (endE base es)])]) = S2 at *
    simp -implicitDefEqProofs [execs, exec.eq_1, exec.eq_2, exec.eq_3, exec.eq_4, exec.eq_5, exec.eq_6, exec.eq_7, exec.eq_8, exec.eq_9, exec.eq_10, exec.eq_13, exec.eq_14, exec.eq_15, exec.eq_16, exec.eq_17, ev.eq_1, ev.eq_2, ev.eq_3, ev.eq_4, ev.eq_5, ev.eq_6, ev.eq_7, ev.eq_8, ev.eq_9, ev.eq_10, ev.eq_11, ev.eq_12, ev.eq_13, ev.eq_14, ev.eq_15, ev.eq_16, ev.eq_17, ev.eq_18, ev.eq_19, ev.eq_20, ev.eq_21, ev.eq_24, ev.eq_25, ev.eq_26, ev.eq_27, evs, evT, evTs, bltD, intD, absD, pairUp, setAll, bindTo, tgK, walkT, pairK, wipeE, e1, hi, hr, hul, ez]
  unfold shB
  rw [execs_nx x1, execs_nx x2]
  rfl
theorem sh_loop2 {m : Nat} (hm : 9 ≤ m) {base due : List Word} {h : Nat} {ahead : Bool} {T : Store} {es0 es1 : List En} (ho0 : okR base es0) (hl0 : es0.length ≤ 1000) (hw0 : Wks (endE base es0)) (hwl0 : (endE base es0).length ≤ 60) (ho1 : okR base es1) (hl1 : es1.length ≤ 1000) (hw1 : Wks (endE base es1)) (hwl1 : (endE base es1).length ≤ 60)
    (c : List Int) (t : Int) (a8 a9 a10 a11 a12 a13 a14 a15 : Option D) :
    ∃ a8' a9', exec (ctx P m) c__law_shelves_l2 (shE base due h T.length ahead (.lst [cpD es0 (endE base es0), cpD es1 (endE base es1)]) a8 a9 a10 a11 a12 a13 a14 a15) (hs c t (T ++ [.lst []])) =
      some (.nx (shE base due h T.length ahead (.lst [cpD es0 (endE base es0), cpD es1 (endE base es1)]) a8' a9' a10 a11 a12 a13 a14 a15) (hs c t (T ++ [.lst [planD (endE base es0), planD (endE base es1)]]))) := by
  obtain ⟨ρ', S', e, b8, b9, r1, r2⟩ := for_inv (s := c__law_shelves_l2) (C := ctx P m) (ρ := shE base due h T.length ahead (.lst [cpD es0 (endE base es0), cpD es1 (endE base es1)]) a8 a9 a10 a11 a12 a13 a14 a15) (S := hs c t (T ++ [.lst []])) (S1 := hs c t (T ++ [.lst []])) (ds := [.lst [cpD es0 (endE base es0), cpD es1 (endE base es1)]]) (xs := [cpD es0 (endE base es0), cpD es1 (endE base es1)]) rfl (by simp -implicitDefEqProofs [execs, exec.eq_1, exec.eq_2, exec.eq_3, exec.eq_4, exec.eq_5, exec.eq_6, exec.eq_7, exec.eq_8, exec.eq_9, exec.eq_10, exec.eq_13, exec.eq_14, exec.eq_15, exec.eq_16, exec.eq_17, ev.eq_1, ev.eq_2, ev.eq_3, ev.eq_4, ev.eq_5, ev.eq_6, ev.eq_7, ev.eq_8, ev.eq_9, ev.eq_10, ev.eq_11, ev.eq_12, ev.eq_13, ev.eq_14, ev.eq_15, ev.eq_16, ev.eq_17, ev.eq_18, ev.eq_19, ev.eq_20, ev.eq_21, ev.eq_24, ev.eq_25, ev.eq_26, ev.eq_27, evs, evT, evTs, bltD, intD, absD, pairUp, setAll, bindTo, tgK, walkT, pairK, wipeE]) rfl
    (fun i ρ S => ∃ a8 a9, ρ = shE base due h T.length ahead (.lst [cpD es0 (endE base es0), cpD es1 (endE base es1)]) a8 a9 a10 a11 a12 a13 a14 a15 ∧ S = hs c t (T ++ [.lst ([planD (endE base es0), planD (endE base es1)].take i)])) ⟨a8, a9, rfl, rfl⟩ (fun _ _ _ _ _ => rfl) (fun i d ρ S hd hI => by
      obtain ⟨a8, a9, rfl, rfl⟩ := hI
      match i, hd with
      | 0, hd => cases hd; exact ⟨_, _, _, rfl, sh_step2 hm ho0 hl0 hw0 hwl0 (pls := []) (by simp) c t a10 a11 a12 a13 a14 a15, _, _, rfl, rfl⟩
      | 1, hd => cases hd; exact ⟨_, _, _, rfl, sh_step2 hm ho1 hl1 hw1 hwl1 (pls := [planD (endE base es0)]) (by simp) c t a10 a11 a12 a13 a14 a15, _, _, rfl, rfl⟩)
  exact ⟨b8, b9, by rw [e, r1, r2]; rfl⟩
end K90
/-! Both copies come together. -/
namespace K90
open Rf Wd Rs
open PySem (Str PyData)

def sh1 : St := (.iff (.val (.cmp .NotEq (.callB .repr [(.callG "joined" [(.var 2), (.var 11), (.var 12)])]) (.callB .repr [(.var 6)]))) [(.ret (.cst (.bl false)))] [])
def sh2 : St := (.asg 13 (.callG "_law_follow" [(.var 11), (.var 6)]))
def sh3 : St := (.iff (.or (.val (.cmp .NotEq (.callB .repr [(.callG "fewest_runs" [(.var 11), (.var 6)])]) (.callB .repr [(.callB .len [(.var 13)])]))) (.val (.cmp .NotEq (.callB .repr [(.callG "fewest_runs" [(.var 6), (.var 11)])]) (.callB .repr [(.callB .len [(.var 13)])])))) [(.ret (.cst (.bl false)))] [])
def sh4 : St := (.iff (.val (.cmp .NotEq (.callB .repr [(.callG "replayed" [(.tup [(.idx (.var 7) (.var 10)), (.var 13)])])]) (.callB .repr [(.tup [(.bin .Add (.slc (.var 4) [] [(.cst (.int 4))]) (.tup [(.var 6)])), (.tupR [(.cst (.int 1)), (.bin .Add (.callB .len [(.var 13)]) (.cst (.int 1)))])])]))) [(.ret (.cst (.bl false)))] [])
def sh0 : St := (.par [11, 12] [(.idx (.idx (.var 5) (.var 10)) (.cst (.int 1))), (.idx (.idx (.var 5) (.bin .Sub (.cst (.int 1)) (.var 10))) (.cst (.int 1)))])
theorem sh_tail {m : Nat} (hm : 9 ≤ m) {base due own far : List Word} {h n : Nat} {ahead : Bool} {cps : D} {S2 : Store} {iD : D} (hj : J base own far = due) (sb : Small base) (so : Small own) (sf : Small far) (h1 : Sorted own) (h2 : Sorted due) (w1 : Wks own) (w2 : Wks due) (hN : own.length + due.length < 60)
    (hi : idxD S2 (.ref (n + 2)) iD = some (planD own)) (a8 a9 a13 a14 a15 : Option D) :
    ∃ a13', execs (ctx P m) [sh1, sh2, sh3, sh4] (shE base due h n ahead cps a8 a9 (some iD) (some (W own)) (some (W far)) a13 a14 a15) S2 = some (.nx (shE base due h n ahead cps a8 a9 (some iD) (some (W own)) (some (W far)) a13' a14 a15) S2) := by
  have ej := join_ok (m := m) (by omega) sb so sf S2
  rw [hj] at ej
  have sd : Small due := ⟨by omega, fun w hw => by have := (w2 w hw).1; omega⟩
  have dd : Dr 60 due := ⟨by omega, fun w hw => (w2 w hw).ok⟩
  obtain ⟨z, ez⟩ := dd.rep (by omega)
  obtain ⟨es, f1, f2, f3, f4⟩ := follow_ok (m := m) (by omega) h1 h2 w1 w2 hN S2
  have g1 := fewest_ok (m := m) (by omega) so sd S2
  have g2 := fewest_ok (m := m) (by omega) sd so S2
  rw [dist_comm due own] at g2
  have hdl := dist_le so sd
  rw [← f3] at g1 g2 hdl
  obtain ⟨y, ey⟩ := (RepOk.int (i := (es.length : Nat)) (k := 0) (by omega)).repr (by omega) (by omega)
  have hdist : es.length ≤ 1000 := by
    rw [f3]
    have hle : ∀ l : List Word, l.length ≤ 59 → (∀ w ∈ l, True) → (l.map (gap own due)).sum ≤ l.length * 16 + 0 ∨ True := fun _ _ _ => .inr trivial
    have hh := unl_len (own ++ due)
    rw [List.length_append] at hh
    have key : ∀ l : List Word, l.Nodup → (l.map (gap own due)).sum ≤ (l.map fun w => own.count w + due.count w).sum := by
      intro l _
      induction l with
      | nil => simp
      | cons w l ih =>
        have := ih (by rename_i hn; exact (List.nodup_cons.mp hn).2)
        have : gap own due w ≤ own.count w + due.count w := by unfold gap; omega
        simp only [List.map_cons, List.sum_cons]
        omega
    have k1 := key _ (unl_uni (own ++ due)).nodup
    have k2 : ∀ l : List Word, (l.map fun w => own.count w + due.count w).sum = (laid (fun w => own.count w + due.count w) l).length := by
      intro l
      induction l with
      | nil => simp [laid]
      | cons w l ih =>
        unfold laid at *
        rw [List.map_cons, List.sum_cons, List.flatMap_cons, List.length_append, List.length_replicate, ih]
    have k3 := count_len (r := laid (fun w => own.count w + due.count w) (unl [] (own ++ due))) (l := own ++ due) fun w => by
      rw [laid_count _ (unl_uni _).nodup, List.count_append]
      split <;> omega
    rw [List.length_append] at k3
    unfold dist
    rw [k2] at k1
    omega
  have er := replayed_ok (m := m) hm f1 hdist S2
  rw [f2] at er
  obtain ⟨x, ex⟩ := rep_answer (n := es.length) w2 (by omega) (by omega)
  have hr : ∀ S, walkOf S .range [.int 1, .int ((es.length : Int) + 1)] = some (upTo 1 es.length) := fun S => walk_r1 (by omega)
  have hul : (upTo 1 es.length).length ≤ line := le_line (by rw [upTo_len]; omega)
  refine ⟨some (.tup (es.map enD)), ?_⟩
  have x1 : exec (ctx P m) sh1 (shE base due h n ahead cps a8 a9 (some iD) (some (W own)) (some (W far)) a13 a14 a15) S2 = some (.nx (shE base due h n ahead cps a8 a9 (some iD) (some (W own)) (some (W far)) a13 a14 a15) S2) := by
    simp -implicitDefEqProofs [sh1, execs, exec.eq_1, exec.eq_2, exec.eq_3, exec.eq_4, exec.eq_5, exec.eq_6, exec.eq_7, exec.eq_8, exec.eq_9, exec.eq_10, exec.eq_13, exec.eq_14, exec.eq_15, exec.eq_16, exec.eq_17, ev.eq_1, ev.eq_2, ev.eq_3, ev.eq_4, ev.eq_5, ev.eq_6, ev.eq_7, ev.eq_8, ev.eq_9, ev.eq_10, ev.eq_11, ev.eq_12, ev.eq_13, ev.eq_14, ev.eq_15, ev.eq_16, ev.eq_17, ev.eq_18, ev.eq_19, ev.eq_20, ev.eq_21, ev.eq_24, ev.eq_25, ev.eq_26, ev.eq_27, evs, evT, evTs, bltD, intD, absD, pairUp, setAll, bindTo, tgK, walkT, pairK, wipeE, ej, ez]
  have x2 : exec (ctx P m) sh2 (shE base due h n ahead cps a8 a9 (some iD) (some (W own)) (some (W far)) a13 a14 a15) S2 = some (.nx (shE base due h n ahead cps a8 a9 (some iD) (some (W own)) (some (W far)) (some (.tup (es.map enD))) a14 a15) S2) := by
    simp -implicitDefEqProofs [sh2, execs, exec.eq_1, exec.eq_2, exec.eq_3, exec.eq_4, exec.eq_5, exec.eq_6, exec.eq_7, exec.eq_8, exec.eq_9, exec.eq_10, exec.eq_13, exec.eq_14, exec.eq_15, exec.eq_16, exec.eq_17, ev.eq_1, ev.eq_2, ev.eq_3, ev.eq_4, ev.eq_5, ev.eq_6, ev.eq_7, ev.eq_8, ev.eq_9, ev.eq_10, ev.eq_11, ev.eq_12, ev.eq_13, ev.eq_14, ev.eq_15, ev.eq_16, ev.eq_17, ev.eq_18, ev.eq_19, ev.eq_20, ev.eq_21, ev.eq_24, ev.eq_25, ev.eq_26, ev.eq_27, evs, evT, evTs, bltD, intD, absD, pairUp, setAll, bindTo, tgK, walkT, pairK, wipeE, f4]
  have x3 : exec (ctx P m) sh3 (shE base due h n ahead cps a8 a9 (some iD) (some (W own)) (some (W far)) (some (.tup (es.map enD))) a14 a15) S2 = some (.nx (shE base due h n ahead cps a8 a9 (some iD) (some (W own)) (some (W far)) (some (.tup (es.map enD))) a14 a15) S2) := by
    simp -implicitDefEqProofs [sh3, execs, exec.eq_1, exec.eq_2, exec.eq_3, exec.eq_4, exec.eq_5, exec.eq_6, exec.eq_7, exec.eq_8, exec.eq_9, exec.eq_10, exec.eq_13, exec.eq_14, exec.eq_15, exec.eq_16, exec.eq_17, ev.eq_1, ev.eq_2, ev.eq_3, ev.eq_4, ev.eq_5, ev.eq_6, ev.eq_7, ev.eq_8, ev.eq_9, ev.eq_10, ev.eq_11, ev.eq_12, ev.eq_13, ev.eq_14, ev.eq_15, ev.eq_16, ev.eq_17, ev.eq_18, ev.eq_19, ev.eq_20, ev.eq_21, ev.eq_24, ev.eq_25, ev.eq_26, ev.eq_27, evs, evT, evTs, bltD, intD, absD, pairUp, setAll, bindTo, tgK, walkT, pairK, wipeE, g1, g2, ey]
  have x4 : exec (ctx P m) sh4 (shE base due h n ahead cps a8 a9 (some iD) (some (W own)) (some (W far)) (some (.tup (es.map enD))) a14 a15) S2 = some (.nx (shE base due h n ahead cps a8 a9 (some iD) (some (W own)) (some (W far)) (some (.tup (es.map enD))) a14 a15) S2) := by
    simp -implicitDefEqProofs [sh4, execs, exec.eq_1, exec.eq_2, exec.eq_3, exec.eq_4, exec.eq_5, exec.eq_6, exec.eq_7, exec.eq_8, exec.eq_9, exec.eq_10, exec.eq_13, exec.eq_14, exec.eq_15, exec.eq_16, exec.eq_17, ev.eq_1, ev.eq_2, ev.eq_3, ev.eq_4, ev.eq_5, ev.eq_6, ev.eq_7, ev.eq_8, ev.eq_9, ev.eq_10, ev.eq_11, ev.eq_12, ev.eq_13, ev.eq_14, ev.eq_15, ev.eq_16, ev.eq_17, ev.eq_18, ev.eq_19, ev.eq_20, ev.eq_21, ev.eq_24, ev.eq_25, ev.eq_26, ev.eq_27, evs, evT, evTs, bltD, intD, absD, pairUp, setAll, bindTo, tgK, walkT, pairK, wipeE, hi, er, slc_plan, add_plan, hr, hul, ex]
  rw [execs_nx x1, execs_nx x2, execs_nx x3, execs_nx x4]
  rfl
theorem J_comm (x a b : List Word) : J x a b = J x b a := J_eq fun w => by unfold jf; omega
theorem sh_loop3 {m : Nat} (hm : 9 ≤ m) {base st0 st1 : List Word} {h : Nat} {ahead : Bool} {T : Store} {e0 e1 : List En} (sb : Small base) (k0 : Shf 18 st0) (k1 : Shf 18 st1) (c : List Int) (t : Int) (a8 a9 a10 a11 a12 a13 a14 a15 : Option D) :
    ∃ a10' a11' a12' a13', exec (ctx P m) c__law_shelves_l3 (shE base (J base st0 st1) h T.length ahead (.lst [cpD e0 st0, cpD e1 st1]) a8 a9 a10 a11 a12 a13 a14 a15) (hs c t (T ++ [.lst [planD st0, planD st1]])) =
      some (.nx (shE base (J base st0 st1) h T.length ahead (.lst [cpD e0 st0, cpD e1 st1]) a8 a9 a10' a11' a12' a13' a14 a15) (hs c t (T ++ [.lst [planD st0, planD st1]]))) := by
  have s0 : Small st0 := ⟨by have := k0.ln; omega, fun w hw => by have := (k0.wk w hw).1; omega⟩
  have s1 : Small st1 := ⟨by have := k1.ln; omega, fun w hw => by have := (k1.wk w hw).1; omega⟩
  have hd : Dr (18 + 18) (J base st0 st1) := J_dr ⟨k0.ln, fun w hw => (k0.wk w hw).ok⟩ ⟨k1.ln, fun w hw => (k1.wk w hw).ok⟩
  have hdw : Wks (J base st0 st1) := fun w hw => by
    have := List.count_pos_iff.mpr hw
    rw [(J_row base st0 st1).2] at this
    unfold jf at this
    have : 0 < st0.count w ∨ 0 < st1.count w := by omega
    rcases this with z | z
    · exact k0.wk w (List.count_pos_iff.mp z)
    · exact k1.wk w (List.count_pos_iff.mp z)
  have hds := (J_row base st0 st1).1
  have hln := hd.1
  have l0 := k0.ln
  have l1 := k1.ln
  have hc : (hs c t (T ++ [.lst [planD st0, planD st1]]))[T.length + 2]? = some (.lst [planD st0, planD st1]) := by rw [hs_get2']; exact getElem?_app0 T _
  have i0 : idxD (hs c t (T ++ [.lst [planD st0, planD st1]])) (.ref (T.length + 2)) (.int 0) = some (planD st0) := by rw [idx_ref0 hc]; rfl
  have i1 : idxD (hs c t (T ++ [.lst [planD st0, planD st1]])) (.ref (T.length + 2)) (.int 1) = some (planD st1) := by rw [idx_ref1 hc]; rfl
  generalize hs c t (T ++ [.lst [planD st0, planD st1]]) = S2 at *
  generalize hdue : J base st0 st1 = due at *
  obtain ⟨ρ', S', e, b10, b11, b12, b13, r1, r2⟩ := for_inv (s := c__law_shelves_l3) (C := ctx P m) (ρ := shE base due h T.length ahead (.lst [cpD e0 st0, cpD e1 st1]) a8 a9 a10 a11 a12 a13 a14 a15) (S := S2) (S1 := S2) (ds := [.int 2]) (xs := upTo 0 2) rfl (by simp [execs, exec.eq_1, exec.eq_2, exec.eq_3, exec.eq_4, exec.eq_5, exec.eq_6, exec.eq_7, exec.eq_8, exec.eq_9, exec.eq_10, exec.eq_13, exec.eq_14, exec.eq_15, exec.eq_16, exec.eq_17, ev.eq_1, ev.eq_2, ev.eq_3, ev.eq_4, ev.eq_5, ev.eq_6, ev.eq_7, ev.eq_8, ev.eq_9, ev.eq_10, ev.eq_11, ev.eq_12, ev.eq_13, ev.eq_14, ev.eq_15, ev.eq_16, ev.eq_17, ev.eq_18, ev.eq_19, ev.eq_20, ev.eq_21, ev.eq_24, ev.eq_25, ev.eq_26, ev.eq_27, evs, evT, evTs, bltD, intD, absD, pairUp, setAll, bindTo, tgK, walkT, pairK, wipeE]) (walkT_r (n := 2) (by omega))
    (fun i ρ S => ∃ a10 a11 a12 a13, ρ = shE base due h T.length ahead (.lst [cpD e0 st0, cpD e1 st1]) a8 a9 a10 a11 a12 a13 a14 a15 ∧ S = S2) ⟨a10, a11, a12, a13, rfl, rfl⟩ (fun _ _ _ _ _ => walk_r (n := 2) (by omega)) (fun i d ρ S hd hI => by
      obtain ⟨a10, a11, a12, a13, rfl, rfl⟩ := hI
      match i, hd with
      | 0, hd =>
        cases hd
        obtain ⟨a13', et⟩ := sh_tail (m := m) hm (base := base) (due := due) (own := st0) (far := st1) (h := h) (n := T.length) (ahead := ahead) (cps := .lst [cpD e0 st0, cpD e1 st1]) hdue sb s0 s1 k0.so hds k0.wk hdw (by omega) i0 a8 a9 a13 a14 a15
        have ep : exec (ctx P m) sh0 (shE base due h T.length ahead (.lst [cpD e0 st0, cpD e1 st1]) a8 a9 (some (.int 0)) a11 a12 a13 a14 a15) S = some (.nx (shE base due h T.length ahead (.lst [cpD e0 st0, cpD e1 st1]) a8 a9 (some (.int 0)) (some (W st0)) (some (W st1)) a13 a14 a15) S) := by
          simp -implicitDefEqProofs [sh0, execs, exec.eq_1, exec.eq_2, exec.eq_3, exec.eq_4, exec.eq_5, exec.eq_6, exec.eq_7, exec.eq_8, exec.eq_9, exec.eq_10, exec.eq_13, exec.eq_14, exec.eq_15, exec.eq_16, exec.eq_17, ev.eq_1, ev.eq_2, ev.eq_3, ev.eq_4, ev.eq_5, ev.eq_6, ev.eq_7, ev.eq_8, ev.eq_9, ev.eq_10, ev.eq_11, ev.eq_12, ev.eq_13, ev.eq_14, ev.eq_15, ev.eq_16, ev.eq_17, ev.eq_18, ev.eq_19, ev.eq_20, ev.eq_21, ev.eq_24, ev.eq_25, ev.eq_26, ev.eq_27, evs, evT, evTs, bltD, intD, absD, pairUp, setAll, bindTo, tgK, walkT, pairK, wipeE]
        exact ⟨_, _, _, rfl, (execs_nx ep).trans et, _, _, _, _, rfl, rfl⟩
      | 1, hd =>
        cases hd
        obtain ⟨a13', et⟩ := sh_tail (m := m) hm (base := base) (due := due) (own := st1) (far := st0) (h := h) (n := T.length) (ahead := ahead) (cps := .lst [cpD e0 st0, cpD e1 st1]) (by rw [J_comm]; exact hdue) sb s1 s0 k1.so hds k1.wk hdw (by omega) i1 a8 a9 a13 a14 a15
        have ep : exec (ctx P m) sh0 (shE base due h T.length ahead (.lst [cpD e0 st0, cpD e1 st1]) a8 a9 (some (.int 1)) a11 a12 a13 a14 a15) S = some (.nx (shE base due h T.length ahead (.lst [cpD e0 st0, cpD e1 st1]) a8 a9 (some (.int 1)) (some (W st1)) (some (W st0)) a13 a14 a15) S) := by
          simp -implicitDefEqProofs [sh0, execs, exec.eq_1, exec.eq_2, exec.eq_3, exec.eq_4, exec.eq_5, exec.eq_6, exec.eq_7, exec.eq_8, exec.eq_9, exec.eq_10, exec.eq_13, exec.eq_14, exec.eq_15, exec.eq_16, exec.eq_17, ev.eq_1, ev.eq_2, ev.eq_3, ev.eq_4, ev.eq_5, ev.eq_6, ev.eq_7, ev.eq_8, ev.eq_9, ev.eq_10, ev.eq_11, ev.eq_12, ev.eq_13, ev.eq_14, ev.eq_15, ev.eq_16, ev.eq_17, ev.eq_18, ev.eq_19, ev.eq_20, ev.eq_21, ev.eq_24, ev.eq_25, ev.eq_26, ev.eq_27, evs, evT, evTs, bltD, intD, absD, pairUp, setAll, bindTo, tgK, walkT, pairK, wipeE]
        exact ⟨_, _, _, rfl, (execs_nx ep).trans et, _, _, _, _, rfl, rfl⟩)
  subst r1 r2
  exact ⟨b10, b11, b12, b13, e⟩
end K90
/-! The shelves of the law. -/
namespace K90
open Rf Wd Rs
open PySem (Str PyData)

def sa1 : St := (.unp [2, 3] (.tup [(.callG "_law_in_order" [(.callG "_law_some" [(.var 0), (.var 1), (.callG "_law_one" [(.var 0), (.lst [(.cst (.int 0)), (.cst (.int 2)), (.cst (.int 5)), (.cst (.int 12))])])])]), (.cmp .Eq (.callG "_law_draw" [(.var 0), (.cst (.int 2))]) (.cst (.int 0)))]))
def sa2 : St := (.asg 4 (.tup [(.tup [(.cst (.int 3)), (.tup [(.tup [(.cst (.int 0)), (.cst (.int 0)), (.cst (.int 0))])]), (.tup [(.cst (.bl true))])]), (.callG "_law_table" []), (.tup []), (.cst .non), (.var 2)]))
def sa4 : St := (.par [6, 7] [(.callG "_law_joined" [(.var 2), (.idx (.idx (.var 5) (.cst (.int 0))) (.cst (.int 1))), (.idx (.idx (.var 5) (.cst (.int 1))) (.cst (.int 1)))]), (.mk (.lst []))])
theorem sh_copies {m : Nat} (hm : 5 ≤ m) {T : Store} {h : Nat} {ps : List Word} (hp : T[h]? = some (.lst (ps.map .str))) (hp1 : 1 ≤ ps.length) (hp2 : ps.length < 1000000) (hpo : Wks ps) {base : List Word} (hb : Shf 12 base) (ahead : Bool) (c : List Int) {t : Int} (h0 : 0 ≤ t) (ht : t < 900000000 - 1000) (pl : D) (r : List (Option D)) :
    ∃ (e0 e1 : List En) (c' : List Int) (t' : Int) (X : Store), (okR base e0 ∧ Shf 18 (endE base e0) ∧ e0.length ≤ 7) ∧ (okR base e1 ∧ Shf 18 (endE base e1) ∧ e1.length ≤ 7) ∧ t ≤ t' ∧ t' ≤ t + 30 ∧
      ev (ctx P m) c__law_shelves_e1 [some (.ref 1), some (.ref (h + 2)), some (W base), some (.bl ahead), some pl, none, none, none, none, none, none, none, none, none, none, none] (hs c t T) = some (.ok (.lst [cpD e0 (endE base e0), cpD e1 (endE base e1)]) (hs c' t' (T ++ X))) := by
  obtain ⟨acc, S', e, cs, c', t', X, r1, r2, r3, r4, r5, r6⟩ := comp_inv (s := c__law_shelves_e1) (C := ctx P m) (ρ := [some (.ref 1), some (.ref (h + 2)), some (W base), some (.bl ahead), some pl, none, none, none, none, none, none, none, none, none, none, none]) (S := hs c t T) (S1 := hs c t T) (ds := [.int 2]) (xs := upTo 0 2) rfl (by simp [execs, exec.eq_1, exec.eq_2, exec.eq_3, exec.eq_4, exec.eq_5, exec.eq_6, exec.eq_7, exec.eq_8, exec.eq_9, exec.eq_10, exec.eq_13, exec.eq_14, exec.eq_15, exec.eq_16, exec.eq_17, ev.eq_1, ev.eq_2, ev.eq_3, ev.eq_4, ev.eq_5, ev.eq_6, ev.eq_7, ev.eq_8, ev.eq_9, ev.eq_10, ev.eq_11, ev.eq_12, ev.eq_13, ev.eq_14, ev.eq_15, ev.eq_16, ev.eq_17, ev.eq_18, ev.eq_19, ev.eq_20, ev.eq_21, ev.eq_24, ev.eq_25, ev.eq_26, ev.eq_27, evs, evT, evTs, bltD, intD, absD, pairUp, setAll, bindTo, tgK, walkT, pairK, wipeE])
    (by simp) (by simp) (by simp) (walkT_r (n := 2) (by omega)) (fun i acc S => ∃ (cs : List (List En)) (c' : List Int) (t' : Int) (X : Store), acc = cs.map (fun es => cpD es (endE base es)) ∧ cs.length = i ∧ (∀ es ∈ cs, okR base es ∧ Shf 18 (endE base es) ∧ es.length ≤ 7) ∧ t ≤ t' ∧ t' ≤ t + 15 * i ∧ S = hs c' t' (T ++ X))
    ⟨[], c, t, [], rfl, rfl, fun _ h => (by cases h), by omega, by omega, by rw [List.append_nil]⟩ (fun _ _ _ _ _ => walk_r (n := 2) (by omega)) (fun i d acc S hd hI => by
      obtain ⟨cs, c', t', X, rfl, hx, ha, u1, u2, rfl⟩ := hI
      have hi : i < 2 := by
        have := (List.getElem?_eq_some_iff.mp hd).1
        rwa [upTo_len] at this
      obtain ⟨k, d1, k0, k1, e1⟩ := draw_ok (m := m) (by omega) (many := 7) (by omega) (by omega) c' (T ++ X) (t := t') (by omega) (by omega)
      obtain ⟨n, rfl⟩ : ∃ n : Nat, k = n := ⟨k.toNat, by omega⟩
      obtain ⟨es, c2, t2, Y, q1, q2, q3, q4, q5, e2⟩ := copy_ok (m := m) (by omega) (at_app (X := X) hp) hp1 hp2 hpo (n := 12) (many := n) hb (by omega) ahead d1 (t := t' + 1) (by omega) (by omega)
      refine ⟨_, cpD es (endE base es), hs c2 t2 (T ++ X ++ Y), rfl, ?_, by simpa using lt_line (by omega), cs ++ [es], c2, t2, X ++ Y, by simp, by simp [hx], fun y hy => ?_, by omega, by omega, by rw [List.append_assoc]⟩
      · simp -implicitDefEqProofs [execs, exec.eq_1, exec.eq_2, exec.eq_3, exec.eq_4, exec.eq_5, exec.eq_6, exec.eq_7, exec.eq_8, exec.eq_9, exec.eq_10, exec.eq_13, exec.eq_14, exec.eq_15, exec.eq_16, exec.eq_17, ev.eq_1, ev.eq_2, ev.eq_3, ev.eq_4, ev.eq_5, ev.eq_6, ev.eq_7, ev.eq_8, ev.eq_9, ev.eq_10, ev.eq_11, ev.eq_12, ev.eq_13, ev.eq_14, ev.eq_15, ev.eq_16, ev.eq_17, ev.eq_18, ev.eq_19, ev.eq_20, ev.eq_21, ev.eq_24, ev.eq_25, ev.eq_26, ev.eq_27, evs, evT, evTs, bltD, intD, absD, pairUp, setAll, bindTo, tgK, walkT, pairK, wipeE, e1, e2]
      · rcases List.mem_append.mp hy with h | h
        · exact ha y h
        · rw [List.mem_singleton.mp h]
          exact ⟨q1, q2.mono (by omega), by omega⟩)
  rw [upTo_len] at r2 r5
  subst r1 r6
  obtain ⟨e0, e1, rfl⟩ : ∃ p q, cs = [p, q] := by
    match cs, r2 with
    | [p, q], _ => exact ⟨p, q, rfl⟩
  exact ⟨e0, e1, c', t', X, r3 e0 (by simp), r3 e1 (by simp), r4, by omega, e⟩
theorem shelves_ok {m : Nat} (hm : 10 ≤ m) {T : Store} {h : Nat} {ps : List Word} (hp : T[h]? = some (.lst (ps.map .str))) (hp1 : 1 ≤ ps.length) (hp2 : ps.length < 1000000) (hpo : Wks ps) (c : List Int) {t : Int} (h0 : 0 ≤ t) (ht : t < 800000000) :
    ∃ (c' : List Int) (t' : Int) (X : Store), t < t' ∧ t' ≤ t + 100 ∧ (ctx P m).call "_law_shelves" [.ref 1, .ref (h + 2)] (hs c t T) = some (.ok (.bl true) (hs c' t' (T ++ X))) := by
  rw [call_fn (by omega) (clss_f _ (by decide) (by decide) (by decide)) fn__law_shelves rfl]
  obtain ⟨i, c1, hi, e1⟩ := ints_ok (m := m - 1) (by omega) (T := T) [0, 2, 5, 12] (by simp) (by simp) c h0 (by omega)
  obtain ⟨n, rfl⟩ : ∃ n : Nat, i = n := ⟨i.toNat, by simp at hi; omega⟩
  have hn : n ≤ 12 := by simp at hi; omega
  obtain ⟨xs, c2, t2, x1, x2, ta, tb, e2⟩ := some_ok (m := m - 1) (by omega) (most := n) (by omega) (T := T) ps (pool_at hp) hp1 (by omega) c1 (t := t + 1) (by omega) (by omega)
  have dx : Dr 12 xs := ⟨by omega, fun w hw => (hpo w (x2 w hw)).ok⟩
  have e3 := in_order_ok (m := m - 1) (by omega) (ws := xs) (dx.small (by omega)).2 (by omega) (hs c2 t2 T)
  change _ = some (Res.ok (W (O xs)) _) at e3
  have hO := O_dr dx
  have hb : Shf 12 (O xs) := ⟨(O_row xs).1, fun w hw => hpo w (x2 w (by
    have := List.count_pos_iff.mpr hw
    rw [(O_row xs).2] at this
    exact List.count_pos_iff.mp this)), hO.1⟩
  generalize O xs = base at *
  obtain ⟨k, c3, k0, k1, e4⟩ := draw_ok (m := m - 1) (by omega) (many := 2) (by omega) (by omega) c2 T (t := t2) (by omega) (by omega)
  obtain ⟨p0, p1, c4, t4, X, ⟨a1, a2, a3⟩, ⟨b1, b2, b3⟩, u1, u2, e5⟩ := sh_copies (m := m - 1) (by omega) hp hp1 hp2 hpo hb (decide (k = 0)) c3 (t := t2 + 1) (by omega) (by omega) (planD base) []
  have sb : Small base := hO.small (by omega)
  have s0 : Small (endE base p0) := ⟨by have := a2.ln; omega, fun w hw => by have := (a2.wk w hw).1; omega⟩
  have s1 : Small (endE base p1) := ⟨by have := b2.ln; omega, fun w hw => by have := (b2.wk w hw).1; omega⟩
  have e6 := lawjoined_ok (m := m - 1) (by omega) sb s0 s1 (hs c4 t4 (T ++ X))
  change _ = some (Res.ok (W (J base (endE base p0) (endE base p1))) _) at e6
  have n0 := a2.ln
  have n1 := b2.ln
  obtain ⟨a8, a9, e7⟩ := sh_loop2 (m := m - 1) (by omega) (base := base) (due := J base (endE base p0) (endE base p1)) (h := h) (ahead := decide (k = 0)) (T := T ++ X) a1 (by omega) a2.wk (by omega) b1 (by omega) b2.wk (by omega) c4 t4 none none none none none none none none
  obtain ⟨a10, a11, a12, a13, e8⟩ := sh_loop3 (m := m - 1) (by omega) (base := base) (h := h) (ahead := decide (k = 0)) (T := T ++ X) (e0 := p0) (e1 := p1) sb a2 b2 c4 t4 a8 a9 none none none none none none
  have f1 : exec (ctx P (m - 1)) sa1 [some (.ref 1), some (.ref (h + 2)), none, none, none, none, none, none, none, none, none, none, none, none, none, none] (hs c t T) =
      some (.nx [some (.ref 1), some (.ref (h + 2)), some (W base), some (.bl (decide (k = 0))), none, none, none, none, none, none, none, none, none, none, none, none] (hs c3 (t2 + 1) T)) := by
    simp only [List.map_cons, List.map_nil] at e1
    simp -implicitDefEqProofs [sa1, execs, exec.eq_1, exec.eq_2, exec.eq_3, exec.eq_4, exec.eq_5, exec.eq_6, exec.eq_7, exec.eq_8, exec.eq_9, exec.eq_10, exec.eq_13, exec.eq_14, exec.eq_15, exec.eq_16, exec.eq_17, ev.eq_1, ev.eq_2, ev.eq_3, ev.eq_4, ev.eq_5, ev.eq_6, ev.eq_7, ev.eq_8, ev.eq_9, ev.eq_10, ev.eq_11, ev.eq_12, ev.eq_13, ev.eq_14, ev.eq_15, ev.eq_16, ev.eq_17, ev.eq_18, ev.eq_19, ev.eq_20, ev.eq_21, ev.eq_24, ev.eq_25, ev.eq_26, ev.eq_27, evs, evT, evTs, bltD, intD, absD, pairUp, setAll, bindTo, tgK, walkT, pairK, wipeE, e1, e2, e3, e4]
  have f2 : exec (ctx P (m - 1)) sa2 [some (.ref 1), some (.ref (h + 2)), some (W base), some (.bl (decide (k = 0))), none, none, none, none, none, none, none, none, none, none, none, none] (hs c3 (t2 + 1) T) =
      some (.nx [some (.ref 1), some (.ref (h + 2)), some (W base), some (.bl (decide (k = 0))), some (planD base), none, none, none, none, none, none, none, none, none, none, none] (hs c3 (t2 + 1) T)) := by
    have et := table_ok (m := m - 1) (by omega) (hs c3 (t2 + 1) T)
    simp -implicitDefEqProofs [sa2, execs, exec.eq_1, exec.eq_2, exec.eq_3, exec.eq_4, exec.eq_5, exec.eq_6, exec.eq_7, exec.eq_8, exec.eq_9, exec.eq_10, exec.eq_13, exec.eq_14, exec.eq_15, exec.eq_16, exec.eq_17, ev.eq_1, ev.eq_2, ev.eq_3, ev.eq_4, ev.eq_5, ev.eq_6, ev.eq_7, ev.eq_8, ev.eq_9, ev.eq_10, ev.eq_11, ev.eq_12, ev.eq_13, ev.eq_14, ev.eq_15, ev.eq_16, ev.eq_17, ev.eq_18, ev.eq_19, ev.eq_20, ev.eq_21, ev.eq_24, ev.eq_25, ev.eq_26, ev.eq_27, evs, evT, evTs, bltD, intD, absD, pairUp, setAll, bindTo, tgK, walkT, pairK, wipeE, et, planD, machD]
  have f3 : exec (ctx P (m - 1)) (.asg 5 c__law_shelves_e1) [some (.ref 1), some (.ref (h + 2)), some (W base), some (.bl (decide (k = 0))), some (planD base), none, none, none, none, none, none, none, none, none, none, none] (hs c3 (t2 + 1) T) =
      some (.nx [some (.ref 1), some (.ref (h + 2)), some (W base), some (.bl (decide (k = 0))), some (planD base), some (.lst [cpD p0 (endE base p0), cpD p1 (endE base p1)]), none, none, none, none, none, none, none, none, none, none] (hs c4 t4 (T ++ X))) := by
    simp -implicitDefEqProofs [execs, exec.eq_1, exec.eq_2, exec.eq_3, exec.eq_4, exec.eq_5, exec.eq_6, exec.eq_7, exec.eq_8, exec.eq_9, exec.eq_10, exec.eq_13, exec.eq_14, exec.eq_15, exec.eq_16, exec.eq_17, ev.eq_1, ev.eq_2, ev.eq_3, ev.eq_4, ev.eq_5, ev.eq_6, ev.eq_7, ev.eq_8, ev.eq_9, ev.eq_10, ev.eq_11, ev.eq_12, ev.eq_13, ev.eq_14, ev.eq_15, ev.eq_16, ev.eq_17, ev.eq_18, ev.eq_19, ev.eq_20, ev.eq_21, ev.eq_24, ev.eq_25, ev.eq_26, ev.eq_27, evs, evT, evTs, bltD, intD, absD, pairUp, setAll, bindTo, tgK, walkT, pairK, wipeE, e5]
  have f4 : exec (ctx P (m - 1)) sa4 [some (.ref 1), some (.ref (h + 2)), some (W base), some (.bl (decide (k = 0))), some (planD base), some (.lst [cpD p0 (endE base p0), cpD p1 (endE base p1)]), none, none, none, none, none, none, none, none, none, none] (hs c4 t4 (T ++ X)) =
      some (.nx (shE base (J base (endE base p0) (endE base p1)) h (T ++ X).length (decide (k = 0)) (.lst [cpD p0 (endE base p0), cpD p1 (endE base p1)]) none none none none none none none none) (hs c4 t4 (T ++ X ++ [.lst []]))) := by
    simp -implicitDefEqProofs [sa4, execs, exec.eq_1, exec.eq_2, exec.eq_3, exec.eq_4, exec.eq_5, exec.eq_6, exec.eq_7, exec.eq_8, exec.eq_9, exec.eq_10, exec.eq_13, exec.eq_14, exec.eq_15, exec.eq_16, exec.eq_17, ev.eq_1, ev.eq_2, ev.eq_3, ev.eq_4, ev.eq_5, ev.eq_6, ev.eq_7, ev.eq_8, ev.eq_9, ev.eq_10, ev.eq_11, ev.eq_12, ev.eq_13, ev.eq_14, ev.eq_15, ev.eq_16, ev.eq_17, ev.eq_18, ev.eq_19, ev.eq_20, ev.eq_21, ev.eq_24, ev.eq_25, ev.eq_26, ev.eq_27, evs, evT, evTs, bltD, intD, absD, pairUp, setAll, bindTo, tgK, walkT, pairK, wipeE, e6]
  have f7 : exec (ctx P (m - 1)) (.ret (.cst (.bl true))) (shE base (J base (endE base p0) (endE base p1)) h (T ++ X).length (decide (k = 0)) (.lst [cpD p0 (endE base p0), cpD p1 (endE base p1)]) a8 a9 a10 a11 a12 a13 none none) (hs c4 t4 (T ++ X ++ [.lst [planD (endE base p0), planD (endE base p1)]])) = some (.rt (.bl true) (hs c4 t4 (T ++ X ++ [.lst [planD (endE base p0), planD (endE base p1)]]))) := by
    simp [execs, exec.eq_1, exec.eq_2, exec.eq_3, exec.eq_4, exec.eq_5, exec.eq_6, exec.eq_7, exec.eq_8, exec.eq_9, exec.eq_10, exec.eq_13, exec.eq_14, exec.eq_15, exec.eq_16, exec.eq_17, ev.eq_1, ev.eq_2, ev.eq_3, ev.eq_4, ev.eq_5, ev.eq_6, ev.eq_7, ev.eq_8, ev.eq_9, ev.eq_10, ev.eq_11, ev.eq_12, ev.eq_13, ev.eq_14, ev.eq_15, ev.eq_16, ev.eq_17, ev.eq_18, ev.eq_19, ev.eq_20, ev.eq_21, ev.eq_24, ev.eq_25, ev.eq_26, ev.eq_27, evs, evT, evTs, bltD, intD, absD, pairUp, setAll, bindTo, tgK, walkT, pairK, wipeE]
  have hbd : c__law_shelves.body = [sa1, sa2, (.asg 5 c__law_shelves_e1), sa4, c__law_shelves_l2, c__law_shelves_l3, (.ret (.cst (.bl true)))] := rfl
  refine ⟨c4, t4, X ++ [.lst [planD (endE base p0), planD (endE base p1)]], by omega, by omega, ?_⟩
  rw [hbd]
  show fin _ (execs _ _ [some (.ref 1), some (.ref (h + 2)), none, none, none, none, none, none, none, none, none, none, none, none, none, none] _) = _
  rw [execs_nx f1, execs_nx f2, execs_nx f3, execs_nx f4, execs_nx e7, execs_nx e8, execs_rt f7, fin_rt, hs_trunc (by omega), List.append_assoc]
end K90
/-! The law in the evaluator. -/
namespace K90
open Rf Wd Rs
open PySem (Str PyData)

theorem hand_ok {m : Nat} (hm : 1 ≤ m) (zs : List Int) : ∃ c, (ctx P m).call "_law_hand" [.lst (zs.map .int)] [] = some (.ok (.ref 1) (hs c 0 [])) := by
  rw [call_fn (by omega) (clss_f _ (by decide) (by decide) (by decide)) fn__law_hand rfl]
  have hsl : sliced (zs.map D.int) none (some (63 : Int)) = (zs.take 63).map .int := by
    rw [show (63 : Int) = ((63 : Nat) : Int) from rfl, sl_take, List.map_take]
  have e := comp_map (s := c__law_hand_e1) (C := ctx P (m - 1)) (ρ := [some (.lst (zs.map .int)), none, none]) (S := []) (S1 := []) (ds := [.lst ((zs.take 63).map .int)]) (xs := (zs.take 63).map .int) (fun d => match d with | .int i => .int (if 0 ≤ i then i * 2 else 1 - i * 2) | _ => .non) rfl (by simp [execs, exec.eq_1, exec.eq_2, exec.eq_3, exec.eq_4, exec.eq_5, exec.eq_6, exec.eq_7, exec.eq_8, exec.eq_9, exec.eq_10, exec.eq_13, exec.eq_14, exec.eq_15, exec.eq_16, exec.eq_17, ev.eq_1, ev.eq_2, ev.eq_3, ev.eq_4, ev.eq_5, ev.eq_6, ev.eq_7, ev.eq_8, ev.eq_9, ev.eq_10, ev.eq_11, ev.eq_12, ev.eq_13, ev.eq_14, ev.eq_15, ev.eq_16, ev.eq_17, ev.eq_18, ev.eq_19, ev.eq_20, ev.eq_21, ev.eq_24, ev.eq_25, ev.eq_26, ev.eq_27, evs, evT, evTs, bltD, intD, absD, pairUp, setAll, bindTo, tgK, walkT, pairK, wipeE, hsl]) (by simp) (by simp) (by simp) rfl (by rw [List.length_map, List.length_take]; exact le_line (by omega)) (fun d hd => by
    obtain ⟨i, hi, rfl⟩ := List.mem_map.mp hd
    have hm2 : ∀ S, opD S .Mult (.int i) (.int 2) = some (.int (i * 2)) := fun S => by
      simp only [opD, mulD]
      rw [if_pos (.inr ⟨by decide, by decide⟩)]
    refine ⟨_, rfl, ?_⟩
    by_cases h : 0 ≤ i
    · simp [execs, exec.eq_1, exec.eq_2, exec.eq_3, exec.eq_4, exec.eq_5, exec.eq_6, exec.eq_7, exec.eq_8, exec.eq_9, exec.eq_10, exec.eq_13, exec.eq_14, exec.eq_15, exec.eq_16, exec.eq_17, ev.eq_1, ev.eq_2, ev.eq_3, ev.eq_4, ev.eq_5, ev.eq_6, ev.eq_7, ev.eq_8, ev.eq_9, ev.eq_10, ev.eq_11, ev.eq_12, ev.eq_13, ev.eq_14, ev.eq_15, ev.eq_16, ev.eq_17, ev.eq_18, ev.eq_19, ev.eq_20, ev.eq_21, ev.eq_24, ev.eq_25, ev.eq_26, ev.eq_27, evs, evT, evTs, bltD, intD, absD, pairUp, setAll, bindTo, tgK, walkT, pairK, wipeE, h, hm2]
    · simp [execs, exec.eq_1, exec.eq_2, exec.eq_3, exec.eq_4, exec.eq_5, exec.eq_6, exec.eq_7, exec.eq_8, exec.eq_9, exec.eq_10, exec.eq_13, exec.eq_14, exec.eq_15, exec.eq_16, exec.eq_17, ev.eq_1, ev.eq_2, ev.eq_3, ev.eq_4, ev.eq_5, ev.eq_6, ev.eq_7, ev.eq_8, ev.eq_9, ev.eq_10, ev.eq_11, ev.eq_12, ev.eq_13, ev.eq_14, ev.eq_15, ev.eq_16, ev.eq_17, ev.eq_18, ev.eq_19, ev.eq_20, ev.eq_21, ev.eq_24, ev.eq_25, ev.eq_26, ev.eq_27, evs, evT, evTs, bltD, intD, absD, pairUp, setAll, bindTo, tgK, walkT, pairK, wipeE, h, hm2])
  have em : ((zs.take 63).map D.int).map (fun d => match d with | .int i => D.int (if 0 ≤ i then i * 2 else 1 - i * 2) | _ => .non) = ((zs.take 63).map fun i => if 0 ≤ i then i * 2 else 1 - i * 2).map .int := by
    rw [List.map_map, List.map_map]
    rfl
  rw [em] at e
  refine ⟨(zs.take 63).map fun i => if 0 ≤ i then i * 2 else 1 - i * 2, ?_⟩
  generalize ((zs.take 63).map fun i => if 0 ≤ i then i * 2 else 1 - i * 2) = c at *
  have hk : setK (setK [] kCells (.ref 0)) kTurn (.int 0) = [(kCells, .ref 0), (kTurn, .int 0)] := by rfl
  simp -implicitDefEqProofs [c__law_hand, execs, exec.eq_1, exec.eq_2, exec.eq_3, exec.eq_4, exec.eq_5, exec.eq_6, exec.eq_7, exec.eq_8, exec.eq_9, exec.eq_10, exec.eq_13, exec.eq_14, exec.eq_15, exec.eq_16, exec.eq_17, ev.eq_1, ev.eq_2, ev.eq_3, ev.eq_4, ev.eq_5, ev.eq_6, ev.eq_7, ev.eq_8, ev.eq_9, ev.eq_10, ev.eq_11, ev.eq_12, ev.eq_13, ev.eq_14, ev.eq_15, ev.eq_16, ev.eq_17, ev.eq_18, ev.eq_19, ev.eq_20, ev.eq_21, ev.eq_24, ev.eq_25, ev.eq_26, ev.eq_27, evs, evT, evTs, bltD, intD, absD, pairUp, setAll, bindTo, tgK, walkT, pairK, wipeE, e, hk]
  rw [trunc_keep (by rfl)]
  rfl
def lb2 : St := (.asg 4 (.callG "_law_some" [(.var 1), (.var 3), (.callG "_law_one" [(.var 1), (.lst [(.cst (.int 0)), (.cst (.int 3)), (.cst (.int 8)), (.cst (.int 20)), (.cst (.int 60))])])]))
def lb3 : St := (.par [5, 6] [(.callG "_law_changed" [(.var 1), (.slc (.var 4) [] [(.cst (.int 54))]), (.var 3)]), (.callG "_law_changed" [(.var 1), (.slc (.var 4) [] [(.cst (.int 54))]), (.var 3)])])
def lb4 : St := (.iff (.not (.val (.callG "_law_is_joined" [(.var 1), (.var 4), (.var 5), (.var 6)]))) [(.ret (.cst (.bl false)))] [])
def lb5 : St := (.asg 7 (.callG "_law_some" [(.var 1), (.var 3), (.callG "_law_one" [(.var 1), (.lst [(.cst (.int 3)), (.cst (.int 20)), (.cst (.int 60))])])]))
def lb6 : St := (.iff (.or (.not (.val (.callG "_law_is_joined" [(.var 1), (.var 4), (.var 5), (.var 7)]))) (.not (.val (.callG "_law_is_added" [(.var 1), (.var 3)])))) [(.ret (.cst (.bl false)))] [])
def lb7 : St := (.iff (.not (.val (.callG "_law_shelves" [(.var 1), (.callG "_law_pool" [(.var 1), (.cst (.int 150))])]))) [(.ret (.cst (.bl false)))] [])
theorem turn_ok {m : Nat} (hm : 11 ≤ m) (s : D) (a2 a3 a4 a5 a6 a7 a8 : Option D) (T : Store) (c : List Int) {t : Int} (h0 : 0 ≤ t) (ht : t < 700000000) :
    ∃ (a3' a4' a5' a6' a7' : Option D) (c' : List Int) (t' : Int) (X : Store), t ≤ t' ∧ t' ≤ t + 2000 ∧
      execs (ctx P m) [(.asg 3 (.callG "_law_pool" [(.var 1), (.cst (.int 320))])), lb2, lb3, lb4, lb5, lb6, lb7] [some s, some (.ref 1), a2, a3, a4, a5, a6, a7, a8] (hs c t T) =
        some (.nx [some s, some (.ref 1), a2, a3', a4', a5', a6', a7', a8] (hs c' t' (T ++ X))) := by
  obtain ⟨ps, c1, t1, p1, p2, p3, ta, tb, e1⟩ := pool_ok (m := m) (by omega) (most := 320) (by omega) (by omega) (T := T) c h0 (by omega)
  rw [show ((320 : Nat) : Int) = 320 from rfl] at e1
  have pok : ∀ w ∈ ps, Ok w := fun w hw => ⟨by have := (p3 w hw).1; omega, (p3 w hw).2⟩
  have hp : (T ++ [Cell.lst (ps.map .str)])[T.length]? = some (.lst (ps.map .str)) := getElem?_app0 T _
  obtain ⟨i, c2, hi, e2⟩ := ints_ok (m := m) (by omega) (T := T ++ [Cell.lst (ps.map .str)]) [0, 3, 8, 20, 60] (by simp) (by simp) c1 (t := t1) (by omega) (by omega)
  obtain ⟨n, rfl⟩ : ∃ n : Nat, i = n := ⟨i.toNat, by simp at hi; omega⟩
  have hn : n ≤ 60 := by simp at hi; omega
  obtain ⟨x, c3, t3, x1, x2, tc, td, e3⟩ := some_ok (m := m) (by omega) (most := n) (by omega) (T := T ++ [Cell.lst (ps.map .str)]) ps (pool_at hp) p1 (by omega) c2 (t := t1 + 1) (by omega) (by omega)
  have dx : Dr 60 x := ⟨by omega, fun w hw => pok w (x2 w hw)⟩
  obtain ⟨a, c4, t4, X1, y1, y2, te, tf, e4⟩ := changed_ok (m := m) (by omega) hp p1 (by omega) (x.take 54) (by rw [List.length_take]; omega) c3 (t := t3) (by omega) (by omega)
  have hp1 := at_app (X := X1) hp
  obtain ⟨b, c5, t5, X2, z1, z2, tg, th, e5⟩ := changed_ok (m := m) (by omega) hp1 p1 (by omega) (x.take 54) (by rw [List.length_take]; omega) c4 (t := t4) (by omega) (by omega)
  have hp2 := at_app (X := X2) hp1
  rw [List.length_take] at y1 z1
  have da : Dr 400 a := ⟨by omega, fun w hw => (y2 w hw).elim (fun h => dx.2 w (List.mem_of_mem_take h)) (pok w)⟩
  have db : Dr 400 b := ⟨by omega, fun w hw => (z2 w hw).elim (fun h => dx.2 w (List.mem_of_mem_take h)) (pok w)⟩
  have dx' : Dr 400 x := dx.mono (by omega)
  obtain ⟨c6, e6⟩ := isj_ok (m := m) (by omega) dx' da db (T := T ++ [Cell.lst (ps.map .str)] ++ X1 ++ X2) c5 (t := t5) (by omega) (by omega)
  obtain ⟨i2, c7, hi2, e7⟩ := ints_ok (m := m) (by omega) (T := T ++ [Cell.lst (ps.map .str)] ++ X1 ++ X2) [3, 20, 60] (by simp) (by simp) c6 (t := t5 + 5) (by omega) (by omega)
  obtain ⟨n2, rfl⟩ : ∃ n : Nat, i2 = n := ⟨i2.toNat, by simp at hi2; omega⟩
  have hn2 : n2 ≤ 60 := by simp at hi2; omega
  obtain ⟨f, c8, t8, f1, f2, ti, tj, e8⟩ := some_ok (m := m) (by omega) (most := n2) (by omega) (T := T ++ [Cell.lst (ps.map .str)] ++ X1 ++ X2) ps (pool_at hp2) p1 (by omega) c7 (t := t5 + 5 + 1) (by omega) (by omega)
  have df : Dr 400 f := ⟨by omega, fun w hw => pok w (f2 w hw)⟩
  obtain ⟨c9, e9⟩ := isj_ok (m := m) (by omega) dx' da df (T := T ++ [Cell.lst (ps.map .str)] ++ X1 ++ X2) c8 (t := t8) (by omega) (by omega)
  obtain ⟨c10, t10, tk, tl, e10⟩ := isa_ok (m := m) (by omega) hp2 p1 (by omega) pok c9 (t := t8 + 5) (by omega) (by omega)
  obtain ⟨qs, c11, t11, q1, q2, q3, tm, tn, e11⟩ := pool_ok (m := m) (by omega) (most := 150) (by omega) (by omega) (T := T ++ [Cell.lst (ps.map .str)] ++ X1 ++ X2) c10 (t := t10) (by omega) (by omega)
  rw [show ((150 : Nat) : Int) = 150 from rfl] at e11
  have hq : (T ++ [Cell.lst (ps.map .str)] ++ X1 ++ X2 ++ [Cell.lst (qs.map .str)])[(T ++ [Cell.lst (ps.map .str)] ++ X1 ++ X2).length]? = some (.lst (qs.map .str)) := getElem?_app0 _ _
  obtain ⟨c12, t12, X3, to_, tp, e12⟩ := shelves_ok (m := m) (by omega) hq q1 (by omega) (fun w hw => ⟨by have := (q3 w hw).1; omega, (q3 w hw).2⟩) c11 (t := t11) (by omega) (by omega)
  simp only [List.map_cons, List.map_nil] at e2 e7
  have hsl : sliced (x.map D.str) none (some (54 : Int)) = (x.take 54).map .str := by
    rw [show (54 : Int) = ((54 : Nat) : Int) from rfl, sl_take, List.map_take]
  generalize hT2 : T ++ [Cell.lst (ps.map .str)] ++ X1 ++ X2 = T2 at *
  have s1 : exec (ctx P m) (.asg 3 (.callG "_law_pool" [(.var 1), (.cst (.int 320))])) [some s, some (.ref 1), a2, a3, a4, a5, a6, a7, a8] (hs c t T) = some (.nx [some s, some (.ref 1), a2, some (.ref (T.length + 2)), a4, a5, a6, a7, a8] (hs c1 t1 (T ++ [Cell.lst (ps.map .str)]))) := by
    simp -implicitDefEqProofs [execs, exec.eq_1, exec.eq_2, exec.eq_3, exec.eq_4, exec.eq_5, exec.eq_6, exec.eq_7, exec.eq_8, exec.eq_9, exec.eq_10, exec.eq_13, exec.eq_14, exec.eq_15, exec.eq_16, exec.eq_17, ev.eq_1, ev.eq_2, ev.eq_3, ev.eq_4, ev.eq_5, ev.eq_6, ev.eq_7, ev.eq_8, ev.eq_9, ev.eq_10, ev.eq_11, ev.eq_12, ev.eq_13, ev.eq_14, ev.eq_15, ev.eq_16, ev.eq_17, ev.eq_18, ev.eq_19, ev.eq_20, ev.eq_21, ev.eq_24, ev.eq_25, ev.eq_26, ev.eq_27, evs, evT, evTs, bltD, intD, absD, pairUp, setAll, bindTo, tgK, walkT, pairK, wipeE, e1]
  have s2 : exec (ctx P m) lb2 [some s, some (.ref 1), a2, some (.ref (T.length + 2)), a4, a5, a6, a7, a8] (hs c1 t1 (T ++ [Cell.lst (ps.map .str)])) = some (.nx [some s, some (.ref 1), a2, some (.ref (T.length + 2)), some (W x), a5, a6, a7, a8] (hs c3 t3 (T ++ [Cell.lst (ps.map .str)]))) := by
    simp -implicitDefEqProofs [lb2, execs, exec.eq_1, exec.eq_2, exec.eq_3, exec.eq_4, exec.eq_5, exec.eq_6, exec.eq_7, exec.eq_8, exec.eq_9, exec.eq_10, exec.eq_13, exec.eq_14, exec.eq_15, exec.eq_16, exec.eq_17, ev.eq_1, ev.eq_2, ev.eq_3, ev.eq_4, ev.eq_5, ev.eq_6, ev.eq_7, ev.eq_8, ev.eq_9, ev.eq_10, ev.eq_11, ev.eq_12, ev.eq_13, ev.eq_14, ev.eq_15, ev.eq_16, ev.eq_17, ev.eq_18, ev.eq_19, ev.eq_20, ev.eq_21, ev.eq_24, ev.eq_25, ev.eq_26, ev.eq_27, evs, evT, evTs, bltD, intD, absD, pairUp, setAll, bindTo, tgK, walkT, pairK, wipeE, e2, e3]
  have s3 : exec (ctx P m) lb3 [some s, some (.ref 1), a2, some (.ref (T.length + 2)), some (W x), a5, a6, a7, a8] (hs c3 t3 (T ++ [Cell.lst (ps.map .str)])) = some (.nx [some s, some (.ref 1), a2, some (.ref (T.length + 2)), some (W x), some (W a), some (W b), a7, a8] (hs c5 t5 T2)) := by
    simp only [W, List.map_take, List.append_assoc, List.cons_append, List.nil_append] at e4 e5 hsl
    simp -implicitDefEqProofs [lb3, execs, exec.eq_1, exec.eq_2, exec.eq_3, exec.eq_4, exec.eq_5, exec.eq_6, exec.eq_7, exec.eq_8, exec.eq_9, exec.eq_10, exec.eq_13, exec.eq_14, exec.eq_15, exec.eq_16, exec.eq_17, ev.eq_1, ev.eq_2, ev.eq_3, ev.eq_4, ev.eq_5, ev.eq_6, ev.eq_7, ev.eq_8, ev.eq_9, ev.eq_10, ev.eq_11, ev.eq_12, ev.eq_13, ev.eq_14, ev.eq_15, ev.eq_16, ev.eq_17, ev.eq_18, ev.eq_19, ev.eq_20, ev.eq_21, ev.eq_24, ev.eq_25, ev.eq_26, ev.eq_27, evs, evT, evTs, bltD, intD, absD, pairUp, setAll, bindTo, tgK, walkT, pairK, wipeE, hsl, e4, e5]
  have s4 : exec (ctx P m) lb4 [some s, some (.ref 1), a2, some (.ref (T.length + 2)), some (W x), some (W a), some (W b), a7, a8] (hs c5 t5 T2) = some (.nx [some s, some (.ref 1), a2, some (.ref (T.length + 2)), some (W x), some (W a), some (W b), a7, a8] (hs c6 (t5 + 5) T2)) := by
    simp -implicitDefEqProofs [lb4, execs, exec.eq_1, exec.eq_2, exec.eq_3, exec.eq_4, exec.eq_5, exec.eq_6, exec.eq_7, exec.eq_8, exec.eq_9, exec.eq_10, exec.eq_13, exec.eq_14, exec.eq_15, exec.eq_16, exec.eq_17, ev.eq_1, ev.eq_2, ev.eq_3, ev.eq_4, ev.eq_5, ev.eq_6, ev.eq_7, ev.eq_8, ev.eq_9, ev.eq_10, ev.eq_11, ev.eq_12, ev.eq_13, ev.eq_14, ev.eq_15, ev.eq_16, ev.eq_17, ev.eq_18, ev.eq_19, ev.eq_20, ev.eq_21, ev.eq_24, ev.eq_25, ev.eq_26, ev.eq_27, evs, evT, evTs, bltD, intD, absD, pairUp, setAll, bindTo, tgK, walkT, pairK, wipeE, e6]
  have s5 : exec (ctx P m) lb5 [some s, some (.ref 1), a2, some (.ref (T.length + 2)), some (W x), some (W a), some (W b), a7, a8] (hs c6 (t5 + 5) T2) = some (.nx [some s, some (.ref 1), a2, some (.ref (T.length + 2)), some (W x), some (W a), some (W b), some (W f), a8] (hs c8 t8 T2)) := by
    simp -implicitDefEqProofs [lb5, execs, exec.eq_1, exec.eq_2, exec.eq_3, exec.eq_4, exec.eq_5, exec.eq_6, exec.eq_7, exec.eq_8, exec.eq_9, exec.eq_10, exec.eq_13, exec.eq_14, exec.eq_15, exec.eq_16, exec.eq_17, ev.eq_1, ev.eq_2, ev.eq_3, ev.eq_4, ev.eq_5, ev.eq_6, ev.eq_7, ev.eq_8, ev.eq_9, ev.eq_10, ev.eq_11, ev.eq_12, ev.eq_13, ev.eq_14, ev.eq_15, ev.eq_16, ev.eq_17, ev.eq_18, ev.eq_19, ev.eq_20, ev.eq_21, ev.eq_24, ev.eq_25, ev.eq_26, ev.eq_27, evs, evT, evTs, bltD, intD, absD, pairUp, setAll, bindTo, tgK, walkT, pairK, wipeE, e7, e8]
  have s6 : exec (ctx P m) lb6 [some s, some (.ref 1), a2, some (.ref (T.length + 2)), some (W x), some (W a), some (W b), some (W f), a8] (hs c8 t8 T2) = some (.nx [some s, some (.ref 1), a2, some (.ref (T.length + 2)), some (W x), some (W a), some (W b), some (W f), a8] (hs c10 t10 T2)) := by
    simp -implicitDefEqProofs [lb6, execs, exec.eq_1, exec.eq_2, exec.eq_3, exec.eq_4, exec.eq_5, exec.eq_6, exec.eq_7, exec.eq_8, exec.eq_9, exec.eq_10, exec.eq_13, exec.eq_14, exec.eq_15, exec.eq_16, exec.eq_17, ev.eq_1, ev.eq_2, ev.eq_3, ev.eq_4, ev.eq_5, ev.eq_6, ev.eq_7, ev.eq_8, ev.eq_9, ev.eq_10, ev.eq_11, ev.eq_12, ev.eq_13, ev.eq_14, ev.eq_15, ev.eq_16, ev.eq_17, ev.eq_18, ev.eq_19, ev.eq_20, ev.eq_21, ev.eq_24, ev.eq_25, ev.eq_26, ev.eq_27, evs, evT, evTs, bltD, intD, absD, pairUp, setAll, bindTo, tgK, walkT, pairK, wipeE, e9, e10]
  have s7 : exec (ctx P m) lb7 [some s, some (.ref 1), a2, some (.ref (T.length + 2)), some (W x), some (W a), some (W b), some (W f), a8] (hs c10 t10 T2) = some (.nx [some s, some (.ref 1), a2, some (.ref (T.length + 2)), some (W x), some (W a), some (W b), some (W f), a8] (hs c12 t12 (T2 ++ [.lst (qs.map .str)] ++ X3))) := by
    simp -implicitDefEqProofs [lb7, execs, exec.eq_1, exec.eq_2, exec.eq_3, exec.eq_4, exec.eq_5, exec.eq_6, exec.eq_7, exec.eq_8, exec.eq_9, exec.eq_10, exec.eq_13, exec.eq_14, exec.eq_15, exec.eq_16, exec.eq_17, ev.eq_1, ev.eq_2, ev.eq_3, ev.eq_4, ev.eq_5, ev.eq_6, ev.eq_7, ev.eq_8, ev.eq_9, ev.eq_10, ev.eq_11, ev.eq_12, ev.eq_13, ev.eq_14, ev.eq_15, ev.eq_16, ev.eq_17, ev.eq_18, ev.eq_19, ev.eq_20, ev.eq_21, ev.eq_24, ev.eq_25, ev.eq_26, ev.eq_27, evs, evT, evTs, bltD, intD, absD, pairUp, setAll, bindTo, tgK, walkT, pairK, wipeE, e11, e12]
  refine ⟨some (.ref (T.length + 2)), some (W x), some (W a), some (W b), some (W f), c12, t12, [Cell.lst (ps.map .str)] ++ X1 ++ X2 ++ [Cell.lst (qs.map .str)] ++ X3, by omega, by omega, ?_⟩
  rw [execs_nx s1, execs_nx s2, execs_nx s3, execs_nx s4, execs_nx s5, execs_nx s6, execs_nx s7, ← hT2]
  simp only [List.append_assoc]
  rfl
abbrev full : List Word := List.replicate 60 [98]
theorem small_rep (n x : Nat) (h : n ≤ 1000) : Small (List.replicate n [x]) := ⟨by simpa using h, fun w hw => by rw [List.eq_of_mem_replicate hw]; simp⟩
theorem law_ok {m : Nat} (hm : 11 ≤ m) (zs : List Int) : ∃ S', runFn (ctx P m) c_law [.lst (zs.map .int)] [] = some (.ok (.bl true) S') := by
  rw [runFn_fin rfl]
  obtain ⟨c, e1⟩ := hand_ok (m := m) (by omega) zs
  obtain ⟨ρ', S', e2, a2, a3, a4, a5, a6, a7, c', t', T, r1, r2, r3, r4⟩ := for_inv (s := c_law_l1) (C := ctx P m) (ρ := [some (.lst (zs.map .int)), some (.ref 1), none, none, none, none, none, none, none]) (S := hs c 0 []) (S1 := hs c 0 []) (ds := [.int 2]) (xs := upTo 0 2) rfl (by simp [execs, exec.eq_1, exec.eq_2, exec.eq_3, exec.eq_4, exec.eq_5, exec.eq_6, exec.eq_7, exec.eq_8, exec.eq_9, exec.eq_10, exec.eq_13, exec.eq_14, exec.eq_15, exec.eq_16, exec.eq_17, ev.eq_1, ev.eq_2, ev.eq_3, ev.eq_4, ev.eq_5, ev.eq_6, ev.eq_7, ev.eq_8, ev.eq_9, ev.eq_10, ev.eq_11, ev.eq_12, ev.eq_13, ev.eq_14, ev.eq_15, ev.eq_16, ev.eq_17, ev.eq_18, ev.eq_19, ev.eq_20, ev.eq_21, ev.eq_24, ev.eq_25, ev.eq_26, ev.eq_27, evs, evT, evTs, bltD, intD, absD, pairUp, setAll, bindTo, tgK, walkT, pairK, wipeE]) (walkT_r (n := 2) (by omega))
    (fun i ρ S => ∃ (a2 a3 a4 a5 a6 a7 : Option D) (c' : List Int) (t' : Int) (T : Store), ρ = [some (.lst (zs.map .int)), some (.ref 1), a2, a3, a4, a5, a6, a7, none] ∧ S = hs c' t' T ∧ 0 ≤ t' ∧ t' ≤ 2000 * i)
    ⟨none, none, none, none, none, none, c, 0, [], rfl, rfl, by omega, by omega⟩ (fun _ _ _ _ _ => walk_r (n := 2) (by omega)) (fun i d ρ S hd hI => by
      obtain ⟨a2, a3, a4, a5, a6, a7, c', t', T, rfl, rfl, r3, r4⟩ := hI
      have hi : i < 2 := by
        have := (List.getElem?_eq_some_iff.mp hd).1
        rwa [upTo_len] at this
      obtain ⟨b3, b4, b5, b6, b7, c2, t2, X, u1, u2, e⟩ := turn_ok hm (.lst (zs.map .int)) (some d) a3 a4 a5 a6 a7 none T c' r3 (by omega)
      exact ⟨_, _, _, rfl, e, some d, b3, b4, b5, b6, b7, c2, t2, T ++ X, rfl, rfl, by omega, by omega⟩)
  rw [upTo_len] at r4
  subst r1 r2
  have sf : Small full := small_rep 60 98 (by omega)
  have s0 : Small [] := ⟨by simp, fun _ h => by cases h⟩
  have sa : Small (List.replicate 60 [97]) := small_rep 60 97 (by omega)
  have sf9 : Small (full.take 59) := ⟨by simp, fun w hw => sf.2 w (List.mem_of_mem_take hw)⟩
  have f1 := join_ok (m := m) (by omega) s0 sf sf (hs c' t' T)
  rw [show J [] full full = List.replicate 120 [98] by decide +kernel] at f1
  have f2 := fewest_ok (m := m) (by omega) sf sa (hs c' t' T)
  rw [show dist full (List.replicate 60 [97]) = 120 by decide +kernel] at f2
  have f3 := join_ok (m := m) (by omega) sf s0 sf9 (hs c' t' T)
  rw [show J full [] (full.take 59) = [] by decide +kernel] at f3
  have f4 := fewest_ok (m := m) (by omega) s0 s0 (hs c' t' T)
  rw [show dist [] [] = 0 by decide +kernel] at f4
  have g6 : reprD [W []] = some (.str [40, 41]) := by decide +kernel
  have g7 : reprD [.int ((120 : Nat) : Int)] = some (.str [49, 50, 48]) := by decide +kernel
  have g8 : reprD [.int ((0 : Nat) : Int)] = some (.str [48]) := by decide +kernel
  obtain ⟨z, ez⟩ := (show Dr 120 (List.replicate 120 [98]) from ⟨by simp, fun w hw => by rw [List.eq_of_mem_replicate hw]; exact ⟨by decide, fun x hx => by rw [List.mem_singleton.mp hx]; omega⟩⟩).rep (by omega)
  have m1 : ∀ S, opD S .Mult (.tup [.str [98]]) (.int 60) = some (W full) := fun _ => rfl
  have m2 : ∀ S, opD S .Mult (W full) (.int 2) = some (W (List.replicate 120 [98])) := fun _ => rfl
  have m3 : ∀ S, opD S .Mult (.tup [.str [97]]) (.int 60) = some (W (List.replicate 60 [97])) := fun _ => rfl
  have m4 : ∀ S, slcD S (W full) none (some 59) = some (W (full.take 59)) := fun _ => rfl
  have n0 : D.tup [] = W [] := rfl
  have hbd : c_law.body = [(.asg 1 (.callG "_law_hand" [(.var 0)])), c_law_l1, (.asg 8 (.bin .Mult (.tup [(.cst (.str [98]))]) (.cst (.int 60)))),
    (.iff (.or (.val (.cmp .NotEq (.callB .repr [(.callG "joined" [(.tup []), (.var 8), (.var 8)])]) (.callB .repr [(.bin .Mult (.var 8) (.cst (.int 2)))]))) (.val (.cmp .NotEq (.callB .repr [(.callG "fewest_runs" [(.var 8), (.bin .Mult (.tup [(.cst (.str [97]))]) (.cst (.int 60)))])]) (.cst (.str [49, 50, 48]))))) [(.ret (.cst (.bl false)))] []),
    (.ret (.and (.cmp .Eq (.callB .repr [(.callG "joined" [(.var 8), (.tup []), (.slc (.var 8) [] [(.cst (.int 59))])])]) (.cst (.str [40, 41]))) (.cmp .Eq (.callB .repr [(.callG "fewest_runs" [(.tup []), (.tup [])])]) (.cst (.str [48])))))] := rfl
  have s1 : exec (ctx P m) (.asg 1 (.callG "_law_hand" [(.var 0)])) [some (.lst (zs.map .int)), none, none, none, none, none, none, none, none] [] = some (.nx [some (.lst (zs.map .int)), some (.ref 1), none, none, none, none, none, none, none] (hs c 0 [])) := by
    simp -implicitDefEqProofs [execs, exec.eq_1, exec.eq_2, exec.eq_3, exec.eq_4, exec.eq_5, exec.eq_6, exec.eq_7, exec.eq_8, exec.eq_9, exec.eq_10, exec.eq_13, exec.eq_14, exec.eq_15, exec.eq_16, exec.eq_17, ev.eq_1, ev.eq_2, ev.eq_3, ev.eq_4, ev.eq_5, ev.eq_6, ev.eq_7, ev.eq_8, ev.eq_9, ev.eq_10, ev.eq_11, ev.eq_12, ev.eq_13, ev.eq_14, ev.eq_15, ev.eq_16, ev.eq_17, ev.eq_18, ev.eq_19, ev.eq_20, ev.eq_21, ev.eq_24, ev.eq_25, ev.eq_26, ev.eq_27, evs, evT, evTs, bltD, intD, absD, pairUp, setAll, bindTo, tgK, walkT, pairK, wipeE, e1]
  generalize hs c' t' T = S2 at *
  generalize hW : W full = wf at *
  generalize hW2 : W (List.replicate 120 [98]) = wf2 at *
  generalize hW3 : W (List.replicate 60 [97]) = wf3 at *
  generalize hW4 : W (full.take 59) = wf4 at *
  have s3 : exec (ctx P m) (.asg 8 (.bin .Mult (.tup [(.cst (.str [98]))]) (.cst (.int 60)))) [some (.lst (zs.map .int)), some (.ref 1), a2, a3, a4, a5, a6, a7, none] S2 = some (.nx [some (.lst (zs.map .int)), some (.ref 1), a2, a3, a4, a5, a6, a7, some wf] S2) := by
    simp -implicitDefEqProofs [execs, exec.eq_1, exec.eq_2, exec.eq_3, exec.eq_4, exec.eq_5, exec.eq_6, exec.eq_7, exec.eq_8, exec.eq_9, exec.eq_10, exec.eq_13, exec.eq_14, exec.eq_15, exec.eq_16, exec.eq_17, ev.eq_1, ev.eq_2, ev.eq_3, ev.eq_4, ev.eq_5, ev.eq_6, ev.eq_7, ev.eq_8, ev.eq_9, ev.eq_10, ev.eq_11, ev.eq_12, ev.eq_13, ev.eq_14, ev.eq_15, ev.eq_16, ev.eq_17, ev.eq_18, ev.eq_19, ev.eq_20, ev.eq_21, ev.eq_24, ev.eq_25, ev.eq_26, ev.eq_27, evs, evT, evTs, bltD, intD, absD, pairUp, setAll, bindTo, tgK, walkT, pairK, wipeE, m1]
  have s4 : exec (ctx P m) (.iff (.or (.val (.cmp .NotEq (.callB .repr [(.callG "joined" [(.tup []), (.var 8), (.var 8)])]) (.callB .repr [(.bin .Mult (.var 8) (.cst (.int 2)))]))) (.val (.cmp .NotEq (.callB .repr [(.callG "fewest_runs" [(.var 8), (.bin .Mult (.tup [(.cst (.str [97]))]) (.cst (.int 60)))])]) (.cst (.str [49, 50, 48]))))) [(.ret (.cst (.bl false)))] [])
      [some (.lst (zs.map .int)), some (.ref 1), a2, a3, a4, a5, a6, a7, some wf] S2 = some (.nx [some (.lst (zs.map .int)), some (.ref 1), a2, a3, a4, a5, a6, a7, some wf] S2) := by
    simp [W] at f1 f2 g7
    simp -implicitDefEqProofs [execs, exec.eq_1, exec.eq_2, exec.eq_3, exec.eq_4, exec.eq_5, exec.eq_6, exec.eq_7, exec.eq_8, exec.eq_9, exec.eq_10, exec.eq_13, exec.eq_14, exec.eq_15, exec.eq_16, exec.eq_17, ev.eq_1, ev.eq_2, ev.eq_3, ev.eq_4, ev.eq_5, ev.eq_6, ev.eq_7, ev.eq_8, ev.eq_9, ev.eq_10, ev.eq_11, ev.eq_12, ev.eq_13, ev.eq_14, ev.eq_15, ev.eq_16, ev.eq_17, ev.eq_18, ev.eq_19, ev.eq_20, ev.eq_21, ev.eq_24, ev.eq_25, ev.eq_26, ev.eq_27, evs, evT, evTs, bltD, intD, absD, pairUp, setAll, bindTo, tgK, walkT, pairK, wipeE, f1, m2, ez, f2, m3, g7]
  have s5 : exec (ctx P m) (.ret (.and (.cmp .Eq (.callB .repr [(.callG "joined" [(.var 8), (.tup []), (.slc (.var 8) [] [(.cst (.int 59))])])]) (.cst (.str [40, 41]))) (.cmp .Eq (.callB .repr [(.callG "fewest_runs" [(.tup []), (.tup [])])]) (.cst (.str [48])))))
      [some (.lst (zs.map .int)), some (.ref 1), a2, a3, a4, a5, a6, a7, some wf] S2 = some (.rt (.bl true) S2) := by
    simp [W] at f3 f4 g6 g8
    simp -implicitDefEqProofs [execs, exec.eq_1, exec.eq_2, exec.eq_3, exec.eq_4, exec.eq_5, exec.eq_6, exec.eq_7, exec.eq_8, exec.eq_9, exec.eq_10, exec.eq_13, exec.eq_14, exec.eq_15, exec.eq_16, exec.eq_17, ev.eq_1, ev.eq_2, ev.eq_3, ev.eq_4, ev.eq_5, ev.eq_6, ev.eq_7, ev.eq_8, ev.eq_9, ev.eq_10, ev.eq_11, ev.eq_12, ev.eq_13, ev.eq_14, ev.eq_15, ev.eq_16, ev.eq_17, ev.eq_18, ev.eq_19, ev.eq_20, ev.eq_21, ev.eq_24, ev.eq_25, ev.eq_26, ev.eq_27, evs, evT, evTs, bltD, intD, absD, pairUp, setAll, bindTo, tgK, walkT, pairK, wipeE, f3, m4, g6, f4, g8]
  refine ⟨trunc [] (.bl true) S2, ?_⟩
  rw [hbd]
  show fin _ (execs _ _ [some (.lst (zs.map .int)), none, none, none, none, none, none, none, none] _) = _
  rw [execs_nx s1, execs_nx e2, execs_nx s3, execs_nx s4, execs_rt s5, fin_rt]
end K90
namespace K90
open Rf
theorem law_all (zs : List Int) : ∃ S', runFn (ctx pf.prog 20) c_law [.lst (zs.map .int)] [] = some (.ok (.bl true) S') := law_ok (m := 20) (by omega) zs
def lawE : FnE := { x := "law", m := none, name := "law", qual := "law", st := top 165 }
theorem lawE_mem : lawE ∈ pf.fns := List.mem_cons_self
theorem lawE_code : lawE.code = c_law := by kernel_rfl
end K90
open PySem PySem.W PySem.Calls PyProof.Rows
theorem PySem.Challenge.cw_sortedshelves_k90_whole_copies_joined_holds : PySem.Challenge.rw_sortedshelves_k90_whole_copies_joined.Holds := by
  w_on; o_law
  refine HandSHeadRun.head_any (r := OpenLaw.row PySem.Challenge.rw_sortedshelves_k90_whole_copies_joined) (q := view (OpenLaw.row PySem.Challenge.rw_sortedshelves_k90_whole_copies_joined).prog [165]) (H := K90.hk) (ob := K90.ob) (M := 20000) (loose := K90.loose) (d := HandSHeadRun.topDef (OpenLaw.row PySem.Challenge.rw_sortedshelves_k90_whole_copies_joined).prog 165) (kwd := []) K90.ob_eq
    (by kernel_rfl) (fun s => by kernel_rfl) K90.run (by kernel_rfl) (by kernel_rfl) (by kernel_rfl) (by rfl) (by first | assumption | decide +kernel) (by decide +kernel) ⟨rfl, rfl, rfl, rfl, rfl, by decide +kernel⟩ ?hw ?hc
  case hw => w_witness2
  case hc =>
    refine Rf.walk_rf (F := K90.pf) (l := PySem.Challenge.rw_sortedshelves_k90_whole_copies_joined) (nn := 63) (n := 20) (e := K90.lawE) (xs := "_law_script") rfl (by decide) (by kernel_rfl) ⟨rfl, by decide, by decide⟩ K90.text_ok ?he ?hx ?hp ?law
    case he => exact K90.lawE_mem
    case hx => kernel_rfl
    case hp => kernel_rfl
    case law =>
      intro zs _ _
      rw [K90.lawE_code]
      exact K90.law_all zs
