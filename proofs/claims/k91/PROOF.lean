import PyProof.Rows.All
import Wide.All
import OpenK.AllK
import Wide.FinOn
import KE.SortData
import KE.LtData
import HandS.ForMost
import HandS.ExcValue
import HandS.ExcInit
import HandS.TupAny
import HandS.TupMul
import HandS.Deep
import HandS.Style
import PyProof.Rows.InDataRows
import HandS.Flow
import HandS.Defaults
import HandS.MakeKwOnly
import HandS.TryOnly
import HandS.Comp
import HandS.Iter
import HandS.IsInst
import KE.KExcIs
import HandS.ExcIs
import HandS.ExcField
import HandS.HeadHook2
import HandS.Head0
import HandS.Head1
import HandS.Head2
import HandS.HeadEnd
import HandS.HeadHook1
import HandS.Words
import PySem.Challenge.RW_nearlay_k91_classes_of_refusals
set_option Elab.async false
set_option linter.all false
section
set_option maxRecDepth 100000
/-! Nl.Core: the small language: data, memory, expressions, statements, and what they come to. -/
namespace Nl
open PySem L2

/-- a dict's key: a number or a text, or a tuple of these -/
abbrev DK := Sum Key (List Key)

/-- a value: data all the way, or a thing that may be changed (ref), or a def (fn) -/
inductive D where
  | non | bl (b : Bool) | int (i : Int) | str (x : Str)
  | tup (ds : List D) | lst (ds : List D) | dct (kvs : List (DK × D))
  | ref (a : Nat) | fn (f : Nat)
  /-- an exception of the class c, a number as its field perhaps -/
  | exc (c : Nat) (fl : Option (Str × Int))
  deriving Inhabited

/-- a thing that may be changed -/
inductive MO where
  | lst (ds : List D) | dct (kvs : List (DK × D)) | ins (c : Nat) (fs : List (Str × D))
abbrev Mem := List MO
abbrev En := List (Option D)
def LIM : Nat := 1000000

/-! ### data -/
mutual
def toPy : D → PyData
  | .non => .none
  | .bl b => .bool b
  | .int i => .int i
  | .str x => .str x
  | .tup ds => .tuple (toPys ds)
  | .lst ds => .list (toPys ds)
  | .dct _ => .none
  | .ref _ => .none
  | .fn _ => .none
  | .exc _ _ => .none
def toPys : List D → List PyData
  | [] => []
  | d :: ds => toPy d :: toPys ds
end
/-- data without dicts, of so many levels -/
def goodN : Nat → D → Bool
  | _, .non => true
  | _, .bl _ => true
  | _, .int _ => true
  | _, .str x => PyData.strOk x
  | n + 1, .tup ds => ds.all (goodN n)
  | n + 1, .lst ds => ds.all (goodN n)
  | _, _ => false
def good (d : D) : Bool := goodN 50 d
/-- no thing that may be changed is in it -/
def pureN : Nat → D → Bool
  | _, .non => true
  | _, .bl _ => true
  | _, .int _ => true
  | _, .str _ => true
  | _, .fn _ => true
  | _, .exc _ _ => true
  | n + 1, .tup ds => ds.all (pureN n)
  | n + 1, .lst ds => ds.all (pureN n)
  | n + 1, .dct kvs => kvs.all fun kv => pureN n kv.2
  | _, _ => false
def pureD (d : D) : Bool := pureN 50 d

/-! ### keys -/
def key1 : D → Option Key
  | .int i => some (.inl i)
  | .str x => some (.inr x)
  | _ => none
def keys1 : List D → Option (List Key)
  | [] => some []
  | d :: ds => match key1 d with
    | some k => match keys1 ds with
      | some ks => some (k :: ks)
      | none => none
    | none => none
def keyD : D → Option DK
  | .int i => some (.inl (.inl i))
  | .str x => some (.inl (.inr x))
  | .tup ds => if ds.length = 0 ∨ 5 < ds.length then none else match keys1 ds with
    | some ks => some (.inr ks)
    | none => none
  | _ => none
def unkey1 : Key → D
  | .inl i => .int i
  | .inr x => .str x
def unkey : DK → D
  | .inl k => unkey1 k
  | .inr ks => .tup (ks.map unkey1)
def getK (kvs : List (DK × D)) (k : DK) : Option D := match kvs with
  | [] => none
  | (j, d) :: r => if j = k then some d else getK r k
def repK (kvs : List (DK × D)) (k : DK) (d : D) : List (DK × D) := match kvs with
  | [] => []
  | (j, x) :: r => (if j = k then (j, d) else (j, x)) :: repK r k d
def putK (kvs : List (DK × D)) (k : DK) (d : D) : List (DK × D) := match getK kvs k with
  | some _ => repK kvs k d
  | none => kvs ++ [(k, d)]
def isL : DK → Bool
  | .inl _ => true
  | .inr _ => false
/-- the key is of the dict's kind -/
def fitK (kvs : List (DK × D)) (k : DK) : Bool := kvs.all fun kv => isL kv.1 == isL k
def putAll (kvs : List (DK × D)) : List (DK × D) → Option (List (DK × D))
  | [] => some kvs
  | (k, d) :: r => if fitK kvs k && decide (kvs.length < LIM) then putAll (putK kvs k d) r else none

/-! ### reading -/
def asL (M : Mem) : D → Option (List D)
  | .lst ds => some ds
  | .ref a => match M[a]? with
    | some (.lst ds) => some ds
    | _ => none
  | _ => none
def asT : D → Option (List D)
  | .tup ds => some ds
  | _ => none
def asC (M : Mem) : D → Option (List (DK × D))
  | .dct kvs => some kvs
  | .ref a => match M[a]? with
    | some (.dct kvs) => some kvs
    | _ => none
  | _ => none
def asI (M : Mem) : D → Option (Nat × List (Str × D))
  | .ref a => match M[a]? with
    | some (.ins c fs) => some (c, fs)
    | _ => none
  | _ => none
/-- a list or a tuple -/
def asS (M : Mem) : D → Option (List D)
  | .tup ds => some ds
  | d => asL M d
def truthD (M : Mem) : D → Option Bool
  | .non => some false
  | .bl b => some b
  | .int i => some (i != 0)
  | .str x => if x.length ≤ LIM then some ((x.length : Int) != 0) else none
  | d => match asS M d with
    | some ds => some (!ds.isEmpty)
    | none => none
/-- as it is read now -/
def rd (M : Mem) : D → D
  | .ref a => match M[a]? with
    | some (.lst ds) => .lst ds
    | _ => .ref a
  | d => d

/-! ### operations -/
def eqD (M : Mem) (x y : D) : Option Bool :=
  match good (rd M x) && good (rd M y) with
  | true => some (PyData.eqv (toPy (rd M x)) (toPy (rd M y)))
  | false => match asL M x, asL M y with
    | some ds, some [] => some ds.isEmpty
    | _, _ => none
def isNon : D → Bool
  | .non => true
  | _ => false
def ltD (M : Mem) (x y : D) : Option Bool :=
  match x, y with
  | .int i, .int j => some (decide (i < j))
  | x, y => match good x && (good y && (PySem.W.alike (toPy x) (toPy y) && !isNon x)) with
    | true => some (PySem.W.dataLt (toPy x) (toPy y))
    | false => none
def inD (M : Mem) (x y : D) : Option Bool :=
  match asC M y with
  | some kvs => match keyD x with
    | some k => if fitK kvs k then some (getK kvs k).isSome else none
    | none => none
  | none => match asS M y with
    | some ds => if good x && ds.all good then some (ds.any fun d => PyData.eqv (toPy d) (toPy x)) else none
    | none => match x, y with
      | .str c, .str z => match c.cps.toList with
        | [c] => some (decide (c ∈ z.cps.toList))
        | _ => none
      | _, _ => none
def isD (x y : D) : Option Bool :=
  match y with
  | .non => some (isNon x)
  | .bl b => (match x with | .bl c => some (decide (c = b)) | _ => none)
  | _ => none
def bothI (f : Int → Int → Bool) : D → D → Option Bool
  | .int i, .int j => some (f i j)
  | _, _ => none
def cmpD (op : CmpOp) (M : Mem) (x y : D) : Option Bool :=
  match op with
  | .Eq => eqD M x y
  | .NotEq => (eqD M x y).map (!·)
  | .Lt => ltD M x y
  | .Gt => bothI (fun i j => decide (j < i)) x y
  | .LtE => bothI (fun i j => decide (i ≤ j)) x y
  | .GtE => bothI (fun i j => decide (j ≤ i)) x y
  | .In => inD M x y
  | .NotIn => (inD M x y).map (!·)
  | .Is => isD x y
  | .IsNot => (isD x y).map (!·)
/-- a new list, kept as data or as a thing that may be changed -/
def newL (mt : Bool) (ds : List D) (M : Mem) : D × Mem := match mt with
  | true => (.ref M.length, M ++ [.lst ds])
  | false => (.lst ds, M)
def newC (mt : Bool) (kvs : List (DK × D)) (M : Mem) : D × Mem := match mt with
  | true => (.ref M.length, M ++ [.dct kvs])
  | false => (.dct kvs, M)
def small64 (i : Int) : Bool := decide (-(2 ^ 64) < i) && decide (i < 2 ^ 64)
def binI (op : Operator) (i j : Int) : Option Int :=
  match op with
  | .Add => some (i + j)
  | .Sub => some (i - j)
  | .Mult => if small64 i || small64 j then some (i * j) else none
  | .FloorDiv => if j ≠ 0 ∧ j.natAbs < 1073741824 then some (i.fdiv j) else none
  | .Mod => if j ≠ 0 then some (i.fmod j) else none
  | .Pow => if 0 ≤ j ∧ j ≤ 1000000 ∧ i.natAbs < 2 ^ 64 then some (i ^ j.toNat) else none
  | .LShift => if 0 ≤ j ∧ j ≤ 1000000 ∧ i.natAbs < 2 ^ 64 then some (i * 2 ^ j.toNat) else none
  | .RShift => if 0 ≤ j then some (i / 2 ^ j.toNat) else none
  | .BitAnd => some (Builtin.bitAnd i j)
  | .BitOr => some (Builtin.bitOr i j)
  | .BitXor => some (Builtin.bitXor i j)
  | _ => none
def reps (k : Int) (ds : List D) : List D := (List.replicate k.toNat ds).flatten
def mulL (mt : Bool) (op : Operator) (x : D) (k : Int) (M : Mem) : Option (D × Mem) := match op with
  | .Mult => match asL M x with
    | some a => if k < LIM ∧ -LIM < k ∧ a.length * k.toNat ≤ LIM then some (newL mt (reps k a) M) else none
    | none => none
  | _ => none
def addL (mt : Bool) (op : Operator) (x y : D) (M : Mem) : Option (D × Mem) := match op with
  | .Add => match asL M x with
    | some a => match asL M y with
      | some b => if a.length + b.length ≤ LIM then some (newL mt (a ++ b) M) else none
      | none => none
    | none => none
  | _ => none
def binD (mt : Bool) (op : Operator) (x y : D) (M : Mem) : Option (D × Mem) :=
  match x, y with
  | .int i, .int j => match binI op i j with
    | some k => some (.int k, M)
    | none => none
  | .str a, .str b => match op with
    | .Add => if a.length + b.length ≤ LIM then some (.str (a ++ b), M) else none
    | _ => none
  | .tup a, .tup b => match op with
    | .Add => if a.length + b.length ≤ LIM then some (.tup (a ++ b), M) else none
    | _ => none
  | .tup a, .int k => match op with
    | .Mult => if k = 1 then some (.tup a, M) else if a ≠ [] ∧ 2 ≤ k ∧ k ≤ 1000 ∧ a.length ≤ 1000 then some (.tup (reps k a), M) else none
    | _ => none
  | x, .int k => mulL mt op x k M
  | x, y => addL mt op x y M
def cut {α : Type} (xs : List α) (lo hi : Option Int) : List α := (xs.drop (HT.sIx xs.length 0 lo)).take (HT.sIx xs.length xs.length hi - HT.sIx xs.length 0 lo)
def subD (M : Mem) (x i : D) : Option D :=
  match asC M x with
  | some kvs => match keyD i with
    | some k => if fitK kvs k then getK kvs k else none
    | none => none
  | none => match i with
    | .int j => match asS M x with
      | some ds => atI ds j
      | none => match x with
        | .str z => if z.length ≤ LIM then (match atI z.cps.toList j with | some c => some (.str ⟨#[c]⟩) | none => none) else none
        | _ => none
    | _ => none
def optI : Option D → Option (Option Int)
  | none => some none
  | some (.int i) => some (some i)
  | some _ => none
def slcD (mt : Bool) (M : Mem) (x : D) (lo hi : Option Int) : Option (D × Mem) :=
  match x with
  | .tup ds => some (.tup (cut ds lo hi), M)
  | x => match asL M x with
    | some ds => some (newL mt (cut ds lo hi) M)
    | none => none

/-! ### built-ins -/
inductive Ty where
  | int | bool | str | tuple | list | dict | cls (c : Nat)
  deriving DecidableEq
def isT (M : Mem) : Ty → D → Option Bool
  | .int, .int _ => some true
  | .int, .bl _ => some true
  | .bool, .bl _ => some true
  | .str, .str _ => some true
  | .tuple, .tup _ => some true
  | .list, .lst _ => some true
  | .dict, .dct _ => some true
  | t, .ref a => match M[a]? with
    | some (.lst _) => some (decide (t = .list))
    | some (.dct _) => some (decide (t = .dict))
    | some (.ins c _) => some (decide (t = .cls c))
    | none => none
  | _, .fn _ => none
  | _, .exc _ _ => none
  | _, _ => some false
inductive Bf where
  | isT (t : Ty) | len | int | tuple | list | dict | sum | min | max | maxD | min2 | max2 | sorted | all | any | lenSet | sortSet | isX (yes no : List Nat) | listS | maxI | minI
  deriving DecidableEq
def intsD : List D → Option (List Int)
  | [] => some []
  | .int i :: r => match intsD r with
    | some ns => some (i :: ns)
    | none => none
  | _ => none
def blsD : List D → Option (List Bool)
  | [] => some []
  | .bl i :: r => match blsD r with
    | some ns => some (i :: ns)
    | none => none
  | _ => none
def pyLe (a b : D) : Bool := !PySem.W.dataLt (toPy b) (toPy a)
def alikeD (x y : D) : Bool := PySem.W.alike (toPy x) (toPy y)
def nonNil : D → Bool
  | .tup [] => false
  | .non => false
  | _ => true
def isTup : D → Bool
  | .tup _ => true
  | _ => false
/-- all can be compared with one another -/
def sortable (ds : List D) : Bool := ds.all good && (ds.all nonNil && ((ds.all isTup || ds.all fun d => !isTup d) && (ds.all fun d => ds.all fun e => alikeD d e)))
def sortD (ds : List D) : Option (List D) := if sortable ds && decide (ds.length ≤ LIM) then some (ds.mergeSort pyLe) else none
def eqd (a b : D) : Bool := PyData.eqv (toPy a) (toPy b)
/-- each once, as it is first met -/
def onceD : List D → List D → List D
  | seen, [] => seen
  | seen, d :: r => if seen.any (eqd d) then onceD seen r else onceD (seen ++ [d]) r
def maxD : D → List D → D
  | d, [] => d
  | d, e :: r => if PySem.W.dataLt (toPy d) (toPy e) then maxD e r else maxD d r
def minD : D → List D → D
  | d, [] => d
  | d, e :: r => if PySem.W.dataLt (toPy e) (toPy d) then minD e r else minD d r
def pairsD : List D → Option (List (DK × D))
  | [] => some []
  | .tup [k, v] :: r => match keyD k with
    | some k => match pairsD r with
      | some l => some ((k, v) :: l)
      | none => none
    | none => none
  | _ => none
def bifD (mt : Bool) (b : Bf) (args : List D) (M : Mem) : Option (D × Mem) :=
  match b, args with
  | .isT t, [x] => match isT M t x with
    | some b => some (.bl b, M)
    | none => none
  | .len, [x] => match asS M x with
    | some ds => some (.int ds.length, M)
    | none => match x with
      | .str z => if z.length ≤ LIM then some (.int z.length, M) else none
      | _ => none
  | .int, [.int i] => some (.int i, M)
  | .int, [.bl b] => some (.int (if b then 1 else 0), M)
  | .tuple, [x] => match asS M x with
    | some ds => some (.tup ds, M)
    | none => none
  | .list, [x] => match asS M x with
    | some ds => some (newL mt ds M)
    | none => match asC M x with
      | some kvs => some (newL mt (kvs.map fun kv => unkey kv.1) M)
      | none => none
  | .dict, [x] => match asC M x with
    | some kvs => some (newC mt kvs M)
    | none => match asS M x with
      | some ds => match pairsD ds with
        | some l => match putAll [] l with
          | some kvs => some (newC mt kvs M)
          | none => none
        | none => none
      | none => none
  | .dict, [x, y] => match asS M x with
    | some xs => match asS M y with
      | some ys => match pairsD ((xs.zip ys).map fun p => .tup [p.1, p.2]) with
        | some l => match putAll [] l with
          | some kvs => some (newC mt kvs M)
          | none => none
        | none => none
      | none => none
    | none => none
  | .sum, [x] => match asL M x with
    | some ds => match intsD ds with
      | some ns => some (.int ns.sum, M)
      | none => none
    | none => none
  | .all, [x] => match asL M x with
    | some ds => match blsD ds with
      | some bs => some (.bl (bs.all id), M)
      | none => none
    | none => none
  | .any, [x] => match asL M x with
    | some ds => match blsD ds with
      | some bs => some (.bl (bs.any id), M)
      | none => none
    | none => none
  | .max2, [.int i, .int j] => some (.int (if j > i then j else i), M)
  | .min2, [.int i, .int j] => some (.int (if j < i then j else i), M)
  | .max2, [x, y] => if sortable [x, y] then some (maxD x [y], M) else none
  | .max, [x] => match asL M x with
    | some (d :: ds) => if sortable (d :: ds) then some (maxD d ds, M) else none
    | _ => none
  | .min, [x] => match asL M x with
    | some (d :: ds) => if sortable (d :: ds) then some (minD d ds, M) else none
    | _ => none
  | .maxD, [x, y] => match asL M x with
    | some [] => some (y, M)
    | some (d :: ds) => if sortable (d :: ds) then some (maxD d ds, M) else none
    | none => none
  | .sorted, [x] => match asL M x with
    | some ds => match sortD ds with
      | some r => some (newL mt r M)
      | none => none
    | none => match asC M x with
      | some kvs => match sortD (kvs.map fun kv => unkey kv.1) with
        | some r => some (newL mt r M)
        | none => none
      | none => none
  | .sortSet, [x] => match asS M x with
    | some ds => if ds.all fun d => (keyD d).isSome then match sortD (onceD [] ds) with
      | some r => some (newL mt r M)
      | none => none else none
    | none => none
  | .lenSet, [x] => match asS M x with
    | some ds => if (ds.all fun d => (keyD d).isSome) && decide (ds.length ≤ LIM) then some (.int (onceD [] ds).length, M) else none
    | none => none
  | .listS, [x] => match asS M x with
    | some ds => some (newL mt ds M)
    | none => none
  | .maxI, [.int i, .int j] => some (.int (if j > i then j else i), M)
  | .minI, [.int i, .int j] => some (.int (if j < i then j else i), M)
  | .isX yes no, [.exc c _] => if yes.contains c then some (.bl true, M) else if no.contains c then some (.bl false, M) else none
  | _, _ => none

/-- list 1, dict 2, instance 3, text 4, any other 0 -/
def kindD (M : Mem) : D → Nat
  | .lst _ => 1
  | .dct _ => 2
  | .str _ => 4
  | .ref a => match M[a]? with
    | some (.lst _) => 1
    | some (.dct _) => 2
    | some (.ins _ _) => 3
    | none => 0
  | _ => 0
/-! ### methods of built-in types -/
def setM (M : Mem) (a : Nat) (o : MO) : Mem := M.set a o
def eraseFirst (x : D) : List D → Option (List D)
  | [] => none
  | d :: r => if eqd d x then some r else match eraseFirst x r with
    | some r' => some (d :: r')
    | none => none
def indexD (x : D) : Nat → List D → Option Nat
  | _, [] => none
  | n, d :: r => if eqd d x then some n else indexD x (n + 1) r
def lmtD (m : Str) (a : Nat) (ds : List D) (args : List D) (M : Mem) : Option (D × Mem) :=
  if m = "append" then match args with
    | [x] => if ds.length < LIM then some (.non, M.set a (.lst (ds ++ [x]))) else none
    | _ => none
  else if m = "extend" then match args with
    | [x] => match asL M x with
      | some es => if ds.length + es.length ≤ LIM then some (.non, M.set a (.lst (ds ++ es))) else none
      | none => none
    | _ => none
  else if m = "pop" then match args with
    | [] => match ds.getLast? with
      | some d => some (d, M.set a (.lst ds.dropLast))
      | none => none
    | [.int i] => match ixN ds.length i with
      | some j => match ds[j]? with
        | some d => some (d, M.set a (.lst (ds.eraseIdx j)))
        | none => none
      | none => none
    | _ => none
  else if m = "remove" then match args with
    | [x] => if good x && ds.all good then match eraseFirst x ds with
      | some r => some (.non, M.set a (.lst r))
      | none => none else none
    | _ => none
  else none
def cmtD (m : Str) (x : D) (kvs : List (DK × D)) (args : List D) (M : Mem) : Option (D × Mem) :=
  if m = "get" then match args with
    | [k, z] => match keyD k with
      | some k => if fitK kvs k then some ((getK kvs k).getD z, M) else none
      | none => none
    | _ => none
  else if m = "update" then match args with
    | [y] => match x with
      | .ref a => match asC M y with
        | some l => match putAll kvs l with
          | some r => some (.non, M.set a (.dct r))
          | none => none
        | none => none
      | _ => none
    | _ => none
  else none
/-- a method of a built-in type, read only, of a list that is data -/
def rmtD (m : Str) (ds : List D) (args : List D) (M : Mem) : Option (D × Mem) :=
  if m = "index" then match args with
    | [x] => if good x && ds.all good then match indexD x 0 ds with
      | some n => some (.int n, M)
      | none => none else none
    | _ => none
  else none
def mtdD (m : Str) (x : D) (args : List D) (M : Mem) : Option (D × Mem) :=
  match asC M x with
  | some kvs => cmtD m x kvs args M
  | none => match asL M x with
    | some ds => match rmtD m ds args M with
      | some r => some r
      | none => match x with
        | .ref a => lmtD m a ds args M
        | _ => none
    | none => none
end Nl
end
section
set_option maxRecDepth 100000
/-! Nl.Eval: expressions, statements, defs. -/
namespace Nl
open PySem L2

/-! ### sameness -/
mutual
def D.sm : D → D → Bool
  | .non, .non => true
  | .bl a, .bl b => a == b
  | .int a, .int b => a == b
  | .str a, .str b => a == b
  | .tup a, .tup b => sms a b
  | .lst a, .lst b => sms a b
  | .dct a, .dct b => smk a b
  | .ref a, .ref b => a == b
  | .fn a, .fn b => a == b
  | .exc a x, .exc b y => a == b && decide (x = y)
  | _, _ => false
def sms : List D → List D → Bool
  | [], [] => true
  | a :: r, b :: s => a.sm b && sms r s
  | _, _ => false
def smk : List (DK × D) → List (DK × D) → Bool
  | [], [] => true
  | (k, a) :: r, (j, b) :: s => decide (k = j) && (a.sm b && smk r s)
  | _, _ => false
end

/-! ### the text -/
inductive CT where
  | nm (i : Nat) | tp (ts : List CT)
mutual
inductive CE where
  | nop
  | var (i : Nat) | con (d : D) | glb (x : Str)
  | bin (mt : Bool) (op : Operator) (a b : CE)
  | cmp (op : CmpOp) (a b : CE)
  | chn (op op' : CmpOp) (a b c : CE)
  | bop (and : Bool) (es : List CE)
  | not_ (a : CE) | neg (a : CE)
  | ife (c a b : CE)
  | tup (es : List CE) | lst (mt : Bool) (es : List CE) | dcn (mt : Bool)
  | sub (a i : CE) | slc (mt : Bool) (a lo hi : CE)
  | att (a : CE) (f : Str)
  | call (f : Nat) (args : List CE) (kix : List Nat) (kws : List CE)
  | callv (i : Nat) (args : List CE)
  | make (c : Nat) (args : List CE) (kix : List Nat) (kws : List CE)
  | mth (o : CE) (m : Str) (args : List CE) (kix : List Nat) (kws : List CE)
  | bif (mt : Bool) (b : Bf) (args : List CE)
  | exm (c : Nat) (e : CE) | exi (c : Nat) (f : Str) (e : CE) | atx (a : CE) (f : Str)
  | lc (mt : Bool) (own : List Nat) (elt : CE) (t : CT) (it : CI) (cond : CE)
  | lc2 (mt : Bool) (own : List Nat) (elt : CE) (t : CT) (it : CI) (cond : CE) (t2 : CT) (it2 : CI) (cond2 : CE)
  | dc (mt : Bool) (own : List Nat) (key val : CE) (t : CT) (it : CI) (cond : CE)
  | dc2 (mt : Bool) (own : List Nat) (key val : CE) (t : CT) (it : CI) (cond : CE) (t2 : CT) (it2 : CI) (cond2 : CE)
  | sc (mt : Bool) (own : List Nat) (elt : CE) (t : CT) (it : CI) (cond : CE)
inductive CI where
  | val (e : CE) | rng1 (a : CE) | rng2 (a b : CE) | rng3 (a b c : CE) | zip (a b : CE) | zip3 (a b c : CE) | enum (a : CE) | items (a : CE)
end
inductive CS where
  | asgN (t : CT) (e : CE) | asgA (o : CE) (f : Str) (e : CE) | asgS (o i e : CE)
  | augN (i : Nat) (op : Operator) (e : CE) | augA (o : CE) (f : Str) (op : Operator) (e : CE) | augS (o i : CE) (op : Operator) (e : CE)
  | expr (e : CE) | ret (e : CE) | retN
  | ife (c : CE) (a b : List CS)
  | for_ (t : CT) (it : CI) (body : List CS)
  | whl (c : CE) (body : List CS)
  | pass | brk | cont | never

structure FnI where
  np : Nat
  ns : Nat
  dfl : List (Option D)
  pure : Bool
  body : List CS
structure ClI where
  flds : List Str
  mths : List (Str × Nat)
  init : Nat
structure Pg where
  fns : List FnI
  cls : List ClI
  glb : List (Str × D)
  xfl : List (Nat × Str)

/-! ### what it comes to -/
abbrev CallF := Nat → List D → Mem → Option (D × Mem)
inductive Fl where
  | nx (σ : En) | rt (d : D) | bk (σ : En) | ct (σ : En)

def bE {α β : Type} (r : Option (α × Mem)) (k : α → Mem → Option β) : Option β := match r with
  | some (a, M) => k a M
  | none => none
def bO {α β : Type} (r : Option α) (k : α → Option β) : Option β := match r with
  | some a => k a
  | none => none
theorem bE_some {α β : Type} {a : α} {M : Mem} {k : α → Mem → Option β} : bE (some (a, M)) k = k a M := rfl
theorem bE_none {α β : Type} {k : α → Mem → Option β} : bE none k = none := rfl
theorem bO_some {α β : Type} {a : α} {k : α → Option β} : bO (some a) k = k a := rfl
theorem bO_none {α β : Type} {k : α → Option β} : bO none k = none := rfl

mutual
def asgT (M : Mem) : CT → D → En → Option En
  | .nm i, d, σ => if i < σ.length then some (σ.set i (some d)) else none
  | .tp ts, d, σ => bO (asS M d) fun ds => if ds.length = ts.length then asgTs M ts ds σ else none
def asgTs (M : Mem) : List CT → List D → En → Option En
  | [], [], σ => some σ
  | t :: ts, d :: ds, σ => bO (asgT M t d σ) fun σ => asgTs M ts ds σ
  | _, _, _ => none
end
def wipeE (σ : En) : List Nat → En
  | [] => σ
  | v :: vs => (wipeE σ vs).set v none
/-- things walked must stand -/
def gOk (gs : List (Nat × List D)) (M : Mem) : Bool := gs.all fun g => match M[g.1]? with
  | some (.lst es) => sms es g.2
  | _ => false
def guards (M : Mem) : D → List (Nat × List D)
  | .ref a => match M[a]? with
    | some (.lst ds) => [(a, ds)]
    | _ => []
  | _ => []
/-- a comprehension's turns -/
def loopL {α : Type} (step : D → Mem → Option (List α × Mem)) (gs : List (Nat × List D)) : List D → List α → Mem → Option (List α × Mem)
  | [], acc, M => some (acc, M)
  | d :: ds, acc, M => bE (step d M) fun out M' => if gOk gs M' && decide ((acc ++ out).length ≤ LIM) then loopL step gs ds (acc ++ out) M' else none
def loopS (step : D → En → Mem → Option (Fl × Mem)) (gs : List (Nat × List D)) : List D → En → Mem → Option (Fl × Mem)
  | [], σ, M => some (.nx σ, M)
  | d :: ds, σ, M => bE (step d σ M) fun f M' => if gOk gs M' then (match f with
    | .nx σ' => loopS step gs ds σ' M'
    | .ct σ' => loopS step gs ds σ' M'
    | .bk σ' => some (.nx σ', M')
    | .rt d => some (.rt d, M')) else none
def loopW (c : En → Mem → Option (Bool × Mem)) (b : En → Mem → Option (Fl × Mem)) : Nat → En → Mem → Option (Fl × Mem)
  | 0, _, _ => none
  | n + 1, σ, M => bE (c σ M) fun t M1 => if t = true then bE (b σ M1) (fun f M2 => match f with
    | .nx σ' => loopW c b n σ' M2
    | .ct σ' => loopW c b n σ' M2
    | .bk σ' => some (.nx σ', M2)
    | .rt d => some (.rt d, M2)) else some (.nx σ, M1)
def enumD : Nat → List D → List D
  | _, [] => []
  | n, d :: r => .tup [.int n, d] :: enumD (n + 1) r
def rangeD (lo c : Int) : Nat → List D
  | 0 => []
  | n + 1 => .int lo :: rangeD (lo + c) c n
/-- what a walk over a value yields, and what must stand meanwhile -/
def walkD (M : Mem) (d : D) : Option (List D × List (Nat × List D)) :=
  match asS M d with
  | some ds => some (ds, guards M d)
  | none => none
def zipD (M : Mem) (x y : D) : Option (List D × List (Nat × List D)) :=
  match asL M x with
  | some xs => match asL M y with
    | some ys => some (((xs.zip ys).map fun p => .tup [p.1, p.2]), guards M x ++ guards M y)
    | none => none
  | none => none
def inR (i : Int) : Bool := decide (-1000000 ≤ i) && decide (i ≤ 1000000)
/-- the arguments in the parameters' order -/
def bindA (dfl : List (Option D)) (np : Nat) (args : List D) (kix : List Nat) (kws : List D) : Option (List D) :=
  if args.length ≤ np then (List.range np).foldr (fun j acc => bO acc fun l => bO (if j < args.length then args[j]? else match (kix.zip kws).find? (fun p => p.1 == j) with
    | some p => some p.2
    | none => (dfl[j]?).join) fun d => some (d :: l)) (some []) else none
def getF (fs : List (Str × D)) (f : Str) : Option D := match fs with
  | [] => none
  | (g, d) :: r => if g = f then some d else getF r f
def putFD (f : Str) (d : D) : List (Str × D) → List (Str × D)
  | [] => [(f, d)]
  | (g, x) :: r => if g = f then (g, d) :: r else (g, x) :: putFD f d r
def methOf (P : Pg) (c : Nat) (m : Str) : Option Nat := match P.cls[c]? with
  | some C => C.mths.lookup m
  | none => none
def okFld (P : Pg) (c : Nat) (f : Str) : Bool := match P.cls[c]? with
  | some C => C.flds.contains f
  | none => false
def setFld (P : Pg) (o : D) (f : Str) (d : D) (M : Mem) : Option Mem := match o with
  | .ref a => match M[a]? with
    | some (.ins c fs) => if okFld P c f && decide (fs.length < 100) then some (M.set a (.ins c (putFD f d fs))) else none
    | _ => none
  | _ => none
def setIt (o i d : D) (M : Mem) : Option Mem := match o with
  | .ref a => match M[a]? with
    | some (.lst ds) => match i with
      | .int k => match ixN ds.length k with
        | some j => some (M.set a (.lst (ds.set j d)))
        | none => none
      | _ => none
    | some (.dct kvs) => match keyD i with
      | some k => if fitK kvs k && decide (kvs.length < LIM) then some (M.set a (.dct (putK kvs k d))) else none
      | none => none
    | _ => none
  | _ => none

/-- a slice's end: nothing, or a number -/
def optE (e : CE) (r : Option (D × Mem)) (M : Mem) : Option (Option Int × Mem) := match e with
  | .nop => some (none, M)
  | _ => bE r fun d M => match d with
    | .int i => some (some i, M)
    | _ => none
/-- a clause's test -/
def condE (e : CE) (r : Option (D × Mem)) (M : Mem) : Option (Bool × Mem) := match e with
  | .nop => some (true, M)
  | _ => bE r fun d M => bO (truthD M d) fun t => some (t, M)
def augI (op : Operator) (i j : Int) : Option Int := match op with
  | .Add => some (i + j)
  | _ => none
section
variable (P : Pg) (C : CallF)
mutual
def evE : CE → En → Mem → Option (D × Mem)
  | .nop, _, _ => none
  | .var i, σ, M => match σ[i]? with
    | some (some d) => some (d, M)
    | _ => none
  | .con d, _, M => some (d, M)
  | .glb x, _, M => bO (P.glb.lookup x) fun d => some (d, M)
  | .bin mt op a b, σ, M => bE (evE a σ M) fun x M => bE (evE b σ M) fun y M => binD mt op x y M
  | .cmp op a b, σ, M => bE (evE a σ M) fun x M => bE (evE b σ M) fun y M => bO (cmpD op M x y) fun t => some (.bl t, M)
  | .chn op op' a b c, σ, M => bE (evE a σ M) fun x M => bE (evE b σ M) fun y M => bO (cmpD op M x y) fun t => if t = true then bE (evE c σ M) fun z M => bO (cmpD op' M y z) fun t => some (.bl t, M) else some (.bl false, M)
  | .bop b es, σ, M => evB b es σ M
  | .not_ a, σ, M => bE (evE a σ M) fun x M => bO (truthD M x) fun t => some (.bl (!t), M)
  | .neg a, σ, M => bE (evE a σ M) fun x M => match x with
    | .int i => some (.int (-i), M)
    | _ => none
  | .ife c a b, σ, M => bE (evE c σ M) fun x M => bO (truthD M x) fun t => if t = true then evE a σ M else evE b σ M
  | .tup es, σ, M => bE (evEs es σ M) fun ds M => if ds.length ≤ LIM then some (.tup ds, M) else none
  | .lst mt es, σ, M => bE (evEs es σ M) fun ds M => if ds.length ≤ LIM then some (newL mt ds M) else none
  | .dcn mt, _, M => some (newC mt [] M)
  | .sub a i, σ, M => bE (evE a σ M) fun x M => bE (evE i σ M) fun y M => bO (subD M x y) fun d => some (d, M)
  | .slc mt a lo hi, σ, M => bE (evE a σ M) fun x M => bE (optE lo (evE lo σ M) M) fun l M => bE (optE hi (evE hi σ M) M) fun h M => slcD mt M x l h
  | .att a f, σ, M => bE (evE a σ M) fun x M => bO (asI M x) fun cf => bO (getF cf.2 f) fun d => some (d, M)
  | .call f args kix kws, σ, M => bE (evEs args σ M) fun ds M => bE (evEs kws σ M) fun ks M => bO (P.fns[f]?) fun F => bO (bindA F.dfl F.np ds kix ks) fun as => C f as M
  | .callv i args, σ, M => match σ[i]? with
    | some (some (.fn f)) => bE (evEs args σ M) fun ds M => C f ds M
    | _ => none
  | .make c args kix kws, σ, M => bE (evEs args σ M) fun ds M => bE (evEs kws σ M) fun ks M => bO (P.cls[c]?) fun K => bO (P.fns[K.init]?) fun F => bO (bindA F.dfl F.np (.ref M.length :: ds) kix ks) fun as =>
      bE (C K.init as (M ++ [.ins c []])) fun d M' => if isNon d = true then some (.ref M.length, M') else none
  | .mth o m args kix kws, σ, M => bE (evE o σ M) fun x M => match asI M x with
    | some (c, fs) => bO (methOf P c m) fun f => if (getF fs m).isSome = true then none else bE (evEs args σ M) fun ds M => bE (evEs kws σ M) fun ks M => bO (P.fns[f]?) fun F => bO (bindA F.dfl F.np (x :: ds) kix ks) fun as => C f as M
    | none => bE (evEs args σ M) fun ds M' => if kindD M x = kindD M' x ∧ kws.isEmpty = true then mtdD m x ds M' else none
  | .bif mt b args, σ, M => bE (evEs args σ M) fun ds M => bifD mt b ds M
  | .exm c e, σ, M => bE (evE e σ M) fun _ M => some (.exc c none, M)
  | .exi c f e, σ, M => bE (evE e σ M) fun x M => match x with
    | .int i => some (.exc c (some (f, i)), M)
    | _ => none
  | .atx a f, σ, M => bE (evE a σ M) fun x M => match x with
    | .exc c (some (g, i)) => if g == f && P.xfl.contains (c, f) then some (.int i, M) else none
    | _ => none
  | .lc mt own elt t it cond, σ, M => bE (evI it σ M) fun r M => bE (loopL (fun d M => bO (asgT M t d (wipeE σ own)) fun σ2 => bE (condE cond (evE cond σ2 M) M) fun t M => if t = true then bE (evE elt σ2 M) fun y M => some ([y], M) else some ([], M)) r.2 r.1 [] M) fun ds M => some (newL mt ds M)
  | .lc2 mt own elt t it cond t2 it2 cond2, σ, M => bE (evI it σ M) fun r M => bE (loopL (fun d M => bO (asgT M t d (wipeE σ own)) fun σ2 => bE (condE cond (evE cond σ2 M) M) fun t M => if t = true then (bE (evI it2 σ2 M) fun r2 M => loopL (fun d M => bO (asgT M t2 d σ2) fun σ3 => bE (condE cond2 (evE cond2 σ3 M) M) fun t M => if t = true then bE (evE elt σ3 M) fun y M => some ([y], M) else some ([], M)) r2.2 r2.1 [] M) else some ([], M)) r.2 r.1 [] M) fun ds M => some (newL mt ds M)
  | .dc mt own key val t it cond, σ, M => bE (evI it σ M) fun r M => bE (loopL (fun d M => bO (asgT M t d (wipeE σ own)) fun σ2 => bE (condE cond (evE cond σ2 M) M) fun t M => if t = true then bE (evE key σ2 M) fun x M => bE (evE val σ2 M) fun y M => bO (keyD x) fun k => some ([(k, y)], M) else some ([], M)) r.2 r.1 [] M) fun l M => bO (putAll [] l) fun kvs => some (newC mt kvs M)
  | .dc2 mt own key val t it cond t2 it2 cond2, σ, M => bE (evI it σ M) fun r M => bE (loopL (fun d M => bO (asgT M t d (wipeE σ own)) fun σ2 => bE (condE cond (evE cond σ2 M) M) fun t M => if t = true then (bE (evI it2 σ2 M) fun r2 M => loopL (fun d M => bO (asgT M t2 d σ2) fun σ3 => bE (condE cond2 (evE cond2 σ3 M) M) fun t M => if t = true then bE (evE key σ3 M) fun x M => bE (evE val σ3 M) fun y M => bO (keyD x) fun k => some ([(k, y)], M) else some ([], M)) r2.2 r2.1 [] M) else some ([], M)) r.2 r.1 [] M) fun l M => bO (putAll [] l) fun kvs => some (newC mt kvs M)
  | .sc mt own elt t it cond, σ, M => bE (evI it σ M) fun r M => bE (loopL (fun d M => bO (asgT M t d (wipeE σ own)) fun σ2 => bE (condE cond (evE cond σ2 M) M) fun t M => if t = true then bE (evE elt σ2 M) fun y M => some ([y], M) else some ([], M)) r.2 r.1 [] M) fun ds M => bifD mt .sortSet [.tup ds] M
def evEs : List CE → En → Mem → Option (List D × Mem)
  | [], _, M => some ([], M)
  | e :: es, σ, M => bE (evE e σ M) fun d M => bE (evEs es σ M) fun ds M => some (d :: ds, M)
/-- and (true), or (false) -/
def evB : Bool → List CE → En → Mem → Option (D × Mem)
  | _, [], _, _ => none
  | b, e :: es, σ, M => bE (evE e σ M) fun x M => match es with
    | [] => some (x, M)
    | _ :: _ => bO (truthD M x) fun t => if t = b then evB b es σ M else some (x, M)
def evI : CI → En → Mem → Option ((List D × List (Nat × List D)) × Mem)
  | .val e, σ, M => bE (evE e σ M) fun d M => bO (walkD M d) fun r => some (r, M)
  | .rng1 a, σ, M => bE (evE a σ M) fun x M => match x with
    | .int j => if inR j then some ((rangeD 0 1 j.toNat, []), M) else none
    | _ => none
  | .rng2 a b, σ, M => bE (evE a σ M) fun x M => bE (evE b σ M) fun y M => match x, y with
    | .int i, .int j => if inR i && inR j then some ((rangeD i 1 (j - i).toNat, []), M) else none
    | _, _ => none
  | .rng3 a b c, σ, M => bE (evE a σ M) fun x M => bE (evE b σ M) fun y M => bE (evE c σ M) fun z M => match x, y, z with
    | .int i, .int j, .int (-1) => if inR i && inR j then some ((rangeD i (-1) (i - j).toNat, []), M) else none
    | _, _, _ => none
  | .zip a b, σ, M => bE (evE a σ M) fun x M => bE (evE b σ M) fun y M => bO (zipD M x y) fun r => some (r, M)
  | .zip3 _ _ _, _, _ => none
  | .enum a, σ, M => bE (evE a σ M) fun x M => bO (asL M x) fun xs => some ((enumD 0 xs, guards M x), M)
  | .items _, _, _ => none
end
variable (w : Nat)
def evT (c : CE) (σ : En) (M : Mem) : Option (Bool × Mem) := bE (evE P C c σ M) fun d M => bO (truthD M d) fun t => some (t, M)
mutual
def exS : CS → En → Mem → Option (Fl × Mem)
  | .asgN t e, σ, M => bE (evE P C e σ M) fun d M => bO (asgT M t d σ) fun σ => some (.nx σ, M)
  | .asgA o f e, σ, M => bE (evE P C e σ M) fun d M => bE (evE P C o σ M) fun x M => bO (setFld P x f d M) fun M => some (.nx σ, M)
  | .asgS o i e, σ, M => bE (evE P C e σ M) fun d M => bE (evE P C o σ M) fun x M => bE (evE P C i σ M) fun y M => bO (setIt x y d M) fun M => some (.nx σ, M)
  | .augN i op e, σ, M => match σ[i]? with
    | some (some (.int x)) => bE (evE P C e σ M) fun y M => match y with
      | .int y => bO (augI op x y) fun z => some (.nx (σ.set i (some (.int z))), M)
      | _ => none
    | _ => none
  | .augA o f op e, σ, M => bE (evE P C o σ M) fun x M => bO (asI M x) fun cf => bO (getF cf.2 f) fun v => bE (evE P C e σ M) fun y M => match v, y with
    | .int v, .int y => bO (augI op v y) fun z => bO (setFld P x f (.int z) M) fun M => some (.nx σ, M)
    | _, _ => none
  | .augS o i op e, σ, M => bE (evE P C o σ M) fun x M => bE (evE P C i σ M) fun k M => bO (subD M x k) fun v => bE (evE P C e σ M) fun y M => match v, y with
    | .int v, .int y => bO (augI op v y) fun z => bO (setIt x k (.int z) M) fun M => some (.nx σ, M)
    | _, _ => none
  | .expr e, σ, M => bE (evE P C e σ M) fun _ M => some (.nx σ, M)
  | .ret e, σ, M => bE (evE P C e σ M) fun d M => some (.rt d, M)
  | .retN, _, M => some (.rt .non, M)
  | .ife c a b, σ, M => bE (evT P C c σ M) fun t M => if t = true then exSs a σ M else exSs b σ M
  | .for_ t it body, σ, M => bE (evI P C it σ M) fun r M => loopS (fun d σ M => bO (asgT M t d σ) fun σ => exSs body σ M) r.2 r.1 σ M
  | .whl c body, σ, M => loopW (fun σ M => evT P C c σ M) (fun σ M => exSs body σ M) w σ M
  | .pass, σ, M => some (.nx σ, M)
  | .brk, σ, M => some (.bk σ, M)
  | .cont, σ, M => some (.ct σ, M)
  | .never, _, _ => none
def exSs : List CS → En → Mem → Option (Fl × Mem)
  | [], σ, M => some (.nx σ, M)
  | s :: ss, σ, M => bE (exS s σ M) fun f M => match f with
    | .nx σ => exSs ss σ M
    | f => some (f, M)
end
end

/-! ### calls -/
def runB (P : Pg) (C : CallF) (w : Nat) (F : FnI) (args : List D) (M : Mem) : Option (D × Mem) :=
  bE (exSs P C w F.body (args.map some ++ List.replicate (F.ns - args.length) none) M) fun f M => match f with
  | .rt d => some (d, M)
  | .nx _ => some (.non, M)
  | _ => none
/-- things handed to a def that keeps to itself: refs, each once, whose content is data -/
def borrow (M : Mem) : List D → List Nat → Option (List D × List Nat)
  | [], ix => some ([], ix)
  | d :: r, ix => match d with
    | .ref a => if ix.contains a then none else bO (borrow M r (ix ++ [a])) fun p => some (.ref ix.length :: p.1, p.2)
    | d => if pureD d then bO (borrow M r ix) fun p => some (d :: p.1, p.2) else none
def pureO : MO → Bool
  | .lst ds => ds.all pureD
  | .dct kvs => kvs.all fun kv => pureD kv.2
  | .ins _ _ => false
def lend (M : Mem) : List Nat → Option Mem
  | [] => some []
  | a :: r => match M[a]? with
    | some o => if pureO o then bO (lend M r) fun L => some (o :: L) else none
    | none => none
/-- what is given back as data: refs from m on become data -/
def frzN (L : Mem) (m : Nat) : Nat → D → Option D
  | n + 1, .ref a => if a < m then none else match L[a]? with
    | some (.lst ds) => bO (ds.mapM (frzN L m n)) fun es => some (.lst es)
    | some (.dct kvs) => bO (kvs.mapM fun kv => bO (frzN L m n kv.2) fun d => some (kv.1, d)) fun es => some (.dct es)
    | _ => none
  | n + 1, .tup ds => bO (ds.mapM (frzN L m n)) fun es => some (.tup es)
  | n + 1, .lst ds => bO (ds.mapM (frzN L m n)) fun es => some (.lst es)
  | n + 1, .dct kvs => bO (kvs.mapM fun kv => bO (frzN L m n kv.2) fun d => some (kv.1, d)) fun es => some (.dct es)
  | _, .ref _ => none
  | _, d => if pureD d then some d else none
def frz (L : Mem) (m : Nat) (d : D) : Option D := if pureD d then some d else frzN L m 50 d
def giveBack : Mem → List Nat → Mem → Option Mem
  | M, [], _ => some M
  | M, a :: r, o :: L => if pureO o then giveBack (M.set a o) r L else none
  | _, _ :: _, [] => none
def callF (P : Pg) (w : Nat) : Nat → CallF
  | 0, _, _, _ => none
  | k + 1, f, args, M => bO (P.fns[f]?) fun F => if args.length = F.np then
      (if F.pure = true then bO (borrow M args []) fun p => bO (lend M p.2) fun L => bE (runB P (callF P w k) w F p.1 L) fun d L' => bO (frz L' L.length d) fun d' => bO (giveBack M p.2 L') fun M' => some (d', M')
      else runB P (callF P w k) w F args M) else none
end Nl
end
section
set_option maxRecDepth 100000
set_option maxHeartbeats 1000000
/-! Nl.Rep: which values and which abstract heap a datum and a memory stand for. -/
namespace Nl
open PySem L2

/-- where the text's defs and classes stand -/
structure Sx where
  K : PySem.W.Frag
  fa : Nat → Addr
  ca : Nat → Addr
/-- where the things stand that may be changed, and which objects are data by now -/
structure Wd where
  rho : List Addr
  fz : Addr → Prop

def KTup (K : PySem.W.Frag) (a : Addr) (vs : List V) : Prop :=
  ∃ (o : Obj) (its : Array Value) (n : Nat), K.lookup a = some o ∧ o.cls = .type "tuple" ∧ o.data = .seq its n ∧ its.size ≤ sizeLine ∧ Vals vs its.toList
def TupAt (K : PySem.W.Frag) (H : Hp) (a : Addr) (vs : List V) : Prop := H a = some (.tup vs) ∨ (KTup K a vs ∧ (vs.length = 0 ∨ 5 < vs.length))
def ExcAt (K : PySem.W.Frag) (ca : Nat → Addr) (H : Hp) (a : Addr) (c : Nat) : Option (Str × Int) → Prop
  | none => H a = some (ExO (.ref (ca c)) a)
  | some (f, i) => ∃ dx, H a = some (exo a (ca c) (some dx)) ∧ H dx = some (exd dx [(f, .int i)])
/-- a list of the written part -/
def KLst (K : PySem.W.Frag) (a : Addr) (vs : List V) : Prop := ∃ (its : Array Value) (n : Nat), K.lookup a = some ({ cls := .type "list", data := .seq its n } : Obj) ∧ its.size ≤ sizeLine ∧ Vals vs its.toList
/-- a list that is read -/
def RdL (K : PySem.W.Frag) (H : Hp) (a : Addr) (vs : List V) : Prop := Rd H a (.lst vs) ∨ KLst K a vs
theorem RdL.sq {K : PySem.W.Frag} {H : Hp} {a : Addr} {vs : List V} (h : RdL K H a vs) : SqL K H a vs := by
  rcases h with h | ⟨its, n, e, z, r⟩
  · exact .inl h
  · exact .inr ⟨_, its, n, e, rfl, rfl, rfl, z, r⟩
def LstAt (K : PySem.W.Frag) (fz : Addr → Prop) (H : Hp) (a : Addr) (vs : List V) : Prop := (fz a ∧ Rd H a (.lst vs)) ∨ KLst K a vs
theorem LstAt.rd {K : PySem.W.Frag} {fz : Addr → Prop} {H : Hp} {a : Addr} {vs : List V} (h : LstAt K fz H a vs) : RdL K H a vs := h.elim (fun q => .inl q.2) .inr
def dcK (l : List (Key × V)) (ks : List DK) (vs : List V) : Prop := ks = l.map (fun p => Sum.inl p.1) ∧ vs = l.map (·.2)
def dcT (l : List (List Key × V)) (ks : List DK) (vs : List V) : Prop := ks = l.map (fun p => Sum.inr p.1) ∧ vs = l.map (·.2)
def DctAt (H : Hp) (a : Addr) (ks : List DK) (vs : List V) : Prop := (∃ l, Rd H a (.dK l) ∧ dcK l ks vs) ∨ ∃ l, Rd H a (.dT l) ∧ dcT l ks vs
/-- .. that may be changed -/
def DctM (H : Hp) (a : Addr) (ks : List DK) (vs : List V) : Prop := (∃ l, H a = some (.dK l) ∧ dcK l ks vs) ∨ ∃ l, H a = some (.dT l) ∧ dcT l ks vs
section
variable (S : Sx) (W : Wd) (H : Hp)
mutual
def Rep : D → V → Prop
  | .non, v => v = .non
  | .bl b, v => v = .bl b
  | .int i, v => v = .int i
  | .str x, v => v = .str x
  | .tup ds, v => ∃ a vs, v = .ref a ∧ TupAt S.K H a vs ∧ Reps ds vs
  | .lst ds, v => ∃ a vs, v = .ref a ∧ LstAt S.K W.fz H a vs ∧ Reps ds vs
  | .dct kvs, v => ∃ a vs, v = .ref a ∧ W.fz a ∧ DctAt H a (kvs.map (·.1)) vs ∧ RepC kvs vs
  | .ref i, v => ∃ a, v = .ref a ∧ W.rho[i]? = some a
  | .fn f, v => v = .ref (S.fa f)
  | .exc c fl, v => ∃ a, v = .ref a ∧ ExcAt S.K S.ca H a c fl
def Reps : List D → List V → Prop
  | [], vs => vs = []
  | d :: ds, vs => ∃ v r, vs = v :: r ∧ Rep d v ∧ Reps ds r
def RepC : List (DK × D) → List V → Prop
  | [], vs => vs = []
  | kv :: ds, vs => ∃ v r, vs = v :: r ∧ Rep kv.2 v ∧ RepC ds r
end
def ObjRep (a : Addr) : MO → Prop
  | .lst ds => ∃ vs, H a = some (.lst vs) ∧ Reps S W H ds vs
  | .dct kvs => ∃ vs, DctM H a (kvs.map (·.1)) vs ∧ RepC S W H kvs vs
  | .ins c fs => ∃ dx gs, H a = some (.ins (S.ca c) dx gs) ∧ fs.map (·.1) = gs.map (·.1) ∧ Reps S W H (fs.map (·.2)) (gs.map (·.2)) ∧ (∀ f ∈ fs.map (·.1), NoAttr S.K (S.ca c) f) ∧ Cls S.K (S.ca c)
structure MemRel (M : Mem) : Prop where
  len : W.rho.length = M.length
  inj : ∀ (i j : Nat) (a : Addr), W.rho[i]? = some a → W.rho[j]? = some a → i = j
  nfz : ∀ (i : Nat) (a : Addr), W.rho[i]? = some a → ¬ W.fz a
  obj : ∀ (i : Nat) (o : MO) (a : Addr), M[i]? = some o → W.rho[i]? = some a → ObjRep S W H a o
  fzok : ∀ (a : Addr), W.fz a → ∃ o, H a = some o
structure EnvRel (env : En) (σ : St) : Prop where
  len : env.length = σ.length
  at_ : ∀ (i : Nat) (d : D), env[i]? = some (some d) → ∃ v, σ[i]? = some (some v) ∧ Rep S W H d v
end
/-- what stands of a step from W, M, H -/
structure Ext (S : Sx) (W : Wd) (M : Mem) (H : Hp) (W' : Wd) (M' : Mem) (H' : Hp) : Prop where
  mem : MemRel S W' H' M'
  rho : ∀ (i : Nat) (a : Addr), W.rho[i]? = some a → W'.rho[i]? = some a
  fz : ∀ (a : Addr), W.fz a → W'.fz a
  stay : ∀ (b : Addr) (o : HO), H b = some o → (∀ (i : Nat), W.rho[i]? ≠ some b) → H' b = some o
  fresh : ∀ (i : Nat) (a : Addr), W'.rho[i]? = some a → W.rho[i]? = some a ∨ H a = none
  fzn : ∀ (a : Addr), W'.fz a → W.fz a ∨ H a = none
  gone : ∀ (b : Addr) (o : HO), H b = some o → ∃ o', H' b = some o'

section
variable {S : Sx} {W W' W2 : Wd} {H H' H2 : Hp} {M M' M2 : Mem}
theorem Ext.refl (m : MemRel S W H M) : Ext S W M H W M H := ⟨m, fun _ _ h => h, fun _ h => h, fun _ _ h _ => h, fun _ _ h => .inl h, fun _ h => .inl h, fun _ o h => ⟨o, h⟩⟩
theorem Ext.trans (a : Ext S W M H W' M' H') (b : Ext S W' M' H' W2 M2 H2) : Ext S W M H W2 M2 H2 where
  mem := b.mem
  rho := fun i x h => b.rho i x (a.rho i x h)
  fz := fun x h => b.fz x (a.fz x h)
  stay := fun x o h hn => b.stay x o (a.stay x o h hn) fun i e => by
    rcases a.fresh i x e with q | q
    · exact hn i q
    · rw [h] at q; cases q
  fresh := fun i x h => by
    rcases b.fresh i x h with q | q
    · exact a.fresh i x q
    · refine .inr ?_
      cases e : H x with
      | none => rfl
      | some o =>
        obtain ⟨o', e'⟩ := a.gone x o e
        rw [e'] at q; cases q
  fzn := fun x h => by
    rcases b.fzn x h with q | q
    · exact a.fzn x q
    · refine .inr ?_
      cases e : H x with
      | none => rfl
      | some o =>
        obtain ⟨o', e'⟩ := a.gone x o e
        rw [e'] at q; cases q
  gone := fun x o h => by
    obtain ⟨o', h'⟩ := a.gone x o h
    exact b.gone x o' h'
theorem MemRel.at_ (m : MemRel S W H M) {i : Nat} {a : Addr} (h : W.rho[i]? = some a) : ∃ o, M[i]? = some o ∧ ObjRep S W H a o := by
  have hi : i < M.length := by
    rw [← m.len]
    exact (List.getElem?_eq_some_iff.mp h).1
  exact ⟨M[i], List.getElem?_eq_getElem hi, m.obj i _ a (List.getElem?_eq_getElem hi) h⟩
theorem MemRel.rho_at (m : MemRel S W H M) {i : Nat} {o : MO} (h : M[i]? = some o) : ∃ a, W.rho[i]? = some a ∧ ObjRep S W H a o := by
  have hi : i < W.rho.length := by
    rw [m.len]
    exact (List.getElem?_eq_some_iff.mp h).1
  exact ⟨W.rho[i], List.getElem?_eq_getElem hi, m.obj i o _ h (List.getElem?_eq_getElem hi)⟩
/-- what never changes -/
def Imm : HO → Prop
  | .tup _ => True
  | .ext _ => True
  | _ => False
/-- a thing that may be changed is none of these -/
theorem ObjRep.some_ {a : Addr} {o : MO} (h : ObjRep S W H a o) : ∃ u, H a = some u ∧ ¬ Imm u ∧ (∀ x, u ≠ .own x) ∧ Mut (some u) := by
  cases o with
  | lst ds => obtain ⟨vs, e, _⟩ := h; exact ⟨_, e, fun q => q, fun _ q => (nomatch q), trivial⟩
  | dct kvs =>
    obtain ⟨vs, e, _⟩ := h
    rcases e with ⟨l, e, _⟩ | ⟨l, e, _⟩
    · exact ⟨_, e, fun q => q, fun _ q => (nomatch q), trivial⟩
    · exact ⟨_, e, fun q => q, fun _ q => (nomatch q), trivial⟩
  | ins c fs => obtain ⟨dx, gs, e, _⟩ := h; exact ⟨_, e, fun q => q, fun _ q => (nomatch q), trivial⟩
theorem MemRel.live (m : MemRel S W H M) {i : Nat} {a : Addr} (h : W.rho[i]? = some a) : ∃ u, H a = some u ∧ ¬ Imm u ∧ (∀ x, u ≠ .own x) ∧ Mut (some u) := by
  obtain ⟨o, _, q⟩ := m.at_ h
  exact q.some_
theorem MemRel.ntup (m : MemRel S W H M) {a : Addr} {o : HO} (im : Imm o) (h : H a = some o) (i : Nat) : W.rho[i]? ≠ some a := fun e => by
  obtain ⟨u, e1, e2, _⟩ := m.live e
  rw [h] at e1
  cases e1
  exact e2 im
/-- what a value's description leans on -/
structure Kept (W : Wd) (H : Hp) (W' : Wd) (H' : Hp) : Prop where
  rho : ∀ (i : Nat) (a : Addr), W.rho[i]? = some a → W'.rho[i]? = some a
  fz : ∀ (a : Addr), W.fz a → W'.fz a
  imm : ∀ (a : Addr) (o : HO), Imm o → H a = some o → H' a = some o
  rd : ∀ (a : Addr) (u : HO), W.fz a → Rd H a u → Rd H' a u
theorem Ext.kept (m : MemRel S W H M) (x : Ext S W M H W' M' H') : Kept W H W' H' where
  rho := x.rho
  fz := x.fz
  imm := fun a o im h => x.stay a _ h (m.ntup im h)
  rd := fun a u hf h => by
    have hn : ∀ (i : Nat), W.rho[i]? ≠ some a := fun i e => m.nfz i a e hf
    rcases h with h | ⟨o, h⟩
    · exact .inl (x.stay a _ h hn)
    · exact .inr ⟨o, x.stay a _ h hn⟩
theorem TupAt.keep (k : Kept W H W' H') {K : PySem.W.Frag} {a : Addr} {vs : List V} (h : TupAt K H a vs) : TupAt K H' a vs := by
  rcases h with h | h
  · exact .inl (k.imm a _ trivial h)
  · exact .inr h
theorem ExcAt.keep (k : Kept W H W' H') {K : PySem.W.Frag} {ca : Nat → Addr} {a : Addr} {c : Nat} : ∀ {fl : Option (Str × Int)}, ExcAt K ca H a c fl → ExcAt K ca H' a c fl
  | none, h => k.imm a _ trivial h
  | some (f, i), ⟨dx, h1, h2⟩ => ⟨dx, k.imm a _ trivial h1, k.imm dx _ trivial h2⟩
theorem LstAt.keep (k : Kept W H W' H') {K : PySem.W.Frag} {a : Addr} {vs : List V} (h : LstAt K W.fz H a vs) : LstAt K W'.fz H' a vs := h.elim (fun h => .inl ⟨k.fz a h.1, k.rd a _ h.1 h.2⟩) .inr
theorem DctAt.keep (k : Kept W H W' H') {a : Addr} {ks : List DK} {vs : List V} (hf : W.fz a) (h : DctAt H a ks vs) : DctAt H' a ks vs := by
  rcases h with ⟨l, h, q⟩ | ⟨l, h, q⟩
  · exact .inl ⟨l, k.rd a _ hf h, q⟩
  · exact .inr ⟨l, k.rd a _ hf h, q⟩
mutual
theorem Rep.keep (k : Kept W H W' H') : ∀ (d : D) (v : V), Rep S W H d v → Rep S W' H' d v
  | .non, _, h => h
  | .bl _, _, h => h
  | .int _, _, h => h
  | .str _, _, h => h
  | .tup ds, v, h => by
    obtain ⟨a, vs, e, t, r⟩ := (show ∃ a vs, v = .ref a ∧ TupAt S.K H a vs ∧ Reps S W H ds vs from by simpa only [Rep] using h)
    have q := Reps.keep k ds vs r
    simp only [Rep]
    exact ⟨a, vs, e, t.keep k, q⟩
  | .lst ds, v, h => by
    obtain ⟨a, vs, e, t, r⟩ := (show ∃ a vs, v = .ref a ∧ LstAt S.K W.fz H a vs ∧ Reps S W H ds vs from by simpa only [Rep] using h)
    have q := Reps.keep k ds vs r
    simp only [Rep]
    exact ⟨a, vs, e, t.keep k, q⟩
  | .dct kvs, v, h => by
    obtain ⟨a, vs, e, f, t, r⟩ := (show ∃ a vs, v = .ref a ∧ W.fz a ∧ DctAt H a (kvs.map (·.1)) vs ∧ RepC S W H kvs vs from by simpa only [Rep] using h)
    have q := RepC.keep k kvs vs r
    simp only [Rep]
    exact ⟨a, vs, e, k.fz a f, t.keep k f, q⟩
  | .ref i, v, h => by
    obtain ⟨a, e, q⟩ := (show ∃ a, v = .ref a ∧ W.rho[i]? = some a from by simpa only [Rep] using h)
    simp only [Rep]
    exact ⟨a, e, k.rho i a q⟩
  | .fn _, _, h => h
  | .exc c fl, v, h => by
    obtain ⟨a, e, q⟩ := (show ∃ a, v = .ref a ∧ ExcAt S.K S.ca H a c fl from by simpa only [Rep] using h)
    simp only [Rep]
    exact ⟨a, e, q.keep k⟩
theorem Reps.keep (k : Kept W H W' H') : ∀ (ds : List D) (vs : List V), Reps S W H ds vs → Reps S W' H' ds vs
  | [], _, h => h
  | d :: ds, vs, h => by
    obtain ⟨v, r, e, h1, h2⟩ := (show ∃ v r, vs = v :: r ∧ Rep S W H d v ∧ Reps S W H ds r from by simpa only [Reps] using h)
    have q1 := Rep.keep k d v h1
    have q2 := Reps.keep k ds r h2
    simp only [Reps]
    exact ⟨v, r, e, q1, q2⟩
theorem RepC.keep (k : Kept W H W' H') : ∀ (ds : List (DK × D)) (vs : List V), RepC S W H ds vs → RepC S W' H' ds vs
  | [], _, h => h
  | (j, d) :: ds, vs, h => by
    obtain ⟨v, r, e, h1, h2⟩ := (show ∃ v r, vs = v :: r ∧ Rep S W H d v ∧ RepC S W H ds r from by simpa only [RepC] using h)
    have q1 := Rep.keep k d v h1
    have q2 := RepC.keep k ds r h2
    simp only [RepC]
    exact ⟨v, r, e, q1, q2⟩
end
theorem EnvRel.keep (k : Kept W H W' H') {env : En} {σ : St} (h : EnvRel S W H env σ) : EnvRel S W' H' env σ :=
  ⟨h.len, fun i d e => let ⟨v, e1, r⟩ := h.at_ i d e; ⟨v, e1, r.keep k⟩⟩
/-! ### lists of values -/
theorem Reps.nil {vs : List V} : Reps S W H [] vs ↔ vs = [] := by simp only [Reps]
theorem Reps.cons {d : D} {ds : List D} {v : V} {vs : List V} (h1 : Rep S W H d v) (h2 : Reps S W H ds vs) : Reps S W H (d :: ds) (v :: vs) := by
  simp only [Reps]
  exact ⟨v, vs, rfl, h1, h2⟩
theorem Reps.un {d : D} {ds : List D} {vs : List V} (h : Reps S W H (d :: ds) vs) : ∃ v r, vs = v :: r ∧ Rep S W H d v ∧ Reps S W H ds r := by simpa only [Reps] using h
theorem Reps.len : ∀ {ds : List D} {vs : List V}, Reps S W H ds vs → ds.length = vs.length
  | [], vs, h => by rw [Reps.nil.mp h]; rfl
  | d :: ds, vs, h => by
    obtain ⟨v, r, rfl, _, h2⟩ := h.un
    simp [Reps.len h2]
theorem Reps.get : ∀ {ds : List D} {vs : List V} {i : Nat} {d : D}, Reps S W H ds vs → ds[i]? = some d → ∃ v, vs[i]? = some v ∧ Rep S W H d v
  | [], _, _, _, _, e => by simp at e
  | d :: ds, vs, 0, d', h, e => by
    obtain ⟨v, r, rfl, h1, h2⟩ := h.un
    simp at e
    subst e
    exact ⟨v, rfl, h1⟩
  | d :: ds, vs, i + 1, d', h, e => by
    obtain ⟨v, r, rfl, h1, h2⟩ := h.un
    obtain ⟨v', e', q⟩ := Reps.get (i := i) h2 (by simpa using e)
    exact ⟨v', by simpa using e', q⟩
theorem Reps.back {ds : List D} {vs : List V} {i : Nat} {v : V} (h : Reps S W H ds vs) (e : vs[i]? = some v) : ∃ d, ds[i]? = some d ∧ Rep S W H d v := by
  have hi : i < ds.length := by
    rw [h.len]
    exact (List.getElem?_eq_some_iff.mp e).1
  obtain ⟨v', e', q⟩ := h.get (List.getElem?_eq_getElem hi)
  rw [e] at e'
  cases e'
  exact ⟨_, List.getElem?_eq_getElem hi, q⟩
theorem Reps.append : ∀ {ds es : List D} {vs us : List V}, Reps S W H ds vs → Reps S W H es us → Reps S W H (ds ++ es) (vs ++ us)
  | [], es, vs, us, h, g => by rw [Reps.nil.mp h]; exact g
  | d :: ds, es, vs, us, h, g => by
    obtain ⟨v, r, rfl, h1, h2⟩ := h.un
    exact Reps.cons h1 (Reps.append h2 g)
theorem Reps.take : ∀ (n : Nat) {ds : List D} {vs : List V}, Reps S W H ds vs → Reps S W H (ds.take n) (vs.take n)
  | 0, ds, vs, h => by simp [Reps.nil]
  | n + 1, [], vs, h => by rw [Reps.nil.mp h]; simp [Reps.nil]
  | n + 1, d :: ds, vs, h => by
    obtain ⟨v, r, rfl, h1, h2⟩ := h.un
    exact Reps.cons h1 (Reps.take n h2)
theorem Reps.drop : ∀ (n : Nat) {ds : List D} {vs : List V}, Reps S W H ds vs → Reps S W H (ds.drop n) (vs.drop n)
  | 0, ds, vs, h => by simpa using h
  | n + 1, [], vs, h => by rw [Reps.nil.mp h]; simp [Reps.nil]
  | n + 1, d :: ds, vs, h => by
    obtain ⟨v, r, rfl, h1, h2⟩ := h.un
    simpa using Reps.drop n h2
theorem Reps.set : ∀ (n : Nat) {ds : List D} {vs : List V} {d : D} {v : V}, Reps S W H ds vs → Rep S W H d v → Reps S W H (ds.set n d) (vs.set n v)
  | _, [], vs, _, _, h, g => by rw [Reps.nil.mp h]; simp [Reps.nil]
  | 0, e :: ds, vs, d, v, h, g => by
    obtain ⟨u, r, rfl, h1, h2⟩ := h.un
    exact Reps.cons g h2
  | n + 1, e :: ds, vs, d, v, h, g => by
    obtain ⟨u, r, rfl, h1, h2⟩ := h.un
    exact Reps.cons h1 (Reps.set n h2 g)
theorem Reps.cutV {ds : List D} {vs : List V} (h : Reps S W H ds vs) (lo hi : Option Int) : Reps S W H (cut ds lo hi) (L2.cutV vs lo hi) := by
  unfold cut L2.cutV
  rw [h.len]
  exact (h.drop _).take _
theorem Reps.rep : ∀ (n : Nat) {ds : List D} {vs : List V}, Reps S W H ds vs → Reps S W H (List.replicate n ds).flatten (List.replicate n vs).flatten
  | 0, _, _, _ => by simp [Reps.nil]
  | n + 1, ds, vs, h => by
    rw [List.replicate_succ, List.replicate_succ, List.flatten_cons, List.flatten_cons]
    exact h.append (Reps.rep n h)
theorem RepC.reps : ∀ {kvs : List (DK × D)} {vs : List V}, RepC S W H kvs vs ↔ Reps S W H (kvs.map (·.2)) vs
  | [], vs => by simp only [RepC, List.map_nil, Reps]
  | kv :: r, vs => by
    simp only [RepC, List.map_cons, Reps]
    constructor
    · rintro ⟨v, s, e, h1, h2⟩; exact ⟨v, s, e, h1, RepC.reps.mp h2⟩
    · rintro ⟨v, s, e, h1, h2⟩; exact ⟨v, s, e, h1, RepC.reps.mpr h2⟩
end
end Nl
end
section
set_option maxRecDepth 100000
set_option maxHeartbeats 1000000
/-! Nl.Mem: what a step does to the memory; reading values off it. -/
namespace Nl
open PySem L2

section
variable {S : Sx} {W W' : Wd} {H H' : Hp} {M : Mem} {K : PySem.W.Frag}
theorem Reps.map {α : Type} {f : α → D} {g : α → V} : ∀ {l : List α}, (∀ x ∈ l, Rep S W H (f x) (g x)) → Reps S W H (l.map f) (l.map g)
  | [], _ => Reps.nil.mpr rfl
  | x :: l, h => Reps.cons (h x (List.mem_cons_self ..)) (Reps.map fun y hy => h y (List.mem_cons_of_mem _ hy))
theorem ObjRep.keep (k : Kept W H W' H') {a : Addr} {o : MO} (e : H' a = H a) (h : ObjRep S W H a o) : ObjRep S W' H' a o := by
  cases o with
  | lst ds =>
    obtain ⟨vs, h1, h2⟩ := h
    exact ⟨vs, e.trans h1, h2.keep k⟩
  | dct kvs =>
    obtain ⟨vs, h1, h2⟩ := h
    refine ⟨vs, ?_, h2.keep k⟩
    rcases h1 with ⟨l, q, z⟩ | ⟨l, q, z⟩
    · exact .inl ⟨l, e.trans q, z⟩
    · exact .inr ⟨l, e.trans q, z⟩
  | ins c fs =>
    obtain ⟨dx, gs, h1, h2, h3, h4⟩ := h
    exact ⟨dx, gs, e.trans h1, h2, h3.keep k, h4⟩
/-- a new object that is no thing to be changed -/
theorem MemRel.grow (m : MemRel S W H M) {p : Addr} {o : HO} (hp : H p = none) (hf : ∀ a, W'.fz a → W.fz a ∨ a = p) (hg : ∀ a, W.fz a → W'.fz a) (hr : W'.rho = W.rho) : Ext S W M H W' M (upd H p o) := by
  have ne : ∀ (b : Addr) (u : HO), H b = some u → b ≠ p := fun b u e z => by
    rw [z, hp] at e
    cases e
  have k : Kept W H W' (upd H p o) := ⟨fun i a h => by rw [hr]; exact h, hg, fun a o _ h => by rw [upd_ne (ne a _ h)]; exact h, fun a u _ h => by
    rcases h with h | ⟨x, h⟩
    · exact .inl (by rw [upd_ne (ne a _ h)]; exact h)
    · exact .inr ⟨x, by rw [upd_ne (ne a _ h)]; exact h⟩⟩
  have live : ∀ (i : Nat) (a : Addr), W.rho[i]? = some a → a ≠ p := fun i a e => by
    obtain ⟨u, e1, _⟩ := m.live e
    exact ne a u e1
  refine ⟨⟨by rw [hr]; exact m.len, by rw [hr]; exact m.inj, fun i a e hz => ?_, fun i ob a e1 e2 => ?_, fun a hz => ?_⟩, fun i a e => by rw [hr]; exact e, hg, fun b u e _ => by rw [upd_ne (ne b u e)]; exact e, fun i a e => .inl (by rw [← hr]; exact e), fun a hz => ?_, fun b u e => ⟨u, by rw [upd_ne (ne b u e)]; exact e⟩⟩
  · rw [hr] at e
    rcases hf a hz with q | q
    · exact m.nfz i a e q
    · exact live i a e q
  · rw [hr] at e2
    exact (m.obj i ob a e1 e2).keep k (upd_ne (live i a e2))
  · rcases hf a hz with q | q
    · obtain ⟨u, e⟩ := m.fzok a q
      exact ⟨u, by rw [upd_ne (ne a u e)]; exact e⟩
    · exact ⟨o, by rw [q]; exact upd_same⟩
  · rcases hf a hz with q | q
    · exact .inl q
    · exact .inr (by rw [q]; exact hp)
theorem Ext.tup (m : MemRel S W H M) {p : Addr} {o : HO} (hp : H p = none) : Ext S W M H W M (upd H p o) := m.grow hp (fun _ h => .inl h) (fun _ h => h) rfl
abbrev Wd.fzp (W : Wd) (p : Addr) : Wd := ⟨W.rho, fun a => W.fz a ∨ a = p⟩
theorem Ext.frz (m : MemRel S W H M) {p : Addr} {o : HO} (hp : H p = none) : Ext S W M H (W.fzp p) M (upd H p o) := m.grow hp (fun _ h => h) (fun _ h => .inl h) rfl
/-- a new thing that may be changed -/
abbrev Wd.new (W : Wd) (p : Addr) : Wd := ⟨W.rho ++ [p], W.fz⟩
theorem get_snoc {α : Type} {l : List α} {x : α} {i : Nat} {y : α} (h : (l ++ [x])[i]? = some y) : l[i]? = some y ∨ (i = l.length ∧ y = x) := by
  by_cases hi : i < l.length
  · rw [List.getElem?_append_left hi] at h; exact .inl h
  · rw [List.getElem?_append_right (by omega)] at h
    have : i - l.length = 0 := by
      cases e : i - l.length with
      | zero => rfl
      | succ n => rw [e] at h; simp at h
    rw [this] at h
    simp at h
    exact .inr ⟨by omega, h.symm⟩
theorem snoc_old {α : Type} {l : List α} {x : α} {i : Nat} {y : α} (h : l[i]? = some y) : (l ++ [x])[i]? = some y := by
  rw [List.getElem?_append_left (List.getElem?_eq_some_iff.mp h).1]; exact h
theorem snoc_last {α : Type} {l : List α} {x : α} : (l ++ [x])[l.length]? = some x := by simp
theorem Ext.mk_new (m : MemRel S W H M) {p : Addr} {u : HO} {o : MO} (hp : H p = none) (ho : ObjRep S (W.new p) (upd H p u) p o) : Ext S W M H (W.new p) (M ++ [o]) (upd H p u) := by
  have ne : ∀ (b : Addr) (u : HO), H b = some u → b ≠ p := fun b u e z => by
    rw [z, hp] at e
    cases e
  have k : Kept W H (W.new p) (upd H p u) := ⟨fun i a h => snoc_old h, fun _ h => h, fun a o _ h => by rw [upd_ne (ne a _ h)]; exact h, fun a u _ h => by
    rcases h with h | ⟨x, h⟩
    · exact .inl (by rw [upd_ne (ne a _ h)]; exact h)
    · exact .inr ⟨x, by rw [upd_ne (ne a _ h)]; exact h⟩⟩
  have live : ∀ (i : Nat) (a : Addr), W.rho[i]? = some a → a ≠ p := fun i a e => by
    obtain ⟨u, e1, _⟩ := m.live e
    exact ne a u e1
  refine ⟨⟨by simp [m.len], fun i j a e1 e2 => ?_, fun i a e hz => ?_, fun i ob a e1 e2 => ?_, fun a hz => ?_⟩, fun i a e => snoc_old e, fun _ h => h, fun b u e _ => by rw [upd_ne (ne b u e)]; exact e, fun i a e => ?_, fun a hz => .inl hz, fun b u e => ⟨u, by rw [upd_ne (ne b u e)]; exact e⟩⟩
  · rcases get_snoc e1 with q1 | ⟨q1, z1⟩ <;> rcases get_snoc e2 with q2 | ⟨q2, z2⟩
    · exact m.inj i j a q1 q2
    · exact absurd z2 (live i a q1)
    · exact absurd z1 (live j a q2)
    · omega
  · rcases get_snoc e with q | ⟨_, z⟩
    · exact m.nfz i a q hz
    · obtain ⟨x, e1⟩ := m.fzok a hz
      exact ne a x e1 z
  · rcases get_snoc e2 with q | ⟨q, z⟩
    · rcases get_snoc e1 with q1 | ⟨q1, z1⟩
      · exact (m.obj i ob a q1 q).keep k (upd_ne (live i a q))
      · have := (List.getElem?_eq_some_iff.mp q).1
        rw [m.len] at this
        omega
    · rw [m.len] at q
      rw [q, snoc_last] at e1
      cases e1
      rw [z]
      exact ho
  · obtain ⟨x, e⟩ := m.fzok a hz
    exact ⟨x, by rw [upd_ne (ne a x e)]; exact e⟩
  · rcases get_snoc e with q | ⟨_, z⟩
    · exact .inl q
    · exact .inr (by rw [z]; exact hp)
/-- a thing is changed -/
theorem Ext.write (m : MemRel S W H M) {i : Nat} {a : Addr} {u : HO} {o : MO} (hr : W.rho[i]? = some a) (ho : ObjRep S W (upd H a u) a o) : Ext S W M H W (M.set i o) (upd H a u) := by
  obtain ⟨old, e0, nt, _, _⟩ := m.live hr
  have tn : ∀ (b : Addr) (o : HO), Imm o → H b = some o → b ≠ a := fun b o im e z => by
    rw [z, e0] at e
    cases e
    exact nt im
  have fn : ∀ (b : Addr), W.fz b → b ≠ a := fun b hz z => m.nfz i a hr (z ▸ hz)
  have k : Kept W H W (upd H a u) := ⟨fun _ _ h => h, fun _ h => h, fun b o im h => by rw [upd_ne (tn b o im h)]; exact h, fun b u hz h => by
    rcases h with h | ⟨x, h⟩
    · exact .inl (by rw [upd_ne (fn b hz)]; exact h)
    · exact .inr ⟨x, by rw [upd_ne (fn b hz)]; exact h⟩⟩
  refine ⟨⟨by simp [m.len], m.inj, m.nfz, fun j ob b e1 e2 => ?_, fun b hz => ?_⟩, fun _ _ h => h, fun _ h => h, fun b x e hn => by rw [upd_ne (fun (z : b = a) => hn i (by rw [z]; exact hr))]; exact e, fun j b e => .inl e, fun b hz => .inl hz, fun b x e => ?_⟩
  · by_cases hj : j = i
    · subst hj
      have hl : j < M.length := by rw [← m.len]; exact (List.getElem?_eq_some_iff.mp hr).1
      rw [List.getElem?_set_self hl] at e1
      cases e1
      rw [hr] at e2
      cases e2
      exact ho
    · rw [List.getElem?_set_ne (Ne.symm hj)] at e1
      have nb : b ≠ a := fun z => hj (m.inj j i a (z ▸ e2) hr)
      exact (m.obj j ob b e1 e2).keep k (upd_ne nb)
  · obtain ⟨x, e⟩ := m.fzok b hz
    exact ⟨x, by rw [upd_ne (fn b hz)]; exact e⟩
  · by_cases hb : b = a
    · exact ⟨u, by rw [hb]; exact upd_same⟩
    · exact ⟨x, by rw [upd_ne hb]; exact e⟩
/-! ### reading -/
theorem TupAt.sq {a : Addr} {vs : List V} (h : TupAt K H a vs) : SqT K H a vs := by
  rcases h with h | ⟨h, _⟩
  · exact .inl (.inl h)
  · exact .inr h
theorem DctM.at_ {a : Addr} {ks : List DK} {vs : List V} (h : DctM H a ks vs) : DctAt H a ks vs := by
  rcases h with ⟨l, h, q⟩ | ⟨l, h, q⟩
  · exact .inl ⟨l, .inl h, q⟩
  · exact .inr ⟨l, .inl h, q⟩
theorem Rep.ref_ {i : Nat} {v : V} (h : Rep S W H (.ref i) v) : ∃ a, v = .ref a ∧ W.rho[i]? = some a := by simpa only [Rep] using h
theorem Rep.tup_ {ds : List D} {v : V} (h : Rep S W H (.tup ds) v) : ∃ a vs, v = .ref a ∧ TupAt S.K H a vs ∧ Reps S W H ds vs := by simpa only [Rep] using h
theorem Rep.lst_ {ds : List D} {v : V} (h : Rep S W H (.lst ds) v) : ∃ a vs, v = .ref a ∧ LstAt S.K W.fz H a vs ∧ Reps S W H ds vs := by simpa only [Rep] using h
theorem Rep.dct_ {kvs : List (DK × D)} {v : V} (h : Rep S W H (.dct kvs) v) : ∃ a vs, v = .ref a ∧ W.fz a ∧ DctAt H a (kvs.map (·.1)) vs ∧ RepC S W H kvs vs := by simpa only [Rep] using h
theorem Rep.exc_ {c : Nat} {fl : Option (Str × Int)} {v : V} (h : Rep S W H (.exc c fl) v) : ∃ a, v = .ref a ∧ ExcAt S.K S.ca H a c fl := by simpa only [Rep] using h
theorem Rep.mk_exc {c : Nat} {fl : Option (Str × Int)} {a : Addr} (h : ExcAt S.K S.ca H a c fl) : Rep S W H (.exc c fl) (.ref a) := by
  simp only [Rep]
  exact ⟨a, rfl, h⟩
theorem Rep.int_ {i : Int} {v : V} (h : Rep S W H (.int i) v) : v = .int i := by simpa only [Rep] using h
theorem Rep.str_ {x : Str} {v : V} (h : Rep S W H (.str x) v) : v = .str x := by simpa only [Rep] using h
theorem Rep.bl_ {b : Bool} {v : V} (h : Rep S W H (.bl b) v) : v = .bl b := by simpa only [Rep] using h
theorem Rep.non_ {v : V} (h : Rep S W H .non v) : v = .non := by simpa only [Rep] using h
theorem Rep.int (i : Int) : Rep S W H (.int i) (.int i) := by simp only [Rep]
theorem Rep.bl (i : Bool) : Rep S W H (.bl i) (.bl i) := by simp only [Rep]
theorem Rep.str (i : Str) : Rep S W H (.str i) (.str i) := by simp only [Rep]
theorem Rep.non : Rep S W H .non .non := by simp only [Rep]
theorem Rep.mk_tup {ds : List D} {a : Addr} {vs : List V} (h : H a = some (.tup vs)) (r : Reps S W H ds vs) : Rep S W H (.tup ds) (.ref a) := by
  simp only [Rep]
  exact ⟨a, vs, rfl, .inl h, r⟩
theorem Rep.mk_lst {ds : List D} {a : Addr} {vs : List V} (h : H a = some (.lst vs)) (hf : W.fz a) (r : Reps S W H ds vs) : Rep S W H (.lst ds) (.ref a) := by
  simp only [Rep]
  exact ⟨a, vs, rfl, .inl ⟨hf, .inl h⟩, r⟩
theorem Rep.mk_ref {i : Nat} {a : Addr} (h : W.rho[i]? = some a) : Rep S W H (.ref i) (.ref a) := by
  simp only [Rep]
  exact ⟨a, rfl, h⟩
theorem asL_rep (m : MemRel S W H M) {d : D} {ds : List D} {v : V} (e : asL M d = some ds) (h : Rep S W H d v) : ∃ a vs, v = .ref a ∧ RdL S.K H a vs ∧ Reps S W H ds vs := by
  cases d with
  | lst es =>
    have e' : es = ds := Option.some.inj e
    subst e'
    obtain ⟨a, vs, q, t, r⟩ := h.lst_
    exact ⟨a, vs, q, t.rd, r⟩
  | ref i =>
    obtain ⟨a, q, hr⟩ := h.ref_
    unfold asL at e
    obtain ⟨o, hm, ho⟩ := m.at_ hr
    dsimp only at e
    rw [hm] at e
    cases o with
    | lst es =>
      have e' : es = ds := Option.some.inj e
      subst e'
      obtain ⟨vs, h1, h2⟩ := ho
      exact ⟨a, vs, q, .inl (.inl h1), h2⟩
    | dct _ => cases e
    | ins _ _ => cases e
  | _ => cases e
theorem asS_rep (m : MemRel S W H M) {d : D} {ds : List D} {v : V} (e : asS M d = some ds) (h : Rep S W H d v) : ∃ a vs, v = .ref a ∧ (SqL S.K H a vs ∨ SqT S.K H a vs) ∧ Reps S W H ds vs := by
  cases d with
  | tup es =>
    have e' : es = ds := Option.some.inj e
    subst e'
    obtain ⟨a, vs, q, t, r⟩ := h.tup_
    exact ⟨a, vs, q, .inr t.sq, r⟩
  | _ =>
    simp only [asS] at e
    obtain ⟨a, vs, q, t, r⟩ := asL_rep m e h
    exact ⟨a, vs, q, .inl t.sq, r⟩
theorem asC_rep (m : MemRel S W H M) {d : D} {kvs : List (DK × D)} {v : V} (e : asC M d = some kvs) (h : Rep S W H d v) : ∃ a vs, v = .ref a ∧ DctAt H a (kvs.map (·.1)) vs ∧ RepC S W H kvs vs := by
  cases d with
  | dct es =>
    have e' : es = kvs := Option.some.inj e
    subst e'
    obtain ⟨a, vs, q, _, t, r⟩ := h.dct_
    exact ⟨a, vs, q, t, r⟩
  | ref i =>
    obtain ⟨a, q, hr⟩ := h.ref_
    unfold asC at e
    obtain ⟨o, hm, ho⟩ := m.at_ hr
    dsimp only at e
    rw [hm] at e
    cases o with
    | dct es =>
      have e' : es = kvs := Option.some.inj e
      subst e'
      obtain ⟨vs, h1, h2⟩ := ho
      exact ⟨a, vs, q, h1.at_, h2⟩
    | lst _ => cases e
    | ins _ _ => cases e
  | _ => cases e
theorem asI_rep (m : MemRel S W H M) {d : D} {c : Nat} {fs : List (Str × D)} {v : V} (e : asI M d = some (c, fs)) (h : Rep S W H d v) :
    ∃ i a dx gs, d = .ref i ∧ M[i]? = some (.ins c fs) ∧ W.rho[i]? = some a ∧ v = .ref a ∧ H a = some (.ins (S.ca c) dx gs) ∧ fs.map (·.1) = gs.map (·.1) ∧ Reps S W H (fs.map (·.2)) (gs.map (·.2)) ∧ (∀ f ∈ fs.map (·.1), NoAttr S.K (S.ca c) f) ∧ Cls S.K (S.ca c) := by
  cases d with
  | ref i =>
    obtain ⟨a, q, hr⟩ := h.ref_
    unfold asI at e
    obtain ⟨o, hm, ho⟩ := m.at_ hr
    dsimp only at e
    rw [hm] at e
    cases o with
    | ins c' es =>
      have e' : (c', es) = (c, fs) := Option.some.inj e
      cases e'
      obtain ⟨dx, gs, h1, h2, h3, h4⟩ := ho
      exact ⟨i, a, dx, gs, rfl, hm, hr, q, h1, h2, h3, h4⟩
    | lst _ => cases e
    | dct _ => cases e
  | _ => cases e
/-- a field's value -/
theorem getF_rep : ∀ {fs : List (Str × D)} {gs : List (Str × V)} {f : Str} {d : D}, fs.map (·.1) = gs.map (·.1) → Reps S W H (fs.map (·.2)) (gs.map (·.2)) → getF fs f = some d → ∃ v, gs.lookup f = some v ∧ Rep S W H d v ∧ f ∈ fs.map (·.1)
  | [], _, _, _, _, _, e => by cases e
  | (g, x) :: fs, [], _, _, h, _, _ => by simp at h
  | (g, x) :: fs, (g', y) :: gs, f, d, h, r, e => by
    simp only [List.map_cons, List.cons.injEq] at h
    obtain ⟨h1, h2⟩ := h
    subst h1
    obtain ⟨v, s, q, r1, r2⟩ := r.un
    simp only [List.map_cons, List.cons.injEq] at q
    obtain ⟨q1, q2⟩ := q
    subst q1 q2
    unfold getF at e
    by_cases hg : g = f
    · rw [if_pos hg] at e
      cases e
      subst hg
      exact ⟨_, by simp [List.lookup], r1, by simp⟩
    · rw [if_neg hg] at e
      obtain ⟨v', e1, e2, e3⟩ := getF_rep h2 r2 e
      have hb : (f == g) = false := by simpa using fun z => hg z.symm
      exact ⟨v', by simp only [List.lookup, hb]; exact e1, e2, List.mem_cons_of_mem _ e3⟩
theorem getF_none : ∀ {fs : List (Str × D)} {gs : List (Str × V)} {f : Str}, fs.map (·.1) = gs.map (·.1) → getF fs f = none → gs.lookup f = none
  | [], [], _, _, _ => rfl
  | [], _ :: _, _, h, _ => by simp at h
  | (g, x) :: fs, [], _, h, _ => by simp at h
  | (g, x) :: fs, (g', y) :: gs, f, h, e => by
    simp only [List.map_cons, List.cons.injEq] at h
    obtain ⟨h1, h2⟩ := h
    subst h1
    unfold getF at e
    by_cases hg : g = f
    · rw [if_pos hg] at e; cases e
    · rw [if_neg hg] at e
      have hb : (f == g) = false := by simpa using fun z => hg z.symm
      simp only [List.lookup, hb]
      exact getF_none h2 e
theorem putFD_rep {f : Str} {d : D} {v : V} (r0 : Rep S W H d v) : ∀ {fs : List (Str × D)} {gs : List (Str × V)}, fs.map (·.1) = gs.map (·.1) → Reps S W H (fs.map (·.2)) (gs.map (·.2)) →
    (putFD f d fs).map (·.1) = (putF f v gs).map (·.1) ∧ Reps S W H ((putFD f d fs).map (·.2)) ((putF f v gs).map (·.2)) ∧ ∀ g ∈ (putFD f d fs).map (·.1), g = f ∨ g ∈ fs.map (·.1)
  | [], [], _, _ => ⟨rfl, Reps.cons r0 (Reps.nil.mpr rfl), by simp [putFD]⟩
  | [], _ :: _, h, _ => by simp at h
  | (g, x) :: fs, [], h, _ => by simp at h
  | (g, x) :: fs, (g', y) :: gs, h, r => by
    simp only [List.map_cons, List.cons.injEq] at h
    obtain ⟨h1, h2⟩ := h
    subst h1
    obtain ⟨v', s, q, r1, r2⟩ := r.un
    simp only [List.map_cons, List.cons.injEq] at q
    obtain ⟨q1, q2⟩ := q
    subst q1 q2
    unfold putFD putF
    by_cases hg : g = f
    · rw [if_pos hg, if_pos hg]
      refine ⟨by simp [h2], Reps.cons r0 r2, fun z hz => ?_⟩
      simp only [List.map_cons, List.mem_cons] at hz ⊢
      exact hz.elim (fun q => .inr (.inl q)) fun q => .inr (.inr q)
    · rw [if_neg hg, if_neg hg]
      obtain ⟨e1, e2, e3⟩ := putFD_rep r0 h2 r2
      refine ⟨by simp [e1], Reps.cons r1 e2, fun z hz => ?_⟩
      simp only [List.map_cons, List.mem_cons] at hz ⊢
      exact hz.elim (fun q => .inr (.inl q)) fun q => (e3 z q).elim .inl fun q => .inr (.inr q)
end
end Nl
end
section
set_option maxRecDepth 100000
set_option maxHeartbeats 1000000
/-! Nl.Data: data read as the library's data; dicts' keys; retagging. -/
namespace Nl
open PySem L2

section
variable {S : Sx} {W W' : Wd} {H H' : Hp} {M : Mem}
theorem goodN_all {n : Nat} (ih : ∀ d v, goodN n d = true → Rep S W H d v → Dp S.K H v (toPy d) ∧ (toPy d).canLay0 = true ∧ (toPy d).depth ≤ n) :
    ∀ (ds : List D) (vs : List V), ds.all (goodN n) = true → Reps S W H ds vs → DpAll S.K H vs (toPys ds) ∧ PyData.canLayAll0 (toPys ds) = true ∧ PyData.depthAll (toPys ds) ≤ n
  | [], vs, _, r => by
    rw [Reps.nil.mp r]
    exact ⟨.nil, rfl, Nat.zero_le _⟩
  | d :: ds, vs, h, r => by
    obtain ⟨v, s, rfl, r1, r2⟩ := r.un
    rw [List.all_cons, Bool.and_eq_true] at h
    obtain ⟨a1, a2, a3⟩ := ih d v h.1 r1
    obtain ⟨b1, b2, b3⟩ := goodN_all ih ds s h.2 r2
    refine ⟨.cons a1 b1, ?_, ?_⟩
    · show ((toPy d).canLay0 && PyData.canLayAll0 (toPys ds)) = true
      rw [a2, b2]; rfl
    · show max (toPy d).depth (PyData.depthAll (toPys ds)) ≤ n
      omega
theorem goodN_dp : ∀ (n : Nat) (d : D) (v : V), goodN n d = true → Rep S W H d v → Dp S.K H v (toPy d) ∧ (toPy d).canLay0 = true ∧ (toPy d).depth ≤ n
  | n, .non, v, _, r => by rw [r.non_]; exact ⟨.non, rfl, Nat.zero_le _⟩
  | n, .bl b, v, _, r => by rw [r.bl_]; exact ⟨.bl b, rfl, Nat.zero_le _⟩
  | n, .int i, v, _, r => by rw [r.int_]; exact ⟨.int i, rfl, Nat.zero_le _⟩
  | n, .str x, v, h, r => by
    rw [r.str_]
    refine ⟨.str x, ?_, Nat.zero_le _⟩
    cases n <;> exact h
  | 0, .tup _, _, h, _ => by cases h
  | 0, .lst _, _, h, _ => by cases h
  | n + 1, .tup ds, v, h, r => by
    obtain ⟨a, vs, rfl, t, q⟩ := r.tup_
    obtain ⟨b1, b2, b3⟩ := goodN_all (goodN_dp n) ds vs h q
    exact ⟨.tup t.sq b1, b2, Nat.succ_le_succ b3⟩
  | n + 1, .lst ds, v, h, r => by
    obtain ⟨a, vs, rfl, t, q⟩ := r.lst_
    obtain ⟨b1, b2, b3⟩ := goodN_all (goodN_dp n) ds vs h q
    exact ⟨.lst t.rd.sq b1, b2, Nat.succ_le_succ b3⟩
  | 0, .dct _, _, h, _ => by cases h
  | _ + 1, .dct _, _, h, _ => by cases h
  | 0, .ref _, _, h, _ => by cases h
  | _ + 1, .ref _, _, h, _ => by cases h
  | 0, .fn _, _, h, _ => by cases h
  | _ + 1, .fn _, _, h, _ => by cases h
  | 0, .exc _ _, _, h, _ => by cases h
  | _ + 1, .exc _ _, _, h, _ => by cases h
theorem shaped_of {p : PyData} (h1 : p.canLay0 = true) (h2 : p.depth ≤ 50) : SeqAt.shaped p = true := by
  unfold SeqAt.shaped
  rw [h1, decide_eq_true (by omega : p.depth ≤ 64)]
  rfl
theorem good_dp {d : D} {v : V} (h : good d = true) (r : Rep S W H d v) : Dp S.K H v (toPy d) ∧ SeqAt.shaped (toPy d) = true := by
  obtain ⟨a, b, c⟩ := goodN_dp 50 d v h r
  exact ⟨a, shaped_of b c⟩
theorem good_all {ds : List D} {vs : List V} (h : ds.all good = true) (r : Reps S W H ds vs) : DpAll S.K H vs (toPys ds) ∧ PyData.canLayAll0 (toPys ds) = true ∧ PyData.depthAll (toPys ds) ≤ 50 := goodN_all (goodN_dp 50) ds vs h r
theorem rd_dp (m : MemRel S W H M) {d : D} {v : V} (h : good (rd M d) = true) (r : Rep S W H d v) : Dp S.K H v (toPy (rd M d)) ∧ SeqAt.shaped (toPy (rd M d)) = true := by
  cases d with
  | ref i =>
    obtain ⟨a, rfl, hr⟩ := r.ref_
    obtain ⟨o, hm, ho⟩ := m.at_ hr
    unfold rd at h ⊢
    dsimp only at h ⊢
    rw [hm] at h ⊢
    cases o with
    | lst ds =>
      obtain ⟨vs, e, q⟩ := ho
      obtain ⟨b1, b2, b3⟩ := goodN_all (goodN_dp 49) ds vs h q
      refine ⟨.lst (SqL.of e) b1, shaped_of b2 ?_⟩
      show PyData.depthAll (toPys ds) + 1 ≤ 50
      omega
    | dct _ => cases h
    | ins _ _ => cases h
  | _ => exact good_dp h r
/-! ### keys -/
theorem key1_rep {d : D} {v : V} {k : Key} (e : key1 d = some k) (r : Rep S W H d v) : v = kV k := by
  cases d with
  | int i => cases e; exact r.int_
  | str x => cases e; exact r.str_
  | _ => cases e
theorem keys1_rep : ∀ {ds : List D} {vs : List V} {ks : List Key}, keys1 ds = some ks → Reps S W H ds vs → vs = ks.map kV ∧ ks.length = ds.length
  | [], vs, ks, e, r => by
    cases e
    exact ⟨Reps.nil.mp r, rfl⟩
  | d :: ds, vs, ks, e, r => by
    obtain ⟨v, s, rfl, r1, r2⟩ := r.un
    unfold keys1 at e
    cases e1 : key1 d with
    | none => rw [e1] at e; cases e
    | some k =>
      rw [e1] at e
      dsimp only at e
      cases e2 : keys1 ds with
      | none => rw [e2] at e; cases e
      | some l =>
        rw [e2] at e
        cases e
        obtain ⟨q1, q2⟩ := keys1_rep e2 r2
        exact ⟨by rw [key1_rep e1 r1, q1]; rfl, by simp [q2]⟩
/-- what stands for a key -/
def KeyAt (H : Hp) (v : V) : DK → Prop
  | .inl k => v = kV k
  | .inr ks => ∃ b, v = .ref b ∧ H b = some (.tup (ks.map kV))
theorem keyD_rep {d : D} {v : V} {k : DK} (e : keyD d = some k) (r : Rep S W H d v) : KeyAt H v k := by
  cases d with
  | int i => cases e; exact r.int_
  | str x => cases e; exact r.str_
  | tup ds =>
    unfold keyD at e
    dsimp only at e
    by_cases hl : ds.length = 0 ∨ 5 < ds.length
    · rw [if_pos hl] at e; cases e
    · rw [if_neg hl] at e
      cases e2 : keys1 ds with
      | none => rw [e2] at e; cases e
      | some ks =>
        rw [e2] at e
        cases e
        obtain ⟨a, vs, rfl, t, q⟩ := r.tup_
        obtain ⟨q1, q2⟩ := keys1_rep e2 q
        rcases t with t | ⟨_, t⟩
        · exact ⟨a, rfl, by rw [← q1]; exact t⟩
        · rw [q1, List.length_map, q2] at t
          exact absurd t hl
  | _ => cases e
/-! ### a dict's content -/
theorem getK_map {κ : Type} [DecidableEq κ] {g : κ → DK} (hg : ∀ a b, g a = g b → a = b) : ∀ {kvs : List (DK × D)} {l : List (κ × V)} {vs : List V} {k : κ}, kvs.map (·.1) = l.map (fun p => g p.1) → vs = l.map (·.2) → RepC S W H kvs vs →
    (match getK kvs (g k) with
     | some d => ∃ v, valV l k = some v ∧ Rep S W H d v
     | none => valV l k = none)
  | [], [], _, k, _, _, _ => rfl
  | [], _ :: _, _, _, h, _, _ => by simp at h
  | _ :: _, [], _, _, h, _, _ => by simp at h
  | (j, d) :: kvs, (i, x) :: l, vs, k, h, e, r => by
    simp only [List.map_cons, List.cons.injEq] at h
    obtain ⟨h1, h2⟩ := h
    subst h1
    obtain ⟨v, s, q, r1, r2⟩ := (show ∃ v r, vs = v :: r ∧ Rep S W H d v ∧ RepC S W H kvs r from by simpa only [RepC] using r)
    rw [q] at e
    simp only [List.map_cons, List.cons.injEq] at e
    obtain ⟨e1, e2⟩ := e
    subst e1 e2
    unfold getK
    by_cases hk : g i = g k
    · rw [if_pos hk]
      exact ⟨_, valV_pos (hg _ _ hk), r1⟩
    · rw [if_neg hk]
      have ih := getK_map hg (k := k) h2 rfl r2
      rw [valV_neg (fun z => hk (by rw [show i = k from z]))]
      exact ih
theorem fit_l {l : List (List Key × V)} {ks : List DK} {vs : List V} {kvs : List (DK × D)} {k : Key} (e : kvs.map (·.1) = ks) (d : dcT l ks vs) (f : fitK kvs (.inl k) = true) : l = [] ∧ kvs = [] ∧ vs = [] := by
  obtain ⟨d1, d2⟩ := d
  cases kvs with
  | nil =>
    rw [d1] at e
    have : l = [] := by simpa using e.symm
    subst this
    exact ⟨rfl, rfl, d2⟩
  | cons p r =>
    obtain ⟨j, x⟩ := p
    cases l with
    | nil => rw [d1] at e; simp at e
    | cons q l =>
      rw [d1] at e
      simp only [List.map_cons, List.cons.injEq] at e
      unfold fitK at f
      rw [List.all_cons, Bool.and_eq_true] at f
      have f1 := f.1
      rw [e.1] at f1
      exact absurd f1 Bool.false_ne_true
theorem fit_r {l : List (Key × V)} {ks : List DK} {vs : List V} {kvs : List (DK × D)} {k : List Key} (e : kvs.map (·.1) = ks) (d : dcK l ks vs) (f : fitK kvs (.inr k) = true) : l = [] ∧ kvs = [] ∧ vs = [] := by
  obtain ⟨d1, d2⟩ := d
  cases kvs with
  | nil =>
    rw [d1] at e
    have : l = [] := by simpa using e.symm
    subst this
    exact ⟨rfl, rfl, d2⟩
  | cons p r =>
    obtain ⟨j, x⟩ := p
    cases l with
    | nil => rw [d1] at e; simp at e
    | cons q l =>
      rw [d1] at e
      simp only [List.map_cons, List.cons.injEq] at e
      unfold fitK at f
      rw [List.all_cons, Bool.and_eq_true] at f
      have f1 := f.1
      rw [e.1] at f1
      exact absurd f1 Bool.false_ne_true
end
section
variable {P : Program} {w : World} {H : Hp} {h : Heap} {a : Addr}
theorem emptyKT (x : ObjOk P w H h a (.dT [])) : ObjOk P w H h a (.dK []) := by
  obtain ⟨z, y, xs, rel, o, es, ep, e1, e2, e3, e4, _⟩ := x
  cases rel
  have e5 : es.toList = [] := by simpa using e4
  have e6 : es = #[] := by
    apply Array.toList_inj.mp
    rw [e5]
  subst e6
  refine ⟨z, y, [], .nil, o, #[], ep, e1, e2, e3, ?_, ?_, List.nodup_nil⟩
  · first | exact fun i hi => absurd hi (by simp) | (unfold KeysOf; simp) | simp [KeysOf]
  · first | exact .nil | (unfold Pairs; simp) | simp [Pairs]
theorem emptyTK (x : ObjOk P w H h a (.dK [])) : ObjOk P w H h a (.dT []) := by
  obtain ⟨z, y, vs, rel, o, es, ep, e1, e2, e3, e4, e5, _⟩ := x
  cases rel
  refine ⟨z, y, [], .nil, o, es, ep, e1, e2, e3, ?_, List.nodup_nil⟩
  cases e : es.toList with
  | nil => rfl
  | cons q r => rw [e] at e5; cases e5
end
end Nl
end
section
set_option maxRecDepth 100000
set_option maxHeartbeats 2000000
/-! Nl.Ops: the operations on values are sound. -/
namespace Nl
open PySem L2 PySem.Spec PyProof.Rows

theorem LIM_line : LIM ≤ sizeLine := by rw [sizeLine_eq]; decide
theorem lim_le {n : Nat} (h : n ≤ LIM) : n ≤ sizeLine := Nat.le_trans h LIM_line
theorem lim_lt {n : Nat} (h : n < LIM) : n < sizeLine := Nat.lt_of_lt_of_le h LIM_line

section
variable {S : Sx} {W W' : Wd} {H H' : Hp} {M M' : Mem}
theorem newL_ok {p : Addr} {ds : List D} {vs : List V} {mt : Bool} {d : D} (m : MemRel S W H M) (hp : H p = none) (r : Reps S W H ds vs) (e : newL mt ds M = (d, M')) :
    ∃ W', Ext S W M H W' M' (upd H p (.lst vs)) ∧ Rep S W' (upd H p (.lst vs)) d (.ref p) := by
  cases mt with
  | false =>
    cases e
    have x := Ext.frz (o := .lst vs) m hp
    exact ⟨_, x, Rep.mk_lst upd_same (.inr rfl) (r.keep (x.kept m))⟩
  | true =>
    cases e
    have ne : ∀ (b : Addr) (u : HO), H b = some u → b ≠ p := fun b u e z => by
      rw [z, hp] at e
      cases e
    have k : Kept W H (W.new p) (upd H p (.lst vs)) := ⟨fun i a h => snoc_old h, fun _ h => h, fun a o _ h => by rw [upd_ne (ne a _ h)]; exact h, fun a u _ h => by
      rcases h with h | ⟨x, h⟩
      · exact .inl (by rw [upd_ne (ne a _ h)]; exact h)
      · exact .inr ⟨x, by rw [upd_ne (ne a _ h)]; exact h⟩⟩
    have x : Ext S W M H (W.new p) (M ++ [.lst ds]) (upd H p (.lst vs)) := Ext.mk_new m hp ⟨vs, upd_same, r.keep k⟩
    exact ⟨_, x, Rep.mk_ref (by rw [← m.len]; exact snoc_last)⟩
theorem tup_ok {p : Addr} {ds : List D} {vs : List V} (m : MemRel S W H M) (hp : H p = none) (r : Reps S W H ds vs) :
    Ext S W M H W M (upd H p (.tup vs)) ∧ Rep S W (upd H p (.tup vs)) (.tup ds) (.ref p) := by
  have x := Ext.tup (o := .tup vs) m hp
  exact ⟨x, Rep.mk_tup upd_same (r.keep (x.kept m))⟩
theorem Rep.of_tup {ds : List D} {a : Addr} {vs : List V} (t : TupAt S.K H a vs) (r : Reps S W H ds vs) : Rep S W H (.tup ds) (.ref a) := by
  simp only [Rep]
  exact ⟨a, vs, rfl, t, r⟩
/-- a two-place operation -/
def rD2 (S : Sx) (f : D → D → Mem → Option (D × Mem)) : R2 := fun x y H Q => ∃ W M dx dy d M', MemRel S W H M ∧ Rep S W H dx x ∧ Rep S W H dy y ∧ f dx dy M = some (d, M') ∧
  ∀ W' H' v, Ext S W M H W' M' H' → Rep S W' H' d v → Q v H'
/-- .. that leaves the memory as it is -/
def rD2p (S : Sx) (f : Mem → D → D → Option D) : R2 := rD2 S fun x y M => bO (f M x y) fun d => some (d, M)
variable {X : Cx}
theorem bI {op : Operator} {i j k : Int} (e : binI op i j = some k) : ∀ (H : Hp) (Q : VK), Q (.int k) H → (pins : List (Addr × Obj)) → (s : Shared) → (σ : L2.St) → (v u : Value) → Inv X pins σ H s → RelV (.int i) v → RelV (.int j) u →
    wpAny (model X.prog X.w) X.A (binaryOp op v u) (EP X pins σ Q) X.xe s := by
  intro H Q q pins s σ v u I rv ru
  cases op <;> simp only [binI, Option.some.injEq, reduceCtorEq] at e
  case Add => subst e; exact op_add pins s σ H _ _ v u Q I rv ru ⟨i, j, rfl, rfl, q⟩
  case Sub => subst e; exact op_sub pins s σ H _ _ v u Q I rv ru ⟨i, j, rfl, rfl, q⟩
  case Mult =>
    split at e
    · rename_i h
      cases e
      refine op_mul pins s σ H _ _ v u Q I rv ru ⟨i, j, rfl, rfl, ?_, q⟩
      simp only [small64, Bool.or_eq_true, Bool.and_eq_true, decide_eq_true_eq] at h
      exact h
    · cases e
  case FloorDiv =>
    split at e
    · rename_i h; cases e; exact op_fdivN pins s σ H _ _ v u Q I rv ru ⟨i, j, rfl, rfl, h, q⟩
    · cases e
  case Mod =>
    split at e
    · rename_i h; cases e; exact op_modN pins s σ H _ _ v u Q I rv ru ⟨i, j, rfl, rfl, h, q⟩
    · cases e
  case Pow =>
    split at e
    · rename_i h; cases e; exact op_pow pins s σ H _ _ v u Q I rv ru ⟨i, j, rfl, rfl, h, q⟩
    · cases e
  case LShift =>
    split at e
    · rename_i h; cases e; exact op_shl pins s σ H _ _ v u Q I rv ru ⟨i, j, rfl, rfl, h, q⟩
    · cases e
  case RShift =>
    split at e
    · rename_i h; cases e; exact op_shr pins s σ H _ _ v u Q I rv ru ⟨i, j, rfl, rfl, h, q⟩
    · cases e
  case BitAnd => subst e; exact op_and pins s σ H _ _ v u Q I rv ru ⟨i, j, rfl, rfl, q⟩
  case BitOr => subst e; exact op_or pins s σ H _ _ v u Q I rv ru ⟨i, j, rfl, rfl, q⟩
  case BitXor => subst e; exact op_xor pins s σ H _ _ v u Q I rv ru ⟨i, j, rfl, rfl, q⟩
theorem lstR {pins : List (Addr × Obj)} {σ : L2.St} {s : Shared} {l : Addr} {xs : List V} (I : Inv X pins σ H s) (h : RdL X.K H l xs) : xs.length ≤ sizeLine ∧ ∃ (its : List Value) (n : Nat), Vals xs its ∧ xs.length = its.length ∧ s.heap.get? l = some { cls := .type "list", data := .seq its.toArray n } := by
  rcases h with h | ⟨its, n, e, z, r⟩
  · obtain ⟨z, its, n, r, e⟩ := h.ok I.hok
    exact ⟨z, its, n, r, r.length, e⟩
  · have hl := r.length
    exact ⟨by rw [hl, Array.length_toList]; exact z, its.toList, n, r, hl, by rw [Array.toArray_toList]; exact I.kIn _ _ e⟩
def rCatR (K : PySem.W.Frag) : R2 := fun x y H Q => ∃ l b xs zs, x = .ref l ∧ y = .ref b ∧ RdL K H l xs ∧ RdL K H b zs ∧ xs.length + zs.length ≤ sizeLine ∧ ∀ p, H p = none → Q (.ref p) (upd H p (.lst (xs ++ zs)))
theorem op_catR : OpR X (binaryOp .Add) (rCatR X.K) := by
  intro pins s σ H x y v u Q I rx ry h
  obtain ⟨l, b, xs, zs, rfl, rfl, hH, hB, hz, q⟩ := h
  cases rx
  cases ry
  obtain ⟨z, its, n, r, hl, e⟩ := lstR I hH
  obtain ⟨z2, its2, n2, r2, hl2, e2⟩ := lstR I hB
  refine PySem.P.add_list e e2 ?_ (by rw [List.size_toArray, List.size_toArray]; omega)
  have ea : its.toArray ++ its2.toArray = (its ++ its2).toArray := by simp
  rw [ea]
  exact ⟨.ref _, _, I.lnew (t' := s.toks) (r.append r2) (by rw [List.length_append]; omega), rfl, q _ I.fresh⟩
def rRepR (K : PySem.W.Frag) : R2 := fun x y H Q => ∃ l k xs, x = .ref l ∧ y = .int k ∧ RdL K H l xs ∧ -(2 ^ 63) ≤ k ∧ k < 2 ^ 63 ∧ xs.length * k.toNat ≤ sizeLine ∧
  ∀ p, H p = none → Q (.ref p) (upd H p (.lst (List.replicate k.toNat xs).flatten))
theorem op_repR : OpR X (binaryOp .Mult) (rRepR X.K) := by
  intro pins s σ H x y v u Q I rx ry h
  obtain ⟨l, k, xs, rfl, rfl, hH, h1, h2, hz, q⟩ := h
  cases rx
  obtain ⟨t, rfl⟩ := ry
  obtain ⟨z, its, n, r, hl, e⟩ := lstR I hH
  have hlen : its.toArray.size * k.toNat ≤ sizeLine := by rw [List.size_toArray, ← hl]; exact hz
  have hcap : ¬ its.toArray.size * k.toNat > (2 ^ 63 - 1) / 8 := by
    have : (sizeLine : Nat) ≤ (2 ^ 63 - 1) / 8 := by decide
    omega
  have hfit : ¬ (!Builtin.List.listFitsIndex k) = true := by
    rw [fitsIndex_both h1 h2]
    exact Bool.false_ne_true
  have hlong : ¬ Builtin.List.listTooLong (its.toArray.size * k.toNat) = true := by
    rw [notLongL hlen]
    exact Bool.false_ne_true
  have hnew : List.foldl (fun x1 x2 => x1 ++ x2) #[] (List.replicate (if its.toArray.isEmpty = true then 0 else k.toNat) its.toArray) = (List.replicate k.toNat its).flatten.toArray := by
    have f0 : ∀ m : Nat, List.foldl (fun x1 x2 => x1 ++ x2) #[] (List.replicate m its.toArray) = (List.replicate m its).flatten.toArray := fun m => by
      have := foldl_rep its m []
      rw [List.nil_append] at this
      exact this
    rw [f0]
    cases its with
    | nil => simp
    | cons a r' => rw [if_neg (by simp)]
  refine wpAny_binaryOp_repeat_ref (T := "list") (U := "int") (by decide) ⟨_, e, rfl⟩ (fun s' => typeIs_int s' k t) noFill_list_mul F.fills_int_mul F.slot_int_rmul repeat_list F.slot_int_index.lookup
    (call_meets F.slot_int_rmul (typeIs_int s k t) F.entry_int_rmul (F.args_int_rmul_2 _ _) (int___rmul___int_list k t l its.toArray n)
      ⟨e, rfl, ⟨_, e, rfl⟩, call_meets F.slot_list_mul ⟨_, e, rfl⟩ F.entry_list_mul (F.args_list_mul_2 _ _) (AutoListH.list___mul___list_int_3 l its.toArray n k t hfit hcap hlong) ⟨e, ?_⟩⟩)
  rw [hnew]
  exact ⟨.ref _, _, I.lnew (t' := s.toks) (r.rep k.toNat) (by rw [PyProof.Rows.lm_len_rep_flat, Nat.mul_comm]; exact hz), rfl, q _ I.fresh⟩
def rRep1 (K : PySem.W.Frag) : R2 := fun x y H Q => ∃ l xs, x = .ref l ∧ y = .int 1 ∧ SqT K H l xs ∧ Q (.ref l) H
theorem tuple_mul1 (l : Addr) (items : Array Value) (n : Nat) (dd : Option Addr) (sl : Array (Option Value)) (u : Tok) :
    Meets (Builtin.«tuple.__mul__» ⟨[.ref l, .int 1 u], []⟩) (fun _ R s => s.heap.get? l = some { cls := .type "tuple", dict := dd, data := .seq items n, slots := sl } ∧ R (.ok (.ret (.ref l))) s) :=
  .of_wp fun prog w A R s h => by
    obtain ⟨hp, g, d, tk, os⟩ := s
    obtain ⟨hl, h⟩ := h
    have f1 := AutoSeq1.idx_int
    have c0 : (decide ((1 : Int) < -(2 ^ 63)) || decide ((1 : Int) ≥ 2 ^ 63)) = false := by decide
    have c1 : (items.isEmpty || (1 : Int) == 1) = true := by simp
    wp_walk using AutoSeq1.wpAny_loadPart' hl
    repeat (first
      | (refine wpAny_ite_false (decide_eq_false (by rw [c0]; exact Bool.false_ne_true)) ?_; wp_walk using AutoSeq1.wpAny_loadPart' hl)
      | (refine wpAny_ite_true (decide_eq_true (by rw [c1])) ?_; wp_walk using AutoSeq1.wpAny_loadPart' hl))
    exact ⟨_, rfl, h⟩
theorem op_rep1 : OpR X (binaryOp .Mult) (rRep1 X.K) := by
  intro pins s σ H x y v u Q I rx ry h
  obtain ⟨l, xs, rfl, rfl, hT, q⟩ := h
  cases rx
  obtain ⟨t, rfl⟩ := ry
  obtain ⟨its, r, ⟨⟨cls, dd, data, sl⟩, ho, hc, n, hd⟩, hs⟩ := I.tuple hT
  simp only at hc hd
  subst hc hd
  exact wpAny_binaryOp_repeat_ref (T := "tuple") (U := "int") (by decide) ⟨_, ho, rfl⟩ (fun s' => typeIs_int s' 1 t) noFill_tuple_mul F.fills_int_mul F.slot_int_rmul repeat_tuple F.slot_int_index.lookup
    (call_meets F.slot_int_rmul (typeIs_int s 1 t) F.entry_int_rmul (F.args_int_rmul_2 _ _) (int_rmul_tuple 1 t l its.toArray n dd sl)
      ⟨ho, rfl, ⟨_, ho, rfl⟩, call_meets F.slot_tuple_mul ⟨_, ho, rfl⟩ F.entry_tuple_mul (F.args_tuple_mul_2 _ _) (tuple_mul1 l its.toArray n dd sl t) ⟨ho, ⟨.ref l, H, I, rfl, q⟩⟩⟩)
theorem nil_of {α β : Type} {l : List α} {r : List β} (h : l.length = r.length) (e : l = []) : r = [] := by
  subst e
  exact List.eq_nil_of_length_eq_zero h.symm
theorem op_bin {op : Operator} {mt : Bool} (hK : X.K = S.K) : OpR X (binaryOp op) (rD2 S (binD mt op)) := by
  intro pins s σ H x y v u Q I rx ry h
  obtain ⟨W, M, dx, dy, d, M', m, px, py, e, q⟩ := h
  have listMul : ∀ (k : Int) (a : List D), op = .Mult → dy = .int k → asL M dx = some a → (k < LIM ∧ -LIM < k ∧ a.length * k.toNat ≤ LIM) → newL mt (reps k a) M = (d, M') → wpAny (model X.prog X.w) X.A (binaryOp op v u) (EP X pins σ Q) X.xe s := by
    intro k a eo ed ea hz e'
    subst eo ed
    obtain ⟨p, vs, rfl, t, r⟩ := asL_rep m ea px
    have ey := py.int_
    subst ey
    refine op_repR pins s σ H _ _ v u Q I rx ry ⟨p, k, vs, rfl, rfl, hK ▸ t, ?_, ?_, ?_, fun p hp => ?_⟩
    · have := hz.2.1; unfold LIM at this; omega
    · have := hz.1; unfold LIM at this; omega
    · rw [← r.len]; exact lim_le hz.2.2
    · obtain ⟨W', x1, r1⟩ := newL_ok (mt := mt) m hp (r.rep k.toNat) e'
      exact q _ _ _ x1 r1
  have listAdd : ∀ (a b : List D), op = .Add → asL M dx = some a → asL M dy = some b → a.length + b.length ≤ LIM → newL mt (a ++ b) M = (d, M') → wpAny (model X.prog X.w) X.A (binaryOp op v u) (EP X pins σ Q) X.xe s := by
    intro a b eo ea eb hz e'
    subst eo
    obtain ⟨p, vs, rfl, t, r⟩ := asL_rep m ea px
    obtain ⟨p2, us, rfl, t2, r2⟩ := asL_rep m eb py
    refine op_catR pins s σ H _ _ v u Q I rx ry ⟨p, p2, vs, us, rfl, rfl, hK ▸ t, hK ▸ t2, ?_, fun p hp => ?_⟩
    · rw [← r.len, ← r2.len]; exact lim_le hz
    · obtain ⟨W', x1, r1⟩ := newL_ok (mt := mt) m hp (r.append r2) e'
      exact q _ _ _ x1 r1
  have addG : addL mt op dx dy M = some (d, M') → wpAny (model X.prog X.w) X.A (binaryOp op v u) (EP X pins σ Q) X.xe s := by
    intro e
    unfold addL at e
    cases op <;> try (cases e; done)
    dsimp only at e
    cases ea : asL M dx with
    | none => rw [ea] at e; cases e
    | some a =>
      rw [ea] at e
      cases eb : asL M dy with
      | none => rw [eb] at e; cases e
      | some b =>
        rw [eb] at e
        dsimp only at e
        split at e
        · rename_i hz
          exact listAdd a b rfl ea eb hz (Option.some.inj e)
        · cases e
  have mulG : ∀ (k : Int), dy = .int k → mulL mt op dx k M = some (d, M') → wpAny (model X.prog X.w) X.A (binaryOp op v u) (EP X pins σ Q) X.xe s := by
    intro k ed e
    unfold mulL at e
    cases op <;> try (cases e; done)
    dsimp only at e
    cases ea : asL M dx with
    | none => rw [ea] at e; cases e
    | some a =>
      rw [ea] at e
      dsimp only at e
      split at e
      · rename_i hz
        exact listMul k a rfl ed ea hz (Option.some.inj e)
      · cases e
  cases dx with
  | int i =>
    cases dy with
    | int j =>
      have ex := px.int_
      have ey := py.int_
      subst ex ey
      unfold binD at e
      dsimp only at e
      cases eb : binI op i j with
      | none => rw [eb] at e; cases e
      | some k =>
        rw [eb] at e
        cases e
        exact bI eb H Q (q _ _ _ (Ext.refl m) (Rep.int k)) pins s σ v u I rx ry
    | _ => exact addG e
  | str a =>
    cases dy with
    | str b =>
      have ex := px.str_
      have ey := py.str_
      subst ex ey
      unfold binD at e
      dsimp only at e
      cases op <;> try (cases e; done)
      dsimp only at e
      split at e
      · rename_i hz
        cases e
        exact op_add_str pins s σ H _ _ v u Q I rx ry ⟨a, b, rfl, rfl, lim_le hz, q _ _ _ (Ext.refl m) (Rep.str _)⟩
      · cases e
    | int k => exact mulG k rfl e
    | _ => exact addG e
  | tup a =>
    cases dy with
    | tup b =>
      unfold binD at e
      dsimp only at e
      cases op <;> try (cases e; done)
      dsimp only at e
      split at e
      · rename_i hz
        cases e
        obtain ⟨p, vs, rfl, t, r⟩ := px.tup_
        obtain ⟨p2, us, rfl, t2, r2⟩ := py.tup_
        refine op_catA pins s σ H _ _ v u Q I rx ry ⟨p, p2, vs, us, rfl, rfl, hK ▸ t.sq, hK ▸ t2.sq, ?_, fun e0 => ?_, fun _ e0 => ?_, fun _ _ p3 hp => ?_⟩
        · rw [← r.len, ← r2.len]; exact lim_le hz
        · have ea : a = [] := nil_of r.len.symm e0
          refine q _ _ _ (Ext.refl m) ?_
          rw [ea, List.nil_append]
          exact Rep.of_tup t2 r2
        · have eb : b = [] := nil_of r2.len.symm e0
          refine q _ _ _ (Ext.refl m) ?_
          rw [eb, List.append_nil]
          exact Rep.of_tup t r
        · obtain ⟨x1, r1⟩ := tup_ok m hp (r.append r2)
          exact q _ _ _ x1 r1
      · cases e
    | int k =>
      unfold binD at e
      dsimp only at e
      cases op <;> try (cases e; done)
      dsimp only at e
      obtain ⟨p, vs, rfl, t, r⟩ := px.tup_
      have ey := py.int_
      subst ey
      by_cases h1 : k = 1
      · rw [if_pos h1] at e
        cases e
        subst h1
        exact op_rep1 pins s σ H _ _ v u Q I rx ry ⟨p, vs, rfl, rfl, hK ▸ t.sq, q _ _ _ (Ext.refl m) (Rep.of_tup t r)⟩
      · rw [if_neg h1] at e
        split at e
        · rename_i hz
          cases e
          refine op_repT pins s σ H _ _ v u Q I rx ry ⟨p, k, vs, rfl, rfl, hK ▸ t.sq, fun z => hz.1 (nil_of r.len.symm z), hz.2.1, hz.2.2.1, by rw [← r.len]; exact hz.2.2.2, fun p3 hp => ?_⟩
          obtain ⟨x1, r1⟩ := tup_ok m hp (r.rep k.toNat)
          exact q _ _ _ x1 r1
        · cases e
    | _ => exact addG e
  | _ =>
    cases dy with
    | int k => exact mulG k rfl e
    | _ => exact addG e
end
end Nl
end
section
set_option maxRecDepth 100000
set_option maxHeartbeats 2000000
/-! Nl.Cmp: comparisons are sound. -/
namespace Nl
open PySem L2 PySem.Spec PyProof.Rows

section
variable {S : Sx} {W W' : Wd} {H H' : Hp} {M M' : Mem} {X : Cx}
def rC2 (S : Sx) (op : CmpOp) : R2 := fun x y H Q => ∃ W M dx dy t, MemRel S W H M ∧ Rep S W H dx x ∧ Rep S W H dy y ∧ cmpD op M dx dy = some t ∧ Q (.bl t) H
theorem Rep.isNon {d : D} {v : V} (r : Rep S W H d v) : decide (v = .non) = isNon d := by
  cases d with
  | non => rw [r.non_]; rfl
  | bl b => rw [r.bl_]; rfl
  | int b => rw [r.int_]; rfl
  | str b => rw [r.str_]; rfl
  | tup ds => obtain ⟨a, vs, rfl, _⟩ := r.tup_; rfl
  | lst ds => obtain ⟨a, vs, rfl, _⟩ := r.lst_; rfl
  | dct ds => obtain ⟨a, vs, rfl, _⟩ := r.dct_; rfl
  | ref i => obtain ⟨a, rfl, _⟩ := r.ref_; rfl
  | fn f => rw [show v = .ref (S.fa f) by simpa only [Rep] using r]; rfl
  | exc c fl => obtain ⟨a, rfl, _⟩ := r.exc_; rfl
theorem eqD_ok {pins : List (Addr × Obj)} {s : Shared} {σ : L2.St} {x y : V} {v u : Value} {dx dy : D} {t : Bool} {E : Value → Shared → Prop} (hK : X.K = S.K) (hu : X.A.units + 64 < cLine) (I : Inv X pins σ H s) (rx : RelV x v) (ry : RelV y u) (m : MemRel S W H M) (px : Rep S W H dx x) (py : Rep S W H dy y) (e : eqD M dx dy = some t)
    {Q : Value → Shared → Prop} : (Q (.bool t) s → wpAny (model X.prog X.w) X.A (compareOp .Eq v u) Q E s) ∧ (Q (.bool (!t)) s → wpAny (model X.prog X.w) X.A (compareOp .NotEq v u) Q E s) := by
  unfold eqD at e
  cases g : good (rd M dx) && good (rd M dy) with
  | true =>
    rw [g] at e
    dsimp only at e
    rw [Bool.and_eq_true] at g
    obtain ⟨a1, a2⟩ := rd_dp m g.1 px
    obtain ⟨b1, b2⟩ := rd_dp m g.2 py
    rw [← hK] at a1 b1
    obtain ⟨as, r1⟩ := Dp.reads I _ x v a1 rx
    obtain ⟨bs, r2⟩ := Dp.reads I _ y u b1 ry
    have e' := Option.some.inj e
    subst e'
    exact ⟨fun q => SeqAt.compareEq_shaped r1 r2 a2 b2 hu q, fun q => SeqAt.compareNe_shaped r1 r2 a2 b2 hu q⟩
  | false =>
    rw [g] at e
    dsimp only at e
    cases ea : asL M dx with
    | none => rw [ea] at e; cases e
    | some ds =>
      rw [ea] at e
      cases eb : asL M dy with
      | none => rw [eb] at e; cases e
      | some es =>
        rw [eb] at e
        cases es with
        | cons _ _ => cases e
        | nil =>
          dsimp only at e
          obtain ⟨p1, vs, rfl, t1, r1⟩ := asL_rep m ea px
          obtain ⟨p2, us, rfl, t2, r2⟩ := asL_rep m eb py
          cases rx
          cases ry
          rw [Reps.nil.mp r2] at t2
          obtain ⟨z1, its1, n1, v1, l1, e1⟩ := lstR I (hK ▸ t1)
          obtain ⟨z2, its2, n2, v2, l2, e2⟩ := lstR I (hK ▸ t2)
          cases v2
          cases ds with
          | nil =>
            rw [Reps.nil.mp r1] at t1 v1
            cases v1
            have e' := Option.some.inj e
            subst e'
            have q1 : Reads s.heap (.ref p1) (.list []) _ := Reads.list e1 rfl rfl ReadsAll.nil
            have q2 : Reads s.heap (.ref p2) (.list []) _ := Reads.list e2 rfl rfl ReadsAll.nil
            exact ⟨fun q => SeqAt.compareEq_shaped q1 q2 rfl rfl hu q, fun q => SeqAt.compareNe_shaped q1 q2 rfl rfl hu q⟩
          | cons d0 ds =>
            obtain ⟨w0, r0, rfl, _, _⟩ := r1.un
            have e' := Option.some.inj e
            subst e'
            have hz : (its1.toArray.size != ([] : List Value).toArray.size) = true := by
              rw [List.size_toArray, ← l1]
              simp
            exact ⟨fun q => SeqAt.eq_list_lengthsAt ⟨_, e1, rfl, _, rfl⟩ ⟨_, e2, rfl, _, rfl⟩ hz (by omega) q,
              fun q => SeqAt.RcNeAt.lists_lengths ⟨_, e1, rfl, _, rfl⟩ ⟨_, e2, rfl, _, rfl⟩ hz (by omega) _ _ _ _ q⟩
/-! ### a dict that is asked -/
theorem dIn_k {pins : List (Addr × Obj)} {s : Shared} {σ : L2.St} {a : Addr} {l : List (Key × V)} {k : Key} {u : Value} {A : Around} {E Q : _} (I : Inv X pins σ H s) (ok : ObjOk X.prog X.w H s.heap a (.dK l)) (ry : RelV (kV k) u) :
    ((∀ s', Inv X pins σ H s' → Q (.bool (valV l k).isSome) s') → wpAny (model X.prog X.w) A (compareOp .In u (.ref a)) Q E s) ∧
    ((∀ s', Inv X pins σ H s' → Q (.bool (!(valV l k).isSome)) s') → wpAny (model X.prog X.w) A (compareOp .NotIn u (.ref a)) Q E s) := by
  obtain ⟨z, hd, vs, rel, dd⟩ := ok
  constructor
  · intro h
    refine wpAny_in_of (kV_is ry) hd dd.mapOf ?_
    rw [← (rel.val k).isSome_eq]
    exact h _ (I.tok _)
  · intro h
    refine wpAny_notIn_of (kV_is ry) hd dd.mapOf ?_
    rw [← (rel.val k).isSome_eq]
    exact h _ (I.tok _)
theorem dt_obj {P : Program} {w : World} {h : Heap} {a : Addr} {kvs : List (List Key × V)} (ok : HOk P w H h) (x : ObjOk P w H h a (.dT kvs)) : kvs.length ≤ sizeLine ∧ (a == sysModules) = false ∧
    ∃ xs, KT H kvs xs ∧ h.DictOfH (tupleKind (mixKind P w)) a xs := by
  obtain ⟨z, y, xs, r, o, es, ep, h1, h2, h3, h4, h5⟩ := x
  refine ⟨z, y, xs, r, o, es, ep, h1, h2, h3, h4, fun x hx => ?_, h5⟩
  have all : ∀ {l : List (List Key × V)} {m : List (List Key × Addr × Value)}, KT H l m → ∀ x ∈ m, (tupleKind (mixKind P w)).is h x.1 x.2.1 := by
    intro l m q
    induction q with
    | nil => intro x hx; exact nomatch hx
    | @cons p q ps qs hq t ih =>
      intro x hx
      rcases List.mem_cons.mp hx with e | hx
      · subst e
        exact key_of ok (by rw [← hq.1]; exact hq.2.1)
      · exact ih x hx
  exact all r x hx
theorem dIn_t {pins : List (Addr × Obj)} {s : Shared} {σ : L2.St} {a b : Addr} {l : List (List Key × V)} {k : List Key} {A : Around} {E Q : _} (hu : A.units + 1 < cLine) (I : Inv X pins σ H s) (ok : ObjOk X.prog X.w H s.heap a (.dT l)) (eb : H b = some (.tup (k.map kV))) :
    ((∀ s', Inv X pins σ H s' → Q (.bool (valV l k).isSome) s') → wpAny (model X.prog X.w) A (compareOp .In (.ref b) (.ref a)) Q E s) ∧
    ((∀ s', Inv X pins σ H s' → Q (.bool (!(valV l k).isSome)) s') → wpAny (model X.prog X.w) A (compareOp .NotIn (.ref b) (.ref a)) Q E s) := by
  obtain ⟨z, hd, xs, rel, dd⟩ := dt_obj I.hok ok
  have q := (rel.val k).isSome_eq
  rw [Option.isSome_map] at q
  constructor
  · intro h
    refine wpAny_in_heap (tupleKind_room_in1 hu) (key_of I.hok eb) hd dd ?_
    rw [← q]
    exact h _ (I.tok _)
  · intro h
    refine wpAny_notIn_heap (tupleKind_room_in1 hu) (key_of I.hok eb) hd dd ?_
    rw [← q]
    exact h _ (I.tok _)
/-- a dict as its key's kind wants it -/
theorem dct_view {P : Program} {w : World} {h : Heap} {a : Addr} {kvs : List (DK × D)} {vs : List V} {k : DK} (ok : HOk P w H h) (t : DctAt H a (kvs.map (·.1)) vs) (r : RepC S W H kvs vs) (f : fitK kvs k = true) :
    (∃ l k0, k = .inl k0 ∧ ObjOk P w H h a (.dK l) ∧ (match getK kvs k with | some d => ∃ v, valV l k0 = some v ∧ Rep S W H d v | none => valV l k0 = none)) ∨
    ∃ l k0, k = .inr k0 ∧ ObjOk P w H h a (.dT l) ∧ (match getK kvs k with | some d => ∃ v, valV l k0 = some v ∧ Rep S W H d v | none => valV l k0 = none) := by
  cases k with
  | inl k0 =>
    refine .inl ?_
    rcases t with ⟨l, t, d⟩ | ⟨l, t, d⟩
    · exact ⟨l, k0, rfl, t.ok ok, getK_map (g := Sum.inl) (fun _ _ z => Sum.inl.inj z) d.1 d.2 r⟩
    · obtain ⟨e1, e2, e3⟩ := fit_l rfl d f
      subst e1 e2
      exact ⟨[], k0, rfl, emptyKT (t.ok ok), rfl⟩
  | inr k0 =>
    refine .inr ?_
    rcases t with ⟨l, t, d⟩ | ⟨l, t, d⟩
    · obtain ⟨e1, e2, e3⟩ := fit_r rfl d f
      subst e1 e2
      exact ⟨[], k0, rfl, emptyTK (t.ok ok), rfl⟩
    · exact ⟨l, k0, rfl, t.ok ok, getK_map (g := Sum.inr) (fun _ _ z => Sum.inr.inj z) d.1 d.2 r⟩
theorem match_isSome {o : Option V} {g : Option D} (h : match g with | some d => ∃ v, o = some v ∧ Rep S W H d v | none => o = none) : o.isSome = g.isSome := by
  cases g with
  | none => rw [show o = none from h]; rfl
  | some d => obtain ⟨v, e, _⟩ := h; rw [e]; rfl
theorem inD_ok {pins : List (Addr × Obj)} {s : Shared} {σ : L2.St} {x y : V} {v u : Value} {dx dy : D} {t : Bool} {E : Value → Shared → Prop} (hK : X.K = S.K) (hu : X.A.units + 64 < cLine) (I : Inv X pins σ H s) (rx : RelV x v) (ry : RelV y u) (m : MemRel S W H M) (px : Rep S W H dx x) (py : Rep S W H dy y) (e : inD M dx dy = some t)
    {Q : Value → Shared → Prop} : ((∀ s', Inv X pins σ H s' → Q (.bool t) s') → wpAny (model X.prog X.w) X.A (compareOp .In v u) Q E s) ∧ ((∀ s', Inv X pins σ H s' → Q (.bool (!t)) s') → wpAny (model X.prog X.w) X.A (compareOp .NotIn v u) Q E s) := by
  unfold inD at e
  cases ec : asC M dy with
  | some kvs =>
    rw [ec] at e
    dsimp only at e
    cases ek : keyD dx with
    | none => rw [ek] at e; cases e
    | some k =>
      rw [ek] at e
      dsimp only at e
      split at e
      · rename_i hf
        have e' := Option.some.inj e
        subst e'
        obtain ⟨a, vs, rfl, tt, r⟩ := asC_rep m ec py
        cases ry
        have ka := keyD_rep ek px
        rcases dct_view (w := X.w) I.hok tt r hf with ⟨l, k0, rfl, ok, g⟩ | ⟨l, k0, rfl, ok, g⟩
        · have ka' : x = kV k0 := ka
          subst ka'
          rw [← match_isSome g]
          exact dIn_k I ok rx
        · obtain ⟨b, rfl, hb⟩ := ka
          cases rx
          rw [← match_isSome g]
          exact dIn_t (by omega) I ok hb
      · cases e
  | none =>
    rw [ec] at e
    dsimp only at e
    cases es : asS M dy with
    | some ds =>
      rw [es] at e
      dsimp only at e
      split at e
      · rename_i hg
        rw [Bool.and_eq_true] at hg
        have e' := Option.some.inj e
        subst e'
        obtain ⟨a1, a2⟩ := good_dp hg.1 px
        obtain ⟨a, vs, rfl, tt, r⟩ := asS_rep m es py
        obtain ⟨b1, b2, b3⟩ := good_all hg.2 r
        rw [← hK] at a1 b1 tt
        obtain ⟨as, q1⟩ := Dp.reads I _ x v a1 rx
        have room : X.A.units + 1 + min (PyData.depthAll (toPys ds)) (toPy dx).depth < cLine := by
          have : min (PyData.depthAll (toPys ds)) (toPy dx).depth ≤ PyData.depthAll (toPys ds) := Nat.min_le_left _ _
          omega
        have any_eq : ∀ l : List D, (l.any fun d => PyData.eqv (toPy d) (toPy dx)) = (toPys l).any fun y => PyData.eqv y (toPy dx) := by
          intro l
          induction l with
          | nil => rfl
          | cons d l ih => rw [List.any_cons, ih]; rfl
        rw [any_eq]
        have cd : (toPy dx).canLay0 = true := SeqAt.canLay_of_shaped a2
        rcases tt with tt | tt
        · obtain ⟨bs, q2⟩ := Dp.reads I (.list (toPys ds)) (.ref a) u (.lst tt b1) ry
          exact ⟨fun h => SeqAt.in_list_reads q2 q1 b2 cd room (h _ I), fun h => SeqAt.notIn_list_reads q2 q1 b2 cd room (h _ I)⟩
        · obtain ⟨bs, q2⟩ := Dp.reads I (.tuple (toPys ds)) (.ref a) u (.tup tt b1) ry
          exact ⟨fun h => SeqAt.in_tuple_reads q2 q1 b2 cd room (h _ I), fun h => SeqAt.notIn_tuple_reads q2 q1 b2 cd room (h _ I)⟩
      · cases e
    | none =>
      rw [es] at e
      dsimp only at e
      cases dx with
      | str c =>
        cases dy with
        | str z =>
          dsimp only at e
          have ex := px.str_
          have ey := py.str_
          subst ex ey
          split at e
          · rename_i c0 hc
            have e' := Option.some.inj e
            subst e'
            have hcc : c = ⟨#[c0]⟩ := by
              obtain ⟨cp⟩ := c
              have : cp = #[c0] := by
                apply Array.toList_inj.mp
                rw [show cp.toList = [c0] from hc]
              rw [this]
            subst hcc
            obtain ⟨t0, rfl⟩ := rx
            obtain ⟨t1, rfl⟩ := ry
            exact ⟨fun h => PyProof.Rows.in_str (by rw [PySem.StrLaws.found_one z c0]; exact h _ I), fun h => PyProof.Rows.notIn_str (by rw [PySem.StrLaws.found_one z c0]; exact h _ I)⟩
          · cases e
        | _ => cases e
      | _ => cases e
theorem op_cmpD {op : CmpOp} (hK : X.K = S.K) (hu : X.A.units + 64 < cLine) : OpR X (compareOp op) (rC2 S op) := by
  intro pins s σ H x y v u Q I rx ry h
  obtain ⟨W, M, dx, dy, t, m, px, py, e, q⟩ := h
  have fin : ∀ s', Inv X pins σ H s' → EP X pins σ Q (.bool t) s' := fun s' J => ⟨.bl t, H, J, rfl, q⟩
  have neg : ∀ {o : Option Bool}, o.map (!·) = some t → ∃ b, o = some b ∧ t = !b := fun {o} z => by
    cases o with
    | none => cases z
    | some b => exact ⟨b, rfl, (Option.some.inj z).symm⟩
  have cmpI : ∀ (o : CmpOp) (f : Int → Int → Bool), (∀ (i j : Int) (t0 t1 : Tok) (s : Shared) (Q : Value → Shared → Prop), Q (.bool (f i j)) s → wpAny (model X.prog X.w) X.A (compareOp o (.int i t0) (.int j t1)) Q X.xe s) →
      bothI f dx dy = some t → wpAny (model X.prog X.w) X.A (compareOp o v u) (EP X pins σ Q) X.xe s := by
    intro o f rule e
    cases dx with
    | int i =>
      cases dy with
      | int j =>
        have ex := px.int_
        have ey := py.int_
        subst ex ey
        obtain ⟨t0, rfl⟩ := rx
        obtain ⟨t1, rfl⟩ := ry
        refine rule i j t0 t1 s _ ?_
        rw [show f i j = t from Option.some.inj e]
        exact fin s I
      | _ => cases e
    | _ => cases e
  unfold cmpD at e
  cases op
  case Eq => exact (eqD_ok hK hu I rx ry m px py e).1 (fin s I)
  case NotEq =>
    obtain ⟨b, e1, rfl⟩ := neg e
    exact (eqD_ok hK hu I rx ry m px py e1).2 (fin s I)
  case Lt =>
    have rest : ∀ (h : (match good dx && (good dy && (PySem.W.alike (toPy dx) (toPy dy) && !isNon dx)) with
        | true => some (PySem.W.dataLt (toPy dx) (toPy dy))
        | false => none) = some t), wpAny (model X.prog X.w) X.A (compareOp .Lt v u) (EP X pins σ Q) X.xe s := by
      intro h
      cases g : good dx && (good dy && (PySem.W.alike (toPy dx) (toPy dy) && !isNon dx)) with
      | false => rw [g] at h; cases h
      | true =>
        rw [g] at h
        have h' := Option.some.inj h
        subst h'
        simp only [Bool.and_eq_true, Bool.not_eq_true'] at g
        obtain ⟨g1, g2, g3, g4⟩ := g
        obtain ⟨a1, a2⟩ := good_dp g1 px
        obtain ⟨b1, b2⟩ := good_dp g2 py
        rw [← hK] at a1 b1
        obtain ⟨as, r1⟩ := Dp.reads I _ x v a1 rx
        obtain ⟨bs, r2⟩ := Dp.reads I _ y u b1 ry
        have hn : toPy dx ≠ .none := by
          intro z
          cases dx <;> simp_all [toPy, isNon, good, goodN]
        exact PySem.W.rcLt_alike _ _ X.A s v u as bs r1 r2 g3 hn (SeqAt.room_of_shaped a2 hu) X.prog X.w X.xe _ (fin s I)
    unfold ltD at e
    cases dx with
    | int i =>
      cases dy with
      | int j =>
        have ex := px.int_
        have ey := py.int_
        subst ex ey
        have e' := Option.some.inj e
        subst e'
        exact op_lt pins s σ H _ _ v u Q I rx ry ⟨i, j, rfl, rfl, q⟩
      | _ => exact rest e
    | _ => exact rest e
  case LtE => exact cmpI .LtE (fun i j => decide (i ≤ j)) (fun _ _ _ _ _ _ q => le_int q) e
  case Gt => exact cmpI .Gt (fun i j => decide (j < i)) (fun _ _ _ _ _ _ q => gt_int q) e
  case GtE => exact cmpI .GtE (fun i j => decide (j ≤ i)) (fun _ _ _ _ _ _ q => ge_int q) e
  case In => exact (inD_ok hK hu I rx ry m px py e).1 fin
  case NotIn =>
    obtain ⟨b, e1, rfl⟩ := neg e
    exact (inD_ok hK hu I rx ry m px py e1).2 fin
  case Is =>
    unfold isD at e
    cases dy with
    | non =>
      have ey := py.non_
      subst ey
      refine op_isN pins s σ H _ _ v u Q I rx ry ⟨rfl, ?_⟩
      rw [px.isNon, show isNon dx = t from Option.some.inj e]
      exact q
    | bl b =>
      cases dx with
      | bl c =>
        have ex := px.bl_
        have ey := py.bl_
        subst ex ey
        refine op_isBl pins s σ H _ _ v u Q I rx ry ⟨c, b, rfl, rfl, ?_⟩
        rw [show decide (c = b) = t from Option.some.inj e]
        exact q
      | _ => cases e
    | _ => cases e
  case IsNot =>
    obtain ⟨b0, e1, rfl⟩ := neg e
    unfold isD at e1
    cases dy with
    | non =>
      have ey := py.non_
      subst ey
      refine op_notN pins s σ H _ _ v u Q I rx ry ⟨rfl, ?_⟩
      rw [px.isNon, show isNon dx = b0 from Option.some.inj e1]
      exact q
    | bl b =>
      cases dx with
      | bl c =>
        have ex := px.bl_
        have ey := py.bl_
        subst ex ey
        refine op_notBl pins s σ H _ _ v u Q I rx ry ⟨c, b, rfl, rfl, ?_⟩
        rw [show decide (c = b) = b0 from Option.some.inj e1]
        exact q
      | _ => cases e1
    | _ => cases e1
end
end Nl
end
section
set_option maxRecDepth 100000
set_option maxHeartbeats 2000000
/-! Nl.Sub: subscripts, slices, stores by place are sound. -/
namespace Nl
open PySem L2 PySem.Spec PyProof.Rows

section
variable {S : Sx} {W W' : Wd} {H H' : Hp} {M M' : Mem} {X : Cx}
theorem dGet_k {pins : List (Addr × Obj)} {s : Shared} {σ : L2.St} {a : Addr} {l : List (Key × V)} {k : Key} {u : Value} {v : V} {A : Around} {E : Value → Shared → Prop} {Q : Value → Shared → Prop} (I : Inv X pins σ H s) (ok : ObjOk X.prog X.w H s.heap a (.dK l)) (ry : RelV (kV k) u) (e : valV l k = some v)
    (h : ∀ w' s', Inv X pins σ H s' → RelV v w' → Q w' s') : s.TypeIs (.ref a) "dict" ∧ wpAny (model X.prog X.w) A (getItem (.ref a) u) Q E s := by
  obtain ⟨z, hd, vs, rel, dd⟩ := ok
  obtain ⟨w', hw, rw'⟩ := RelO.some_of (v := v) (o := valueAt vs k) (by rw [← e]; exact rel.val k)
  exact ⟨dd.typeIs, wpAny_getItem_of (kV_is ry) dd.mapOf hw (h w' _ (I.tok _) rw')⟩
theorem dGet_t {pins : List (Addr × Obj)} {s : Shared} {σ : L2.St} {a b : Addr} {l : List (List Key × V)} {k : List Key} {v : V} {A : Around} {E : Value → Shared → Prop} {Q : Value → Shared → Prop} (hu : A.units + 1 < cLine) (I : Inv X pins σ H s) (ok : ObjOk X.prog X.w H s.heap a (.dT l)) (eb : H b = some (.tup (k.map kV))) (e : valV l k = some v)
    (h : ∀ w' s', Inv X pins σ H s' → RelV v w' → Q w' s') : s.TypeIs (.ref a) "dict" ∧ wpAny (model X.prog X.w) A (getItem (.ref a) (.ref b)) Q E s := by
  obtain ⟨z, hd, xs, rel, dd⟩ := dt_obj I.hok ok
  obtain ⟨w', hw, rw'⟩ := RelO.some_of (v := v) (o := (atKey xs k).map (·.2)) (by rw [← e]; exact rel.val k)
  obtain ⟨p, hp, hp2⟩ := Option.map_eq_some_iff.mp hw
  refine ⟨?_, ?_⟩
  · obtain ⟨o, es, ep, h1, h2, _⟩ := dd
    exact ⟨o, h1, h2.1⟩
  · refine wpAny_getItem_heap (tupleKind_room_in1 hu) (key_of I.hok eb) dd hp ?_
    rw [hp2]
    exact h w' _ (I.tok _) rw'
def rSub (S : Sx) : R2 := fun x y H Q => ∃ W M dx dy d, MemRel S W H M ∧ Rep S W H dx x ∧ Rep S W H dy y ∧ subD M dx dy = some d ∧ ∀ v, Rep S W H d v → Q v H
theorem atI_rep {ds : List D} {vs : List V} {j : Int} {d : D} (r : Reps S W H ds vs) (e : atI ds j = some d) : ∃ v, atI vs j = some v ∧ Rep S W H d v := by
  unfold atI at e ⊢
  rw [← r.len]
  cases hi : ixN ds.length j with
  | none => rw [hi] at e; cases e
  | some i =>
    rw [hi] at e
    exact r.get e
theorem ix_sub (hK : X.K = S.K) (hu : X.A.units + 64 < cLine) : IxR X (rSub S) := by
  intro value slice pins s σ H x y v u Q I rx ry h hs
  obtain ⟨W, M, dx, dy, d, m, px, py, e, q⟩ := h
  unfold subD at e
  cases ec : asC M dx with
  | some kvs =>
    rw [ec] at e
    dsimp only at e
    cases ek : keyD dy with
    | none => rw [ek] at e; cases e
    | some k =>
      rw [ek] at e
      dsimp only at e
      split at e
      · rename_i hf
        obtain ⟨a, vs, rfl, tt, r⟩ := asC_rep m ec px
        cases rx
        have ka := keyD_rep ek py
        rcases dct_view (w := X.w) I.hok tt r hf with ⟨l, k0, rfl, ok, g⟩ | ⟨l, k0, rfl, ok, g⟩
        · have ka' : y = kV k0 := ka
          subst ka'
          rw [e] at g
          obtain ⟨v, e1, r1⟩ := g
          obtain ⟨ty, hg⟩ := dGet_k (A := X.A) (E := X.xe) (Q := EP X pins σ Q) I ok ry e1 fun w' s' J rw' => ⟨v, H, J, rw', q v r1⟩
          exact tail_any ty PySem.F.slot_dict_getitem.lookup hg hs
        · obtain ⟨b, rfl, hb⟩ := ka
          cases ry
          rw [e] at g
          obtain ⟨v, e1, r1⟩ := g
          obtain ⟨ty, hg⟩ := dGet_t (A := X.A) (E := X.xe) (Q := EP X pins σ Q) (by omega) I ok hb e1 fun w' s' J rw' => ⟨v, H, J, rw', q v r1⟩
          exact tail_any ty PySem.F.slot_dict_getitem.lookup hg hs
      · cases e
  | none =>
    rw [ec] at e
    dsimp only at e
    cases dy with
    | int j =>
      dsimp only at e
      have ey := py.int_
      subst ey
      cases es : asS M dx with
      | some ds =>
        rw [es] at e
        dsimp only at e
        obtain ⟨a, vs, rfl, tt, r⟩ := asS_rep m es px
        obtain ⟨v0, e1, r1⟩ := atI_rep r e
        rw [← hK] at tt
        rcases tt with tt | tt
        · exact ix_list value slice pins s σ H _ _ v u Q I rx ry ⟨a, vs, j, v0, rfl, rfl, tt, e1, q v0 r1⟩ hs
        · exact ix_tup value slice pins s σ H _ _ v u Q I rx ry ⟨a, vs, j, v0, rfl, rfl, tt, e1, q v0 r1⟩ hs
      | none =>
        rw [es] at e
        dsimp only at e
        cases dx with
        | str z =>
          dsimp only at e
          have ex := px.str_
          subst ex
          split at e
          · rename_i hz
            cases ea : atI z.cps.toList j with
            | none => rw [ea] at e; cases e
            | some c =>
              rw [ea] at e
              have e' := Option.some.inj e
              subst e'
              exact ix_str value slice pins s σ H _ _ v u Q I rx ry ⟨z, j, c, rfl, rfl, lim_le hz, ea, q _ (Rep.str _)⟩ hs
          · cases e
        | _ => cases e
    | _ => cases e
/-! ### slices -/
def rSlD (S : Sx) (mt : Bool) : V → Option Int → Option Int → Hp → VK → Prop := fun x lo hi H Q => ∃ W M dx d M', MemRel S W H M ∧ Rep S W H dx x ∧ slcD mt M dx lo hi = some (d, M') ∧
  ∀ W' H' v, Ext S W M H W' M' H' → Rep S W' H' d v → Q v H'
theorem cut_whole {α : Type} {xs : List α} {lo hi : Option Int} (h : HT.sIx xs.length 0 lo = 0 ∧ HT.sIx xs.length xs.length hi = xs.length) : cut xs lo hi = xs := by
  unfold cut
  rw [h.1, h.2]
  simp
theorem sl_D {mt : Bool} (hK : X.K = S.K) : SlR X (rSlD S mt) := by
  intro pins s σ H x v vl vu lo hi sl Q I rx hs pl pu h
  obtain ⟨W, M, dx, d, M', m, px, e, q⟩ := h
  have lists : (match asL M dx with
    | some ds => some (newL mt (cut ds lo hi) M)
    | none => none) = some (d, M') → ∃ T id, typeLookup (.type T) "__getitem__" = pure (some (.builtin id)) ∧ s.TypeIs v T ∧ wpAny (model X.prog X.w) X.A (getItem v (.ref sl)) (EP X pins σ Q) X.xe s := by
    intro e
    cases ea : asL M dx with
    | none => rw [ea] at e; cases e
    | some ds =>
      rw [ea] at e
      obtain ⟨p, vs, rfl, t, r⟩ := asL_rep m ea px
      refine sl_list pins s σ H _ v vl vu lo hi sl Q I rx hs pl pu ⟨p, vs, rfl, hK ▸ t.sq, fun p2 hp => ?_⟩
      obtain ⟨W', x1, r1⟩ := newL_ok (mt := mt) m hp (r.cutV lo hi) (Option.some.inj e)
      exact q _ _ _ x1 r1
  unfold slcD at e
  cases dx with
  | tup ds =>
    have e' := Option.some.inj e
    obtain ⟨p, vs, rfl, t, r⟩ := px.tup_
    cases e'
    refine sl_tupA pins s σ H _ v vl vu lo hi sl Q I rx hs pl pu ⟨p, vs, rfl, hK ▸ t.sq, fun hw => ?_, fun hw p2 hp => ?_⟩
    · rw [← r.len] at hw
      refine q _ _ _ (Ext.refl m) ?_
      rw [cut_whole hw]
      exact Rep.of_tup t r
    · obtain ⟨x1, r1⟩ := tup_ok m hp (r.cutV lo hi)
      exact q _ _ _ x1 r1
  | _ => exact lists e
/-! ### stores -/
theorem putK_rep {κ : Type} [DecidableEq κ] {g : κ → DK} (hg : ∀ a b, g a = g b → a = b) {kvs : List (DK × D)} {l : List (κ × V)} {vs : List V} {k : κ} {d : D} {v : V} (h : kvs.map (·.1) = l.map (fun p => g p.1)) (e : vs = l.map (·.2)) (r : RepC S W H kvs vs) (rv : Rep S W H d v) :
    (putK kvs (g k) d).map (·.1) = (L2.putK l k v).map (fun p => g p.1) ∧ RepC S W H (putK kvs (g k) d) ((L2.putK l k v).map (·.2)) := by
  have gk := getK_map hg (k := k) h e r
  have av := valV_any k l
  unfold putK L2.putK
  cases hgk : getK kvs (g k) with
  | none =>
    rw [hgk] at gk
    rw [show valV l k = none from gk] at av
    rw [if_neg (by rw [av]; exact Bool.false_ne_true)]
    dsimp only
    refine ⟨by simp [h], ?_⟩
    rw [RepC.reps] at r ⊢
    rw [List.map_append, List.map_append]
    exact Reps.append (e ▸ r) (Reps.cons rv (Reps.nil.mpr rfl))
  | some d0 =>
    rw [hgk] at gk
    obtain ⟨v0, e0, _⟩ := gk
    rw [e0] at av
    rw [if_pos (by rw [av]; rfl)]
    dsimp only
    clear hgk av e0
    subst e
    induction kvs generalizing l with
    | nil =>
      cases l with
      | nil => exact ⟨rfl, r⟩
      | cons p l => simp at h
    | cons p kvs ih =>
      obtain ⟨j, x⟩ := p
      cases l with
      | nil => simp at h
      | cons q l =>
        obtain ⟨i, y⟩ := q
        simp only [List.map_cons, List.cons.injEq] at h
        obtain ⟨h1, h2⟩ := h
        subst h1
        obtain ⟨v1, s1, q1, r1, r2⟩ := (show ∃ v r, (i, y).2 :: l.map (·.2) = v :: r ∧ Rep S W H x v ∧ RepC S W H kvs r from by simpa only [RepC, List.map_cons] using r)
        simp only [List.cons.injEq] at q1
        obtain ⟨q1, q2⟩ := q1
        subst q1 q2
        obtain ⟨i1, i2⟩ := ih h2 r2
        by_cases hk : i = k
        · subst hk
          have e1 : repK ((g i, x) :: kvs) (g i) d = (g i, d) :: repK kvs (g i) d := by simp [repK]
          have e2 : (((i, y) :: l).map fun kv => if kv.1 = i then (kv.1, v) else kv) = (i, v) :: l.map fun kv => if kv.1 = i then (kv.1, v) else kv := by simp
          rw [e1, e2]
          refine ⟨by simp only [List.map_cons, i1], ?_⟩
          simp only [RepC, List.map_cons]
          exact ⟨v, _, rfl, rv, i2⟩
        · have hk' : ¬ g i = g k := fun z => hk (hg _ _ z)
          have e1 : repK ((g i, x) :: kvs) (g k) d = (g i, x) :: repK kvs (g k) d := by simp [repK, hk']
          have e2 : (((i, y) :: l).map fun kv => if kv.1 = k then (kv.1, v) else kv) = (i, y) :: l.map fun kv => if kv.1 = k then (kv.1, v) else kv := by simp [hk]
          rw [e1, e2]
          refine ⟨by simp only [List.map_cons, i1], ?_⟩
          simp only [RepC, List.map_cons]
          exact ⟨y, _, rfl, r1, i2⟩
theorem there {P : Program} {w : World} {h : Heap} {a : Addr} {l : List (Key × V)} (x : ObjOk P w H h a (.dK l)) : ∃ q, h.get? a = some q := by
  obtain ⟨_, _, _, _, o, _, _, e, _⟩ := x
  exact ⟨o, e⟩
theorem thereT {P : Program} {w : World} {h : Heap} {a : Addr} {l : List (List Key × V)} (x : ObjOk P w H h a (.dT l)) : ∃ q, h.get? a = some q := by
  obtain ⟨_, _, _, _, o, _, _, e, _⟩ := x
  exact ⟨o, e⟩
theorem okUpd {P : Program} {w : World} {h : Heap} {a : Addr} {o u n : HO} (e : H a = some u) (mu : Mut (some u)) (x : ObjOk P w H h a o) : ObjOk P w (upd H a n) h a o := by
  have key : ∀ (b : Addr) (z : HO), H b = some z → ¬ Mut (some z) → upd H a n b = some z := fun b z q nz => by
    by_cases hb : b = a
    · subst hb
      rw [e] at q
      cases q
      exact absurd mu nz
    · rw [upd_ne hb]; exact q
  exact x.stay (fun _ _ _ z => z) (fun b z => key b _ z (fun y => y)) (fun b xs z => key b _ z fun y => y)
theorem retag {pins : List (Addr × Obj)} {s : Shared} {σ : L2.St} {a : Addr} (I : Inv X pins σ H s) {u w : HO} (e : H a = some u) (mu : Mut (some u)) (he : ∃ q, s.heap.get? a = some q) (ok : ObjOk X.prog X.w (upd H a w) s.heap a w) : Inv X pins σ (upd H a w) s := by
  obtain ⟨hp, g, dr, tk, os⟩ := s
  exact I.write (x := a) (e := a) (t' := tk) (h' := hp) (by rw [e]; exact mu) (.inl rfl) (fun b q _ z => z) he ok
/-- o[i] = v -/
def rSetD (S : Sx) : V → V → V → Hp → (Hp → Prop) → Prop := fun o i v H Q => ∃ W M d_o di dv M', MemRel S W H M ∧ Rep S W H d_o o ∧ Rep S W H di i ∧ Rep S W H dv v ∧ setIt d_o di dv M = some M' ∧ ∀ H', Ext S W M H W M' H' → Q H'
theorem dctM_k {a : Addr} {l : List (Key × V)} {kvs : List (DK × D)} {k0 : Key} {d : D} {v : V} {i : Nat} (m : MemRel S W H M) (hr : W.rho[i]? = some a) (h1 : kvs.map (·.1) = l.map (fun p => (Sum.inl p.1 : DK))) (r : RepC S W H kvs (l.map (·.2))) (rv : Rep S W H d v) :
    Ext S W M H W (M.set i (.dct (putK kvs (.inl k0) d))) (upd H a (.dK (L2.putK l k0 v))) := by
  obtain ⟨old, e0, nt, _, _⟩ := m.live hr
  obtain ⟨q1, q2⟩ := putK_rep (g := Sum.inl) (k := k0) (fun _ _ z => Sum.inl.inj z) h1 rfl r rv
  have tn : ∀ (b : Addr) (o : HO), Imm o → H b = some o → b ≠ a := fun b o im e z => by
    rw [z, e0] at e
    cases e
    exact nt im
  have fn : ∀ (b : Addr), W.fz b → b ≠ a := fun b hz z => m.nfz i a hr (z ▸ hz)
  have k : Kept W H W (upd H a (.dK (L2.putK l k0 v))) := ⟨fun _ _ h => h, fun _ h => h, fun b o im h => by rw [upd_ne (tn b o im h)]; exact h, fun b u hz h => by
    rcases h with h | ⟨x, h⟩
    · exact .inl (by rw [upd_ne (fn b hz)]; exact h)
    · exact .inr ⟨x, by rw [upd_ne (fn b hz)]; exact h⟩⟩
  exact Ext.write m hr ⟨_, .inl ⟨_, upd_same, q1, rfl⟩, q2.keep k⟩
theorem dctM_t {a : Addr} {l : List (List Key × V)} {kvs : List (DK × D)} {k0 : List Key} {d : D} {v : V} {i : Nat} (m : MemRel S W H M) (hr : W.rho[i]? = some a) (h1 : kvs.map (·.1) = l.map (fun p => (Sum.inr p.1 : DK))) (r : RepC S W H kvs (l.map (·.2))) (rv : Rep S W H d v) :
    Ext S W M H W (M.set i (.dct (putK kvs (.inr k0) d))) (upd H a (.dT (L2.putK l k0 v))) := by
  obtain ⟨old, e0, nt, _, _⟩ := m.live hr
  obtain ⟨q1, q2⟩ := putK_rep (g := Sum.inr) (k := k0) (fun _ _ z => Sum.inr.inj z) h1 rfl r rv
  have tn : ∀ (b : Addr) (o : HO), Imm o → H b = some o → b ≠ a := fun b o im e z => by
    rw [z, e0] at e
    cases e
    exact nt im
  have fn : ∀ (b : Addr), W.fz b → b ≠ a := fun b hz z => m.nfz i a hr (z ▸ hz)
  have k : Kept W H W (upd H a (.dT (L2.putK l k0 v))) := ⟨fun _ _ h => h, fun _ h => h, fun b o im h => by rw [upd_ne (tn b o im h)]; exact h, fun b u hz h => by
    rcases h with h | ⟨x, h⟩
    · exact .inl (by rw [upd_ne (fn b hz)]; exact h)
    · exact .inr ⟨x, by rw [upd_ne (fn b hz)]; exact h⟩⟩
  exact Ext.write m hr ⟨_, .inr ⟨_, upd_same, q1, rfl⟩, q2.keep k⟩
theorem lstM_w {a : Addr} {ds : List D} {vs : List V} {i : Nat} (m : MemRel S W H M) (hr : W.rho[i]? = some a) (r : Reps S W H ds vs) : Ext S W M H W (M.set i (.lst ds)) (upd H a (.lst vs)) := by
  obtain ⟨old, e0, nt, _, _⟩ := m.live hr
  have tn : ∀ (b : Addr) (o : HO), Imm o → H b = some o → b ≠ a := fun b o im e z => by
    rw [z, e0] at e
    cases e
    exact nt im
  have fn : ∀ (b : Addr), W.fz b → b ≠ a := fun b hz z => m.nfz i a hr (z ▸ hz)
  have k : Kept W H W (upd H a (.lst vs)) := ⟨fun _ _ h => h, fun _ h => h, fun b o im h => by rw [upd_ne (tn b o im h)]; exact h, fun b u hz h => by
    rcases h with h | ⟨x, h⟩
    · exact .inl (by rw [upd_ne (fn b hz)]; exact h)
    · exact .inr ⟨x, by rw [upd_ne (fn b hz)]; exact h⟩⟩
  exact Ext.write m hr ⟨_, upd_same, r.keep k⟩
theorem set_D (hu : X.A.units + 64 < cLine) : PSet X (rSetD S) := by
  intro pins s σ H o i v ov iv u Q I ro ri rv h
  obtain ⟨W, M, d_o, di, dv, M', m, po, pi, pv, e, q⟩ := h
  unfold setIt at e
  cases d_o with
  | ref n =>
    obtain ⟨a, rfl, hr⟩ := po.ref_
    obtain ⟨ob, hm, ho⟩ := m.at_ hr
    dsimp only at e
    rw [hm] at e
    cases ro
    cases ob with
    | lst ds =>
      dsimp only at e
      cases di with
      | int k =>
        dsimp only at e
        obtain ⟨vs, h1, r⟩ := ho
        have ei := pi.int_
        subst ei
        cases hx : ixN ds.length k with
        | none => rw [hx] at e; cases e
        | some j =>
          rw [hx] at e
          have e' := Option.some.inj e
          subst e'
          exact set_list pins s σ H (.ref a) _ v _ iv u Q I rfl ri rv ⟨a, vs, k, j, rfl, rfl, h1, by rw [← r.len]; exact hx, q _ (lstM_w m hr (r.set j pv))⟩
      | _ => cases e
    | dct kvs =>
      dsimp only at e
      cases ek : keyD di with
      | none => rw [ek] at e; cases e
      | some k =>
        rw [ek] at e
        dsimp only at e
        split at e
        · rename_i hf
          rw [Bool.and_eq_true] at hf
          have e' := Option.some.inj e
          subst e'
          have hl := of_decide_eq_true hf.2
          obtain ⟨vs, h1, r⟩ := ho
          have ka := keyD_rep ek pi
          cases k with
          | inl k0 =>
            have ka' : i = kV k0 := ka
            subst ka'
            rcases h1 with ⟨l, h1, d⟩ | ⟨l, h1, d⟩
            · obtain ⟨d1, d2⟩ := d
              subst d2
              have hz : l.length < sizeLine := by
                have := congrArg List.length d1
                simp at this
                rw [← this]; exact lim_lt hl
              exact d_setItem (H' := upd H a (.dK (L2.putK l k0 v))) (by omega) I (DPut.k h1 hz) ri rv fun s' J => ⟨_, J, q _ (dctM_k m hr d1 r pv)⟩
            · obtain ⟨e1, e2, e3⟩ := fit_l rfl d hf.1
              subst e1 e2 e3
              have ok := I.hok a _ h1
              have J0 : Inv X pins σ (upd H a (.dK [])) s := retag I h1 trivial (thereT ok) (okUpd h1 trivial (emptyKT ok))
              refine d_setItem (H' := upd (upd H a (.dK [])) a (.dK (L2.putK [] k0 v))) (by omega) J0 (DPut.k upd_same (lim_lt (by decide))) ri rv fun s' J => ⟨_, J, ?_⟩
              rw [upd_upd]
              exact q _ (dctM_k m hr rfl r pv)
          | inr k0 =>
            obtain ⟨b, rfl, hb⟩ := ka
            cases ri
            have nba : b ≠ a := fun z => m.ntup (o := .tup _) trivial hb n (z ▸ hr)
            rcases h1 with ⟨l, h1, d⟩ | ⟨l, h1, d⟩
            · obtain ⟨e1, e2, e3⟩ := fit_r rfl d hf.1
              subst e1 e2 e3
              have ok := I.hok a _ h1
              have J0 : Inv X pins σ (upd H a (.dT [])) s := retag I h1 trivial (there ok) (okUpd h1 trivial (emptyTK ok))
              refine d_setItem (H' := upd (upd H a (.dT [])) a (.dT (L2.putK [] k0 v))) (by omega) J0 (DPut.t upd_same (by rw [upd_ne nba]; exact hb) (lim_lt (by decide))) rfl rv fun s' J => ⟨_, J, ?_⟩
              rw [upd_upd]
              exact q _ (dctM_t m hr rfl r pv)
            · obtain ⟨d1, d2⟩ := d
              subst d2
              have hz : l.length < sizeLine := by
                have := congrArg List.length d1
                simp at this
                rw [← this]; exact lim_lt hl
              exact d_setItem (H' := upd H a (.dT (L2.putK l k0 v))) (by omega) I (DPut.t h1 hb hz) rfl rv fun s' J => ⟨_, J, q _ (dctM_t m hr d1 r pv)⟩
        · cases e
    | ins _ _ => cases e
  | _ => cases e
end
end Nl
end
section
set_option maxRecDepth 100000
set_option maxHeartbeats 2000000
/-! Nl.PE: expressions are sound, part by part. -/
namespace Nl
open PySem L2 PySem.Spec PyProof.Rows

theorem bE_inv {α β : Type} {r : Option (α × Mem)} {k : α → Mem → Option β} {z : β} (h : bE r k = some z) : ∃ a M, r = some (a, M) ∧ k a M = some z := by
  cases r with
  | none => cases h
  | some p => obtain ⟨a, M⟩ := p; exact ⟨a, M, rfl, h⟩
theorem bO_inv {α β : Type} {r : Option α} {k : α → Option β} {z : β} (h : bO r k = some z) : ∃ a, r = some a ∧ k a = some z := by
  cases r with
  | none => cases h
  | some a => exact ⟨a, rfl, h⟩
section
variable {X : Cx}
theorem _root_.L2.PE.imp {e : Expr} {t t' : TE} (h : PE X e t) (i : ∀ σ H Q, t' σ H Q → t σ H Q) : PE X e t' := ⟨fun pins s σ H Q I q => h.run pins s σ H Q I (i σ H Q q)⟩
theorem _root_.L2.PT.imp {e : Expr} {t t' : TT} (h : PT X e t) (i : ∀ σ H Q, t' σ H Q → t σ H Q) : PT X e t' := ⟨fun pins s σ H Q I q => h.run pins s σ H Q I (i σ H Q q)⟩
theorem _root_.L2.PS.imp {e : Stmt} {t t' : TS} (h : PS X e t) (i : ∀ D σ H, t' D σ H → t D σ H) : PS X e t' := ⟨fun pins s σ H D I q => h.run pins s σ H D I (i D σ H q)⟩
theorem _root_.L2.PSs.imp {e : List Stmt} {t t' : TS} (h : PSs X e t) (i : ∀ D σ H, t' D σ H → t D σ H) : PSs X e t' := ⟨fun pins s σ H D I q => h.run pins s σ H D I (i D σ H q)⟩
theorem _root_.L2.PA.imp {e : List Expr} {t t' : TA} (h : PA X e t) (i : ∀ σ H Q, t' σ H Q → t σ H Q) : PA X e t' := ⟨fun pos pins s σ H Q I q => h.run pos pins s σ H Q I (i σ H Q q)⟩
end
section
variable (S : Sx) (P : Pg) (C : CallF)
/-- an expression of the small language, as a reading -/
def tE (c : CE) : TE := fun σ H Q => ∃ W env M d M', EnvRel S W H env σ ∧ MemRel S W H M ∧ evE P C c env M = some (d, M') ∧ ∀ W' H' v, Ext S W M H W' M' H' → Rep S W' H' d v → Q v H'
def tEs (cs : List CE) : TA := fun σ H Q => ∃ W env M ds M', EnvRel S W H env σ ∧ MemRel S W H M ∧ evEs P C cs env M = some (ds, M') ∧ ∀ W' H' vs, Ext S W M H W' M' H' → Reps S W' H' ds vs → Q vs H'
/-- as a test -/
def tTst (c : CE) : TT := fun σ H Q => ∃ W env M t M', EnvRel S W H env σ ∧ MemRel S W H M ∧ evT P C c env M = some (t, M') ∧ ∀ W' H', Ext S W M H W' M' H' → Q t H'
def tOpt (c : CE) : TO := fun σ H Q => ∃ W env M o M', EnvRel S W H env σ ∧ MemRel S W H M ∧ optE c (evE P C c env M) M = some (o, M') ∧ ∀ W' H', Ext S W M H W' M' H' → Q o H'
variable {S P C} {X : Cx} {a b c : Expr} {ca cb cc : CE} {pos : Pos} {mt : Bool}
theorem pe_varD {i : Nat} {x : Str} (hN : X.N[i]? = some x) (hv : Vis X.env.scope x) (h1 : (x == ("__debug__" : Str)) = false) (h2 : (x == ("__classdict__" : Str)) = false) : PE X (.Name x pos) (tE S P C (.var i)) := by
  refine (pe_var (i := i) (pos := pos) hN hv h1 h2).imp fun σ H Q h => ?_
  obtain ⟨W, env, M, d, M', er, m, e, q⟩ := h
  unfold evE at e
  cases h : env[i]? with
  | none => rw [h] at e; cases e
  | some o =>
    rw [h] at e
    cases o with
    | none => cases e
    | some d0 =>
      cases e
      obtain ⟨v, e1, r⟩ := er.at_ i d h
      exact ⟨v, e1, q W H v (Ext.refl m) r⟩
theorem pe_conI {i : Int} {j} : PE X (.Constant (.int i) j pos) (tE S P C (.con (.int i))) := by
  refine pe_int.imp fun σ H Q h => ?_
  obtain ⟨W, env, M, d, M', er, m, e, q⟩ := h
  unfold evE at e
  cases e
  exact q W H _ (Ext.refl m) (Rep.int i)
theorem pe_conB {i : Bool} {j} : PE X (.Constant (.bool i) j pos) (tE S P C (.con (.bl i))) := by
  refine pe_bl.imp fun σ H Q h => ?_
  obtain ⟨W, env, M, d, M', er, m, e, q⟩ := h
  unfold evE at e
  cases e
  exact q W H _ (Ext.refl m) (Rep.bl i)
theorem pe_conS {i : Str} {j} : PE X (.Constant (.str i) j pos) (tE S P C (.con (.str i))) := by
  refine pe_str.imp fun σ H Q h => ?_
  obtain ⟨W, env, M, d, M', er, m, e, q⟩ := h
  unfold evE at e
  cases e
  exact q W H _ (Ext.refl m) (Rep.str i)
theorem pe_conN {j} : PE X (.Constant .none j pos) (tE S P C (.con .non)) := by
  refine pe_non.imp fun σ H Q h => ?_
  obtain ⟨W, env, M, d, M', er, m, e, q⟩ := h
  unfold evE at e
  cases e
  exact q W H _ (Ext.refl m) Rep.non
/-- what the text's constants stand for, whatever the world -/
def GlbOk (S : Sx) (P : Pg) (mg : Str → Option Value) : Prop := ∀ x d, P.glb.lookup x = some d → ∃ v u, mg x = some u ∧ RelV v u ∧ ∀ W H, Rep S W H d v
theorem pe_glbD {x : Str} (hg : Gl X x) (G : GlbOk S P X.mg) (hd : (x == ("__debug__" : Str)) = false) : PE X (.Name x pos) (tE S P C (.glb x)) := by
  cases hl : P.glb.lookup x with
  | none =>
    refine ⟨fun pins s σ H Q I h => ?_⟩
    obtain ⟨W, env, M, d, M', er, m, e, q⟩ := h
    unfold evE at e
    rw [hl] at e
    cases e
  | some d0 =>
    obtain ⟨v, u, e1, e2, e3⟩ := G x d0 hl
    refine (pe_glob (pos := pos) hg e1 e2 hd).imp fun σ H Q h => ?_
    obtain ⟨W, env, M, d, M', er, m, e, q⟩ := h
    unfold evE at e
    rw [hl] at e
    cases e
    exact q W H _ (Ext.refl m) (e3 W H)
theorem pe_binD {op : Operator} (hK : X.K = S.K) (ha : PE X a (tE S P C ca)) (hb : PE X b (tE S P C cb)) : PE X (.BinOp a op b pos) (tE S P C (.bin mt op ca cb)) := by
  refine (pe_op (op_bin (mt := mt) hK) ha hb).imp fun σ H Q h => ?_
  obtain ⟨W, env, M, d, M', er, m, e, q⟩ := h
  unfold evE at e
  obtain ⟨d1, M1, e1, e⟩ := bE_inv e
  obtain ⟨d2, M2, e2, e⟩ := bE_inv e
  exact ⟨W, env, M, d1, M1, er, m, e1, fun W1 H1 x x1 r1 => ⟨W1, env, M1, d2, M2, er.keep (x1.kept m), x1.mem, e2, fun W2 H2 y x2 r2 => ⟨W2, M2, d1, d2, d, M', x2.mem, r1.keep (x2.kept x1.mem), r2, e, fun W3 H3 v x3 r3 => q W3 H3 v ((x1.trans x2).trans x3) r3⟩⟩⟩
theorem cmp_imp {op : CmpOp} {σ : L2.St} {H : Hp} {Q : VK} (h : tE S P C (.cmp op ca cb) σ H Q) : tOp (rC2 S op) (tE S P C ca) (tE S P C cb) σ H Q := by
  obtain ⟨W, env, M, d, M', er, m, e, q⟩ := h
  unfold evE at e
  obtain ⟨d1, M1, e1, e⟩ := bE_inv e
  obtain ⟨d2, M2, e2, e⟩ := bE_inv e
  obtain ⟨t, e3, e⟩ := bO_inv e
  cases e
  exact ⟨W, env, M, d1, M1, er, m, e1, fun W1 H1 x x1 r1 => ⟨W1, env, M1, d2, M', er.keep (x1.kept m), x1.mem, e2, fun W2 H2 y x2 r2 => ⟨W2, M', d1, d2, t, x2.mem, r1.keep (x2.kept x1.mem), r2, e3, q W2 H2 _ (x1.trans x2) (Rep.bl t)⟩⟩⟩
theorem pe_cmpD {op : CmpOp} (hK : X.K = S.K) (hu : X.A.units + 64 < cLine) (ha : PE X a (tE S P C ca)) (hb : PE X b (tE S P C cb)) (hm : behindInMarks op b = false) : PE X (.Compare a [op] [b] pos) (tE S P C (.cmp op ca cb)) :=
  (pe_cmpR (op_cmpD hK hu) ha hb hm).imp fun _ _ _ h => cmp_imp h
/-- a test that is a value's truth -/
theorem evT_bl {c : CE} {env : En} {M M' : Mem} {t : Bool} (h : evT P C c env M = some (t, M')) : ∃ d, evE P C c env M = some (d, M') ∧ truthD M' d = some t := by
  unfold evT at h
  obtain ⟨d, M1, e1, e⟩ := bE_inv h
  obtain ⟨t', e2, e⟩ := bO_inv e
  cases e
  exact ⟨d, e1, e2⟩
theorem pt_cmpD {op : CmpOp} (hK : X.K = S.K) (hu : X.A.units + 64 < cLine) (ha : PE X a (tE S P C ca)) (hb : PE X b (tE S P C cb)) (hm : behindInMarks op b = false) : PT X (.Compare a [op] [b] pos) (tTst S P C (.cmp op ca cb)) := by
  refine (pt_cmpR (op_cmpD hK hu) ha hb hm).imp fun σ H Q h => ?_
  obtain ⟨W, env, M, t, M', er, m, e, q⟩ := h
  obtain ⟨d, e1, e2⟩ := evT_bl e
  refine cmp_imp (ca := ca) (cb := cb) (op := op) ⟨W, env, M, d, M', er, m, e1, fun W' H' v x r => ?_⟩
  unfold evE at e1
  obtain ⟨_, _, _, e1⟩ := bE_inv e1
  obtain ⟨_, _, _, e1⟩ := bE_inv e1
  obtain ⟨t', _, e1⟩ := bO_inv e1
  cases e1
  cases e2
  exact ⟨t, r.bl_, q W' H' x⟩
theorem chn_imp {op op' : CmpOp} {σ : L2.St} {H : Hp} {Q : VK} (h : tE S P C (.chn op op' ca cb cc) σ H Q) : tChain (rC2 S op) (rC2 S op') (tE S P C ca) (tE S P C cb) (tE S P C cc) σ H Q := by
  obtain ⟨W, env, M, d, M', er, m, e, q⟩ := h
  unfold evE at e
  obtain ⟨d1, M1, e1, e⟩ := bE_inv e
  obtain ⟨d2, M2, e2, e⟩ := bE_inv e
  obtain ⟨t, e3, e⟩ := bO_inv e
  refine ⟨W, env, M, d1, M1, er, m, e1, fun W1 H1 x x1 r1 => ⟨W1, env, M1, d2, M2, er.keep (x1.kept m), x1.mem, e2, fun W2 H2 y x2 r2 => ⟨W2, M2, d1, d2, t, x2.mem, r1.keep (x2.kept x1.mem), r2, e3, t, rfl, ?_⟩⟩⟩
  cases t with
  | false =>
    rw [if_neg Bool.false_ne_true] at e ⊢
    cases e
    exact q W2 H2 _ (x1.trans x2) (Rep.bl false)
  | true =>
    rw [if_pos rfl] at e ⊢
    obtain ⟨d3, M3, e4, e⟩ := bE_inv e
    obtain ⟨t', e5, e⟩ := bO_inv e
    cases e
    have x12 := x1.trans x2
    exact ⟨W2, env, M2, d3, M', er.keep (x12.kept m), x2.mem, e4, fun W3 H3 z x3 r3 => ⟨W3, M', d2, d3, t', x3.mem, r2.keep (x3.kept x2.mem), r3, e5, q W3 H3 _ (x12.trans x3) (Rep.bl t')⟩⟩
theorem pe_chnD {op op' : CmpOp} (hK : X.K = S.K) (hu : X.A.units + 64 < cLine) (ha : PE X a (tE S P C ca)) (hb : PE X b (tE S P C cb)) (hc : PE X c (tE S P C cc)) (hm : lastMarks [op, op'] [b, c] = false) : PE X (.Compare a [op, op'] [b, c] pos) (tE S P C (.chn op op' ca cb cc)) :=
  (pe_chain (op_cmpD hK hu) (op_cmpD hK hu) ha hb hc hm).imp fun _ _ _ h => chn_imp h
theorem pt_chnD {op op' : CmpOp} (hK : X.K = S.K) (hu : X.A.units + 64 < cLine) (ha : PE X a (tE S P C ca)) (hb : PE X b (tE S P C cb)) (hc : PE X c (tE S P C cc)) (hm : lastMarks [op, op'] [b, c] = false) : PT X (.Compare a [op, op'] [b, c] pos) (tTst S P C (.chn op op' ca cb cc)) := by
  refine (pt_chain (op_cmpD hK hu) (op_cmpD hK hu) ha hb hc hm).imp fun σ H Q h => ?_
  obtain ⟨W, env, M, t, M', er, m, e, q⟩ := h
  obtain ⟨d, e1, e2⟩ := evT_bl e
  refine chn_imp (ca := ca) (cb := cb) (cc := cc) (op := op) (op' := op') ⟨W, env, M, d, M', er, m, e1, fun W' H' v x r => ?_⟩
  unfold evE at e1
  obtain ⟨_, _, _, e1⟩ := bE_inv e1
  obtain ⟨_, _, _, e1⟩ := bE_inv e1
  obtain ⟨t1, _, e1⟩ := bO_inv e1
  have hd : d = .bl t := by
    cases t1 with
    | false => rw [if_neg Bool.false_ne_true] at e1; cases e1; cases e2; rfl
    | true =>
      rw [if_pos rfl] at e1
      obtain ⟨_, _, _, e1⟩ := bE_inv e1
      obtain ⟨t', _, e1⟩ := bO_inv e1
      cases e1; cases e2; rfl
  subst hd
  exact ⟨t, r.bl_, q W' H' x⟩
/-! ### truth -/
theorem tru_rep {d : D} {v : V} {t : Bool} {W : Wd} {H : Hp} {M : Mem} (hK : X.K = S.K) (m : MemRel S W H M) (e : truthD M d = some t) (r : Rep S W H d v) : TruV X.K v H t := by
  have seq : ∀ ds, asS M d = some ds → t = !ds.isEmpty → TruV X.K v H t := fun ds ea et => by
    obtain ⟨a, vs, rfl, tt, rr⟩ := asS_rep m ea r
    have hl := rr.len
    have : ds.isEmpty = vs.isEmpty := by
      cases ds <;> cases vs <;> simp_all
    rw [et, this, hK]
    rcases tt with tt | tt
    · exact .inl ⟨vs, tt, rfl⟩
    · exact .inr (.inl ⟨vs, tt, rfl⟩)
  unfold truthD at e
  cases d with
  | non => rw [r.non_]; cases e; rfl
  | bl b => rw [r.bl_]; cases e; rfl
  | int i => rw [r.int_]; cases e; rfl
  | str x =>
    rw [r.str_]
    dsimp only at e
    split at e
    · rename_i h
      cases e
      exact ⟨lim_le h, rfl⟩
    · cases e
  | _ =>
    dsimp only at e
    split at e
    · rename_i ds h
      cases e
      exact seq ds h rfl
    · cases e
theorem tst_imp {σ : L2.St} {H : Hp} {Q : Bool → Hp → Prop} (hK : X.K = S.K) (h : tTst S P C ca σ H Q) : tE S P C ca σ H fun x H' => ∃ k, TruV X.K x H' k ∧ Q k H' := by
  obtain ⟨W, env, M, t, M', er, m, e, q⟩ := h
  obtain ⟨d, e1, e2⟩ := evT_bl e
  exact ⟨W, env, M, d, M', er, m, e1, fun W' H' v x r => ⟨t, tru_rep hK x.mem e2 r, q W' H' x⟩⟩
theorem pt_plainD (hK : X.K = S.K) (ha : PE X a (tE S P C ca)) (he : ∀ whole, isTrue a X.env whole = (do let v ← whole; standAt a.pos; holding [v] (truthy v))) : PT X a (tTst S P C ca) :=
  (pt_truth ha he).imp fun _ _ _ h => tst_imp hK h
theorem pe_notD (hK : X.K = S.K) (ha : PE X a (tE S P C ca)) : PE X (.UnaryOp .Not a pos) (tE S P C (.not_ ca)) := by
  refine (pe_notT ha).imp fun σ H Q h => ?_
  obtain ⟨W, env, M, d, M', er, m, e, q⟩ := h
  unfold evE at e
  obtain ⟨d1, M1, e1, e⟩ := bE_inv e
  obtain ⟨t, e2, e⟩ := bO_inv e
  cases e
  exact ⟨W, env, M, d1, M', er, m, e1, fun W' H' v x r => ⟨t, tru_rep hK x.mem e2 r, q W' H' _ x (Rep.bl _)⟩⟩
theorem pt_notD (ha : PT X a (tTst S P C ca)) : PT X (.UnaryOp .Not a pos) (tTst S P C (.not_ ca)) := by
  refine (pt_not ha).imp fun σ H Q h => ?_
  obtain ⟨W, env, M, t, M', er, m, e, q⟩ := h
  obtain ⟨d, e1, e2⟩ := evT_bl e
  unfold evE at e1
  obtain ⟨d1, M1, e3, e1⟩ := bE_inv e1
  obtain ⟨t1, e4, e1⟩ := bO_inv e1
  cases e1
  cases e2
  refine ⟨W, env, M, t1, M', er, m, ?_, fun W' H' x => q W' H' x⟩
  unfold evT
  rw [e3, bE_some, e4, bO_some]
theorem pe_negD (ha : PE X a (tE S P C ca)) : PE X (.UnaryOp .USub a pos) (tE S P C (.neg ca)) := by
  refine (pe_un un_neg ha).imp fun σ H Q h => ?_
  obtain ⟨W, env, M, d, M', er, m, e, q⟩ := h
  unfold evE at e
  obtain ⟨d1, M1, e1, e⟩ := bE_inv e
  cases d1 with
  | int i =>
    cases e
    refine ⟨W, env, M, .int i, M', er, m, e1, fun W' H' v x r => ?_⟩
    rw [r.int_]
    exact ⟨i, rfl, q W' H' _ x (Rep.int _)⟩
  | _ => cases e
theorem pt_plainV {e : Expr} {c : CE} (hK : X.K = S.K) (ha : PE X e (tE S P C c)) (he : ∀ whole, isTrue e X.env whole = (do let v ← whole; standAt e.pos; holding [v] (truthy v))) : PT X e (tTst S P C c) := pt_plainD hK ha he
theorem pe_ifeD (hc : PT X c (tTst S P C cc)) (ha : PE X a (tE S P C ca)) (hb : PE X b (tE S P C cb)) : PE X (.IfExp c a b pos) (tE S P C (.ife cc ca cb)) := by
  refine (pe_ifExp hc ha hb).imp fun σ H Q h => ?_
  obtain ⟨W, env, M, d, M', er, m, e, q⟩ := h
  unfold evE at e
  obtain ⟨d1, M1, e1, e⟩ := bE_inv e
  obtain ⟨t, e2, e⟩ := bO_inv e
  refine ⟨W, env, M, t, M1, er, m, by unfold evT; rw [e1, bE_some, e2, bO_some], fun W1 H1 x1 => ?_⟩
  cases t with
  | true =>
    rw [if_pos rfl] at e ⊢
    exact ⟨W1, env, M1, d, M', er.keep (x1.kept m), x1.mem, e, fun W2 H2 v x2 r => q W2 H2 v (x1.trans x2) r⟩
  | false =>
    rw [if_neg Bool.false_ne_true] at e ⊢
    exact ⟨W1, env, M1, d, M', er.keep (x1.kept m), x1.mem, e, fun W2 H2 v x2 r => q W2 H2 v (x1.trans x2) r⟩
theorem pt_ifeD (hc : PT X c (tTst S P C cc)) (ha : PT X a (tTst S P C ca)) (hb : PT X b (tTst S P C cb)) : PT X (.IfExp c a b pos) (tTst S P C (.ife cc ca cb)) := by
  refine ⟨fun pins s σ H Q I h => ?_⟩
  obtain ⟨W, env, M, t, M', er, m, e, q⟩ := h
  unfold evT evE at e
  obtain ⟨d0, M0, e, e0⟩ := bE_inv e
  obtain ⟨d1, M1, e1, e⟩ := bE_inv e
  obtain ⟨t1, e2, e⟩ := bO_inv e
  refine isTrue_IfExp (thn (hc.run pins s σ H (fun t H1 => if t = true then tTst S P C ca σ H1 Q else tTst S P C cb σ H1 Q) I ⟨W, env, M, t1, M1, er, m, by unfold evT; rw [e1, bE_some, e2, bO_some], fun W1 H1 x1 => ?_⟩) fun t s1 ⟨H1, I1, q1⟩ => ?_)
  · cases t1 with
    | true =>
      rw [if_pos rfl] at e ⊢
      refine ⟨W1, env, M1, t, M', er.keep (x1.kept m), x1.mem, ?_, fun W2 H2 x2 => q W2 H2 (x1.trans x2)⟩
      unfold evT
      rw [e, bE_some]; exact e0
    | false =>
      rw [if_neg Bool.false_ne_true] at e ⊢
      refine ⟨W1, env, M1, t, M', er.keep (x1.kept m), x1.mem, ?_, fun W2 H2 x2 => q W2 H2 (x1.trans x2)⟩
      unfold evT
      rw [e, bE_some]; exact e0
  · cases t with
    | true => rw [if_pos rfl] at q1; exact ha.run pins s1 σ H1 Q I1 q1
    | false => rw [if_neg Bool.false_ne_true] at q1; exact hb.run pins s1 σ H1 Q I1 q1
/-! ### displays -/
theorem pa_nilD : PA X [] (tEs S P C []) := by
  refine pa_nil.imp fun σ H Q h => ?_
  obtain ⟨W, env, M, ds, M', er, m, e, q⟩ := h
  unfold evEs at e
  cases e
  exact q W H _ (Ext.refl m) (Reps.nil.mpr rfl)
theorem pa_consD {es : List Expr} {cs : List CE} (ha : PE X a (tE S P C ca)) (hr : PA X es (tEs S P C cs)) (hs : starEach (a :: es) X.env = (false, eval a X.env) :: starEach es X.env) : PA X (a :: es) (tEs S P C (ca :: cs)) := by
  refine (pa_cons ha hr hs).imp fun σ H Q h => ?_
  obtain ⟨W, env, M, ds, M', er, m, e, q⟩ := h
  unfold evEs at e
  obtain ⟨d1, M1, e1, e⟩ := bE_inv e
  obtain ⟨ds1, M2, e2, e⟩ := bE_inv e
  cases e
  exact ⟨W, env, M, d1, M1, er, m, e1, fun W1 H1 x x1 r1 => ⟨W1, env, M1, ds1, M', er.keep (x1.kept m), x1.mem, e2, fun W2 H2 xs x2 r2 => q W2 H2 _ (x1.trans x2) (Reps.cons (r1.keep (x2.kept x1.mem)) r2)⟩⟩
theorem pe_tupD {es : List Expr} {cs : List CE} {k : Nat} (h : PA X es (tEs S P C cs)) : PE X (.Tuple es k pos) (tE S P C (.tup cs)) := by
  refine (pe_tup h).imp fun σ H Q h => ?_
  obtain ⟨W, env, M, d, M', er, m, e, q⟩ := h
  unfold evE at e
  obtain ⟨ds, M1, e1, e⟩ := bE_inv e
  split at e
  · rename_i hz
    cases e
    refine ⟨W, env, M, ds, M', er, m, e1, fun W1 H1 vs x1 r1 => ⟨by rw [← r1.len]; exact lim_le hz, fun p hp => ?_⟩⟩
    obtain ⟨x2, r2⟩ := tup_ok x1.mem hp r1
    exact q _ _ _ (x1.trans x2) r2
  · cases e
theorem pe_lstD {es : List Expr} {cs : List CE} (h : PA X es (tEs S P C cs)) : PE X (.List es pos) (tE S P C (.lst mt cs)) := by
  refine (pe_lst h).imp fun σ H Q h => ?_
  obtain ⟨W, env, M, d, M', er, m, e, q⟩ := h
  unfold evE at e
  obtain ⟨ds, M1, e1, e⟩ := bE_inv e
  split at e
  · rename_i hz
    refine ⟨W, env, M, ds, M1, er, m, e1, fun W1 H1 vs x1 r1 => ⟨by rw [← r1.len]; exact lim_le hz, fun p hp => ?_⟩⟩
    obtain ⟨W2, x2, r2⟩ := newL_ok (mt := mt) x1.mem hp r1 (Option.some.inj e)
    exact q _ _ _ (x1.trans x2) r2
  · cases e
theorem newC_ok {W : Wd} {M M' : Mem} {H : Hp} {p : Addr} {d : D} (m : MemRel S W H M) (hp : H p = none) (e : newC mt [] M = (d, M')) :
    ∃ W', Ext S W M H W' M' (upd H p (.dK [])) ∧ Rep S W' (upd H p (.dK [])) d (.ref p) := by
  cases mt with
  | false =>
    cases e
    have x := Ext.frz (o := .dK []) m hp
    refine ⟨_, x, ?_⟩
    simp only [Rep]
    exact ⟨p, [], rfl, .inr rfl, .inl ⟨[], .inl upd_same, rfl, rfl⟩, by simp only [RepC]⟩
  | true =>
    cases e
    have x : Ext S W M H (W.new p) (M ++ [.dct []]) (upd H p (.dK [])) := Ext.mk_new m hp ⟨[], .inl ⟨[], upd_same, rfl, rfl⟩, by simp only [RepC]⟩
    exact ⟨_, x, Rep.mk_ref (by rw [← m.len]; exact snoc_last)⟩
theorem pe_dcnD : PE X (.Dict [] [] pos) (tE S P C (.dcn mt)) := by
  refine pe_dnewK.imp fun σ H Q h => ?_
  obtain ⟨W, env, M, d, M', er, m, e, q⟩ := h
  unfold evE at e
  intro p hp
  obtain ⟨W2, x2, r2⟩ := newC_ok (mt := mt) m hp (Option.some.inj e)
  exact q _ _ _ x2 r2
/-! ### places, slices, fields -/
theorem pe_subD (hK : X.K = S.K) (hu : X.A.units + 64 < cLine) (ha : PE X a (tE S P C ca)) (hb : PE X b (tE S P C cb)) (hs : PlainIx b) : PE X (.Subscript a b pos) (tE S P C (.sub ca cb)) := by
  refine (pe_ix (ix_sub hK hu) ha hb hs).imp fun σ H Q h => ?_
  obtain ⟨W, env, M, d, M', er, m, e, q⟩ := h
  unfold evE at e
  obtain ⟨d1, M1, e1, e⟩ := bE_inv e
  obtain ⟨d2, M2, e2, e⟩ := bE_inv e
  obtain ⟨d3, e3, e⟩ := bO_inv e
  cases e
  exact ⟨W, env, M, d1, M1, er, m, e1, fun W1 H1 x x1 r1 => ⟨W1, env, M1, d2, M', er.keep (x1.kept m), x1.mem, e2, fun W2 H2 y x2 r2 => ⟨W2, M', d1, d2, d, x2.mem, r1.keep (x2.kept x1.mem), r2, e3, fun v r => q W2 H2 v (x1.trans x2) r⟩⟩⟩
theorem po_noneD : PO X none (tOpt S P C .nop) := by
  refine ⟨fun pins s σ H Q I h => po_none.run pins s σ H Q I ?_⟩
  obtain ⟨W, env, M, o, M', er, m, e, q⟩ := h
  unfold optE at e
  cases e
  exact q W H (Ext.refl m)
theorem po_someD (ha : PE X a (tE S P C ca)) (hn : ca ≠ .nop) : PO X (some a) (tOpt S P C ca) := by
  refine ⟨fun pins s σ H Q I h => (po_some ha).run pins s σ H Q I ?_⟩
  obtain ⟨W, env, M, o, M', er, m, e, q⟩ := h
  have e' : bE (evE P C ca env M) (fun d M => match d with
    | .int i => some (some i, M)
    | _ => none) = some (o, M') := by
    unfold optE at e
    cases ca <;> first | exact absurd rfl hn | exact e
  obtain ⟨d1, M1, e1, e2⟩ := bE_inv e'
  cases d1 with
  | int i =>
    cases e2
    exact ⟨W, env, M, .int i, M', er, m, e1, fun W1 H1 v x1 r1 => ⟨i, r1.int_, q W1 H1 x1⟩⟩
  | _ => cases e2
theorem pe_slcD {lo hi : Option Expr} {cl ch : CE} {p2 : Pos} (hK : X.K = S.K) (ha : PE X a (tE S P C ca)) (hl : PO X lo (tOpt S P C cl)) (hh : PO X hi (tOpt S P C ch)) : PE X (.Subscript a (.Slice lo hi none p2) pos) (tE S P C (.slc mt ca cl ch)) := by
  refine (pe_slice (sl_D (mt := mt) hK) ha hl hh).imp fun σ H Q h => ?_
  obtain ⟨W, env, M, d, M', er, m, e, q⟩ := h
  unfold evE at e
  obtain ⟨d1, M1, e1, e⟩ := bE_inv e
  obtain ⟨o1, M2, e2, e⟩ := bE_inv e
  obtain ⟨o2, M3, e3, e⟩ := bE_inv e
  refine ⟨W, env, M, d1, M1, er, m, e1, fun W1 H1 x x1 r1 => ⟨W1, env, M1, o1, M2, er.keep (x1.kept m), x1.mem, e2, fun W2 H2 x2 => ?_⟩⟩
  have x12 := x1.trans x2
  refine ⟨W2, env, M2, o2, M3, er.keep (x12.kept m), x2.mem, e3, fun W3 H3 x3 => ?_⟩
  exact ⟨W3, M3, d1, d, M', x3.mem, r1.keep ((x2.trans x3).kept x1.mem), e, fun W4 H4 v x4 r => q W4 H4 v ((x12.trans x3).trans x4) r⟩
/-- what the written part says of the classes -/
def ClsOk (S : Sx) (P : Pg) : Prop := ∀ c K, P.cls[c]? = some K → Cls S.K (S.ca c) ∧ ∀ f ∈ K.flds, NoAttr S.K (S.ca c) f
theorem pe_attD {f : Str} (hK : X.K = S.K) (ha : PE X a (tE S P C ca)) (hb : attributeBase a f X.env (eval a X.env) = eval a X.env) : PE X (.Attribute a f pos) (tE S P C (.att ca f)) := by
  refine (pe_fld ha hb).imp fun σ H Q h => ?_
  obtain ⟨W, env, M, d, M', er, m, e, q⟩ := h
  unfold evE at e
  obtain ⟨d1, M1, e1, e⟩ := bE_inv e
  obtain ⟨⟨c, fs⟩, e2, e⟩ := bO_inv e
  obtain ⟨d2, e3, e⟩ := bO_inv e
  cases e
  refine ⟨W, env, M, d1, M', er, m, e1, fun W1 H1 v x1 r1 => ?_⟩
  obtain ⟨i, a0, dx, gs, rfl, hm, hr, rfl, hH, h1, h2, h3, hC⟩ := asI_rep x1.mem e2 r1
  obtain ⟨v0, l, r0, hf⟩ := getF_rep h1 h2 e3
  exact ⟨a0, S.ca c, dx, gs, v0, rfl, hH, hK ▸ hC, hK ▸ h3 f hf, l, q W1 H1 v0 x1 r0⟩
end
end Nl
end
section
set_option maxRecDepth 100000
set_option maxHeartbeats 2000000
/-! Nl.Bop: and, or. -/
namespace Nl
open PySem L2 PySem.Spec PyProof.Rows
section
variable {S : Sx} {P : Pg} {C : CallF} {X : Cx} {pos : Pos}
def opOf : Bool → BoolOp
  | true => .And
  | false => .Or
/-- each part is sound, as a value and as a test -/
inductive Both (S : Sx) (P : Pg) (C : CallF) (X : Cx) : List Expr → List CE → Prop
  | one {e : Expr} {c : CE} : PE X e (tE S P C c) → PT X e (tTst S P C c) → Both S P C X [e] [c]
  | cons {e e' : Expr} {c c' : CE} {es : List Expr} {cs : List CE} : PE X e (tE S P C c) → PT X e (tTst S P C c) → Both S P C X (e' :: es) (c' :: cs) → Both S P C X (e :: e' :: es) (c :: c' :: cs)
theorem evB_one {b : Bool} {c : CE} {env : En} {M : Mem} : evB P C b [c] env M = evE P C c env M := by
  unfold evB
  cases h : evE P C c env M with
  | none => rfl
  | some p => obtain ⟨x, M1⟩ := p; rfl
theorem evB_cons {b : Bool} {c c' : CE} {cs : List CE} {env : En} {M : Mem} : evB P C b (c :: c' :: cs) env M = bE (evE P C c env M) fun x M => bO (truthD M x) fun t => if t = b then evB P C b (c' :: cs) env M else some (x, M) := by
  conv => lhs; unfold evB
theorem tE_bop {b : Bool} {cs : List CE} {σ : L2.St} {H : Hp} {Q : VK} : tE S P C (.bop b cs) σ H Q ↔ ∃ W env M d M', EnvRel S W H env σ ∧ MemRel S W H M ∧ evB P C b cs env M = some (d, M') ∧ ∀ W' H' v, Ext S W M H W' M' H' → Rep S W' H' d v → Q v H' := by
  unfold tE
  have e : ∀ env M, evE P C (.bop b cs) env M = evB P C b cs env M := fun env M => by rw [evE]
  simp only [e]
theorem pe_bopD {b : Bool} (hK : X.K = S.K) : ∀ {es : List Expr} {cs : List CE}, Both S P C X es cs → PE X (.BoolOp (opOf b) es pos) (tE S P C (.bop b cs))
  | _, _, .one h _ => by
    refine (pe_one h).imp fun σ H Q h => ?_
    obtain ⟨W, env, M, d, M', er, m, e, q⟩ := tE_bop.mp h
    rw [evB_one] at e
    exact ⟨W, env, M, d, M', er, m, e, q⟩
  | _, _, .cons (e := e0) (c := c0) h _ r => by
    have ih := pe_bopD (b := b) hK r
    cases b with
    | true =>
      refine (pe_andT h ih).imp fun σ H Q h => ?_
      obtain ⟨W, env, M, d, M', er, m, e, q⟩ := tE_bop.mp h
      rw [evB_cons] at e
      obtain ⟨x, M1, e1, e⟩ := bE_inv e
      obtain ⟨t, e2, e⟩ := bO_inv e
      refine ⟨W, env, M, x, M1, er, m, e1, fun W1 H1 v x1 r1 => ⟨t, tru_rep hK x1.mem e2 r1, ?_⟩⟩
      cases t with
      | true =>
        rw [if_pos rfl] at e ⊢
        exact tE_bop.mpr ⟨W1, env, M1, d, M', er.keep (x1.kept m), x1.mem, e, fun W2 H2 v x2 r => q W2 H2 v (x1.trans x2) r⟩
      | false =>
        rw [if_neg Bool.false_ne_true] at e ⊢
        cases e
        exact q W1 H1 v x1 r1
    | false =>
      refine (pe_orT h ih).imp fun σ H Q h => ?_
      obtain ⟨W, env, M, d, M', er, m, e, q⟩ := tE_bop.mp h
      rw [evB_cons] at e
      obtain ⟨x, M1, e1, e⟩ := bE_inv e
      obtain ⟨t, e2, e⟩ := bO_inv e
      refine ⟨W, env, M, x, M1, er, m, e1, fun W1 H1 v x1 r1 => ⟨t, tru_rep hK x1.mem e2 r1, ?_⟩⟩
      cases t with
      | false =>
        rw [if_pos rfl] at e
        rw [if_neg Bool.false_ne_true]
        exact tE_bop.mpr ⟨W1, env, M1, d, M', er.keep (x1.kept m), x1.mem, e, fun W2 H2 v x2 r => q W2 H2 v (x1.trans x2) r⟩
      | true =>
        rw [if_neg (fun z => Bool.noConfusion z)] at e
        rw [if_pos rfl]
        cases e
        exact q W1 H1 v x1 r1
theorem evT_bop {b : Bool} {cs : List CE} {env : En} {M M' : Mem} {t : Bool} (h : evT P C (.bop b cs) env M = some (t, M')) : ∃ d, evB P C b cs env M = some (d, M') ∧ truthD M' d = some t := by
  obtain ⟨d, e1, e2⟩ := evT_bl h
  exact ⟨d, by rw [← e1, evE], e2⟩
theorem bop_evT {b : Bool} {cs : List CE} {env : En} {M M' : Mem} {t : Bool} {d : D} (h : evB P C b cs env M = some (d, M')) (h2 : truthD M' d = some t) : evT P C (.bop b cs) env M = some (t, M') := by
  unfold evT
  rw [evE, h, bE_some, h2, bO_some]
theorem pw_bopD {b : Bool} : ∀ {es : List Expr} {cs : List CE}, Both S P C X es cs → PW X (.BoolOp (opOf b) es pos) (tTst S P C (.bop b cs))
  | _, _, .one (e := e0) (c := c0) _ h => by
    have one : PW X (.BoolOp (opOf b) [e0] pos) (tTst S P C c0) := by
      cases b with
      | true => exact pw_and1 h
      | false => exact pw_or1 h
    refine ⟨fun wh pins s σ H Q I h => one.run wh pins s σ H Q I ?_⟩
    obtain ⟨W, env, M, t, M', er, m, e, q⟩ := h
    obtain ⟨d, e1, e2⟩ := evT_bop e
    rw [evB_one] at e1
    exact ⟨W, env, M, t, M', er, m, by unfold evT; rw [e1, bE_some, e2, bO_some], q⟩
  | _, _, .cons (e := e0) (c := c0) _ h r => by
    have ih := pw_bopD (b := b) r
    cases b with
    | true =>
      refine ⟨fun wh pins s σ H Q I hh => (pw_and h ih).run wh pins s σ H Q I ?_⟩
      obtain ⟨W, env, M, t0, M', er, m, e, q⟩ := hh
      obtain ⟨d, e, e0⟩ := evT_bop e
      rw [evB_cons] at e
      obtain ⟨x, M1, e1, e⟩ := bE_inv e
      obtain ⟨t, e2, e⟩ := bO_inv e
      refine ⟨W, env, M, t, M1, er, m, by unfold evT; rw [e1, bE_some, e2, bO_some], fun W1 H1 x1 => ?_⟩
      cases t with
      | true =>
        rw [if_pos rfl] at e ⊢
        exact ⟨W1, env, M1, t0, M', er.keep (x1.kept m), x1.mem, bop_evT e e0, fun W2 H2 x2 => q W2 H2 (x1.trans x2)⟩
      | false =>
        rw [if_neg Bool.false_ne_true] at e ⊢
        cases e
        rw [e2] at e0
        cases e0
        exact q W1 H1 x1
    | false =>
      refine ⟨fun wh pins s σ H Q I hh => (pw_or h ih).run wh pins s σ H Q I ?_⟩
      obtain ⟨W, env, M, t0, M', er, m, e, q⟩ := hh
      obtain ⟨d, e, e0⟩ := evT_bop e
      rw [evB_cons] at e
      obtain ⟨x, M1, e1, e⟩ := bE_inv e
      obtain ⟨t, e2, e⟩ := bO_inv e
      refine ⟨W, env, M, t, M1, er, m, by unfold evT; rw [e1, bE_some, e2, bO_some], fun W1 H1 x1 => ?_⟩
      cases t with
      | false =>
        rw [if_pos rfl] at e
        rw [if_neg Bool.false_ne_true]
        exact ⟨W1, env, M1, t0, M', er.keep (x1.kept m), x1.mem, bop_evT e e0, fun W2 H2 x2 => q W2 H2 (x1.trans x2)⟩
      | true =>
        rw [if_neg (fun z => Bool.noConfusion z)] at e
        rw [if_pos rfl]
        cases e
        rw [e2] at e0
        cases e0
        exact q W1 H1 x1
end
end Nl
end
section
set_option maxRecDepth 100000
set_option maxHeartbeats 2000000
/-! Nl.Call: calls of the text's defs, classes, methods. -/
namespace Nl
open PySem L2 PySem.Spec PyProof.Rows
/-! ### argument lists -/
def noStar : Expr → Bool
  | .Starred _ _ => false
  | _ => true
theorem star_cons {e : Expr} {es : List Expr} {env : Env} (h : noStar e = true) : starEach (e :: es) env = (false, eval e env) :: starEach es env := by
  cases e <;> first | rfl | cases h
theorem star_any {env : Env} {pos : Pos} : ∀ {es : List Expr}, es.all noStar = true → (backTo pos (starEach es env)).any (·.1) = false
  | [], _ => rfl
  | e :: es, h => by
    rw [List.all_cons, Bool.and_eq_true] at h
    rw [star_cons h.1]
    show (false || (backTo pos (starEach es env)).any (·.1)) = false
    rw [star_any h.2] <;> rfl
theorem star_len {env : Env} : ∀ {es : List Expr}, (starEach es env).length = es.length
  | [] => rfl
  | e :: es => by
    have ih := star_len (env := env) (es := es)
    cases e <;> (show (starEach es env).length + 1 = es.length + 1; rw [ih])
theorem kw_names {env : Env} {pos : Pos} : ∀ {kws : List Keyword}, (backToKw pos (keywordEach kws env)).map (·.1) = kws.map (·.arg)
  | [] => rfl
  | k :: kws => by
    obtain ⟨n, v, p⟩ := k
    show n :: (backToKw pos (keywordEach kws env)).map (·.1) = n :: kws.map (·.arg)
    rw [kw_names (kws := kws)]
theorem kw_all {env : Env} {pos : Pos} {kws : List Keyword} (h : kws.all (·.arg.isSome) = true) : (backToKw pos (keywordEach kws env)).all (·.1.isSome) = true := by
  have e := kw_names (env := env) (pos := pos) (kws := kws)
  have e2 : ((backToKw pos (keywordEach kws env)).map (·.1)).all (·.isSome) = (kws.map (·.arg)).all (·.isSome) := by rw [e]
  rw [List.all_map, List.all_map] at e2
  exact e2.trans h
theorem kw_any {env : Env} {pos : Pos} {kws : List Keyword} (h : kws.all (·.arg.isSome) = true) : (backToKw pos (keywordEach kws env)).any (·.1.isNone) = false := by
  have e := kw_all (env := env) (pos := pos) h
  rw [List.all_eq_true] at e
  rw [List.any_eq_false]
  intro x hx
  have := e x hx
  cases hh : x.1 with
  | none => rw [hh] at this; cases this
  | some _ => simp
theorem kw_ks {env : Env} {pos : Pos} {kws : List Keyword} : (backToKw pos (keywordEach kws env)).filterMap (·.1) = kws.filterMap (·.arg) := by
  have e := kw_names (env := env) (pos := pos) (kws := kws)
  have e2 : ((backToKw pos (keywordEach kws env)).map (·.1)).filterMap id = (kws.map (·.arg)).filterMap id := by rw [e]
  rw [List.filterMap_map, List.filterMap_map] at e2
  exact e2
section
variable {S : Sx} {P : Pg} {C : CallF} {X : Cx}
/-- arguments that are written, none starred -/
inductive Args (S : Sx) (P : Pg) (C : CallF) (X : Cx) : List Expr → List CE → Prop
  | nil : Args S P C X [] []
  | cons {e : Expr} {c : CE} {es : List Expr} {cs : List CE} : noStar e = true → PE X e (tE S P C c) → Args S P C X es cs → Args S P C X (e :: es) (c :: cs)
inductive Kws (S : Sx) (P : Pg) (C : CallF) (X : Cx) : List Keyword → List CE → Prop
  | nil : Kws S P C X [] []
  | cons {n : Str} {e : Expr} {p : Pos} {c : CE} {es : List Keyword} {cs : List CE} : PE X e (tE S P C c) → Kws S P C X es cs → Kws S P C X (⟨some n, e, p⟩ :: es) (c :: cs)
theorem Args.star : ∀ {es : List Expr} {cs : List CE}, Args S P C X es cs → es.all noStar = true
  | _, _, .nil => rfl
  | _, _, .cons h _ r => by rw [List.all_cons, h, r.star] <;> rfl
theorem Args.len : ∀ {es : List Expr} {cs : List CE}, Args S P C X es cs → es.length = cs.length
  | _, _, .nil => rfl
  | _, _, .cons _ _ r => by simp [r.len]
theorem Args.pa : ∀ {es : List Expr} {cs : List CE}, Args S P C X es cs → PA X es (tEs S P C cs)
  | _, _, .nil => pa_nilD
  | _, _, .cons h p r => pa_consD p r.pa (star_cons h)
theorem Kws.all_ : ∀ {es : List Keyword} {cs : List CE}, Kws S P C X es cs → es.all (·.arg.isSome) = true
  | _, _, .nil => rfl
  | _, _, .cons _ r => by rw [List.all_cons, r.all_] <;> rfl
theorem Kws.len : ∀ {es : List Keyword} {cs : List CE}, Kws S P C X es cs → (es.filterMap (·.arg)).length = cs.length
  | _, _, .nil => rfl
  | _, _, .cons _ r => by simp [r.len]
theorem pk_nilD : PK X [] (tEs S P C []) := ⟨fun pos pins s σ H Q I h => pk_nil.run pos pins s σ H Q I (by
  obtain ⟨W, env, M, ds, M', er, m, e, q⟩ := h
  unfold evEs at e
  cases e
  exact q W H _ (Ext.refl m) (Reps.nil.mpr rfl))⟩
theorem pk_consD {n : Option Str} {e : Expr} {p : Pos} {c : CE} {es : List Keyword} {cs : List CE} (ha : PE X e (tE S P C c)) (hr : PK X es (tEs S P C cs)) : PK X (⟨n, e, p⟩ :: es) (tEs S P C (c :: cs)) := ⟨fun pos pins s σ H Q I h => (pk_cons ha hr).run pos pins s σ H Q I (by
  obtain ⟨W, env, M, ds, M', er, m, e, q⟩ := h
  unfold evEs at e
  obtain ⟨d1, M1, e1, e⟩ := bE_inv e
  obtain ⟨ds1, M2, e2, e⟩ := bE_inv e
  cases e
  exact ⟨W, env, M, d1, M1, er, m, e1, fun W1 H1 x x1 r1 => ⟨W1, env, M1, ds1, M', er.keep (x1.kept m), x1.mem, e2, fun W2 H2 xs x2 r2 => q W2 H2 _ (x1.trans x2) (Reps.cons (r1.keep (x2.kept x1.mem)) r2)⟩⟩)⟩
theorem Kws.pk : ∀ {es : List Keyword} {cs : List CE}, Kws S P C X es cs → PK X es (tEs S P C cs)
  | _, _, .nil => pk_nilD
  | _, _, .cons p r => pk_consD p r.pk
/-- f(..), what is written before the bracket given -/
theorem callWith_G {f : Value} {first : List Value} {pos : Pos} {es : List Expr} {kws : List Keyword} {cs ks : List CE} {pins : List (Addr × Obj)} {s : Shared} {σ : L2.St} {H : Hp} {Q : VK} (I : Inv X pins σ H s) (hk : PySem.W.keepIn X.K f = true)
    (ha : Args S P C X es cs) (hkw : Kws S P C X kws ks) {W : Wd} {env : En} {M M1 M2 : Mem} {ds zs : List D} (er : EnvRel S W H env σ) (m : MemRel S W H M) (e1 : evEs P C cs env M = some (ds, M1)) (e2 : evEs P C ks env M1 = some (zs, M2))
    (hc : ∀ (s2 : Shared) (W2 : Wd) (H2 : Hp) (vs ys : List V) (us ws : List Value), Inv X pins σ H2 s2 → Vals vs us → Vals ys ws → Ext S W M H W2 M2 H2 → Reps S W2 H2 ds vs → Reps S W2 H2 zs ys → wpAny (model X.prog X.w) X.A (call f (first ++ us) ((kws.filterMap (·.arg)).zip ws)) (EP X pins σ Q) X.xe s2) :
    wpAny (model X.prog X.w) X.A (callWith pos f first (backTo pos (starEach es X.env)) (backToKw pos (keywordEach kws X.env))) (EP X pins σ Q) X.xe s := by
  -- the keywords, from a state behind the arguments
  have kwR : ∀ (s1 : Shared) (W1 : Wd) (H1 : Hp) (vs : List V) (us : List Value), Inv X pins σ H1 s1 → Vals vs us → Ext S W M H W1 M1 H1 → Reps S W1 H1 ds vs →
      wpAny (model X.prog X.w) X.A (evalAll ((backToKw pos (keywordEach kws X.env)).map (·.2))) (fun ws s2 => X.K.In s2.heap ∧ wpAny (model X.prog X.w) X.A (call f (first ++ us) (((backToKw pos (keywordEach kws X.env)).filterMap (·.1)).zip ws)) (EP X pins σ Q) X.xe s2) X.xe s1 := by
    intro s1 W1 H1 vs us I1 ru x1 r1
    refine thn (hkw.pk.run pos pins s1 σ H1 (fun ys H2 => ∃ W2, Ext S W M H W2 M2 H2 ∧ Reps S W2 H2 ds vs ∧ Reps S W2 H2 zs ys) I1 ⟨W1, env, M1, zs, M2, er.keep (x1.kept m), x1.mem, e2, fun W2 H2 ys x2 r2 => ⟨W2, x1.trans x2, r1.keep (x2.kept x1.mem), r2⟩⟩) fun ws s2 ⟨ys, H2, I2, rw', W2, x2, q1, q2⟩ => ⟨I2.kIn, ?_⟩
    rw [kw_ks]
    exact hc s2 W2 H2 vs ys us ws I2 ru rw' x2 q1 q2
  have argR : ∀ {β : Sem (List Value)}, True → True := fun _ => trivial
  cases hkw with
  | nil =>
    unfold evEs at e2
    cases e2
    show wpAny _ _ (callWith pos f first (backTo pos (starEach es X.env)) []) _ _ s
    have fin : ∀ (s1 : Shared) (W1 : Wd) (H1 : Hp) (vs : List V) (us : List Value), Inv X pins σ H1 s1 → Vals vs us → Ext S W M H W1 M1 H1 → Reps S W1 H1 ds vs → wpAny (model X.prog X.w) X.A (call f (first ++ us)) (EP X pins σ Q) X.xe s1 :=
      fun s1 W1 H1 vs us I1 ru x1 r1 => hc s1 W1 H1 vs [] us [] I1 ru .nil x1 r1 (Reps.nil.mpr rfl)
    cases ha with
    | nil =>
      unfold evEs at e1
      cases e1
      exact PySem.W.callWith_K0 I.kIn hk (fin s W H [] [] I .nil (Ext.refl m) (Reps.nil.mpr rfl))
    | @cons e c es cs hst hp hr =>
      have ha' : Args S P C X (e :: es) (c :: cs) := .cons hst hp hr
      refine PySem.W.callWith_K (h₀ := X.base) I.ok.mod.kin hk (thn (ha'.pa.run pos pins s σ H (fun vs H1 => ∃ W1, Ext S W M H W1 M1 H1 ∧ Reps S W1 H1 ds vs) I ⟨W, env, M, ds, M1, er, m, e1, fun W1 H1 vs x1 r1 => ⟨W1, x1, r1⟩⟩) fun us s1 ⟨vs, H1, I1, ru, W1, x1, r1⟩ => ⟨I1.kIn, ?_⟩) (star_cons hst) (star_any hr.star)
      exact fin s1 W1 H1 vs us I1 ru x1 r1
  | @cons n ek pk ck kws ks hkp hkr =>
    have hkw' : Kws S P C X (⟨some n, ek, pk⟩ :: kws) (ck :: ks) := .cons hkp hkr
    cases ha with
    | nil =>
      unfold evEs at e1
      cases e1
      exact PySem.W.callWith_KW0 (h₀ := X.base) I.ok.mod.kin hk (kw_all hkw'.all_) (kwR s W H [] [] I .nil (Ext.refl m) (Reps.nil.mpr rfl)) (by rw [kw_any hkw'.all_] <;> rfl)
    | @cons e c es cs hst hp hr =>
      have ha' : Args S P C X (e :: es) (c :: cs) := .cons hst hp hr
      refine PySem.W.callWith_KW (h₀ := X.base) I.ok.mod.kin hk (kw_all hkw'.all_) (thn (ha'.pa.run pos pins s σ H (fun vs H1 => ∃ W1, Ext S W M H W1 M1 H1 ∧ Reps S W1 H1 ds vs) I ⟨W, env, M, ds, M1, er, m, e1, fun W1 H1 vs x1 r1 => ⟨W1, x1, r1⟩⟩) fun us s1 ⟨vs, H1, I1, ru, W1, x1, r1⟩ => ?_) (by rw [star_any ha'.star, kw_any hkw'.all_] <;> rfl) (star_cons hst)
      exact kwR s1 W1 H1 vs us I1 ru x1 r1
/-! ### the text's defs and classes -/
/-- the promise of a def -/
def spI (S : Sx) (C : CallF) (f np : Nat) : Sp := fun vs H Q _ => ∃ W M ds d M', MemRel S W H M ∧ Reps S W H ds vs ∧ ds.length = np ∧ C f ds M = some (d, M') ∧ ∀ W' H' v, Ext S W M H W' M' H' → Rep S W' H' d v → Q v H'
/-- how the text is written: names of defs, of their parameters, of classes; which calls stand in it -/
structure Tab where
  fnm : Nat → Option Str
  par : Nat → List Str
  cnm : Nat → Option Str
  shp : Nat → Nat → List Nat → Bool
/-- how a def is called with n values and these parameters by name -/
def ShapeOk (S : Sx) (F : FnI) (fd : FuncData) (ps : List Str) (n : Nat) (kix : List Nat) (knm : List Str) : Prop :=
  ∃ g gV, KBn S.K fd ps n knm g gV ∧ ∀ (W : Wd) (H : Hp) (ds ks as : List D) (vs zs : List V), ds.length = n → bindA F.dfl F.np ds kix ks = some as → Reps S W H ds vs → Reps S W H ks zs → ks.length = knm.length → Reps S W H as (gV vs zs) ∧ as.length = F.np
structure Facts (prog : Program) (w : World) (mg : Str → Option Value) (base : Heap) (S : Sx) (P : Pg) (C : CallF) (k : Nat) (T : Tab) : Prop where
  fn : ∀ f F, P.fns[f]? = some F → ∃ fd, FnOk prog w S.K mg base CX0 (2 * k) (S.fa f) fd (T.par f) (spI S C f F.np) ∧ PySem.W.keepIn S.K (.ref (S.fa f)) = true ∧
    ∀ n kix, T.shp f n kix = true → ShapeOk S F fd (T.par f) n kix (kix.filterMap fun j => (T.par f)[j]?)
  nm : ∀ f x, T.fnm f = some x → mg x = some (.ref (S.fa f))
  cls : ∀ c K, P.cls[c]? = some K → Cls S.K (S.ca c) ∧ (∀ f ∈ K.flds, NoAttr S.K (S.ca c) f) ∧ (∀ m f, K.mths.lookup m = some f → Meth S.K (S.ca c) m (S.fa f)) ∧ Mk S.K (S.ca c) (S.fa K.init)
  cnm : ∀ c x, T.cnm c = some x → mg x = some (.ref (S.ca c))
  glb : GlbOk S P mg
variable {k : Nat} {T : Tab}
theorem pe_callD {f : Nat} {x : Str} {p pos : Pos} {es : List Expr} {kws : List Keyword} {cs ks : List CE} {kix : List Nat} (hK : X.K = S.K) (F : Facts X.prog X.w X.mg X.base S P C k T) (hr : Room (2 * k) X.A) (hg : Gl X x) (hn : T.fnm f = some x) (hd : (x == ("__debug__" : Str)) = false)
    (ha : Args S P C X es cs) (hkw : Kws S P C X kws ks) (hks : kws.filterMap (·.arg) = kix.filterMap fun j => (T.par f)[j]?) (hs : T.shp f es.length kix = true) : PE X (.Call (.Name x p) es kws pos) (tE S P C (.call f cs kix ks)) := by
  refine ⟨fun pins s σ H Q I h => ?_⟩
  obtain ⟨W, env, M, d, M', er, m, e, q⟩ := h
  unfold evE at e
  obtain ⟨ds, M1, e1, e⟩ := bE_inv e
  obtain ⟨zs, M2, e2, e⟩ := bE_inv e
  obtain ⟨Fi, e3, e⟩ := bO_inv e
  obtain ⟨as, e4, e⟩ := bO_inv e
  obtain ⟨fd, FO, kp, sh⟩ := F.fn f Fi e3
  obtain ⟨g, gV, kb, rel⟩ := sh es.length kix hs
  refine wpAny_Call_Name_kw (ld_glob I hg (F.nm f x hn) ?_ hd)
  refine callWith_G (first := []) I (hK ▸ kp) ha hkw er m e1 e2 fun s2 W2 H2 vs ys us ws I2 ru rw' x2 r1 r2 => ?_
  have hl : ds.length = es.length := by
    have : ∀ (cs : List CE) (M : Mem) (ds : List D) (M1 : Mem), evEs P C cs env M = some (ds, M1) → ds.length = cs.length := by
      intro cs
      induction cs with
      | nil => intro M ds M1 e; unfold evEs at e; cases e; rfl
      | cons c cs ih =>
        intro M ds M1 e
        unfold evEs at e
        obtain ⟨_, _, _, e⟩ := bE_inv e
        obtain ⟨_, _, e', e⟩ := bE_inv e
        cases e
        simp [ih _ _ _ e']
    rw [this cs M ds M1 e1, ha.len]
  have hz : zs.length = (kws.filterMap (·.arg)).length := by
    have : ∀ (cs : List CE) (M : Mem) (ds : List D) (M1 : Mem), evEs P C cs env M = some (ds, M1) → ds.length = cs.length := by
      intro cs
      induction cs with
      | nil => intro M ds M1 e; unfold evEs at e; cases e; rfl
      | cons c cs ih =>
        intro M ds M1 e
        unfold evEs at e
        obtain ⟨_, _, _, e⟩ := bE_inv e
        obtain ⟨_, _, e', e⟩ := bE_inv e
        cases e
        simp [ih _ _ _ e']
    rw [this ks M1 zs M2 e2, hkw.len]
  obtain ⟨ra, la⟩ := rel W2 H2 ds zs as vs ys hl e4 r1 r2 (by rw [hz, hks])
  rw [hks]
  rw [← hK] at kb FO
  exact run_fnN FO hr kb pass0 I2 ru rw' (by rw [← r1.len]; exact hl) (by rw [← r2.len, hz, hks]) ⟨W2, M2, as, d, M', x2.mem, ra, la, e, fun W3 H3 v x3 r3 => q W3 H3 v (x2.trans x3) r3⟩
end
end Nl
end
section
set_option maxRecDepth 100000
set_option maxHeartbeats 2000000
/-! Nl.Meth: new instances, methods of instances. -/
namespace Nl
open PySem L2 PySem.Spec PyProof.Rows
section
variable {S : Sx} {P : Pg} {C : CallF} {X : Cx} {k : Nat} {T : Tab} {W : Wd} {M : Mem} {H : Hp}
theorem evEs_len {env : En} : ∀ {cs : List CE} {M : Mem} {ds : List D} {M1 : Mem}, evEs P C cs env M = some (ds, M1) → ds.length = cs.length
  | [], _, _, _, e => by unfold evEs at e; cases e; rfl
  | c :: cs, _, _, _, e => by
    unfold evEs at e
    obtain ⟨_, _, _, e⟩ := bE_inv e
    obtain ⟨_, _, e', e⟩ := bE_inv e
    cases e
    simp [evEs_len e']
/-- a new instance -/
theorem made_ok {c : Nat} {x dx : Addr} (m : MemRel S W H M) (hc : Cls S.K (S.ca c)) (hx : H x = none) (hdx : H dx = none) (ne : dx ≠ x) :
    Ext S W M H (W.new x) (M ++ [.ins c []]) (upd (upd H dx (.own x)) x (.ins (S.ca c) dx [])) := by
  have x1 := Ext.tup (o := .own x) m hdx
  have hx' : upd H dx (.own x) x = none := by rw [upd_ne (Ne.symm ne)]; exact hx
  exact x1.trans (Ext.mk_new x1.mem hx' ⟨dx, [], upd_same, rfl, Reps.nil.mpr rfl, fun f hf => absurd hf (by simp), hc⟩)
theorem pe_makeD {c : Nat} {x : Str} {p pos : Pos} {es : List Expr} {kws : List Keyword} {cs ks : List CE} {kix : List Nat} {Kc : ClI} (hK : X.K = S.K) (F : Facts X.prog X.w X.mg X.base S P C k T) (hr : Room (2 * k + 1) X.A) (hg : Gl X x) (hn : T.cnm c = some x) (hd : (x == ("__debug__" : Str)) = false)
    (ha : Args S P C X es cs) (hkw : Kws S P C X kws ks) (hc0 : P.cls[c]? = some Kc) (hks : kws.filterMap (·.arg) = kix.filterMap fun j => (T.par Kc.init)[j]?) (hs : T.shp Kc.init (es.length + 1) kix = true) : PE X (.Call (.Name x p) es kws pos) (tE S P C (.make c cs kix ks)) := by
  refine ⟨fun pins s σ H Q I h => ?_⟩
  obtain ⟨W, env, M, d, M', er, m, e, q⟩ := h
  unfold evE at e
  obtain ⟨ds, M1, e1, e⟩ := bE_inv e
  obtain ⟨zs, M2, e2, e⟩ := bE_inv e
  rw [hc0, bO_some] at e
  obtain ⟨Fi, e3, e⟩ := bO_inv e
  obtain ⟨as, e4, e⟩ := bO_inv e
  obtain ⟨d0, M3, e5, e⟩ := bE_inv e
  split at e
  · rename_i hnon
    cases e
    have hd0 : d0 = .non := by cases d0 <;> first | rfl | cases hnon
    subst hd0
    obtain ⟨fd, FO, kp, sh⟩ := F.fn Kc.init Fi e3
    obtain ⟨g, gV, kb, rel⟩ := sh (es.length + 1) kix hs
    obtain ⟨cl, na, me, mk⟩ := F.cls c Kc hc0
    refine wpAny_Call_Name_kw (ld_glob I hg (F.cnm c x hn) ?_ hd)
    refine callWith_G (first := []) I (hK ▸ mk.kp) ha hkw er m e1 e2 fun s2 W2 H2 vs ys us ws I2 ru rw' x2 r1 r2 => ?_
    have hl : ds.length = es.length := by rw [evEs_len e1, ha.len]
    have hz : zs.length = (kws.filterMap (·.arg)).length := by rw [evEs_len e2, hkw.len]
    rw [hks]
    rw [← hK] at kb FO mk
    refine run_makeK (vs := vs) (zs := ys) mk FO hr kb pass0 I2 ru rw' (by rw [← r1.len]; exact hl) (by rw [← r2.len, hz, hks]) fun a dx hx hdx ne => ?_
    have x3 := made_ok (c := c) x2.mem cl hx hdx ne
    have kept := x3.kept x2.mem
    have rs : Rep S (W2.new a) (upd (upd H2 dx (.own a)) a (.ins (S.ca c) dx [])) (.ref M2.length) (.ref a) := Rep.mk_ref (by rw [← x2.mem.len]; exact snoc_last)
    obtain ⟨ra, la⟩ := rel _ _ (.ref M2.length :: ds) zs as (.ref a :: vs) ys (by simp [hl]) e4 (Reps.cons rs (r1.keep kept)) (r2.keep kept) (by rw [hz, hks])
    refine ⟨_, _, as, .non, M', x3.mem, ra, la, e5, fun W4 H4 v x4 r4 => ⟨r4.non_, ?_⟩⟩
    exact q W4 H4 _ ((x2.trans x3).trans x4) (rs.keep (x4.kept x3.mem))
  · cases e
/-- o.m(..), what stands behind: the method's look, then the call -/
theorem wpAny_mcall {prog : Program} {w : World} {A : Around} {E : Value → Shared → Prop} {s : Shared} {env : Env} {o : Expr} {name : Str} {apos pos : Pos} {es : List Expr} {kws : List Keyword} {Q : Value → Shared → Prop} (hbase : attributeBase o name env (eval o env) = eval o env)
    (hst : es.all noStar = true) (hnm : kws.all (·.arg.isSome) = true) (hfew : es.length + kws.length < 29) (hline : (apos.endLine == pos.line) = true)
    (h : wpAny (model prog w) A (eval o env) (fun ov s₁ => wpAny (model prog w) A (getMethod ov name (do return (← importBound o env).getD true)) (fun fx s₂ => wpAny (model prog w) A (callWith pos fx.1 fx.2 (backTo pos (starEach es env)) (backToKw pos (keywordEach kws env))) Q E s₂) E s₁) E s) :
    wpAny (model prog w) A (eval (.Call (.Attribute o name apos) es kws pos) env) Q E s := by
  rw [arm_eval_Call, hbase]
  refine wpAny_bind (wpAny_mono h (fun ov s₁ h₁ => ?_) fun _ _ e => e)
  refine wpAny_bind (wpAny_standAt ?_)
  have hform : methodCallForm (es.length + kws.length) (backTo pos (starEach es env)) (backToKw pos (keywordEach kws env)) = true := by
    unfold methodCallForm
    have a1 : (backTo pos (starEach es env)).all (fun x => !x.1) = true := by
      have := star_any (env := env) (pos := pos) hst
      rw [List.any_eq_false] at this
      rw [List.all_eq_true]
      intro x hx
      have := this x hx
      simpa using this
    have a2 := kw_all (env := env) (pos := pos) hnm
    have a3 : es.length + kws.length + (if (backToKw pos (keywordEach kws env)).isEmpty then 0 else 1) < 30 := by
      split <;> omega
    simp only [a1, a2, Bool.and_self, Bool.true_and, decide_eq_true_eq]
    simpa using a3
  have hpos : methodCallPos true o env apos pos = pure pos := by unfold methodCallPos; simp [hline]
  unfold methodCall
  rw [hform]
  refine wpAny_bind (wpAny_holding (wpAny_mono h₁ (fun fx s₂ h₂ => ?_) fun _ _ e => e))
  exact wpAny_bind (wpAny_of_eq hpos h₂)
end
end Nl
end
section
set_option maxRecDepth 100000
set_option maxHeartbeats 2000000
/-! Nl.Tgt: sameness; targets. -/
namespace Nl
open PySem L2 PySem.Spec PyProof.Rows
mutual
theorem sm_eq : ∀ {a b : D}, a.sm b = true → a = b
  | .non, b, h => by cases b <;> first | rfl | (exfalso; revert h; simp [D.sm])
  | .bl x, b, h => by
    cases b with
    | bl y => simp [D.sm] at h; rw [h]
    | _ => simp [D.sm] at h
  | .int x, b, h => by
    cases b with
    | int y => simp [D.sm] at h; rw [h]
    | _ => simp [D.sm] at h
  | .str x, b, h => by
    cases b with
    | str y => simp [D.sm] at h; rw [h]
    | _ => simp [D.sm] at h
  | .tup x, b, h => by
    cases b with
    | tup y => simp only [D.sm] at h; rw [sms_eq h]
    | _ => simp [D.sm] at h
  | .lst x, b, h => by
    cases b with
    | lst y => simp only [D.sm] at h; rw [sms_eq h]
    | _ => simp [D.sm] at h
  | .dct x, b, h => by
    cases b with
    | dct y => simp only [D.sm] at h; rw [smk_eq h]
    | _ => simp [D.sm] at h
  | .ref x, b, h => by
    cases b with
    | ref y => simp [D.sm] at h; rw [h]
    | _ => simp [D.sm] at h
  | .fn x, b, h => by
    cases b with
    | fn y => simp [D.sm] at h; rw [h]
    | _ => simp [D.sm] at h
  | .exc x z, b, h => by
    cases b with
    | exc y w => simp [D.sm] at h; rw [h.1, h.2]
    | _ => simp [D.sm] at h
theorem sms_eq : ∀ {a b : List D}, sms a b = true → a = b
  | [], b, h => by cases b <;> first | rfl | (exfalso; revert h; simp [sms])
  | x :: r, b, h => by
    cases b with
    | nil => simp [sms] at h
    | cons y s =>
      simp only [sms, Bool.and_eq_true] at h
      rw [sm_eq h.1, sms_eq h.2]
theorem smk_eq : ∀ {a b : List (DK × D)}, smk a b = true → a = b
  | [], b, h => by cases b <;> first | rfl | (exfalso; revert h; simp [smk])
  | (k, x) :: r, b, h => by
    cases b with
    | nil => simp [smk] at h
    | cons y s =>
      obtain ⟨j, y⟩ := y
      simp only [smk, Bool.and_eq_true, decide_eq_true_eq] at h
      rw [h.1, sm_eq h.2.1, smk_eq h.2.2]
end
mutual
theorem sm_refl : ∀ (a : D), a.sm a = true
  | .non => by simp [D.sm]
  | .bl _ => by simp [D.sm]
  | .int _ => by simp [D.sm]
  | .str _ => by simp [D.sm]
  | .tup x => by simp only [D.sm]; exact sms_refl x
  | .lst x => by simp only [D.sm]; exact sms_refl x
  | .dct x => by simp only [D.sm]; exact smk_refl x
  | .ref _ => by simp [D.sm]
  | .fn _ => by simp [D.sm]
  | .exc _ _ => by simp [D.sm]
theorem sms_refl : ∀ (a : List D), sms a a = true
  | [] => by simp [sms]
  | x :: r => by simp only [sms, Bool.and_eq_true]; exact ⟨sm_refl x, sms_refl r⟩
theorem smk_refl : ∀ (a : List (DK × D)), smk a a = true
  | [] => by simp [smk]
  | (k, x) :: r => by simp only [smk, Bool.and_eq_true, decide_eq_true_eq]; exact ⟨trivial, sm_refl x, smk_refl r⟩
end
theorem gOk_guards (M : Mem) (d : D) : gOk (guards M d) M = true := by
  unfold guards
  split
  · rename_i a
    split
    · rename_i ds h
      simp only [gOk, List.all_cons, List.all_nil, Bool.and_true, h]
      exact sms_refl ds
    · rfl
  · rfl
theorem gOk_app {gs gs' : List (Nat × List D)} {M : Mem} : gOk (gs ++ gs') M = true ↔ gOk gs M = true ∧ gOk gs' M = true := by
  unfold gOk
  rw [List.all_append, Bool.and_eq_true]
/-! ### targets -/
section
variable {S : Sx} {W W' : Wd} {H H' : Hp} {M : Mem} {X : Cx} {pos : Pos}
mutual
/-- the places a target stores at -/
def CT.ix : CT → List Nat
  | .nm i => [i]
  | .tp ts => CT.ixs ts
def CT.ixs : List CT → List Nat
  | [] => []
  | t :: ts => t.ix ++ CT.ixs ts
end
theorem wipe_wipe {σ : L2.St} : ∀ {vs : List Nat}, ∀ us, (∀ v ∈ vs, v ∈ us) → wipe (wipe σ vs) us = wipe σ us := by
  intro vs us h
  refine List.ext_getElem? fun i => ?_
  have key : ∀ (σ : L2.St) (us : List Nat) (i : Nat), (wipe σ us)[i]? = if i ∈ us ∧ i < σ.length then some none else σ[i]? := by
    intro σ us i
    induction us with
    | nil => simp [wipe]
    | cons u us ih =>
      unfold wipe
      rw [List.getElem?_set]
      rw [wipe_length]
      by_cases hu : u = i
      · subst hu
        by_cases hl : u < σ.length
        · simp [hl]
        · simp [hl]
      · rw [if_neg hu, ih]
        have : (i ∈ u :: us) ↔ i ∈ us := by simp [Ne.symm hu]
        simp only [this]
  rw [key, key, key, wipe_length]
  by_cases h1 : i ∈ us ∧ i < σ.length
  · rw [if_pos h1, if_pos h1]
  · rw [if_neg h1, if_neg h1]
    by_cases h2 : i ∈ vs ∧ i < σ.length
    · exact absurd ⟨h i h2.1, h2.2⟩ h1
    · rw [if_neg h2]
theorem wipe_set {σ : L2.St} {i : Nat} {v : Option V} {us : List Nat} (h : i ∈ us) : wipe (σ.set i v) us = wipe σ us := by
  refine List.ext_getElem? fun j => ?_
  have key : ∀ (σ : L2.St) (us : List Nat) (i : Nat), (wipe σ us)[i]? = if i ∈ us ∧ i < σ.length then some none else σ[i]? := by
    intro σ us i
    induction us with
    | nil => simp [wipe]
    | cons u us ih =>
      unfold wipe
      rw [List.getElem?_set]
      rw [wipe_length]
      by_cases hu : u = i
      · subst hu
        by_cases hl : u < σ.length
        · simp [hl]
        · simp [hl]
      · rw [if_neg hu, ih]
        have : (i ∈ u :: us) ↔ i ∈ us := by simp [Ne.symm hu]
        simp only [this]
  rw [key, key, List.length_set, List.getElem?_set]
  by_cases hj : i = j
  · subst hj
    by_cases hl : i < σ.length
    · simp [h, hl]
    · simp [hl]
  · rw [if_neg hj]
theorem EnvRel.set {env : En} {σ : L2.St} {i : Nat} {d : D} {v : V} (er : EnvRel S W H env σ) (r : Rep S W H d v) : EnvRel S W H (env.set i (some d)) (σ.set i (some v)) := by
  refine ⟨by simp [er.len], fun j e he => ?_⟩
  rw [List.getElem?_set] at he
  by_cases hj : i = j
  · subst hj
    rw [if_pos rfl] at he
    split at he
    · rename_i hl
      cases he
      exact ⟨v, by rw [List.getElem?_set_self (by rw [← er.len]; exact hl)], r⟩
    · cases he
  · rw [if_neg hj] at he
    obtain ⟨u, e1, e2⟩ := er.at_ j e he
    exact ⟨u, by rw [List.getElem?_set_ne hj]; exact e1, e2⟩
theorem EnvRel.wipe {env : En} {σ : L2.St} (er : EnvRel S W H env σ) : ∀ vs : List Nat, EnvRel S W H (wipeE env vs) (L2.wipe σ vs)
  | [] => er
  | v :: vs => by
    have ih := EnvRel.wipe er vs
    unfold wipeE L2.wipe
    refine ⟨by simp [ih.len], fun j e he => ?_⟩
    rw [List.getElem?_set] at he
    by_cases hj : v = j
    · subst hj
      rw [if_pos rfl] at he
      split at he <;> cases he
    · rw [if_neg hj] at he
      obtain ⟨u, e1, e2⟩ := ih.at_ j e he
      exact ⟨u, by rw [List.getElem?_set_ne hj]; exact e1, e2⟩
def gT (S : Sx) (t : CT) : TG := fun v σ H Q => ∃ W env M d env', EnvRel S W H env σ ∧ MemRel S W H M ∧ Rep S W H d v ∧ asgT M t d env = some env' ∧ ∀ σ', EnvRel S W H env' σ' → (∀ us, (∀ i ∈ t.ix, i ∈ us) → L2.wipe σ' us = L2.wipe σ us) → Q σ' H
def gTs (S : Sx) (ts : List CT) : TGs := fun vs σ H Q => ∃ W env M ds env', EnvRel S W H env σ ∧ MemRel S W H M ∧ Reps S W H ds vs ∧ asgTs M ts ds env = some env' ∧ ∀ σ', EnvRel S W H env' σ' → (∀ us, (∀ i ∈ CT.ixs ts, i ∈ us) → L2.wipe σ' us = L2.wipe σ us) → Q σ' H
theorem _root_.L2.PG.imp {e : Expr} {t t' : TG} (h : PG X e t) (i : ∀ v σ H Q, t' v σ H Q → t v σ H Q) : PG X e t' := ⟨fun pins s σ H v u Q I r q => h.run pins s σ H v u Q I r (i v σ H Q q)⟩
theorem _root_.L2.PGs.imp {e : List Expr} {t t' : TGs} (h : PGs X e t) (i : ∀ v σ H Q, t' v σ H Q → t v σ H Q) : PGs X e t' := ⟨fun pins s σ H v u Q I r q => h.run pins s σ H v u Q I r (i v σ H Q q)⟩
theorem pg_or {e : Expr} {t t' : TG} (h : PG X e t) (h' : PG X e t') : PG X e (fun v σ H Q => t v σ H Q ∨ t' v σ H Q) := ⟨fun pins s σ H v u Q I r q => q.elim (h.run pins s σ H v u Q I r) (h'.run pins s σ H v u Q I r)⟩
theorem pg_nmD {i : Nat} {x : Str} (hN : X.N.Nodup) (hi : X.N[i]? = some x) (hx : Loc X.env.scope x) (hf : X.fn x = true ∨ X.env.scope.names.lookup x = some .local) : PG X (.Name x pos) (gT S (.nm i)) := by
  refine (pg_name (pos := pos) hN hi hx hf).imp fun v σ H Q h => ?_
  obtain ⟨W, env, M, d, env', er, m, r, e, q⟩ := h
  unfold asgT at e
  split at e
  · cases e
    refine q _ (er.set r) fun us hu => wipe_set (hu i ?_)
    unfold CT.ix
    simp
  · cases e
theorem pgs_nilD : PGs X [] (gTs S []) := by
  refine pgs_nil.imp fun v σ H Q h => ?_
  obtain ⟨W, env, M, ds, env', er, m, r, e, q⟩ := h
  cases ds with
  | nil =>
    unfold asgTs at e
    cases e
    exact ⟨Reps.nil.mp r, q σ er fun _ _ => rfl⟩
  | cons d ds =>
    unfold asgTs at e
    cases e
theorem asgn_cons {e : Expr} {es : List Expr} {env : Env} (h : noStar e = true) : assignEach (e :: es) env = (false, assign e env) :: assignEach es env := by
  cases e <;> first | rfl | cases h
theorem pgs_consD {e : Expr} {es : List Expr} {t : CT} {ts : List CT} (hst : noStar e = true) (h1 : PG X e (gT S t)) (h2 : PGs X es (gTs S ts)) : PGs X (e :: es) (gTs S (t :: ts)) := by
  refine (pgs_cons h1 h2 (by rw [asgn_cons hst]; rfl)).imp fun v σ H Q h => ?_
  obtain ⟨W, env, M, ds, env', er, m, r, e, q⟩ := h
  cases ds with
  | nil =>
    unfold asgTs at e
    cases e
  | cons d ds =>
    unfold asgTs at e
    obtain ⟨v0, r0, rfl, r1, r2⟩ := r.un
    obtain ⟨env1, e1, e2⟩ := bO_inv e
    refine ⟨v0, r0, rfl, W, env, M, d, env1, er, m, r1, e1, fun σ1 er1 w1 => ⟨W, env1, M, ds, env', er1, m, r2, e2, fun σ2 er2 w2 => q σ2 er2 fun us hu => ?_⟩⟩
    unfold CT.ixs at hu
    rw [w2 us fun i hi => hu i (List.mem_append_right _ hi), w1 us fun i hi => hu i (List.mem_append_left _ hi)]
theorem asgn_len {env : Env} : ∀ {es : List Expr}, es.all noStar = true → (assignEach es env).length = es.length
  | [], _ => rfl
  | e :: es, h => by
    rw [List.all_cons, Bool.and_eq_true] at h
    rw [asgn_cons h.1, List.length_cons, asgn_len h.2, List.length_cons]
theorem asgn_find {env : Env} : ∀ {es : List Expr}, es.all noStar = true → (assignEach es env).findIdx? (·.1) = none
  | [], _ => rfl
  | e :: es, h => by
    rw [List.all_cons, Bool.and_eq_true] at h
    rw [asgn_cons h.1, List.findIdx?_cons]
    simp [asgn_find h.2]
theorem pg_tpD {es : List Expr} {ts : List CT} {k : Nat} (hK : X.K = S.K) (hc : X.calm = true) (hst : es.all noStar = true) (hl : ts.length = es.length) (h : PGs X es (gTs S ts)) : PG X (.Tuple es k pos) (gT S (.tp ts)) := by
  refine (pg_or (pg_tup hc h (asgn_len hst) (asgn_find hst)) (pg_lst hc h (asgn_len hst) (asgn_find hst))).imp fun v σ H Q h => ?_
  obtain ⟨W, env, M, d, env', er, m, r, e, q⟩ := h
  unfold asgT at e
  obtain ⟨ds, e1, e⟩ := bO_inv e
  split at e
  · rename_i hd
    obtain ⟨a, vs, rfl, t, rr⟩ := asS_rep m e1 r
    have fin : gTs S ts vs σ H Q := ⟨W, env, M, ds, env', er, m, rr, e, fun σ' er' w => q σ' er' fun us hu => w us fun i hi => hu i (by unfold CT.ix; exact hi)⟩
    have len : vs.length = es.length := by rw [← rr.len, hd, hl]
    rcases t with t | t
    · exact .inr ⟨a, vs, rfl, hK ▸ t, len, fin⟩
    · exact .inl ⟨a, vs, rfl, hK ▸ t, len, fin⟩
  · cases e
end
end Nl
end
section
set_option maxRecDepth 100000
set_option maxHeartbeats 2000000
/-! Nl.Iter: what loops walk. -/
namespace Nl
open PySem L2 PySem.Spec PyProof.Rows
section
variable (S : Sx) (P : Pg) (C : CallF)
/-- the iterator yields these, as long as the guards hold -/
def IterOk (J : L2.It) (its : List D) (gs : List (Nat × List D)) (W : Wd) (H : Hp) : Prop :=
  ∀ W1 H1 M1, Kept W H W1 H1 → MemRel S W1 H1 M1 → gOk gs M1 = true → ∀ (i : Nat),
    (∀ d, its[i]? = some d → J.go i H1 ∧ ∀ x H', J.yld i H1 x H' → ∃ W2, Ext S W1 M1 H1 W2 M1 H' ∧ Rep S W2 H' d x) ∧ (its.length ≤ i → J.stop i H1)
def tI (c : CI) : TI := fun σ H R => ∃ W env M its gs M', EnvRel S W H env σ ∧ MemRel S W H M ∧ evI P C c env M = some ((its, gs), M') ∧ ∀ W' H' J, Ext S W M H W' M' H' → gOk gs M' = true → IterOk S J its gs W' H' → R J H'
end
section
variable {S : Sx} {P : Pg} {C : CallF} {X : Cx} {W W' W1 : Wd} {H H' H1 : Hp} {M M' M1 : Mem} {pos p : Pos} {tg : Expr} {K : PySem.W.Frag}
theorem _root_.L2.PI.imp {tg it : Expr} {t t' : TI} (h : PI X tg it t) (i : ∀ σ H R, t' σ H R → t σ H R) : PI X tg it t' := ⟨fun pins s σ H R I q => h.run pins s σ H R I (i σ H R q)⟩
theorem Kept.trans {W2 : Wd} {H2 : Hp} (a : Kept W H W1 H1) (b : Kept W1 H1 W2 H2) : Kept W H W2 H2 :=
  ⟨fun i x h => b.rho i x (a.rho i x h), fun x h => b.fz x (a.fz x h), fun x o im h => b.imm x o im (a.imm x o im h), fun x u hf h => b.rd x u (a.fz x hf) (a.rd x u hf h)⟩
theorem Kept.refl : Kept W H W H := ⟨fun _ _ h => h, fun _ h => h, fun _ _ _ h => h, fun _ _ _ h => h⟩
/-- a list, a tuple as they stand later -/
theorem asL_later {d : D} {ds : List D} {v : V} (e : asL M d = some ds) (m : MemRel S W H M) (h : Rep S W H d v) (k : Kept W H W1 H1) (m1 : MemRel S W1 H1 M1) (g : gOk (guards M d) M1 = true) : ∃ a vs, v = .ref a ∧ SqL S.K H1 a vs ∧ Reps S W1 H1 ds vs := by
  cases d with
  | lst es =>
    have e' : es = ds := Option.some.inj e
    subst e'
    obtain ⟨a, vs, q, t, r⟩ := (h.keep k).lst_
    exact ⟨a, vs, q, t.rd.sq, r⟩
  | ref i =>
    obtain ⟨a, q, hr⟩ := (h.keep k).ref_
    have e0 : M[i]? = some (.lst ds) := by
      unfold asL at e
      dsimp only at e
      cases hm : M[i]? with
      | none => rw [hm] at e; cases e
      | some o =>
        rw [hm] at e
        cases o with
        | lst es => cases e; rfl
        | dct _ => cases e
        | ins _ _ => cases e
    have e1 : M1[i]? = some (.lst ds) := by
      unfold guards at g
      dsimp only at g
      rw [e0] at g
      simp only [gOk, List.all_cons, List.all_nil, Bool.and_true] at g
      cases hm : M1[i]? with
      | none => rw [hm] at g; cases g
      | some o =>
        rw [hm] at g
        cases o with
        | lst es => rw [sms_eq g]
        | dct _ => cases g
        | ins _ _ => cases g
    obtain ⟨vs, h1, h2⟩ := m1.obj i _ a e1 hr
    exact ⟨a, vs, q, .of h1, h2⟩
  | _ => cases e
theorem asT_later {ds : List D} {v : V} (h : Rep S W H (.tup ds) v) (k : Kept W H W1 H1) : ∃ a vs, v = .ref a ∧ SqT S.K H1 a vs ∧ Reps S W1 H1 ds vs := by
  obtain ⟨a, vs, q, t, r⟩ := (h.keep k).tup_
  exact ⟨a, vs, q, t.sq, r⟩
theorem iterL {d : D} {ds : List D} {a : Addr} (e : asL M d = some ds) (m : MemRel S W H M) (h : Rep S W H d (.ref a)) : IterOk S (Itl S.K a) ds (guards M d) W H := by
  intro W1 H1 M1 k m1 g i
  obtain ⟨a', vs, ea, sq, rr⟩ := asL_later e m h k m1 g
  cases ea
  refine ⟨fun d hd => ?_, fun hl => ⟨vs, sq, by rw [← rr.len]; exact hl⟩⟩
  obtain ⟨v, ev, rv⟩ := rr.get hd
  refine ⟨⟨vs, v, sq, ev⟩, fun x H' hy => ?_⟩
  obtain ⟨rfl, hx⟩ := hy
  have := hx vs sq
  rw [ev] at this
  cases this
  exact ⟨W1, Ext.refl m1, rv⟩
theorem iterT {ds : List D} {a : Addr} (h : Rep S W H (.tup ds) (.ref a)) : IterOk S (Itt S.K a) ds [] W H := by
  intro W1 H1 M1 k m1 g i
  obtain ⟨a', vs, ea, sq, rr⟩ := asT_later h k
  cases ea
  refine ⟨fun d hd => ?_, fun hl => ⟨vs, sq, by rw [← rr.len]; exact hl⟩⟩
  obtain ⟨v, ev, rv⟩ := rr.get hd
  refine ⟨⟨vs, v, sq, ev⟩, fun x H' hy => ?_⟩
  obtain ⟨rfl, hx⟩ := hy
  have := hx vs sq
  rw [ev] at this
  cases this
  exact ⟨W1, Ext.refl m1, rv⟩
theorem rangeD_len : ∀ (n : Nat) (lo c : Int), (rangeD lo c n).length = n
  | 0, _, _ => rfl
  | n + 1, lo, c => by simp [rangeD, rangeD_len n]
theorem rangeD_get : ∀ (n : Nat) (lo c : Int) (i : Nat) (d : D), (rangeD lo c n)[i]? = some d → i < n ∧ d = .int (lo + (i : Int) * c)
  | 0, _, _, _, _, h => by simp [rangeD] at h
  | n + 1, lo, c, 0, d, h => by
    simp [rangeD] at h
    exact ⟨by omega, by rw [← h]; simp⟩
  | n + 1, lo, c, i + 1, d, h => by
    simp only [rangeD, List.getElem?_cons_succ] at h
    obtain ⟨h1, h2⟩ := rangeD_get n _ c i d h
    refine ⟨by omega, ?_⟩
    rw [h2]
    congr 1
    push_cast
    rw [Int.add_mul]
    omega
theorem iterR {lo : Int} {n : Nat} : IterOk S (Itr lo n) (rangeD lo 1 n) [] W H := by
  intro W1 H1 M1 k m1 g i
  refine ⟨fun d hd => ?_, fun hl => by rw [rangeD_len] at hl; exact hl⟩
  obtain ⟨h1, rfl⟩ := rangeD_get _ _ _ _ _ hd
  refine ⟨h1, fun x H' hy => ?_⟩
  obtain ⟨rfl, rfl⟩ := hy
  refine ⟨W1, Ext.refl m1, ?_⟩
  rw [Int.mul_one]
  exact Rep.int _
theorem iterC {lo c : Int} {n : Nat} : IterOk S (Itc lo c n) (rangeD lo c n) [] W H := by
  intro W1 H1 M1 k m1 g i
  refine ⟨fun d hd => ?_, fun hl => by rw [rangeD_len] at hl; exact hl⟩
  obtain ⟨h1, rfl⟩ := rangeD_get _ _ _ _ _ hd
  refine ⟨h1, fun x H' hy => ?_⟩
  obtain ⟨rfl, rfl⟩ := hy
  exact ⟨W1, Ext.refl m1, Rep.int _⟩
theorem enumD_get : ∀ (ds : List D) (n i : Nat) (d : D), (enumD n ds)[i]? = some d → ∃ x, ds[i]? = some x ∧ d = .tup [.int ((n + i : Nat) : Int), x]
  | [], _, _, _, h => by simp [enumD] at h
  | x :: r, n, 0, d, h => by
    simp [enumD] at h
    exact ⟨x, rfl, h.symm⟩
  | x :: r, n, i + 1, d, h => by
    simp only [enumD, List.getElem?_cons_succ] at h
    obtain ⟨y, h1, h2⟩ := enumD_get r (n + 1) i d h
    refine ⟨y, by simpa using h1, ?_⟩
    rw [h2]
    congr 3
    omega
theorem enumD_len : ∀ (ds : List D) (n : Nat), (enumD n ds).length = ds.length
  | [], _ => rfl
  | x :: r, n => by simp [enumD, enumD_len r]
theorem iterE {d : D} {ds : List D} {a : Addr} (e : asL M d = some ds) (m : MemRel S W H M) (h : Rep S W H d (.ref a)) : IterOk S (Ite S.K a) (enumD 0 ds) (guards M d) W H := by
  intro W1 H1 M1 k m1 g i
  obtain ⟨a', vs, ea, sq, rr⟩ := asL_later e m h k m1 g
  cases ea
  refine ⟨fun d hd => ?_, fun hl => ⟨vs, sq, by rw [← rr.len, ← enumD_len ds 0]; exact hl⟩⟩
  obtain ⟨x, hx, rfl⟩ := enumD_get ds 0 i d hd
  obtain ⟨v, ev, rv⟩ := rr.get hx
  refine ⟨⟨vs, v, sq, ev⟩, fun y H' hy => ?_⟩
  obtain ⟨T, z, rfl, hT, rfl, hz⟩ := hy
  have := hz vs sq
  rw [ev] at this
  cases this
  have x2 := Ext.tup (o := .tup [.int (i : Nat), v]) m1 hT
  refine ⟨W1, x2, Rep.mk_tup upd_same (Reps.cons ?_ (Reps.cons (rv.keep (x2.kept m1)) (Reps.nil.mpr rfl)))⟩
  rw [Nat.zero_add]
  exact Rep.int _
theorem iterZ {d d2 : D} {ds es : List D} {a b : Addr} (e : asL M d = some ds) (e2 : asL M d2 = some es) (m : MemRel S W H M) (h : Rep S W H d (.ref a)) (h2 : Rep S W H d2 (.ref b)) :
    IterOk S (Itz S.K a b) ((ds.zip es).map fun p => .tup [p.1, p.2]) (guards M d ++ guards M d2) W H := by
  intro W1 H1 M1 k m1 g i
  rw [gOk_app] at g
  obtain ⟨a', vs, ea, sq, rr⟩ := asL_later e m h k m1 g.1
  cases ea
  obtain ⟨b', us, eb, sq2, rr2⟩ := asL_later e2 m h2 k m1 g.2
  cases eb
  refine ⟨fun d hd => ?_, fun hl => ⟨vs, us, sq, sq2, ?_⟩⟩
  · rw [List.getElem?_map] at hd
    cases hp : (ds.zip es)[i]? with
    | none => rw [hp] at hd; cases hd
    | some p =>
      rw [hp] at hd
      cases hd
      obtain ⟨x, y⟩ := p
      rw [List.getElem?_zip_eq_some] at hp
      obtain ⟨v, ev, rv⟩ := rr.get hp.1
      obtain ⟨u, eu, ru⟩ := rr2.get hp.2
      refine ⟨⟨vs, us, v, u, sq, sq2, ev, eu⟩, fun y' H' hy => ?_⟩
      obtain ⟨T, z, z2, rfl, hT, rfl, hz, hz2⟩ := hy
      have q1 := hz vs sq
      rw [ev] at q1
      cases q1
      have q2 := hz2 us sq2
      rw [eu] at q2
      cases q2
      have x2 := Ext.tup (o := .tup [v, u]) m1 hT
      exact ⟨W1, x2, Rep.mk_tup upd_same (Reps.cons (rv.keep (x2.kept m1)) (Reps.cons (ru.keep (x2.kept m1)) (Reps.nil.mpr rfl)))⟩
  · rw [List.length_map, List.length_zip, rr.len, rr2.len] at hl
    omega
/-! ### the forms -/
variable {a b c : Expr} {ca cb cc : CE}
/-- a walk over a list or a tuple -/
def iSeq (K : PySem.W.Frag) (tl : TE) : TI := fun σ H R => tl σ H fun x H1 => ∃ a, x = .ref a ∧ (((∃ xs, SqL K H1 a xs) ∧ R (Itl K a) H1) ∨ ((∃ xs, SqT K H1 a xs) ∧ R (Itt K a) H1))
theorem pi_seq {l : Expr} {tl : TE} (hl : PE X l tl) : PI X tg l (iSeq X.K tl) := by
  refine ⟨fun pins s σ H R I h => ?_⟩
  refine thn (hl.run pins s σ H _ I h) fun v s1 ⟨x, H1, I1, r1, q1⟩ => ?_
  obtain ⟨a, e, q⟩ := q1
  subst e
  rcases q with ⟨⟨xs, hq⟩, q⟩ | ⟨⟨xs, hq⟩, q⟩
  · cases r1
    obtain ⟨its, rv, p, hz⟩ := I1.list hq
    exact wpAny_pyIter_list p.isList (pi_one (tk := s1.toks) I1 _ (turn_list a _) ⟨_, Heap.get?_push_size _ rfl, rfl, rfl⟩ q)
  · cases r1
    obtain ⟨its, rv, p, hz⟩ := I1.tuple hq
    exact wpAny_pyIter_tuple (show s1.heap.IsTuple a its.toArray from p) (pi_one (tk := s1.toks) I1 _ (turn_tuple a _) ⟨_, Heap.get?_push_size _ rfl, rfl, rfl⟩ q)
theorem pi_valD (hK : X.K = S.K) (ha : PE X a (tE S P C ca)) : PI X tg a (tI S P C (.val ca)) := by
  refine (pi_seq ha).imp fun σ H R h => ?_
  obtain ⟨W, env, M, its, gs, M', er, m, e, q⟩ := h
  unfold evI at e
  obtain ⟨d, M1, e1, e⟩ := bE_inv e
  obtain ⟨r, e2, e⟩ := bO_inv e
  cases e
  refine ⟨W, env, M, d, M', er, m, e1, fun W1 H1 v x1 r1 => ?_⟩
  unfold walkD at e2
  cases es : asS M' d with
  | none => rw [es] at e2; cases e2
  | some ds =>
    rw [es] at e2
    cases e2
    have g0 := gOk_guards M' d
    cases d with
    | tup ds' =>
      have : ds' = its := Option.some.inj es
      subst this
      obtain ⟨a0, vs, rfl, t, _⟩ := r1.tup_
      exact ⟨a0, rfl, .inr ⟨⟨vs, hK ▸ t.sq⟩, hK ▸ q W1 H1 _ x1 g0 (iterT r1)⟩⟩
    | _ =>
      simp only [asS] at es
      have es' := es
      obtain ⟨a0, vs, rfl, t, _⟩ := asL_rep x1.mem es' r1
      exact ⟨a0, rfl, .inl ⟨⟨vs, hK ▸ t.sq⟩, hK ▸ q W1 H1 _ x1 g0 (iterL es' x1.mem r1)⟩⟩
theorem inR_ok {i : Int} (h : inR i = true) : -(2 ^ 62) ≤ i ∧ i < 2 ^ 62 := by
  unfold inR at h
  simp only [Bool.and_eq_true, decide_eq_true_eq] at h
  constructor
  · have : -(2 ^ 62 : Int) ≤ -1000000 := by decide
    omega
  · have : (1000000 : Int) < 2 ^ 62 := by decide
    omega
theorem pi_rng1D (hg : Gl X "range") (hm : X.mg "range" = none) (hst : noStar a = true) (ha : PE X a (tE S P C ca)) : PI X tg (.Call (.Name "range" p) [a] [] pos) (tI S P C (.rng1 ca)) := by
  refine (pi_range1 hg hm (pa_cons ha pa_nil (by rw [star_cons hst])) (by rw [star_cons hst] <;> rfl)).imp fun σ H R h => ?_
  obtain ⟨W, env, M, its, gs, M', er, m, e, q⟩ := h
  unfold evI at e
  obtain ⟨d, M1, e1, e⟩ := bE_inv e
  cases d with
  | int j =>
    dsimp only at e
    split at e
    · rename_i hj
      cases e
      refine ⟨W, env, M, _, _, er, m, e1, fun W1 H1 v x1 r1 => ?_⟩
      rw [r1.int_]
      exact ⟨j, rfl, (inR_ok hj).1, (inR_ok hj).2, q W1 H1 _ x1 rfl iterR⟩
    · cases e
  | _ => cases e
theorem pi_rng2D (hg : Gl X "range") (hm : X.mg "range" = none) (hst : noStar a = true) (hst2 : noStar b = true) (ha : PE X a (tE S P C ca)) (hb : PE X b (tE S P C cb)) : PI X tg (.Call (.Name "range" p) [a, b] [] pos) (tI S P C (.rng2 ca cb)) := by
  refine (pi_range2 hg hm (pa_cons ha (pa_cons hb pa_nil (by rw [star_cons hst2])) (by rw [star_cons hst])) (by rw [star_cons hst, star_cons hst2] <;> rfl) (by rw [star_cons hst2] <;> rfl)).imp fun σ H R h => ?_
  obtain ⟨W, env, M, its, gs, M', er, m, e, q⟩ := h
  unfold evI at e
  obtain ⟨d, M1, e1, e⟩ := bE_inv e
  obtain ⟨d2, M2, e2, e⟩ := bE_inv e
  cases d with
  | int i =>
    cases d2 with
    | int j =>
      dsimp only at e
      split at e
      · rename_i hj
        cases e
        rw [Bool.and_eq_true] at hj
        refine ⟨W, env, M, _, _, er, m, e1, fun W1 H1 v x1 r1 => ?_⟩
        refine ⟨W1, env, M1, _, _, er.keep (x1.kept m), x1.mem, e2, fun W2 H2 v2 x2 r2 => ?_⟩
        rw [r1.int_, r2.int_]
        exact ⟨i, j, rfl, ⟨(inR_ok hj.1).1, (inR_ok hj.1).2, (inR_ok hj.2).1, (inR_ok hj.2).2⟩, q W2 H2 _ (x1.trans x2) rfl iterR⟩
      · cases e
    | _ => cases e
  | _ => cases e
theorem pi_rng3D (hg : Gl X "range") (hm : X.mg "range" = none) (hst : noStar a = true) (hst2 : noStar b = true) (hst3 : noStar c = true) (ha : PE X a (tE S P C ca)) (hb : PE X b (tE S P C cb)) (hc : PE X c (tE S P C cc)) : PI X tg (.Call (.Name "range" p) [a, b, c] [] pos) (tI S P C (.rng3 ca cb cc)) := by
  refine (pi_range3 hg hm (pa_cons ha (pa_cons hb (pa_cons hc pa_nil (by rw [star_cons hst3])) (by rw [star_cons hst2])) (by rw [star_cons hst])) (by rw [star_cons hst]) (by rw [star_cons hst2, star_cons hst3] <;> rfl)).imp fun σ H R h => ?_
  obtain ⟨W, env, M, its, gs, M', er, m, e, q⟩ := h
  unfold evI at e
  obtain ⟨d, M1, e1, e⟩ := bE_inv e
  obtain ⟨d2, M2, e2, e⟩ := bE_inv e
  obtain ⟨d3, M3, e3, e⟩ := bE_inv e
  split at e
  · rename_i i j _ _
    split at e
    · rename_i hj
      cases e
      rw [Bool.and_eq_true] at hj
      refine ⟨W, env, M, _, _, er, m, e1, fun W1 H1 v x1 r1 => ?_⟩
      refine ⟨W1, env, M1, _, _, er.keep (x1.kept m), x1.mem, e2, fun W2 H2 v2 x2 r2 => ?_⟩
      have x12 := x1.trans x2
      refine ⟨W2, env, M2, _, _, er.keep (x12.kept m), x2.mem, e3, fun W3 H3 v3 x3 r3 => ?_⟩
      rw [r1.int_, r2.int_, r3.int_]
      exact ⟨i, j, -1, _, rfl, RgC.neg (inR_ok hj.1).1 (inR_ok hj.1).2 (inR_ok hj.2).1 (inR_ok hj.2).2, q W3 H3 _ (x12.trans x3) rfl iterC⟩
    · cases e
  · cases e
theorem pi_enumD {elts : List Expr} {kk : Nat} {tpos : Pos} (hK : X.K = S.K) (hg : Gl X "enumerate") (hm : X.mg "enumerate" = none) (hst : noStar a = true) (ha : PE X a (tE S P C ca)) : PI X (.Tuple elts kk tpos) (.Call (.Name "enumerate" p) [a] [] pos) (tI S P C (.enum ca)) := by
  refine (pi_enum hg hm (pa_cons ha pa_nil (by rw [star_cons hst])) (by rw [star_cons hst] <;> rfl)).imp fun σ H R h => ?_
  obtain ⟨W, env, M, its, gs, M', er, m, e, q⟩ := h
  unfold evI at e
  obtain ⟨d, M1, e1, e⟩ := bE_inv e
  obtain ⟨ds, e2, e⟩ := bO_inv e
  cases e
  refine ⟨W, env, M, _, _, er, m, e1, fun W1 H1 v x1 r1 => ?_⟩
  obtain ⟨a0, vs, rfl, t, _⟩ := asL_rep x1.mem e2 r1
  exact ⟨a0, vs, rfl, hK ▸ t.sq, hK ▸ q W1 H1 _ x1 (gOk_guards _ _) (iterE e2 x1.mem r1)⟩
theorem pi_zipD {elts : List Expr} {kk : Nat} {tpos : Pos} (hK : X.K = S.K) (hg : Gl X "zip") (hm : X.mg "zip" = none) (hst : noStar a = true) (hst2 : noStar b = true) (ha : PE X a (tE S P C ca)) (hb : PE X b (tE S P C cb)) : PI X (.Tuple elts kk tpos) (.Call (.Name "zip" p) [a, b] [] pos) (tI S P C (.zip ca cb)) := by
  refine (pi_zip hg hm (pa_cons ha (pa_cons hb pa_nil (by rw [star_cons hst2])) (by rw [star_cons hst])) (by rw [star_cons hst]) (by rw [star_cons hst2] <;> rfl)).imp fun σ H R h => ?_
  obtain ⟨W, env, M, its, gs, M', er, m, e, q⟩ := h
  unfold evI at e
  obtain ⟨d, M1, e1, e⟩ := bE_inv e
  obtain ⟨d2, M2, e2, e⟩ := bE_inv e
  obtain ⟨r, e3, e⟩ := bO_inv e
  cases e
  unfold zipD at e3
  cases ex : asL M' d with
  | none => rw [ex] at e3; cases e3
  | some xs =>
    rw [ex] at e3
    cases ey : asL M' d2 with
    | none => rw [ey] at e3; cases e3
    | some ys =>
      rw [ey] at e3
      cases e3
      refine ⟨W, env, M, _, _, er, m, e1, fun W1 H1 v x1 r1 => ?_⟩
      refine ⟨W1, env, M1, _, _, er.keep (x1.kept m), x1.mem, e2, fun W2 H2 v2 x2 r2 => ?_⟩
      have r1' := r1.keep (x2.kept x1.mem)
      obtain ⟨a0, vs, rfl, t, _⟩ := asL_rep x2.mem ex r1'
      obtain ⟨b0, us, rfl, t2, _⟩ := asL_rep x2.mem ey r2
      exact ⟨a0, b0, vs, us, rfl, hK ▸ t.sq, hK ▸ t2.sq, hK ▸ q W2 H2 _ (x1.trans x2) (gOk_app.mpr ⟨gOk_guards _ _, gOk_guards _ _⟩) (iterZ ex ey x2.mem r1' r2)⟩
end
end Nl
end
section
set_option maxRecDepth 100000
set_option maxHeartbeats 2000000
/-! Nl.Loop: comprehensions. -/
namespace Nl
open PySem L2 PySem.Spec PyProof.Rows
section
variable {S : Sx} {P : Pg} {C : CallF} {X : Cx} {W0 W W' W1 : Wd} {H0 H H' H1 : Hp} {M0 M M' M1 : Mem} {pos p : Pos} {Dd : Addr} {xs : List V}
/-- a thing that the memory does not know -/
structure Hid (W : Wd) (H : Hp) (b : Addr) (xs : List V) : Prop where
  at_ : H b = some (.lst xs)
  nr : ∀ (i : Nat), W.rho[i]? ≠ some b
  nf : ¬ W.fz b
theorem Hid.kept {o : HO} (hd : Hid W H Dd xs) : Kept W H W (upd H Dd o) := by
  have ne : ∀ (b : Addr) (u : HO), Imm u → H b = some u → b ≠ Dd := fun b u im e z => by
    rw [z, hd.at_] at e
    cases e
    exact im
  exact ⟨fun _ _ h => h, fun _ h => h, fun b u im e => by rw [upd_ne (ne b u im e)]; exact e, fun b u hf e => by
    have nb : b ≠ Dd := fun z => hd.nf (z ▸ hf)
    rcases e with e | ⟨x, e⟩
    · exact .inl (by rw [upd_ne nb]; exact e)
    · exact .inr ⟨x, by rw [upd_ne nb]; exact e⟩⟩
theorem Hid.mem {o : HO} (hd : Hid W H Dd xs) (m : MemRel S W H M) : MemRel S W (upd H Dd o) M := by
  refine ⟨m.len, m.inj, m.nfz, fun i ob a e1 e2 => ?_, fun a hz => ?_⟩
  · have na : a ≠ Dd := fun z => hd.nr i (z ▸ e2)
    exact (m.obj i ob a e1 e2).keep hd.kept (upd_ne na)
  · obtain ⟨u, e⟩ := m.fzok a hz
    by_cases ha : a = Dd
    · exact ⟨o, by rw [ha]; exact upd_same⟩
    · exact ⟨u, by rw [upd_ne ha]; exact e⟩
/-- the hidden list is written -/
theorem Hid.put {ys : List V} (hd : Hid W H Dd xs) (h0 : H0 Dd = none) (x : Ext S W0 M0 H0 W M H) : Ext S W0 M0 H0 W M (upd H Dd (.lst ys)) ∧ Hid W (upd H Dd (.lst ys)) Dd ys := by
  refine ⟨⟨hd.mem x.mem, x.rho, x.fz, fun b o e hn => ?_, x.fresh, x.fzn, fun b o e => ?_⟩, ⟨upd_same, hd.nr, hd.nf⟩⟩
  · have nb : b ≠ Dd := fun z => by rw [z, h0] at e; cases e
    rw [upd_ne nb]
    exact x.stay b o e hn
  · obtain ⟨u, e'⟩ := x.gone b o e
    by_cases hb : b = Dd
    · exact ⟨_, by rw [hb]; exact upd_same⟩
    · exact ⟨u, by rw [upd_ne hb]; exact e'⟩
/-- a step elsewhere leaves it hidden -/
theorem Hid.step (hd : Hid W H Dd xs) (x : Ext S W M H W' M' H') : Hid W' H' Dd xs := by
  refine ⟨x.stay Dd _ hd.at_ hd.nr, fun i e => ?_, fun e => ?_⟩
  · rcases x.fresh i Dd e with q | q
    · exact hd.nr i q
    · rw [hd.at_] at q; cases q
  · rcases x.fzn Dd e with q | q
    · exact hd.nf q
    · rw [hd.at_] at q; cases q
theorem Hid.new (m : MemRel S W H M) (h0 : H Dd = none) : Ext S W M H W M (upd H Dd (.lst [])) ∧ Hid W (upd H Dd (.lst [])) Dd [] := by
  refine ⟨Ext.tup m h0, ⟨upd_same, fun i e => ?_, fun e => ?_⟩⟩
  · obtain ⟨u, e1, _⟩ := m.live e
    rw [h0] at e1; cases e1
  · obtain ⟨u, e1⟩ := m.fzok _ e
    rw [h0] at e1; cases e1
/-- at the end it becomes a list of the memory, or data -/
theorem Hid.show_ {mt : Bool} {ds : List D} {d : D} (hd : Hid W H Dd xs) (h0 : H0 Dd = none) (x : Ext S W0 M0 H0 W M H) (r : Reps S W H ds xs) (e : newL mt ds M = (d, M')) : ∃ W2, Ext S W0 M0 H0 W2 M' H ∧ Rep S W2 H d (.ref Dd) := by
  cases mt with
  | false =>
    cases e
    have k : Kept W H (W.fzp Dd) H := ⟨fun _ _ h => h, fun _ h => .inl h, fun _ _ _ h => h, fun _ _ _ h => h⟩
    refine ⟨W.fzp Dd, ⟨⟨x.mem.len, x.mem.inj, fun i a e1 e2 => ?_, fun i o a e1 e2 => (x.mem.obj i o a e1 e2).keep k rfl, fun a hz => ?_⟩, x.rho, fun a h => .inl (x.fz a h), x.stay, x.fresh, fun a hz => ?_, x.gone⟩, Rep.mk_lst hd.at_ (.inr rfl) (r.keep k)⟩
    · rcases e2 with e2 | e2
      · exact x.mem.nfz i a e1 e2
      · exact hd.nr i (e2 ▸ e1)
    · rcases hz with hz | hz
      · exact x.mem.fzok a hz
      · exact ⟨_, by rw [hz]; exact hd.at_⟩
    · rcases hz with hz | hz
      · exact x.fzn a hz
      · exact .inr (by rw [hz]; exact h0)
  | true =>
    cases e
    have k : Kept W H (W.new Dd) H := ⟨fun _ _ h => snoc_old h, fun _ h => h, fun _ _ _ h => h, fun _ _ _ h => h⟩
    refine ⟨W.new Dd, ⟨⟨by simp [x.mem.len], fun i j a e1 e2 => ?_, fun i a e1 e2 => ?_, fun i o a e1 e2 => ?_, x.mem.fzok⟩, fun i a e => snoc_old (x.rho i a e), x.fz, x.stay, fun i a e => ?_, x.fzn, x.gone⟩, Rep.mk_ref (by rw [← x.mem.len]; exact snoc_last)⟩
    · rcases get_snoc e1 with q1 | ⟨q1, z1⟩ <;> rcases get_snoc e2 with q2 | ⟨q2, z2⟩
      · exact x.mem.inj i j a q1 q2
      · exact absurd (z2 ▸ q1) (hd.nr i)
      · exact absurd (z1 ▸ q2) (hd.nr j)
      · omega
    · rcases get_snoc e1 with q | ⟨_, z⟩
      · exact x.mem.nfz i a q e2
      · exact hd.nf (z ▸ e2)
    · rcases get_snoc e2 with q | ⟨q, z⟩
      · rcases get_snoc e1 with q1 | ⟨q1, z1⟩
        · exact (x.mem.obj i o a q1 q).keep k rfl
        · have := (List.getElem?_eq_some_iff.mp q).1
          rw [x.mem.len] at this
          omega
      · rw [x.mem.len] at q
        rw [q, snoc_last] at e1
        cases e1
        rw [z]
        exact ⟨xs, hd.at_, r.keep k⟩
    · rcases get_snoc e with q | ⟨_, z⟩
      · exact x.fresh i a q
      · exact .inr (by rw [z]; exact h0)
/-! ### clauses' tests -/
/-- a clause's test, or none -/
def tCond (S : Sx) (P : Pg) (C : CallF) (c : CE) : TT := fun σ H Q => ∃ W env M t M', EnvRel S W H env σ ∧ MemRel S W H M ∧ condE c (evE P C c env M) M = some (t, M') ∧ ∀ W' H', Ext S W M H W' M' H' → Q t H'
theorem pts_nilD : PTs X [] (tCond S P C .nop) := ⟨fun pins s σ H Q I h => pts_nil.run pins s σ H Q I (by
  obtain ⟨W, env, M, t, M', er, m, e, q⟩ := h
  unfold condE at e
  cases e
  exact q W H (Ext.refl m))⟩
theorem pts_oneD {e : Expr} {c : CE} (hn : c ≠ .nop) (h : PT X e (tTst S P C c)) : PTs X [e] (tCond S P C c) := ⟨fun pins s σ H Q I hh => (pts_one h).run pins s σ H Q I (by
  obtain ⟨W, env, M, t, M', er, m, e, q⟩ := hh
  have e' : bE (evE P C c env M) (fun d M => bO (truthD M d) fun t => some (t, M)) = some (t, M') := by
    unfold condE at e
    cases c <;> first | exact absurd rfl hn | exact e
  exact ⟨W, env, M, t, M', er, m, e', q⟩)⟩
/-! ### one clause -/
theorem loopL_nil {α : Type} {step : D → Mem → Option (List α × Mem)} {gs : List (Nat × List D)} {acc : List α} {M : Mem} : loopL step gs [] acc M = some (acc, M) := rfl
theorem loopL_cons {α : Type} {step : D → Mem → Option (List α × Mem)} {gs : List (Nat × List D)} {d : D} {ds : List D} {acc : List α} {M : Mem} : loopL step gs (d :: ds) acc M = bE (step d M) fun out M' => if gOk gs M' && decide ((acc ++ out).length ≤ LIM) then loopL step gs ds (acc ++ out) M' else none := rfl
/-- what a comprehension's turn does -/
def stepC (P : Pg) (C : CallF) (own : List Nat) (elt : CE) (t : CT) (cond : CE) (σ : En) : D → Mem → Option (List D × Mem) := fun d M => bO (asgT M t d (wipeE σ own)) fun σ2 => bE (condE cond (evE P C cond σ2 M) M) fun t M => if t = true then bE (evE P C elt σ2 M) fun y M => some ([y], M) else some ([], M)
theorem drop_step {α : Type} {l : List α} {i : Nat} (h : i < l.length) : ∃ d, l[i]? = some d ∧ l.drop i = d :: l.drop (i + 1) := ⟨l[i], List.getElem?_eq_getElem h, List.drop_eq_getElem_cons h⟩
theorem lc_imp {mt : Bool} {own : List Nat} {elt cond : CE} {t : CT} {it : CI} {σ : L2.St} {H : Hp} {Q : VK} (ht : ∀ i ∈ t.ix, i ∈ own) (h : tE S P C (.lc mt own elt t it cond) σ H Q) : tLc (tI S P C it) (gT S t) (tCond S P C cond) (tE S P C elt) own σ H Q := by
  obtain ⟨W, env, M, d, M', er, m, e, q⟩ := h
  unfold evE at e
  obtain ⟨⟨its, gs⟩, M1, e1, e⟩ := bE_inv e
  obtain ⟨ds, M2, e2, e⟩ := bE_inv e
  dsimp only at e2
  change loopL (stepC P C own elt t cond env) gs its [] M1 = some (ds, M2) at e2
  refine ⟨W, env, M, its, gs, M1, er, m, e1, fun W1 H1 J x1 g1 ok => fun Dd hD => ?_⟩
  obtain ⟨x2, hd2⟩ := Hid.new (S := S) x1.mem hD
  refine ⟨fun i n H => ∃ W' M' acc accs, Ext S W1 M1 H1 W' M' H ∧ Hid W' H Dd acc ∧ Reps S W' H accs acc ∧ gOk gs M' = true ∧ n = its.length - i ∧ i ≤ its.length ∧ accs.length ≤ LIM ∧ loopL (stepC P C own elt t cond env) gs (its.drop i) accs M' = some (ds, M2),
    ⟨its.length, W1, M1, [], [], x2, hd2, Reps.nil.mpr rfl, g1, by simp, Nat.zero_le _, Nat.zero_le _, e2⟩, ?_⟩
  rintro i n H ⟨W3, M3, acc, accs, x3, hd3, r3, g3, rfl, hi, hz, e3⟩
  have ok3 := ok W3 H M3 (x3.kept x1.mem) x3.mem g3 i
  by_cases hlt : i < its.length
  · obtain ⟨d0, ed, edr⟩ := drop_step hlt
    rw [edr, loopL_cons] at e3
    obtain ⟨out, M4, e4, e3⟩ := bE_inv e3
    split at e3
    · rename_i hg
      rw [Bool.and_eq_true, decide_eq_true_eq] at hg
      obtain ⟨go, yl⟩ := ok3.1 d0 ed
      refine .inr ⟨go, fun H => ∃ W' acc, Ext S W1 M1 H1 W' M4 H ∧ Hid W' H Dd acc ∧ Reps S W' H (accs ++ out) acc, fun H' hN => ?_, fun xv H4 hy => ?_⟩
      · obtain ⟨W5, acc5, x5, hd5, r5⟩ := hN
        exact ⟨_, by omega, W5, M4, acc5, accs ++ out, x5, hd5, r5, hg.1, rfl, hlt, hg.2, e3⟩
      · obtain ⟨W4, x4, rd⟩ := yl xv H4 hy
        have hd4 := hd3.step x4
        have x14 := x3.trans x4
        unfold stepC at e4
        obtain ⟨env2, e5, e4⟩ := bO_inv e4
        obtain ⟨tb, M5, e6, e4⟩ := bE_inv e4
        have er4 := (er.keep (x1.kept m)).keep (x14.kept x1.mem)
        refine ⟨W4, wipeE env own, M3, d0, env2, er4.wipe own, x4.mem, rd, e5, fun σ2 er2 wp => ⟨?_, ?_⟩⟩
        · rw [wp own ht, wipe_wipe own fun v hv => hv]
        refine ⟨W4, env2, M3, tb, M5, er2, x4.mem, e6, fun W5 H5 x5 => ?_⟩
        have hd5 := hd4.step x5
        have x15 := x14.trans x5
        have r5 : Reps S W5 H5 accs acc := (r3.keep (x4.kept x3.mem)).keep (x5.kept x4.mem)
        cases tb with
        | true =>
          rw [if_pos rfl] at e4
          show tE S P C elt σ2 H5 _
          obtain ⟨y, M6, e7, e4⟩ := bE_inv e4
          cases e4
          refine ⟨W5, env2, M5, y, M4, er2.keep (x5.kept x4.mem), x5.mem, e7, fun W6 H6 v x6 r6 => ?_⟩
          have hd6 := hd5.step x6
          have x16 := x15.trans x6
          obtain ⟨x7, hd7⟩ := hd6.put (ys := acc ++ [v]) hD x16
          have r7 : Reps S W6 H6 (accs ++ [y]) (acc ++ [v]) := (r5.keep (x6.kept x5.mem)).append (Reps.cons r6 (Reps.nil.mpr rfl))
          have hlen : acc.length < sizeLine := by
            have h1 := r5.len
            have h2 := hg.2
            rw [List.length_append] at h2
            have h3 : ([y] : List D).length = 1 := rfl
            have h4 : accs.length < LIM := by omega
            have h5 : LIM ≤ sizeLine := lim_le (Nat.le_refl _)
            omega
          exact ⟨acc, hd6.at_, hlen, W6, _, x7, hd7, r7.keep hd6.kept⟩
        | false =>
          rw [if_neg Bool.false_ne_true] at e4
          show ∃ W' acc, _
          cases e4
          rw [List.append_nil]
          exact ⟨W5, acc, x15, hd5, r5⟩
    · cases e3
  · have hn : its.length ≤ i := by omega
    rw [List.drop_eq_nil_of_le hn, loopL_nil] at e3
    cases e3
    refine .inl ⟨ok3.2 hn, ?_⟩
    obtain ⟨W4, x4, r4⟩ := hd3.show_ (mt := mt) hD x3 r3 (Option.some.inj e)
    exact q W4 H _ (x1.trans x4) r4
theorem pe_lcD {mt : Bool} {elt tg iter : Expr} {ifs : List Expr} {scope : Scope} {own : List (Str × Nat)} {ce cc : CE} {t : CT} {it : CI} (hc : X.calm = true) (hN : X.N.Nodup) (hi : PI X tg iter (tI S P C it)) (ok : BlkOk X.N X.env.scope scope own) (ht : ∀ i ∈ t.ix, i ∈ own.map (·.2))
    (hg : ∀ (s : Shared) (H : Hp) (C : Addr) (cl : List (Str × Addr)) (fp : List Addr), PG (X.blk s H scope (compEnvC scope cl C X.env) fp) tg (gT S t)) (htt : ∀ (s : Shared) (H : Hp) (Ca : Addr) (cl : List (Str × Addr)) (fp : List Addr), PTs (X.blk s H scope (compEnvC scope cl Ca X.env) fp) ifs (tCond S P C cc))
    (he : ∀ (s : Shared) (H : Hp) (Ca : Addr) (cl : List (Str × Addr)) (fp : List Addr), PE (X.blk s H scope (compEnvC scope cl Ca X.env) fp) elt (tE S P C ce)) (hs : ∀ x, foldedSetIterable iter X.env x = pure x) :
    PE X (.ListComp elt [⟨tg, iter, ifs, 0⟩] scope pos) (tE S P C (.lc mt (own.map (·.2)) ce t it cc)) :=
  (pe_lc hc hN hi ok hg htt he hs).imp fun _ _ _ h => lc_imp ht h
end
end Nl
end
section
set_option maxRecDepth 100000
set_option maxHeartbeats 2000000
/-! Nl.Stm: statements. -/
namespace Nl
open PySem L2 PySem.Spec PyProof.Rows
/-- what is wanted behind, by how it ended -/
def Goal (S : Sx) (W : Wd) (H : Hp) (D : Ends) : Fl → Prop
  | .nx env => ∀ σ, EnvRel S W H env σ → D.nx σ H
  | .rt d => ∀ v, Rep S W H d v → D.rt v H
  | .bk env => ∀ σ, EnvRel S W H env σ → D.bk σ H
  | .ct env => ∀ σ, EnvRel S W H env σ → D.ct σ H
section
variable (S : Sx) (P : Pg) (C : CallF) (w : Nat)
def tS (c : CS) : TS := fun D σ H => ∃ W env M f M', EnvRel S W H env σ ∧ MemRel S W H M ∧ exS P C w c env M = some (f, M') ∧ ∀ W' H', Ext S W M H W' M' H' → Goal S W' H' D f
def tSs (cs : List CS) : TS := fun D σ H => ∃ W env M f M', EnvRel S W H env σ ∧ MemRel S W H M ∧ exSs P C w cs env M = some (f, M') ∧ ∀ W' H', Ext S W M H W' M' H' → Goal S W' H' D f
end
section
variable {S : Sx} {P : Pg} {C : CallF} {w : Nat} {X : Cx} {pos : Pos} {a b e : Expr} {ca cb ce : CE}
theorem pss_nilD : PSs X [] (tSs S P C w []) := by
  refine pss_nil.imp fun D σ H h => ?_
  obtain ⟨W, env, M, f, M', er, m, e, q⟩ := h
  unfold exSs at e
  cases e
  exact q W H (Ext.refl m) σ er
theorem pss_consD {s : Stmt} {ss : List Stmt} {c : CS} {cs : List CS} (h1 : PS X s (tS S P C w c)) (h2 : PSs X ss (tSs S P C w cs)) : PSs X (s :: ss) (tSs S P C w (c :: cs)) := by
  refine (pss_cons h1 h2).imp fun D σ H h => ?_
  obtain ⟨W, env, M, f, M', er, m, e, q⟩ := h
  unfold exSs at e
  obtain ⟨f1, M1, e1, e⟩ := bE_inv e
  refine ⟨W, env, M, f1, M1, er, m, e1, fun W1 H1 x1 => ?_⟩
  cases f1 with
  | nx env1 =>
    dsimp only at e
    exact fun σ1 er1 => ⟨W1, env1, M1, f, M', er1, x1.mem, e, fun W2 H2 x2 => q W2 H2 (x1.trans x2)⟩
  | rt d => cases e; exact q W1 H1 x1
  | bk env1 => cases e; exact q W1 H1 x1
  | ct env1 => cases e; exact q W1 H1 x1
theorem ps_passD : PS X (.Pass pos) (tS S P C w .pass) := by
  refine ps_pass.imp fun D σ H h => ?_
  obtain ⟨W, env, M, f, M', er, m, e, q⟩ := h
  unfold exS at e
  cases e
  exact q W H (Ext.refl m) σ er
theorem ps_brkD : PS X (.Break pos) (tS S P C w .brk) := by
  refine ps_break.imp fun D σ H h => ?_
  obtain ⟨W, env, M, f, M', er, m, e, q⟩ := h
  unfold exS at e
  cases e
  exact q W H (Ext.refl m) σ er
theorem ps_contD : PS X (.Continue pos) (tS S P C w .cont) := by
  refine ps_continue.imp fun D σ H h => ?_
  obtain ⟨W, env, M, f, M', er, m, e, q⟩ := h
  unfold exS at e
  cases e
  exact q W H (Ext.refl m) σ er
theorem ps_neverD {s : Stmt} : PS X s (tS S P C w .never) := by
  refine ps_never.imp fun D σ H h => ?_
  obtain ⟨W, env, M, f, M', er, m, e, q⟩ := h
  unfold exS at e
  cases e
theorem ps_docD {x j p p'} : PS X (.Expr (.Constant (.str x) j p) p') (tS S P C w .pass) := by
  refine ps_doc.imp fun D σ H h => ?_
  obtain ⟨W, env, M, f, M', er, m, e, q⟩ := h
  unfold exS at e
  cases e
  exact q W H (Ext.refl m) σ er
theorem ps_retD (h : PE X e (tE S P C ce)) : PS X (.Return (some e) pos) (tS S P C w (.ret ce)) := by
  refine (ps_ret h).imp fun D σ H h => ?_
  obtain ⟨W, env, M, f, M', er, m, e, q⟩ := h
  unfold exS at e
  obtain ⟨d, M1, e1, e⟩ := bE_inv e
  cases e
  exact ⟨W, env, M, d, M', er, m, e1, fun W1 H1 v x1 r1 => q W1 H1 x1 v r1⟩
theorem ps_retND : PS X (.Return none pos) (tS S P C w .retN) := by
  refine ps_retN.imp fun D σ H h => ?_
  obtain ⟨W, env, M, f, M', er, m, e, q⟩ := h
  unfold exS at e
  cases e
  exact q W H (Ext.refl m) .non Rep.non
theorem ps_exprD (hs : swapsWith e none pos.line X.env = pure false) (h : PE X e (tE S P C ce)) : PS X (.Expr e pos) (tS S P C w (.expr ce)) := by
  refine (ps_expr h hs).imp fun D σ H h => ?_
  obtain ⟨W, env, M, f, M', er, m, e, q⟩ := h
  unfold exS at e
  obtain ⟨d, M1, e1, e⟩ := bE_inv e
  cases e
  exact ⟨W, env, M, d, M', er, m, e1, fun W1 H1 v x1 r1 => q W1 H1 x1 σ (er.keep (x1.kept m))⟩
theorem ps_ifD {c : Expr} {cc : CE} {as bs : List Stmt} {cas cbs : List CS} (hc : PT X c (tTst S P C cc)) (ha : PSs X as (tSs S P C w cas)) (hb : PSs X bs (tSs S P C w cbs)) : PS X (.If c as bs pos) (tS S P C w (.ife cc cas cbs)) := by
  refine (ps_if hc ha hb).imp fun D σ H h => ?_
  obtain ⟨W, env, M, f, M', er, m, e, q⟩ := h
  unfold exS at e
  obtain ⟨t, M1, e1, e⟩ := bE_inv e
  refine ⟨W, env, M, t, M1, er, m, e1, fun W1 H1 x1 => ?_⟩
  cases t with
  | true =>
    rw [if_pos rfl] at e ⊢
    exact ⟨W1, env, M1, f, M', er.keep (x1.kept m), x1.mem, e, fun W2 H2 x2 => q W2 H2 (x1.trans x2)⟩
  | false =>
    rw [if_neg Bool.false_ne_true] at e ⊢
    exact ⟨W1, env, M1, f, M', er.keep (x1.kept m), x1.mem, e, fun W2 H2 x2 => q W2 H2 (x1.trans x2)⟩
theorem asg_imp {t : CT} {D : Ends} {σ : L2.St} {H : Hp} (h : tS S P C w (.asgN t ce) D σ H) : tAsg (tE S P C ce) (gT S t) D σ H := by
  obtain ⟨W, env, M, f, M', er, m, e, q⟩ := h
  unfold exS at e
  obtain ⟨d, M1, e1, e⟩ := bE_inv e
  obtain ⟨env1, e2, e⟩ := bO_inv e
  cases e
  exact ⟨W, env, M, d, M', er, m, e1, fun W1 H1 v x1 r1 => ⟨W1, env, M', d, env1, er.keep (x1.kept m), x1.mem, r1, e2, fun σ1 er1 _ => q W1 H1 x1 σ1 er1⟩⟩
theorem ps_asgD {tg : Expr} {t : CT} (he : PE X e (tE S P C ce)) (hg : PG X tg (gT S t)) (hs : swapsWithSole [tg] e pos.line X.env = pure false) (hw : swappedStores [tg] e X.env = pure none) (h1 : (assignEach [tg] X.env).map (·.2) = [assign tg X.env]) :
    PS X (.Assign [tg] e pos) (tS S P C w (.asgN t ce)) := (ps_asg he hg hs hw h1).imp fun _ _ _ h => asg_imp h
theorem ps_setLcD {i : Nat} {y : Str} {py cpos : Pos} {mt : Bool} {elt tg iter : Expr} {ifs : List Expr} {scope : Scope} {own : List (Str × Nat)} {ce cc : CE} {t : CT} {it : CI} (hc : X.calm = true) (hN : X.N.Nodup) (hy : X.N[i]? = some y) (hyl : X.env.scope.names.lookup y = some .local)
    (hsw : swapsWith (.ListComp elt [⟨tg, iter, ifs, 0⟩] scope cpos) (some (.Name y py)) pos.line X.env = pure true) (hi : PI X tg iter (tI S P C it)) (ok : BlkOk X.N X.env.scope scope own) (ht : ∀ i ∈ t.ix, i ∈ own.map (·.2))
    (hg : ∀ (s : Shared) (H : Hp) (C : Addr) (cl : List (Str × Addr)) (fp : List Addr), PG (X.blk s H scope (compEnvC scope cl C X.env) fp) tg (gT S t)) (htt : ∀ (s : Shared) (H : Hp) (Ca : Addr) (cl : List (Str × Addr)) (fp : List Addr), PTs (X.blk s H scope (compEnvC scope cl Ca X.env) fp) ifs (tCond S P C cc))
    (he : ∀ (s : Shared) (H : Hp) (Ca : Addr) (cl : List (Str × Addr)) (fp : List Addr), PE (X.blk s H scope (compEnvC scope cl Ca X.env) fp) elt (tE S P C ce)) (hs : ∀ x, foldedSetIterable iter X.env x = pure x) :
    PS X (.Assign [.Name y py] (.ListComp elt [⟨tg, iter, ifs, 0⟩] scope cpos) pos) (tS S P C w (.asgN (.nm i) (.lc mt (own.map (·.2)) ce t it cc))) :=
  (ps_setLc hc hN hy hyl hsw hi ok hg htt he hs).imp fun D σ H h => lc_imp (S := S) (P := P) (C := C) (mt := mt) ht (by
    obtain ⟨W, env, M, d, M', er, m, e, q⟩ := asg_imp h
    refine ⟨W, env, M, d, M', er, m, e, fun W1 H1 v x1 r1 => ?_⟩
    obtain ⟨W2, env2, M2, d2, env3, er2, m2, r2, e2, q2⟩ := q W1 H1 v x1 r1
    unfold asgT at e2
    split at e2
    · cases e2
      exact q2 _ (er2.set r2) fun us hu => wipe_set (hu i (by unfold CT.ix; simp))
    · cases e2)
theorem evEs_two {x y : CE} {env : En} {M M' : Mem} {ds : List D} (h : evEs P C [x, y] env M = some (ds, M')) : ∃ d1 d2, ds = [d1, d2] := by
  unfold evEs at h
  obtain ⟨d1, M1, e1, h⟩ := bE_inv h
  obtain ⟨ds1, M2, e2, h⟩ := bE_inv h
  cases h
  unfold evEs at e2
  obtain ⟨d2, M3, e3, e2⟩ := bE_inv e2
  obtain ⟨ds2, M4, e4, e2⟩ := bE_inv e2
  unfold evEs at e4
  cases e4
  cases e2
  exact ⟨_, _, rfl⟩
theorem evEs_three {x y z : CE} {env : En} {M M' : Mem} {ds : List D} (h : evEs P C [x, y, z] env M = some (ds, M')) : ∃ d1 d2 d3, ds = [d1, d2, d3] := by
  unfold evEs at h
  obtain ⟨d1, M1, e1, h⟩ := bE_inv h
  obtain ⟨ds1, M2, e2, h⟩ := bE_inv h
  cases h
  obtain ⟨d2, d3, rfl⟩ := evEs_two e2
  exact ⟨_, _, _, rfl⟩
theorem ps_parD {i j : Nat} {x y : Str} {px py pt : Pos} {kt k2 pt2} (hc : X.calm = true) (hN : X.N.Nodup) (hi : X.N[i]? = some x) (hj : X.N[j]? = some y) (hij : i ≠ j)
    (hx : X.env.scope.names.lookup x = some .local) (hy : X.env.scope.names.lookup y = some .local) (ha : PA X [a, b] (tEs S P C [ca, cb]))
    (hw : swappedStores [.Tuple [.Name x px, .Name y py] kt pt] (.Tuple [a, b] k2 pt2) X.env = pure (some [x, y])) :
    PS X (.Assign [.Tuple [.Name x px, .Name y py] kt pt] (.Tuple [a, b] k2 pt2) pos) (tS S P C w (.asgN (.tp [.nm i, .nm j]) (.tup [ca, cb]))) := by
  refine (ps_par hc hN hi hj hij hx hy ha hw).imp fun D σ H h => ?_
  obtain ⟨W, env, M, f, M', er, m, e, q⟩ := h
  unfold exS at e
  obtain ⟨d, M1, e1, e⟩ := bE_inv e
  obtain ⟨env1, e2, e⟩ := bO_inv e
  cases e
  unfold evE at e1
  obtain ⟨ds, M2, e3, e1⟩ := bE_inv e1
  split at e1
  · cases e1
    refine ⟨W, env, M, ds, M', er, m, e3, fun W1 H1 vs x1 r1 => ?_⟩
    obtain ⟨d1, d2, rfl⟩ := evEs_two e3
    obtain ⟨v1, r, rfl, q1, r1⟩ := r1.un
    obtain ⟨v2, r, rfl, q2, r1⟩ := r1.un
    rw [Reps.nil.mp r1]
    refine ⟨v1, v2, rfl, q W1 H1 x1 _ ?_⟩
    have er1 := er.keep (x1.kept m)
    unfold asgT at e2
    obtain ⟨ds, e4, e2⟩ := bO_inv e2
    cases e4
    split at e2
    · unfold asgTs at e2
      obtain ⟨en2, e5, e2⟩ := bO_inv e2
      unfold asgT at e5
      split at e5
      · cases e5
        unfold asgTs at e2
        obtain ⟨en3, e6, e2⟩ := bO_inv e2
        unfold asgT at e6
        split at e6
        · cases e6
          unfold asgTs at e2
          cases e2
          exact (er1.set q1).set q2
        · cases e6
      · cases e5
    · cases e2
  · cases e1
theorem ps_par3D {c : Expr} {cc : CE} {i j l : Nat} {x y z : Str} {px py pz pt : Pos} {kt k2 pt2} (hc : X.calm = true) (hN : X.N.Nodup) (hi : X.N[i]? = some x) (hj : X.N[j]? = some y) (hl : X.N[l]? = some z) (hij : i ≠ j) (hil : i ≠ l) (hjl : j ≠ l)
    (hx : X.env.scope.names.lookup x = some .local) (hy : X.env.scope.names.lookup y = some .local) (hz : X.env.scope.names.lookup z = some .local) (ha : PA X [a, b, c] (tEs S P C [ca, cb, cc]))
    (hw : swappedStores [.Tuple [.Name x px, .Name y py, .Name z pz] kt pt] (.Tuple [a, b, c] k2 pt2) X.env = pure (some [x, y, z])) :
    PS X (.Assign [.Tuple [.Name x px, .Name y py, .Name z pz] kt pt] (.Tuple [a, b, c] k2 pt2) pos) (tS S P C w (.asgN (.tp [.nm i, .nm j, .nm l]) (.tup [ca, cb, cc]))) := by
  refine (ps_par3 hc hN hi hj hl hij hil hjl hx hy hz ha hw).imp fun D σ H h => ?_
  obtain ⟨W, env, M, f, M', er, m, e, q⟩ := h
  unfold exS at e
  obtain ⟨d, M1, e1, e⟩ := bE_inv e
  obtain ⟨env1, e2, e⟩ := bO_inv e
  cases e
  unfold evE at e1
  obtain ⟨ds, M2, e3, e1⟩ := bE_inv e1
  split at e1
  · cases e1
    refine ⟨W, env, M, ds, M', er, m, e3, fun W1 H1 vs x1 r1 => ?_⟩
    obtain ⟨d1, d2, d3, rfl⟩ := evEs_three e3
    obtain ⟨v1, r, rfl, q1, r1⟩ := r1.un
    obtain ⟨v2, r, rfl, q2, r1⟩ := r1.un
    obtain ⟨v3, r, rfl, q3, r1⟩ := r1.un
    rw [Reps.nil.mp r1]
    refine ⟨v1, v2, v3, rfl, q W1 H1 x1 _ ?_⟩
    have er1 := er.keep (x1.kept m)
    unfold asgT at e2
    obtain ⟨ds, e4, e2⟩ := bO_inv e2
    cases e4
    split at e2
    · unfold asgTs at e2
      obtain ⟨en2, e5, e2⟩ := bO_inv e2
      unfold asgT at e5
      split at e5
      · cases e5
        unfold asgTs at e2
        obtain ⟨en3, e6, e2⟩ := bO_inv e2
        unfold asgT at e6
        split at e6
        · cases e6
          unfold asgTs at e2
          obtain ⟨en4, e7, e2⟩ := bO_inv e2
          unfold asgT at e7
          split at e7
          · cases e7
            unfold asgTs at e2
            cases e2
            exact ((er1.set q1).set q2).set q3
          · cases e7
        · cases e6
      · cases e5
    · cases e2
  · cases e1
/-! ### stores at places, in fields -/
theorem ps_asgSD {o i : Expr} {co ci : CE} {p2 : Pos} (hu : X.A.units + 64 < cLine) (he : PE X e (tE S P C ce)) (ho : PE X o (tE S P C co)) (hi : PE X i (tE S P C ci)) (hs : swapsWithSole [.Subscript o i p2] e pos.line X.env = pure false) (hw : swappedStores [.Subscript o i p2] e X.env = pure none)
    (ha : ∀ v, assign (.Subscript o i p2) X.env v = (do
      let ov ← holding [v] (eval o X.env)
      let iv ← holding [v, ov] (eval i X.env)
      standAt p2
      holding [v, ov, iv] (setItem ov iv v)
      release [v, ov, iv] [])) :
    PS X (.Assign [.Subscript o i p2] e pos) (tS S P C w (.asgS co ci ce)) := by
  refine (ps_asg he (pg_sub ho hi (set_D (S := S) hu) ha) hs hw rfl).imp fun D σ H h => ?_
  obtain ⟨W, env, M, f, M', er, m, e, q⟩ := h
  unfold exS at e
  obtain ⟨d, M1, e1, e⟩ := bE_inv e
  obtain ⟨d2, M2, e2, e⟩ := bE_inv e
  obtain ⟨d3, M3, e3, e⟩ := bE_inv e
  obtain ⟨M4, e4, e⟩ := bO_inv e
  cases e
  refine ⟨W, env, M, d, M1, er, m, e1, fun W1 H1 v x1 r1 => ?_⟩
  have er1 := er.keep (x1.kept m)
  refine ⟨W1, env, M1, d2, M2, er1, x1.mem, e2, fun W2 H2 v2 x2 r2 => ?_⟩
  have er2 := er1.keep (x2.kept x1.mem)
  refine ⟨W2, env, M2, d3, M3, er2, x2.mem, e3, fun W3 H3 v3 x3 r3 => ?_⟩
  refine ⟨W3, M3, d2, d3, d, M', x3.mem, r2.keep (x3.kept x2.mem), r3, r1.keep ((x2.trans x3).kept x1.mem), e4, fun H4 x4 => ?_⟩
  exact q W3 H4 (((x1.trans x2).trans x3).trans x4) σ (er2.keep ((x3.trans x4).kept x2.mem))
theorem setFld_ok {o d : D} {f : Str} {v x : V} {W : Wd} {M M' : Mem} {H : Hp} (hC : ClsOk S P) (m : MemRel S W H M) (ro : Rep S W H o x) (rd : Rep S W H d v) (e : setFld P o f d M = some M') :
    ∃ a C dx gs, x = .ref a ∧ H a = some (.ins C dx gs) ∧ Cls S.K C ∧ NoAttr S.K C f ∧ gs.length < 1000 ∧ Ext S W M H W M' (upd H a (.ins C dx (putF f v gs))) := by
  unfold setFld at e
  cases o with
  | ref i =>
    dsimp only at e
    obtain ⟨a, rfl, hr⟩ := ro.ref_
    cases hm : M[i]? with
    | none => rw [hm] at e; cases e
    | some ob =>
      rw [hm] at e
      cases ob with
      | lst _ => cases e
      | dct _ => cases e
      | ins c fs =>
        dsimp only at e
        split at e
        · rename_i hh
          rw [Bool.and_eq_true, decide_eq_true_eq] at hh
          cases e
          obtain ⟨dx, gs, h1, h2, h3, h4, h5⟩ := m.obj i _ a hm hr
          have hl : fs.length = gs.length := by simpa using congrArg List.length h2
          obtain ⟨hf, hlen⟩ := hh
          unfold okFld at hf
          cases hc : P.cls[c]? with
          | none => rw [hc] at hf; cases hf
          | some Kc =>
            rw [hc] at hf
            have na := (hC c Kc hc).2 f (by simpa using hf)
            refine ⟨a, S.ca c, dx, gs, rfl, h1, h5, na, by omega, ?_⟩
            obtain ⟨p1, p2, p3⟩ := putFD_rep rd h2 h3
            obtain ⟨old, e0, nt, _, _⟩ := m.live hr
            have tn : ∀ (b : Addr) (o : HO), Imm o → H b = some o → b ≠ a := fun b o im e z => by
              rw [z, e0] at e
              cases e
              exact nt im
            have fn : ∀ (b : Addr), W.fz b → b ≠ a := fun b hz z => m.nfz i a hr (z ▸ hz)
            have k : Kept W H W (upd H a (.ins (S.ca c) dx (putF f v gs))) := ⟨fun _ _ h => h, fun _ h => h, fun b o im h => by rw [upd_ne (tn b o im h)]; exact h, fun b u hz h => by
              rcases h with h | ⟨x, h⟩
              · exact .inl (by rw [upd_ne (fn b hz)]; exact h)
              · exact .inr ⟨x, by rw [upd_ne (fn b hz)]; exact h⟩⟩
            refine Ext.write m hr ⟨dx, _, upd_same, p1, p2.keep k, fun g hg => ?_, h5⟩
            rcases p3 g hg with z | z
            · rw [z]; exact na
            · exact h4 g z
        · cases e
  | _ => cases e
theorem ps_asgAD {o : Expr} {co : CE} {f : Str} {p2 : Pos} (hK : X.K = S.K) (hC : ClsOk S P) (he : PE X e (tE S P C ce)) (ho : PE X o (tE S P C co)) (hs : swapsWith e (some (.Attribute o f p2)) pos.line X.env = pure false) :
    PS X (.Assign [.Attribute o f p2] e pos) (tS S P C w (.asgA co f ce)) := by
  refine (ps_fld ho he hs).imp fun D σ H h => ?_
  obtain ⟨W, env, M, f', M', er, m, e, q⟩ := h
  unfold exS at e
  obtain ⟨d, M1, e1, e⟩ := bE_inv e
  obtain ⟨d2, M2, e2, e⟩ := bE_inv e
  obtain ⟨M4, e4, e⟩ := bO_inv e
  cases e
  refine ⟨W, env, M, d, M1, er, m, e1, fun W1 H1 v x1 r1 => ?_⟩
  have er1 := er.keep (x1.kept m)
  refine ⟨W1, env, M1, d2, M2, er1, x1.mem, e2, fun W2 H2 v2 x2 r2 => ?_⟩
  obtain ⟨a, Ca, dx, gs, rfl, hH, c1, c2, c3, x4⟩ := setFld_ok hC x2.mem r2 (r1.keep (x2.kept x1.mem)) e4
  exact ⟨a, Ca, dx, gs, rfl, hH, hK ▸ c1, hK ▸ c2, c3, q W2 _ ((x1.trans x2).trans x4) σ (er1.keep ((x2.trans x4).kept x1.mem))⟩
theorem ps_augND {i : Nat} {x : Str} {op : Operator} {p' : Pos} (hN : X.N.Nodup) (hi : X.N[i]? = some x) (hx : Loc X.env.scope x) (he : PE X e (tE S P C ce)) (hop : op = .Add) (hf : X.fn x = true ∨ X.env.scope.names.lookup x = some .local) :
    PS X (.AugAssign (.Name x p') op e pos) (tS S P C w (.augN i op ce)) := by
  subst hop
  refine (ps_aug hN hi hx he ip_add hf).imp fun D σ H h => ?_
  obtain ⟨W, env, M, f', M', er, m, e, q⟩ := h
  unfold exS at e
  split at e
  · rename_i x0 h0
    obtain ⟨d, M1, e1, e⟩ := bE_inv e
    cases d with
    | int y =>
      dsimp only at e
      obtain ⟨z, e2, e⟩ := bO_inv e
      cases e2
      cases e
      obtain ⟨v0, hv, rv⟩ := er.at_ i _ h0
      refine ⟨v0, hv, W, env, M, _, M', er, m, e1, fun W1 H1 v x1 r1 => ?_⟩
      rw [rv.int_, r1.int_]
      exact ⟨x0, y, rfl, rfl, q W1 H1 x1 _ ((er.keep (x1.kept m)).set (Rep.int _))⟩
    | _ => cases e
  · cases e
/-! ### loops -/
theorem loopS_cons {step : D → En → Mem → Option (Fl × Mem)} {gs : List (Nat × List D)} {d : D} {ds : List D} {σ : En} {M : Mem} : loopS step gs (d :: ds) σ M = bE (step d σ M) fun f M' => if gOk gs M' then (match f with
    | .nx σ' => loopS step gs ds σ' M'
    | .ct σ' => loopS step gs ds σ' M'
    | .bk σ' => some (.nx σ', M')
    | .rt d => some (.rt d, M')) else none := rfl
theorem ps_forD {tg it : Expr} {body : List Stmt} {t : CT} {ci : CI} {cb : List CS} (hp : PassesOwn (model X.prog X.w) X.A X.env X.xe) (hc : X.calm = true) (hi : PI X tg it (tI S P C ci)) (hg : PG X tg (gT S t)) (hb : PSs X body (tSs S P C w cb)) (hs : ∀ x, foldedSetIterable it X.env x = pure x) :
    PS X (.For tg it body [] pos) (tS S P C w (.for_ t ci cb)) := by
  refine (ps_for hp hc hi hg hb hs).imp fun D σ H h => ?_
  obtain ⟨W, env, M, f, M', er, m, e, q⟩ := h
  unfold exS at e
  obtain ⟨⟨its, gs⟩, M1, e1, e⟩ := bE_inv e
  dsimp only at e
  generalize hst : (fun (d : Nl.D) (σ : En) (M : Mem) => bO (asgT M t d σ) fun σ => exSs P C w cb σ M) = step at e
  refine ⟨W, env, M, its, gs, M1, er, m, e1, fun W1 H1 J x1 g1 ok => ?_⟩
  refine ⟨fun i n σ H => ∃ W' M2 env', Ext S W1 M1 H1 W' M2 H ∧ EnvRel S W' H env' σ ∧ gOk gs M2 = true ∧ n = its.length - i ∧ i ≤ its.length ∧ loopS step gs (its.drop i) env' M2 = some (f, M'),
    ⟨its.length, W1, M1, env, Ext.refl x1.mem, er.keep (x1.kept m), g1, by simp, Nat.zero_le _, e⟩, ?_⟩
  rintro i n σ2 H2 ⟨W2, M2, env2, x2, er2, g2, rfl, hi, e2⟩
  have ok2 := ok W2 H2 M2 (x2.kept x1.mem) x2.mem g2 i
  by_cases hlt : i < its.length
  · obtain ⟨d0, ed, edr⟩ := drop_step hlt
    rw [edr, loopS_cons] at e2
    obtain ⟨f3, M3, e3, e2⟩ := bE_inv e2
    split at e2
    · rename_i g3
      obtain ⟨go, yl⟩ := ok2.1 d0 ed
      refine .inr ⟨go, fun σ' H' => ∃ n', n' < its.length - i ∧ ∃ W' M2 env', Ext S W1 M1 H1 W' M2 H' ∧ EnvRel S W' H' env' σ' ∧ gOk gs M2 = true ∧ n' = its.length - (i + 1) ∧ i + 1 ≤ its.length ∧ loopS step gs (its.drop (i + 1)) env' M2 = some (f, M'), fun σ' H' hN => hN, fun xv H4 hy => ?_⟩
      obtain ⟨W4, x4, rd⟩ := yl xv H4 hy
      rw [← hst] at e3
      obtain ⟨env3, e5, e3⟩ := bO_inv e3
      have x14 := x2.trans x4
      refine ⟨W4, env2, M2, d0, env3, er2.keep (x4.kept x2.mem), x4.mem, rd, e5, fun σ4 er4 _ => ?_⟩
      refine ⟨W4, env3, M2, f3, M3, er4, x4.mem, e3, fun W5 H5 x5 => ?_⟩
      have x15 := x14.trans x5
      cases f3 with
      | nx en => exact fun σ' er' => ⟨_, by omega, W5, M3, en, x15, er', g3, rfl, hlt, e2⟩
      | ct en => exact fun σ' er' => ⟨_, by omega, W5, M3, en, x15, er', g3, rfl, hlt, e2⟩
      | bk en =>
        cases e2
        exact q W5 H5 (x1.trans x15)
      | rt d =>
        cases e2
        exact q W5 H5 (x1.trans x15)
    · cases e2
  · have hn : its.length ≤ i := by omega
    rw [List.drop_eq_nil_of_le hn] at e2
    cases e2
    exact .inl ⟨ok2.2 hn, q W2 H2 (x1.trans x2) σ2 er2⟩
theorem loopW_succ {c : En → Mem → Option (Bool × Mem)} {b : En → Mem → Option (Fl × Mem)} {n : Nat} {σ : En} {M : Mem} : loopW c b (n + 1) σ M = bE (c σ M) fun t M1 => if t = true then bE (b σ M1) (fun f M2 => match f with
    | .nx σ' => loopW c b n σ' M2
    | .ct σ' => loopW c b n σ' M2
    | .bk σ' => some (.nx σ', M2)
    | .rt d => some (.rt d, M2)) else some (.nx σ, M1) := rfl
theorem ps_whlD {c : Expr} {cc : CE} {body : List Stmt} {cb : List CS} (hp : PassesOwn (model X.prog X.w) X.A X.env X.xe) (hc : PT X c (tTst S P C cc)) (hb : PSs X body (tSs S P C w cb)) : PS X (.While c body [] pos) (tS S P C w (.whl cc cb)) := by
  refine (ps_while hp hc hb).imp fun D σ H h => ?_
  obtain ⟨W, env, M, f, M', er, m, e, q⟩ := h
  unfold exS at e
  generalize hc0 : (fun (σ : En) (M : Mem) => evT P C cc σ M) = c0 at e
  generalize hb0 : (fun (σ : En) (M : Mem) => exSs P C w cb σ M) = b0 at e
  refine ⟨fun n σ' H' => ∃ W2 M2 env', Ext S W M H W2 M2 H' ∧ EnvRel S W2 H' env' σ' ∧ loopW c0 b0 n env' M2 = some (f, M'), ⟨w, W, M, env, Ext.refl m, er, e⟩, ?_⟩
  rintro n σ2 H2 ⟨W2, M2, env2, x2, er2, e2⟩
  cases n with
  | zero => cases e2
  | succ n =>
    rw [loopW_succ] at e2
    obtain ⟨t, M3, e3, e2⟩ := bE_inv e2
    rw [← hc0] at e3
    refine ⟨W2, env2, M2, t, M3, er2, x2.mem, e3, fun W3 H3 x3 => ?_⟩
    have x13 := x2.trans x3
    have er3 := er2.keep (x3.kept x2.mem)
    dsimp only
    cases t with
    | false =>
      rw [if_neg Bool.false_ne_true] at e2
      show D.nx σ2 H3
      cases e2
      exact q W3 H3 x13 σ2 er3
    | true =>
      rw [if_pos rfl] at e2
      obtain ⟨f4, M4, e4, e2⟩ := bE_inv e2
      rw [← hb0] at e4
      rw [if_pos rfl]
      refine ⟨fun σ' H' => ∃ W2 M2 env', Ext S W M H W2 M2 H' ∧ EnvRel S W2 H' env' σ' ∧ loopW c0 b0 n env' M2 = some (f, M'), fun σ' H' hN => ⟨n, Nat.lt_succ_self n, hN⟩, ?_⟩
      refine ⟨W3, env2, M3, f4, M4, er3, x3.mem, e4, fun W5 H5 x5 => ?_⟩
      have x15 := x13.trans x5
      cases f4 with
      | nx en => exact fun σ' er' => ⟨W5, M4, en, x15, er', e2⟩
      | ct en => exact fun σ' er' => ⟨W5, M4, en, x15, er', e2⟩
      | bk en =>
        cases e2
        exact q W5 H5 x15
      | rt d =>
        cases e2
        exact q W5 H5 x15
end
end Nl
end
section
set_option maxRecDepth 100000
set_option maxHeartbeats 2000000
/-! Nl.Bif: built-in functions. -/
namespace Nl
open PySem L2 PySem.Spec PyProof.Rows
section
variable {S : Sx} {P : Pg} {C : CallF} {X : Cx} {pos p : Pos} {W W' : Wd} {H H' : Hp} {M M' : Mem} {mt : Bool}
def rBif (S : Sx) (mt : Bool) (b : Bf) : List V → Hp → VK → Prop := fun xs H Q => ∃ W M ds d M', MemRel S W H M ∧ Reps S W H ds xs ∧ bifD mt b ds M = some (d, M') ∧ ∀ W' H' v, Ext S W M H W' M' H' → Rep S W' H' d v → Q v H'
theorem _root_.L2.CallR.imp {f : Value} {r r' : List V → Hp → VK → Prop} (h : CallR X f r) (i : ∀ xs H Q, r' xs H Q → r xs H Q) : CallR X f r' := fun pins s σ H xs us Q I rv q => h pins s σ H xs us Q I rv (i xs H Q q)
theorem reps1 {d : D} {vs : List V} (h : Reps S W H [d] vs) : ∃ v, vs = [v] ∧ Rep S W H d v := by
  obtain ⟨v, r, rfl, q, t⟩ := h.un
  rw [Reps.nil.mp t]
  exact ⟨v, rfl, q⟩
theorem reps2 {d e : D} {vs : List V} (h : Reps S W H [d, e] vs) : ∃ v u, vs = [v, u] ∧ Rep S W H d v ∧ Rep S W H e u := by
  obtain ⟨v, r, rfl, q, t⟩ := h.un
  obtain ⟨u, rfl, q2⟩ := reps1 t
  exact ⟨v, u, rfl, q, q2⟩
theorem cr_len (hK : X.K = S.K) : CallR X (.builtin "len") (rBif S mt .len) := by
  intro pins s σ H xs us Q I rv h
  obtain ⟨W, M, ds, d, M', m, r, e, q⟩ := h
  match ds, e, r with
  | [d0], e, r =>
    obtain ⟨v, rfl, r0⟩ := reps1 r
    unfold bifD at e
    dsimp only at e
    cases es : asS M d0 with
    | some l =>
      rw [es] at e
      cases e
      obtain ⟨a, vs, rfl, t, rr⟩ := asS_rep m es r0
      exact call_len_seq pins s σ H _ us Q I rv ⟨a, vs, rfl, hK ▸ t, by rw [← rr.len]; exact q W H _ (Ext.refl m) (Rep.int _)⟩
    | none =>
      rw [es] at e
      dsimp only at e
      cases d0 with
      | str z =>
        dsimp only at e
        split at e
        · rename_i hz
          cases e
          rw [r0.str_] at rv
          exact call_len_str pins s σ H _ us Q I rv ⟨z, rfl, lim_le hz, q W H _ (Ext.refl m) (Rep.int _)⟩
        · cases e
      | _ => cases e
  | [], e, _ => cases e
  | _ :: _ :: _, e, _ => cases e
theorem int_inv {ds : List D} {r : D × Mem} (h : bifD mt .int ds M = some r) : (∃ i, ds = [.int i] ∧ r = (.int i, M)) ∨ ∃ b : Bool, ds = [.bl b] ∧ r = (.int (if b = true then 1 else 0), M) := by
  rcases ds with _ | ⟨a, _ | ⟨b, t⟩⟩
  · simp [bifD] at h
  · cases a <;> first | (exfalso; revert h; simp [bifD]; done) | skip
    · exact .inr ⟨_, rfl, (Option.some.inj h).symm⟩
    · exact .inl ⟨_, rfl, (Option.some.inj h).symm⟩
  · simp [bifD] at h
theorem maxI_inv {ds : List D} {r : D × Mem} (h : bifD mt .maxI ds M = some r) : ∃ i j, ds = [.int i, .int j] ∧ r = (.int (if j > i then j else i), M) := by
  rcases ds with _ | ⟨a, _ | ⟨b, _ | ⟨c, t⟩⟩⟩
  · simp [bifD] at h
  · simp [bifD] at h
  · cases a <;> first | (exfalso; revert h; simp [bifD]; done) | skip
    cases b <;> first | (exfalso; revert h; simp [bifD]; done) | skip
    exact ⟨_, _, rfl, (Option.some.inj h).symm⟩
  · simp [bifD] at h
theorem minI_inv {ds : List D} {r : D × Mem} (h : bifD mt .minI ds M = some r) : ∃ i j, ds = [.int i, .int j] ∧ r = (.int (if j < i then j else i), M) := by
  rcases ds with _ | ⟨a, _ | ⟨b, _ | ⟨c, t⟩⟩⟩
  · simp [bifD] at h
  · simp [bifD] at h
  · cases a <;> first | (exfalso; revert h; simp [bifD]; done) | skip
    cases b <;> first | (exfalso; revert h; simp [bifD]; done) | skip
    exact ⟨_, _, rfl, (Option.some.inj h).symm⟩
  · simp [bifD] at h
theorem cr_int : CallR X (.type "int") (rBif S mt .int) := by
  refine call_int1.imp fun xs H Q h => ?_
  obtain ⟨W, M, ds, d, M', m, r, e, q⟩ := h
  rcases int_inv e with ⟨i, rfl, e⟩ | ⟨b, rfl, e⟩ <;> cases e
  · obtain ⟨v, rfl, r0⟩ := reps1 r
    rw [r0.int_]
    exact .inl ⟨i, rfl, q W H _ (Ext.refl m) (Rep.int _)⟩
  · obtain ⟨v, rfl, r0⟩ := reps1 r
    rw [r0.bl_]
    exact .inr ⟨b, rfl, q W H _ (Ext.refl m) (Rep.int _)⟩
theorem cr_tuple (hK : X.K = S.K) : CallR X (.type "tuple") (rBif S mt .tuple) := by
  refine call_tuple_of.imp fun xs H Q h => ?_
  obtain ⟨W, M, ds, d, M', m, r, e, q⟩ := h
  match ds, e, r with
  | [d0], e, r =>
    obtain ⟨v, rfl, r0⟩ := reps1 r
    unfold bifD at e
    dsimp only at e
    cases es : asS M d0 with
    | some l =>
      rw [es] at e
      cases e
      cases d0 with
      | tup l' =>
        have : l' = l := Option.some.inj es
        subst this
        obtain ⟨a, vs, rfl, t, rr⟩ := r0.tup_
        exact ⟨a, vs, rfl, .inr ⟨hK ▸ t.sq, q W H _ (Ext.refl m) r0⟩⟩
      | _ =>
        simp only [asS] at es
        obtain ⟨a, vs, rfl, t, rr⟩ := asL_rep m es r0
        refine ⟨a, vs, rfl, .inl ⟨hK ▸ t.sq, fun p hp => ?_⟩⟩
        obtain ⟨x1, r1⟩ := tup_ok m hp rr
        exact q _ _ _ x1 r1
    | none =>
      rw [es] at e
      cases e
  | [], e, _ => cases e
  | _ :: _ :: _, e, _ => cases e
theorem cr_listS (hK : X.K = S.K) : CallR X (.type "list") (rBif S mt .listS) := by
  refine call_list_of.imp fun xs H Q h => ?_
  obtain ⟨W, M, ds, d, M', m, r, e, q⟩ := h
  match ds, e, r with
  | [d0], e, r =>
    obtain ⟨v, rfl, r0⟩ := reps1 r
    unfold bifD at e
    dsimp only at e
    cases es : asS M d0 with
    | some l =>
      rw [es] at e
      obtain ⟨a, vs, rfl, t, rr⟩ := asS_rep m es r0
      refine ⟨a, vs, rfl, hK ▸ t, fun p hp => ?_⟩
      obtain ⟨W1, x1, r1⟩ := newL_ok (mt := mt) m hp rr (Option.some.inj e)
      exact q _ _ _ x1 r1
    | none =>
      rw [es] at e
      cases e
  | [], e, _ => cases e
  | _ :: _ :: _, e, _ => cases e
theorem cr_maxI (hc : X.calm = true) : CallR X (.builtin "max") (rBif S mt .maxI) := by
  refine (call_max2 hc).imp fun xs H Q h => ?_
  obtain ⟨W, M, ds, d, M', m, r, e, q⟩ := h
  obtain ⟨i, j, rfl, e⟩ := maxI_inv e
  cases e
  obtain ⟨v, u, rfl, r0, r1⟩ := reps2 r
  rw [r0.int_, r1.int_]
  exact ⟨i, j, rfl, q W H _ (Ext.refl m) (Rep.int _)⟩
theorem cr_minI (hc : X.calm = true) : CallR X (.builtin "min") (rBif S mt .minI) := by
  refine (call_min2 hc).imp fun xs H Q h => ?_
  obtain ⟨W, M, ds, d, M', m, r, e, q⟩ := h
  obtain ⟨i, j, rfl, e⟩ := minI_inv e
  cases e
  obtain ⟨v, u, rfl, r0, r1⟩ := reps2 r
  rw [r0.int_, r1.int_]
  exact ⟨i, j, rfl, q W H _ (Ext.refl m) (Rep.int _)⟩
/-- which built-in it is: a function or a type, by its name -/
def bfId : Bf → Option (Bool × String)
  | .len => some (true, "len")
  | .int => some (false, "int")
  | .tuple => some (false, "tuple")
  | .listS => some (false, "list")
  | .maxI => some (true, "max")
  | .minI => some (true, "min")
  | _ => none
def bfV : Bool × String → Value
  | (true, n) => .builtin n
  | (false, n) => .type n
theorem cr_bif (hK : X.K = S.K) (hc : X.calm = true) {b : Bf} {v : Bool × String} (h : bfId b = some v) : CallR X (bfV v) (rBif S mt b) := by
  cases b <;> cases h
  · exact cr_len hK
  · exact cr_int
  · exact cr_tuple hK
  · exact cr_listS hK
  · exact cr_maxI hc
  · exact cr_minI hc
def bfNm : Bool × String → Str
  | (_, "len") => "len"
  | (_, "int") => "int"
  | (_, "tuple") => "tuple"
  | (_, "list") => "list"
  | (_, "max") => "max"
  | (_, "min") => "min"
  | _ => "len"
theorem bf_boot {b : Bf} {v : Bool × String} (h : bfId b = some v) : bootBuiltins (bfNm v) = some (bfV v) := by
  cases b <;> cases h <;> first | rfl | decide +kernel | kernel_rfl
theorem pe_bifD {b : Bf} {e : Expr} {es : List Expr} {c : CE} {cs : List CE} {v : Bool × String} (hK : X.K = S.K) (hc : X.calm = true) (hb : bfId b = some v) (hg : Gl X (bfNm v)) (hm : X.mg (bfNm v) = none) (ha : Args S P C X (e :: es) (c :: cs)) :
    PE X (.Call (.Name (bfNm v) p) (e :: es) [] pos) (tE S P C (.bif mt b (c :: cs))) := by
  have hst := ha.star
  rw [List.all_cons, Bool.and_eq_true] at hst
  have nn : bfNm v ≠ "__name__" ∧ (bfNm v == ("__debug__" : Str)) = false := by cases b <;> cases hb <;> exact ⟨by decide, by decide⟩
  have cr := cr_bif (S := S) (mt := mt) hK hc hb
  have fin : PE X (.Call (.Name (bfNm v) p) (e :: es) [] pos) (tCB (rBif S mt b) (tEs S P C (c :: cs))) := by
    obtain ⟨k, n⟩ := v
    cases k with
    | true => exact pe_callB cr hg hm (bf_boot hb) ha.pa nn.1 nn.2 (star_cons hst.1) (star_any hst.2)
    | false => exact pe_callTy cr hg hm (bf_boot hb) ha.pa nn.1 nn.2 (star_cons hst.1) (star_any hst.2)
  refine fin.imp fun σ H Q h => ?_
  obtain ⟨W, env, M, d, M', er, m, e, q⟩ := h
  unfold evE at e
  obtain ⟨ds, M1, e1, e⟩ := bE_inv e
  exact ⟨W, env, M, ds, M1, er, m, e1, fun W1 H1 vs x1 r1 => ⟨W1, M1, ds, d, M', x1.mem, r1, e, fun W2 H2 v x2 r2 => q W2 H2 v (x1.trans x2) r2⟩⟩
end
end Nl
end
section
set_option maxRecDepth 100000
set_option maxHeartbeats 4000000
/-! Nl.Exc: exceptions as values. -/
namespace Nl
open PySem L2 PySem.Spec PyProof.Rows
abbrev veB : List Value := [.type "ValueError", .type "Exception", .type "BaseException", .type "object"]
/-- an exception class without an own __init__ -/
structure XcP (K : PySem.W.Frag) (C : Addr) : Prop where
  q : PySem.W.excIn K C veB "ValueError.__new__" = true
  k : PySem.W.keepIn K (.ref C) = true
section
variable {S : Sx} {P : Pg} {C : CallF} {X : Cx} {pos p p2 p3 : Pos} {W W' : Wd} {H H' : Hp} {M M' : Mem} {mt : Bool} {e : Expr} {ce : CE}
theorem star_nil1 {env : Env} (h : noStar e = true) : starEach [e] env = (false, eval e env) :: starEach [] env := star_cons h
theorem pe_exmD {c : Nat} {x : Str} (hK : X.K = S.K) (F : XcP S.K (S.ca c)) (hm : X.mg x = some (.ref (S.ca c))) (hg : Gl X x) (hd : (x == ("__debug__" : Str)) = false) (hst : noStar e = true) (he : PE X e (tE S P C ce)) :
    PE X (.Call (.Name x p) [e] [] pos) (tE S P C (.exm c ce)) := by
  refine (pe_exc1 PySem.F.excBase_ValueError (C := S.ca c) (by rw [hK]; exact F.q) hm (by rw [hK]; exact F.k) hg he (star_nil1 hst) hd).imp fun σ H Q h => ?_
  obtain ⟨W, env, M, d, M', er, m, e, q⟩ := h
  unfold evE at e
  obtain ⟨d1, M1, e1, e⟩ := bE_inv e
  cases e
  refine ⟨W, env, M, d1, M', er, m, e1, fun W1 H1 v x1 r1 a ha => ?_⟩
  have x2 := Ext.tup (o := ExO (.ref (S.ca c)) a) x1.mem ha
  exact q _ _ _ (x1.trans x2) (Rep.mk_exc (show ExcAt S.K S.ca _ a c none from upd_same))
/-- a class's name, as what isinstance asks -/
def NmCls (X : Cx) (x : Str) (cv : Value) : Prop := (∃ C, cv = .ref C ∧ X.mg x = some (.ref C)) ∨ (∃ T, cv = .type T ∧ X.mg x = none ∧ bootBuiltins x = some (.type T))
theorem pe_clsV {x : Str} {cv : Value} (h : NmCls X x cv) (hg : Gl X x) (hn : x ≠ "__name__") (hd : (x == ("__debug__" : Str)) = false) : ∃ v, ClsV v cv ∧ PE X (.Name x p) (fun σ H Q => Q v H) := by
  rcases h with ⟨C, rfl, hm⟩ | ⟨T, rfl, hm, hb⟩
  · exact ⟨.ref C, .own C, pe_glob (v := .ref C) hg hm rfl hd⟩
  · exact ⟨.ty T, .ty T, ⟨fun pins s σ H Q I h => ld_blt I hg hm hb ⟨.ty T, H, I, rfl, h⟩ hn hd⟩⟩
/-- isinstance(e, c) of an exception -/
def rIsx (S : Sx) (cv : Value) : List V → Hp → VK → Prop := fun xs H Q => ∃ (a : Addr) (v : V) (c : Nat) (fl : Option (Str × Int)) (b : Bool), xs = [.ref a, v] ∧ ClsV v cv ∧ L2.ExcC S.K (S.ca c) ∧ ExcAt S.K S.ca H a c fl ∧ PySem.W.kitOne S.K (.ref (S.ca c)) cv = some b ∧ Q (.bl b) H
theorem call_isx {cv : Value} (hK : X.K = S.K) : CallR X (.builtin "isinstance") (rIsx S cv) := by
  intro pins s σ H xs us Q I r h
  obtain ⟨a, v, c, fl, b, rfl, k, T, xa, e, q⟩ := h
  obtain ⟨u1, u2, rfl, r1, r2⟩ := vals2 r
  have e2 := k.eq r2
  subst e2
  cases (show u1 = Value.ref a from r1)
  have kin : S.K.In s.heap := hK ▸ I.kIn
  cases fl with
  | none =>
    obtain ⟨⟨oe, vs, ho, hz, hd, _⟩, _⟩ := I.hok a _ (show H a = some (ExO (.ref (S.ca c)) a) from xa)
    have J : PySem.W.InstAt s.heap a oe (S.ca c) none := by
      obtain ⟨oc, od, oda, osl⟩ := oe
      obtain ⟨h1, h2⟩ := hz
      dsimp only at h1 h2 hd
      subst h1 h2 hd
      exact ⟨ho, rfl, rfl, trivial⟩
    exact PySem.W.kia_one (PySem.W.handS_kitx_exc T.hg T.hk T.hs T.hd T.ha T.hn T.ht T.hm) kin J e (fun z => nomatch z) fun tk => ⟨.bl b, H, I.tok tk, rfl, q⟩
  | some fi =>
    obtain ⟨f, i⟩ := fi
    obtain ⟨dx, h1, h2⟩ := xa
    obtain ⟨t1, ho⟩ := exo_at I.hok h1
    obtain ⟨mA, hns, _⟩ := exd_at I.hok h2
    obtain ⟨od, hod, _⟩ := lookIn_ns hns
    have J : PySem.W.InstAt s.heap a _ (S.ca c) (some od) := ⟨ho, rfl, rfl, hod⟩
    obtain ⟨cd, hcd, _⟩ := PySem.W.any_some (show (PySem.W.clsIn S.K (S.ca c)).any _ = true from T.hd)
    exact PySem.W.kia_one (PySem.W.kitx_exc (by rw [hcd]; rfl) T.hg T.hk T.hs T.ha T.hn T.ht T.hm) kin J e (fun z => nomatch z) fun tk => ⟨.bl b, H, I.tok tk, rfl, q⟩
theorem isX_inv {yes no : List Nat} {d : D} {r : D × Mem} (h : bifD mt (.isX yes no) [d] M = some r) : ∃ c fl b, d = .exc c fl ∧ r = (.bl b, M) ∧ ((b = true ∧ c ∈ yes) ∨ (b = false ∧ c ∈ no)) := by
  cases d <;> first | (exfalso; revert h; simp [bifD]; done) | skip
  rename_i c fl
  simp only [bifD] at h
  split at h
  · rename_i hy
    exact ⟨c, fl, true, rfl, (Option.some.inj h).symm, .inl ⟨rfl, by simpa using hy⟩⟩
  · split at h
    · rename_i hn
      exact ⟨c, fl, false, rfl, (Option.some.inj h).symm, .inr ⟨rfl, by simpa using hn⟩⟩
    · cases h
theorem pe_isxD {x : Str} {cv : Value} {yes no : List Nat} (hK : X.K = S.K) (hi : X.mg "isinstance" = none) (hgi : Gl X "isinstance") (hc : NmCls X x cv) (hg : Gl X x) (hn : x ≠ "__name__") (hd : (x == ("__debug__" : Str)) = false)
    (hy : ∀ c ∈ yes, L2.ExcC S.K (S.ca c) ∧ PySem.W.kitOne S.K (.ref (S.ca c)) cv = some true) (hno : ∀ c ∈ no, L2.ExcC S.K (S.ca c) ∧ PySem.W.kitOne S.K (.ref (S.ca c)) cv = some false) (hst : noStar e = true) (he : PE X e (tE S P C ce)) :
    PE X (.Call (.Name "isinstance" p) [e, .Name x p2] [] pos) (tE S P C (.bif mt (.isX yes no) [ce])) := by
  obtain ⟨v, cv', pc⟩ := pe_clsV (p := p2) hc hg hn hd
  refine (pe_callB (call_isx (cv := cv) hK) hgi hi (by decide +kernel) (pa_cons he (pa_cons pc pa_nil rfl) (star_cons hst)) (by decide) (by decide) (star_cons hst) rfl).imp fun σ H Q h => ?_
  obtain ⟨W, env, M, d, M', er, m, e, q⟩ := h
  unfold evE at e
  obtain ⟨ds, M1, e1, e⟩ := bE_inv e
  unfold evEs at e1
  obtain ⟨d1, M2, e2, e1⟩ := bE_inv e1
  obtain ⟨ds2, M3, e3, e1⟩ := bE_inv e1
  unfold evEs at e3
  cases e3
  cases e1
  refine ⟨W, env, M, d1, _, er, m, e2, fun W1 H1 u x1 r1 => ?_⟩
  obtain ⟨c, fl, b, rfl, e, hb⟩ := isX_inv e
  cases e
  obtain ⟨a, rfl, xa⟩ := r1.exc_
  have fin : L2.ExcC S.K (S.ca c) ∧ PySem.W.kitOne S.K (.ref (S.ca c)) cv = some b := by
    rcases hb with ⟨rfl, hb⟩ | ⟨rfl, hb⟩
    · exact hy c hb
    · exact hno c hb
  exact ⟨a, v, c, fl, b, rfl, cv', fin.1, xa, fin.2, q W1 H1 _ x1 (Rep.bl b)⟩
/-! ### a field -/
theorem pe_atxD {n : Str} (hK : X.K = S.K) (hC : ∀ c : Nat, P.xfl.contains (c, n) = true → L2.XfC S.K (S.ca c) ∧ PySem.W.findIn S.K (.ref (S.ca c)) n = some none) (hb : attributeBase e n X.env (eval e X.env) = eval e X.env) (he : PE X e (tE S P C ce)) : PE X (.Attribute e n pos) (tE S P C (.atx ce n)) := by
  refine ⟨fun pins s σ H Q I h => ?_⟩
  obtain ⟨W, env, M, d, M', er, m, ee, q⟩ := h
  unfold evE at ee
  obtain ⟨d1, M1, e1, ee⟩ := bE_inv ee
  refine attr_of hb (thn (he.run pins s σ H (fun v H1 => ∃ W1, Ext S W M H W1 M1 H1 ∧ Rep S W1 H1 d1 v) I ⟨W, env, M, d1, M1, er, m, e1, fun W1 H1 v x1 r1 => ⟨W1, x1, r1⟩⟩) fun u s1 hh => ?_)
  obtain ⟨v, H1, I1, rv, W1, x1, r1⟩ := hh
  split at ee
  · rename_i c g i
    split at ee
    · rename_i hgf
      cases ee
      rw [Bool.and_eq_true, beq_iff_eq] at hgf
      obtain ⟨hgf, hx⟩ := hgf
      subst hgf
      obtain ⟨T, hno⟩ := hC c hx
      obtain ⟨a, rfl, dx, h1, h2⟩ := r1.exc_
      obtain rfl : u = Value.ref a := rv
      obtain ⟨t1, ha⟩ := exo_at I1.hok h1
      obtain ⟨mA, hns, hr⟩ := exd_at I1.hok h2
      obtain ⟨od, ho, hl⟩ := lookIn_ns hns
      obtain ⟨u, hu, ru⟩ := RelO.some_of (v := V.int i) (o := mA g) (by have := hr g; rw [lookup_put, if_pos rfl] at this; exact this)
      have kin : S.K.In s1.heap := hK ▸ I1.kIn
      have J : PySem.W.InstAt s1.heap a _ (S.ca c) (some od) := ⟨ha, rfl, rfl, ho⟩
      exact HandSPX.exc_get kin J T.ga T.gg T.exC (PySem.W.findObj_own T.hdC hno rfl (by rw [hl, hu])) (handed_of ru) ⟨.int i, H1, I1.tok _, ru, q W1 H1 _ x1 (Rep.int i)⟩
    · cases ee
  · cases ee
/-! ### an exception class with an own __init__ that stores one number -/
/-- the promise of such an __init__ -/
def spX (Cl : Addr) (f : Str) : Sp := fun vs H Q _ => ∃ (a : Addr) (i : Int), vs = [.ref a, .int i] ∧ H a = some (exo a Cl none) ∧ ∀ d, H d = none → d ≠ a → Q .non (upd (upd H d (exd d [(f, .int i)])) a (exo a Cl (some d)))
theorem pe_exiD {c : Nat} {f : Str} {x : Str} {fI : Addr} {fd : FuncData} {ps : List Str} {k : Nat} (hK : X.K = S.K) (T : OexC S.K (S.ca c)) (iC : PySem.W.findIn S.K (.ref (S.ca c)) "__init__" = some (some (.ref fI))) (tI : PySem.W.typeIn S.K (.ref fI) = some (.type "function"))
    (F1 : FnOk X.prog X.w S.K X.mg X.base CX0 k fI fd ps (spX (S.ca c) f)) (hr : Room (k + 1) X.A) (hb : Binds S.K fd ps []) (hg : Gl X x) (hm : X.mg x = some (.ref (S.ca c))) (hd : (x == ("__debug__" : Str)) = false) (hst : noStar e = true) (he : PE X e (tE S P C ce)) :
    PE X (.Call (.Name x p) [e] [] pos) (tE S P C (.exi c f ce)) := by
  refine ⟨fun pins s σ H Q I h => ?_⟩
  obtain ⟨W, env, M, d, M', er, m, ee, q⟩ := h
  unfold evE at ee
  obtain ⟨d1, M1, e1, ee⟩ := bE_inv ee
  cases d1 with
  | int i =>
    cases ee
    obtain ⟨nm, qq, N, bs, bm, sn, sub, ab, col, dd, k0, k1, k2, k3, k5, hC, hbm⟩ := T.cls
    refine wpAny_Call_Name_kw (ld_glob I hg hm ?_ hd)
    refine PySem.W.callWith_K (h₀ := X.base) I.ok.mod.kin (by rw [hK]; exact T.kC) ?_ (star_nil1 hst) (by rfl)
    rw [star_nil1 hst]
    refine Calls.spliced_cons (thn (he.run pins s σ H (fun v H1 => ∃ W1, Ext S W M H W1 M' H1 ∧ Rep S W1 H1 (.int i) v) I ⟨W, env, M, .int i, M', er, m, e1, fun W1 H1 v x1 r1 => ⟨W1, x1, r1⟩⟩) fun u s1 hh => ?_)
    obtain ⟨v, H1, I1, rv, W1, x1, r1⟩ := hh
    rw [r1.int_] at rv
    refine Calls.spliced_nil ⟨I1.kIn, ?_⟩
    show wpAny _ _ (call (.ref (S.ca c)) [u]) _ _ _
    obtain ⟨hp, g, dr, tk, os⟩ := s1
    have kin : S.K.In hp := hK ▸ I1.kIn
    have hsz : hp.objs.size ≤ hp.objs.size + 1 := Nat.le_succ _
    have hn : H1 (hp.objs.size + 1) = none := I1.hok.fresh hsz
    have kk : ∀ b o, hp.get? b = some o → ((hp.push (PySem.W.kdv_tup [u])).push (PySem.HandSPX.excO (S.ca c) hp.objs.size)).get? b = some o := fun b o e => Heap.get?_push_of_some _ (Heap.get?_push_of_some _ e)
    have hget : ((hp.push (PySem.W.kdv_tup [u])).push (PySem.HandSPX.excO (S.ca c) hp.objs.size)).get? (hp.objs.size + 1) = some (PySem.HandSPX.excO (S.ca c) hp.objs.size) := by heap_get
    have I2 : Inv X pins σ (upd H1 (hp.objs.size + 1) (exo (hp.objs.size + 1) (S.ca c) none)) ⟨(hp.push (PySem.W.kdv_tup [u])).push (PySem.HandSPX.excO (S.ca c) hp.objs.size), g, dr, tk, os⟩ :=
      I1.laid (t' := tk) (a := hp.objs.size + 1) (o := exo (hp.objs.size + 1) (S.ca c) none) (h' := (hp.push (PySem.W.kdv_tup [u])).push (PySem.HandSPX.excO (S.ca c) hp.objs.size)) kk hsz (exo_ok hget)
    have r2 : Vals [V.ref (hp.objs.size + 1), V.int i] [Value.ref (hp.objs.size + 1), u] := .cons rfl (.cons rv .nil)
    have x2 := Ext.tup (o := exo (hp.objs.size + 1) (S.ca c) none) x1.mem hn
    let Qa : VK := fun v H2 => v = .non ∧ ∃ (dx : Addr), H2 (hp.objs.size + 1) = some (exo (hp.objs.size + 1) (S.ca c) (some dx)) ∧ Q (.ref (hp.objs.size + 1)) H2
    have hq : spX (S.ca c) f [V.ref (hp.objs.size + 1), V.int i] (upd H1 (hp.objs.size + 1) (exo (hp.objs.size + 1) (S.ca c) none)) Qa (fun _ _ _ => False) := by
      refine ⟨_, i, rfl, upd_same, fun dx hdx ne => ⟨rfl, dx, upd_same, ?_⟩⟩
      have hdx1 : H1 dx = none := by rw [upd_ne ne] at hdx; exact hdx
      have y1 := Ext.tup (o := exd dx [(f, .int i)]) x1.mem hdx1
      have y2 : (upd H1 dx (exd dx [(f, .int i)])) (hp.objs.size + 1) = none := by rw [upd_ne (Ne.symm ne)]; exact hn
      have y3 := Ext.tup (o := exo (hp.objs.size + 1) (S.ca c) (some dx)) y1.mem y2
      have eq : upd (upd (upd H1 (hp.objs.size + 1) (exo (hp.objs.size + 1) (S.ca c) none)) dx (exd dx [(f, .int i)])) (hp.objs.size + 1) (exo (hp.objs.size + 1) (S.ca c) (some dx)) = upd (upd H1 dx (exd dx [(f, .int i)])) (hp.objs.size + 1) (exo (hp.objs.size + 1) (S.ca c) (some dx)) := by
        funext b
        by_cases hb : b = hp.objs.size + 1
        · rw [hb, upd_same, upd_same]
        · rw [upd_ne hb, upd_ne hb]
          by_cases hb2 : b = dx
          · rw [hb2, upd_same, upd_same]
          · rw [upd_ne hb2, upd_ne hb2, upd_ne hb]
      rw [eq]
      exact q _ _ _ ((x1.trans y1).trans y3) (Rep.mk_exc ⟨dx, upd_same, by rw [upd_ne ne]; exact upd_same⟩)
    have hl : ([Value.ref (hp.objs.size + 1), u] ++ []).length = ps.length := by
      have e := r2.length
      rw [F1.len _ _ _ _ hq] at e
      simpa using e.symm
    refine wpAny_call (PySem.HandSPX.call_own PySem.F.excBase_ValueError (fun Y => PySem.HandSPX.refsVE_contains Y bm hbm) (kin _ _ hC) (PySem.W.looks_findIn kin iC) (fun self => PySem.W.bind_fn kin self tI) (by show 1 ≤ sizeLine; rw [sizeLine_eq]; omega)
      (codeAny_mono (F1.run _ X.stack _ _ ⟨[Value.ref (hp.objs.size + 1), u], []⟩ [Value.ref (hp.objs.size + 1), u] _ _ (fun _ _ _ => False) (hr.make (S.ca c) [u] []) (hK ▸ I2.env0.make (S.ca c) [u] []) (by
        have := hb ⟨_, g, dr, tk, os⟩ [Value.ref (hp.objs.size + 1), u] (hK ▸ I2.kIn) hl
        rw [List.append_nil] at this
        exact this) r2 hq) fun r s' hq' => ?_))
    cases r with
    | error er => exact False.elim (by obtain ⟨_⟩ := hq' <;> assumption)
    | ok fl =>
      cases fl with
      | ret u2 =>
        obtain ⟨v2, H2, J, rv2, ev, dx, _, q2⟩ := I2.after hq'
        subst ev
        exact ⟨rv2, .ref (hp.objs.size + 1), H2, J, rfl, q2⟩
      | next => exact False.elim hq'
      | brk => exact False.elim hq'
      | cont => exact False.elim hq'
  | _ => cases ee
end
end Nl
end
section
set_option maxRecDepth 100000
set_option maxHeartbeats 4000000
/-! Nl.Chk: does the text read as the small language says? -/
namespace Nl
open PySem L2 PySem.Spec PyProof.Rows
/-- tables of the text: built-in names, exception classes, what isinstance asks -/
structure XT where
  blt : List Str
  xnm : List (Nat × Str)
  xin : List (Nat × Str × Str)
  xop : List (Str × List Nat × List Nat)
def NmClsM (mg : Str → Option Value) (x : Str) (cv : Value) : Prop := (∃ C, cv = .ref C ∧ mg x = some (.ref C)) ∨ (∃ T, cv = .type T ∧ mg x = none ∧ bootBuiltins x = some (.type T))
structure XFacts (prog : Program) (w : World) (mg : Str → Option Value) (base : Heap) (S : Sx) (P : Pg) (k : Nat) (t : XT) : Prop where
  blt : ∀ x, t.blt.contains x = true → mg x = none
  xnm : ∀ c x, t.xnm.contains (c, x) = true → XcP S.K (S.ca c) ∧ mg x = some (.ref (S.ca c))
  xin : ∀ c x f, t.xin.contains (c, x, f) = true → mg x = some (.ref (S.ca c)) ∧ OexC S.K (S.ca c) ∧ ∃ fI fd ps, PySem.W.findIn S.K (.ref (S.ca c)) "__init__" = some (some (.ref fI)) ∧ PySem.W.typeIn S.K (.ref fI) = some (.type "function") ∧ FnOk prog w S.K mg base CX0 (2 * k) fI fd ps (spX (S.ca c) f) ∧ Binds S.K fd ps []
  xop : ∀ x y n, t.xop.contains (x, y, n) = true → ∃ cv, NmClsM mg x cv ∧ (∀ c ∈ y, L2.ExcC S.K (S.ca c) ∧ PySem.W.kitOne S.K (.ref (S.ca c)) cv = some true) ∧ ∀ c ∈ n, L2.ExcC S.K (S.ca c) ∧ PySem.W.kitOne S.K (.ref (S.ca c)) cv = some false
  xfl : ∀ c n, P.xfl.contains (c, n) = true → L2.XfC S.K (S.ca c) ∧ PySem.W.findIn S.K (.ref (S.ca c)) n = some none
abbrev Sc := List (Str × NameKind)
/-- the names as the frame has them -/
structure Gd (S : Sx) (P : Pg) (C : CallF) (k : Nat) (T : Tab) (t : XT) (N : List Str) (sc : Sc) (X : Cx) : Prop where
  eK : X.K = S.K
  eN : X.N = N
  nd : N.Nodup
  F : Facts X.prog X.w X.mg X.base S P C k T
  XF : XFacts X.prog X.w X.mg X.base S P k t
  room : Room (2 * k + 1) X.A
  calm : X.calm = true
  kind : X.env.scope.kind = .function
  loc : ∀ x, sc.lookup x = some .local → X.env.scope.names.lookup x = some .local
  cel : ∀ x, sc.lookup x = some .cell → X.env.scope.names.lookup x = some .cell ∧ X.fn x = true
  fre : ∀ x, sc.lookup x = some .free → X.env.scope.names.lookup x = some .cell ∨ X.env.scope.names.lookup x = some .free
  glo : ∀ x, sc.lookup x = some .globalImplicit → X.env.scope.names.lookup x = some .globalImplicit
def okn (x : Str) : Bool := !(x == ("__debug__" : Str)) && (!(x == ("__classdict__" : Str)) && !decide (x = ("__name__" : Str)))
def visS (sc : Sc) (x : Str) : Bool := okn x && (match sc.lookup x with
  | some .local => true
  | some .cell => true
  | some .free => true
  | _ => false)
def gloS (sc : Sc) (x : Str) : Bool := okn x && (match sc.lookup x with
  | some .globalImplicit => true
  | _ => false)
def stoS (sc : Sc) (x : Str) : Bool := match sc.lookup x with
  | some .local => true
  | some .cell => true
  | _ => false
def isNop : CE → Bool
  | .nop => true
  | _ => false
def noSlice : Expr → Bool
  | .Slice _ _ _ _ => false
  | _ => true
def noSup : Expr → Bool
  | .Call _ [] [] _ => false
  | _ => true
def noSet : Expr → Bool
  | .Set _ _ _ => false
  | _ => true
mutual
def chkT (N : List Str) (sc : Sc) : CT → Expr → Bool
  | .nm i, e => match e with
    | .Name x _ => decide (N[i]? = some x) && stoS sc x
    | _ => false
  | .tp ts, e => match e with
    | .Tuple es _ _ => es.all noStar && (decide (ts.length = es.length) && chkTs N sc ts es)
    | _ => false
def chkTs (N : List Str) (sc : Sc) : List CT → List Expr → Bool
  | [], [] => true
  | t :: ts, e :: es => chkT N sc t e && chkTs N sc ts es
  | _, _ => false
end
def ownP (N : List Str) (own : List Nat) : List (Str × Nat) := own.filterMap fun i => (N[i]?).map fun x => (x, i)
section
variable (T : Tab) (P : Pg) (t : XT) (N : List Str)
mutual
def chkE : CE → Sc → Expr → Bool
  | .nop, _, _ => false
  | .var i, sc, e => match e with
    | .Name x _ => decide (N[i]? = some x) && visS sc x
    | _ => false
  | .con d, _, e => match d, e with
    | .int i, .Constant (.int j) _ _ => decide (i = j)
    | .bl i, .Constant (.bool j) _ _ => decide (i = j)
    | .str i, .Constant (.str j) _ _ => decide (i = j)
    | .non, .Constant .none _ _ => true
    | _, _ => false
  | .glb x, sc, e => match e with
    | .Name y _ => decide (x = y) && gloS sc x
    | _ => false
  | .bin mt op a b, sc, e => match e with
    | .BinOp x o y _ => decide (op = o) && (chkE a sc x && chkE b sc y)
    | _ => false
  | .cmp op a b, sc, e => match e with
    | .Compare x [o] [y] _ => decide (op = o) && (!behindInMarks o y && (chkE a sc x && chkE b sc y))
    | _ => false
  | .chn op op' a b c, sc, e => match e with
    | .Compare x [o, o'] [y, z] _ => decide (op = o) && (decide (op' = o') && (!lastMarks [o, o'] [y, z] && (chkE a sc x && (chkE b sc y && chkE c sc z))))
    | _ => false
  | .bop b es, sc, e => match e with
    | .BoolOp o xs _ => decide (o = opOf b) && (!xs.isEmpty && chkEs es sc xs)
    | _ => false
  | .not_ a, sc, e => match e with
    | .UnaryOp .Not x _ => chkE a sc x
    | _ => false
  | .neg a, sc, e => match e with
    | .UnaryOp .USub x _ => chkE a sc x
    | _ => false
  | .ife c a b, sc, e => match e with
    | .IfExp z x y _ => chkE c sc z && (chkE a sc x && chkE b sc y)
    | _ => false
  | .tup es, sc, e => match e with
    | .Tuple xs _ _ => xs.all noStar && chkEs es sc xs
    | _ => false
  | .lst mt es, sc, e => match e with
    | .List xs _ => xs.all noStar && chkEs es sc xs
    | _ => false
  | .dcn mt, _, e => match e with
    | .Dict [] [] _ => true
    | _ => false
  | .sub a i, sc, e => match e with
    | .Subscript x y _ => noSlice y && (chkE a sc x && chkE i sc y)
    | _ => false
  | .slc mt a lo hi, sc, e => match e with
    | .Subscript x (.Slice l h none _) _ => chkE a sc x && ((match l with
      | none => isNop lo
      | some l => !isNop lo && chkE lo sc l) && (match h with
      | none => isNop hi
      | some h => !isNop hi && chkE hi sc h))
    | _ => false
  | .att a f, sc, e => match e with
    | .Attribute x g _ => decide (f = g) && (noSup x && chkE a sc x)
    | _ => false
  | .call f args kix kws, sc, e => match e with
    | .Call (.Name x _) xs ks _ => decide (T.fnm f = some x) && (gloS sc x && (xs.all noStar && (chkEs args sc xs && (chkKs kws sc ks && (decide (ks.filterMap (·.arg) = kix.filterMap fun j => (T.par f)[j]?) && T.shp f xs.length kix)))))
    | _ => false
  | .callv _ _, _, _ => false
  | .make c args kix kws, sc, e => match e with
    | .Call (.Name x _) xs ks _ => (match P.cls[c]? with
      | some Kc => decide (T.cnm c = some x) && (gloS sc x && (xs.all noStar && (chkEs args sc xs && (chkKs kws sc ks && (decide (ks.filterMap (·.arg) = kix.filterMap fun j => (T.par Kc.init)[j]?) && T.shp Kc.init (xs.length + 1) kix)))))
      | none => false)
    | _ => false
  | .mth _ _ _ _ _, _, _ => false
  | .bif mt b args, sc, e => match e with
    | .Call (.Name x _) xs [] _ => (match b with
      | .isX yes no => (match xs with
        | [y, .Name z _] => decide (x = ("isinstance" : Str)) && (t.blt.contains x && (gloS sc x && (t.xop.contains (z, yes, no) && (gloS sc z && (noStar y && chk1 args sc y)))))
        | _ => false)
      | b => (match bfId b with
        | some v => decide (x = bfNm v) && (t.blt.contains x && (gloS sc x && (!xs.isEmpty && (xs.all noStar && chkEs args sc xs))))
        | none => false))
    | _ => false
  | .exm c a, sc, e => match e with
    | .Call (.Name x _) [y] [] _ => t.xnm.contains (c, x) && (gloS sc x && (noStar y && chkE a sc y))
    | _ => false
  | .exi c f a, sc, e => match e with
    | .Call (.Name x _) [y] [] _ => t.xin.contains (c, x, f) && (gloS sc x && (noStar y && chkE a sc y))
    | _ => false
  | .atx a f, sc, e => match e with
    | .Attribute x g _ => decide (f = g) && (noSup x && chkE a sc x)
    | _ => false
  | .lc mt own elt tg it cond, sc, e => match e with
    | .ListComp x [⟨g, i, ifs, 0⟩] scope _ => decide ((ownP N own).map (·.2) = own) && (blkC N { scope with names := sc } scope (ownP N own) && (tg.ix.all (own.contains ·) && (chkT N scope.names tg g && (noSet i && (chkI it sc g i && (chkE elt scope.names x &&
      (match ifs with
      | [] => isNop cond
      | [c] => !isNop cond && chkE cond scope.names c
      | _ => false)))))))
    | _ => false
  | .lc2 _ _ _ _ _ _ _ _ _, _, _ => false
  | .dc _ _ _ _ _ _ _, _, _ => false
  | .dc2 _ _ _ _ _ _ _ _ _ _, _, _ => false
  | .sc _ _ _ _ _ _, _, _ => false
def chkEs : List CE → Sc → List Expr → Bool
  | [], _, es => es.isEmpty
  | c :: cs, sc, es => match es with
    | e :: es => chkE c sc e && chkEs cs sc es
    | [] => false
def chk1 : List CE → Sc → Expr → Bool
  | [], _, _ => false
  | c :: cs, sc, e => cs.isEmpty && chkE c sc e
def chkKs : List CE → Sc → List Keyword → Bool
  | [], _, es => es.isEmpty
  | c :: cs, sc, es => match es with
    | ⟨some _, e, _⟩ :: es => chkE c sc e && chkKs cs sc es
    | _ => false
def chkI : CI → Sc → Expr → Expr → Bool
  | .val a, sc, _, e => chkE a sc e
  | .rng1 a, sc, _, e => match e with
    | .Call (.Name x _) [y] [] _ => decide (x = ("range" : Str)) && (t.blt.contains x && (gloS sc x && (noStar y && chkE a sc y)))
    | _ => false
  | .rng2 a b, sc, _, e => match e with
    | .Call (.Name x _) [y, z] [] _ => decide (x = ("range" : Str)) && (t.blt.contains x && (gloS sc x && (noStar y && (noStar z && (chkE a sc y && chkE b sc z)))))
    | _ => false
  | .rng3 a b c, sc, _, e => match e with
    | .Call (.Name x _) [y, z, u] [] _ => decide (x = ("range" : Str)) && (t.blt.contains x && (gloS sc x && (noStar y && (noStar z && (noStar u && (chkE a sc y && (chkE b sc z && chkE c sc u)))))))
    | _ => false
  | .zip a b, sc, g, e => match g, e with
    | .Tuple _ _ _, .Call (.Name x _) [y, z] [] _ => decide (x = ("zip" : Str)) && (t.blt.contains x && (gloS sc x && (noStar y && (noStar z && (chkE a sc y && chkE b sc z)))))
    | _, _ => false
  | .zip3 _ _ _, _, _, _ => false
  | .enum a, sc, g, e => match g, e with
    | .Tuple _ _ _, .Call (.Name x _) [y] [] _ => decide (x = ("enumerate" : Str)) && (t.blt.contains x && (gloS sc x && (noStar y && chkE a sc y)))
    | _, _ => false
  | .items _, _, _, _ => false
end
end
/-! ### names -/
section
variable {S : Sx} {P : Pg} {C : CallF} {k : Nat} {T : Tab} {t : XT} {N : List Str} {sc : Sc} {X : Cx}
theorem okn_ok {x : Str} (h : okn x = true) : (x == ("__debug__" : Str)) = false ∧ (x == ("__classdict__" : Str)) = false ∧ x ≠ ("__name__" : Str) := by
  unfold okn at h
  simp only [Bool.and_eq_true, Bool.not_eq_true', decide_eq_false_iff_not] at h
  exact h
theorem visS_ok (G : Gd S P C k T t N sc X) {x : Str} (h : visS sc x = true) : Vis X.env.scope x ∧ okn x = true := by
  unfold visS at h
  rw [Bool.and_eq_true] at h
  refine ⟨?_, h.1⟩
  have h2 := h.2
  split at h2
  · rename_i e; exact .inl (G.loc x e)
  · rename_i e; exact .inr (.inl (G.cel x e).1)
  · rename_i e; exact .inr (G.fre x e)
  · cases h2
theorem gloS_ok (G : Gd S P C k T t N sc X) {x : Str} (h : gloS sc x = true) : Gl X x ∧ okn x = true := by
  unfold gloS at h
  rw [Bool.and_eq_true] at h
  refine ⟨?_, h.1⟩
  have h2 := h.2
  split at h2
  · rename_i e; exact G.glo x e
  · cases h2
theorem stoS_ok (G : Gd S P C k T t N sc X) {x : Str} (h : stoS sc x = true) : Loc X.env.scope x ∧ (X.fn x = true ∨ X.env.scope.names.lookup x = some .local) := by
  unfold stoS at h
  split at h
  · rename_i e; exact ⟨.inl (G.loc x e), .inr (G.loc x e)⟩
  · rename_i e; exact ⟨.inr (G.cel x e).1, .inl (G.cel x e).2⟩
  · cases h
theorem Gd.blk (G : Gd S P C k T t N sc X) {s : Shared} {H : Hp} {scope : Scope} {cl : List (Str × Addr)} {Ca : Addr} {fp : List Addr} (hk : scope.kind = .function) : Gd S P C k T t N scope.names (X.blk s H scope (compEnvC scope cl Ca X.env) fp) := by
  refine ⟨G.eK, G.eN, G.nd, G.F, G.XF, G.room, G.calm, hk, fun x e => ?_, fun x e => ⟨?_, ?_⟩, fun x e => ?_, fun x e => ?_⟩
  · exact lookup_relS_keep (sc := X.env.scope) (by simp) e
  · exact lookup_relS_keep (sc := X.env.scope) (by simp) e
  · show (scope.names.lookup x == some .cell) = true
    rw [e]; rfl
  · have key : ∀ {names : List (Str × NameKind)}, names.lookup x = some .free → (names.map fun (n, k) => if (k == NameKind.free && X.env.scope.kind == .function && X.env.scope.names.lookup n == some .cell) then (n, NameKind.cell) else (n, k)).lookup x = some .cell ∨ (names.map fun (n, k) => if (k == NameKind.free && X.env.scope.kind == .function && X.env.scope.names.lookup n == some .cell) then (n, NameKind.cell) else (n, k)).lookup x = some .free := by
      intro names
      induction names with
      | nil => intro h; simp at h
      | cons y r ih =>
        obtain ⟨n, k0⟩ := y
        intro h
        rw [List.map_cons]
        cases hx : x == n with
        | true =>
          simp only [List.lookup_cons, hx] at h
          cases h
          dsimp only
          split
          · left; simp only [List.lookup_cons, hx]
          · right; simp only [List.lookup_cons, hx]
        | false =>
          simp only [List.lookup_cons, hx] at h
          have := ih h
          dsimp only
          split <;> (simp only [List.lookup_cons, hx]; exact this)
    exact key e
  · exact lookup_relS_keep (sc := X.env.scope) (by simp) e
theorem blk_ok (G : Gd S P C k T t N sc X) {scope : Scope} {own : List (Str × Nat)} (h : blkC N { scope with names := sc } scope own = true) : BlkOk X.N X.env.scope scope own := by
  have b := blkOk_by h
  rw [G.eN]
  refine ⟨b.kind, b.uniq, b.ix, fun y hy e => ?_, b.own⟩
  rcases b.free y hy e with q | q
  · exact .inl (G.cel _ q).1
  · exact G.fre _ q
theorem attr_ok {o : Expr} {f : Str} {env : Env} {wh : Sem Value} (h : noSup o = true) : attributeBase o f env wh = wh := by
  unfold attributeBase
  split
  · rename_i h1; exact absurd h (by simp [noSup])
  · rfl
theorem slice_ok {b : Expr} (h : noSlice b = true) : PlainIx b := by
  intro o i
  cases b <;> first | rfl | cases h
theorem set_ok {b : Expr} {env : Env} (h : noSet b = true) : ∀ x, foldedSetIterable b env x = pure x := by
  intro x
  cases b <;> first | rfl | cases h
mutual
theorem chkT_ok (G : Gd S P C k T t N sc X) : ∀ (c : CT) (e : Expr), chkT N sc c e = true → PG X e (gT S c)
  | .nm i, e, h => by
    unfold chkT at h
    split at h
    · rw [Bool.and_eq_true, decide_eq_true_eq] at h
      obtain ⟨h1, h2⟩ := stoS_ok G h.2
      exact pg_nmD (by rw [G.eN]; exact G.nd) (by rw [G.eN]; exact h.1) h1 h2
    · cases h
  | .tp ts, e, h => by
    unfold chkT at h
    split at h
    · rw [Bool.and_eq_true, Bool.and_eq_true, decide_eq_true_eq] at h
      exact pg_tpD G.eK G.calm h.1 h.2.1 (chkTs_ok G ts _ h.1 h.2.2)
    · cases h
theorem chkTs_ok (G : Gd S P C k T t N sc X) : ∀ (cs : List CT) (es : List Expr), es.all noStar = true → chkTs N sc cs es = true → PGs X es (gTs S cs)
  | [], es, hs, h => by
    unfold chkTs at h
    cases es with
    | nil => exact pgs_nilD
    | cons _ _ => cases h
  | c :: cs, es, hs, h => by
    cases es with
    | nil => unfold chkTs at h; cases h
    | cons e es =>
      unfold chkTs at h
      rw [Bool.and_eq_true] at h
      rw [List.all_cons, Bool.and_eq_true] at hs
      exact pgs_consD hs.1 (chkT_ok G c e h.1) (chkTs_ok G cs es hs.2 h.2)
end
/-- each part as a value and as a test -/
inductive Fa (S : Sx) (P : Pg) (C : CallF) (X : Cx) : List Expr → List CE → Prop
  | nil : Fa S P C X [] []
  | cons {e : Expr} {c : CE} {es : List Expr} {cs : List CE} : PE X e (tE S P C c) → PT X e (tTst S P C c) → Fa S P C X es cs → Fa S P C X (e :: es) (c :: cs)
theorem Fa.args : ∀ {es : List Expr} {cs : List CE}, es.all noStar = true → Fa S P C X es cs → Args S P C X es cs
  | _, _, _, .nil => .nil
  | _, _, h, .cons p _ r => by
    rw [List.all_cons, Bool.and_eq_true] at h
    exact .cons h.1 p (r.args h.2)
theorem Fa.both : ∀ {es : List Expr} {cs : List CE}, es ≠ [] → Fa S P C X es cs → Both S P C X es cs
  | _, _, h, .nil => absurd rfl h
  | _, _, _, .cons p q .nil => .one p q
  | _, _, _, .cons p q (.cons p' q' r) => .cons p q (Fa.both (by simp) (.cons p' q' r))
end
end Nl
end
section
set_option maxRecDepth 100000
set_option maxHeartbeats 8000000
/-! Nl.Snd: what the check accepts is sound. -/
namespace Nl
open PySem L2 PySem.Spec PyProof.Rows
section
variable {S : Sx} {P : Pg} {C : CallF} {k : Nat} {T : Tab} {t : XT} {N : List Str}
theorem both_of {X : Cx} {e : Expr} {c : CE} (hK : X.K = S.K) (h : PE X e (tE S P C c)) (he : ∀ whole, isTrue e X.env whole = (do let v ← whole; standAt e.pos; holding [v] (truthy v))) : PE X e (tE S P C c) ∧ PT X e (tTst S P C c) := ⟨h, pt_plainD hK h he⟩
theorem isNop_ne {c : CE} (h : (!isNop c) = true) : c ≠ .nop := by
  intro e
  subst e
  cases h
theorem isNop_eq {c : CE} (h : isNop c = true) : c = .nop := by
  cases c <;> first | rfl | cases h
theorem nm_of {X : Cx} {x : Str} {cv : Value} (h : NmClsM X.mg x cv) : NmCls X x cv := h
mutual
theorem chkE_ok : ∀ (c : CE) (sc : Sc) (e : Expr) (X : Cx), chkE T P t N c sc e = true → Gd S P C k T t N sc X → PE X e (tE S P C c) ∧ PT X e (tTst S P C c)
  | .nop, sc, e, X, h, G => by unfold chkE at h; cases h
  | .var i, sc, e, X, h, G => by
    unfold chkE at h
    split at h
    · rw [Bool.and_eq_true, decide_eq_true_eq] at h
      obtain ⟨hv, ho⟩ := visS_ok G h.2
      obtain ⟨h1, h2, _⟩ := okn_ok ho
      exact both_of G.eK (pe_varD (by rw [G.eN]; exact h.1) hv h1 h2) fun _ => rfl
    · cases h
  | .con d, sc, e, X, h, G => by
    unfold chkE at h
    split at h
    · rw [decide_eq_true_eq] at h; subst h; exact both_of G.eK pe_conI fun _ => rfl
    · rw [decide_eq_true_eq] at h; subst h; exact both_of G.eK pe_conB fun _ => rfl
    · rw [decide_eq_true_eq] at h; subst h; exact both_of G.eK pe_conS fun _ => rfl
    · exact both_of G.eK pe_conN fun _ => rfl
    · cases h
  | .glb x, sc, e, X, h, G => by
    unfold chkE at h
    split at h
    · rw [Bool.and_eq_true, decide_eq_true_eq] at h
      obtain ⟨h1, h2⟩ := h
      subst h1
      obtain ⟨hg, ho⟩ := gloS_ok G h2
      exact both_of G.eK (pe_glbD hg G.F.glb (okn_ok ho).1) fun _ => rfl
    · cases h
  | .bin mt op a b, sc, e, X, h, G => by
    unfold chkE at h
    split at h
    · rw [Bool.and_eq_true, Bool.and_eq_true, decide_eq_true_eq] at h
      obtain ⟨h1, h2, h3⟩ := h
      subst h1
      exact both_of G.eK (pe_binD G.eK (chkE_ok a sc _ X h2 G).1 (chkE_ok b sc _ X h3 G).1) fun _ => rfl
    · cases h
  | .cmp op a b, sc, e, X, h, G => by
    unfold chkE at h
    split at h
    · simp only [Bool.and_eq_true, decide_eq_true_eq, Bool.not_eq_true'] at h
      obtain ⟨h1, h0, h2, h3⟩ := h
      subst h1
      have pa := (chkE_ok a sc _ X h2 G).1
      have pb := (chkE_ok b sc _ X h3 G).1
      exact ⟨pe_cmpD G.eK G.room.units pa pb h0, pt_cmpD G.eK G.room.units pa pb h0⟩
    · cases h
  | .chn op op' a b c, sc, e, X, h, G => by
    unfold chkE at h
    split at h
    · simp only [Bool.and_eq_true, decide_eq_true_eq, Bool.not_eq_true'] at h
      obtain ⟨h1, h1', h0, h2, h3, h4⟩ := h
      subst h1 h1'
      have pa := (chkE_ok a sc _ X h2 G).1
      have pb := (chkE_ok b sc _ X h3 G).1
      have pc := (chkE_ok c sc _ X h4 G).1
      exact ⟨pe_chnD G.eK G.room.units pa pb pc h0, pt_chnD G.eK G.room.units pa pb pc h0⟩
    · cases h
  | .bop b es, sc, e, X, h, G => by
    unfold chkE at h
    split at h
    · simp only [Bool.and_eq_true, decide_eq_true_eq, Bool.not_eq_true'] at h
      obtain ⟨h1, h0, h2⟩ := h
      subst h1
      have fa := chkEs_ok es sc _ X h2 G
      have bo := fa.both (by intro e; rw [e] at h0; cases h0)
      exact ⟨pe_bopD G.eK bo, (pw_bopD bo).pt⟩
    · cases h
  | .not_ a, sc, e, X, h, G => by
    unfold chkE at h
    split at h
    · obtain ⟨pa, ta⟩ := chkE_ok a sc _ X h G
      exact ⟨pe_notD G.eK pa, pt_notD ta⟩
    · cases h
  | .neg a, sc, e, X, h, G => by
    unfold chkE at h
    split at h
    · exact both_of G.eK (pe_negD (chkE_ok a sc _ X h G).1) fun _ => rfl
    · cases h
  | .ife c a b, sc, e, X, h, G => by
    unfold chkE at h
    split at h
    · simp only [Bool.and_eq_true] at h
      obtain ⟨h1, h2, h3⟩ := h
      have pc := chkE_ok c sc _ X h1 G
      have pa := chkE_ok a sc _ X h2 G
      have pb := chkE_ok b sc _ X h3 G
      exact ⟨pe_ifeD pc.2 pa.1 pb.1, pt_ifeD pc.2 pa.2 pb.2⟩
    · cases h
  | .tup es, sc, e, X, h, G => by
    unfold chkE at h
    split at h
    · rw [Bool.and_eq_true] at h
      exact both_of G.eK (pe_tupD ((chkEs_ok es sc _ X h.2 G).args h.1).pa) fun _ => rfl
    · cases h
  | .lst mt es, sc, e, X, h, G => by
    unfold chkE at h
    split at h
    · rw [Bool.and_eq_true] at h
      exact both_of G.eK (pe_lstD ((chkEs_ok es sc _ X h.2 G).args h.1).pa) fun _ => rfl
    · cases h
  | .dcn mt, sc, e, X, h, G => by
    unfold chkE at h
    split at h
    · exact both_of G.eK pe_dcnD fun _ => rfl
    · cases h
  | .sub a i, sc, e, X, h, G => by
    unfold chkE at h
    split at h
    · simp only [Bool.and_eq_true] at h
      obtain ⟨h1, h2, h3⟩ := h
      exact both_of G.eK (pe_subD G.eK G.room.units (chkE_ok a sc _ X h2 G).1 (chkE_ok i sc _ X h3 G).1 (slice_ok h1)) fun _ => rfl
    · cases h
  | .slc mt a lo hi, sc, e, X, h, G => by
    unfold chkE at h
    split at h
    · rename_i x l hh p1 p2
      simp only [Bool.and_eq_true] at h
      obtain ⟨h1, h2, h3⟩ := h
      have pa := (chkE_ok a sc _ X h1 G).1
      have pl : PO X l (tOpt S P C lo) := by
        cases l with
        | none => rw [isNop_eq h2]; exact po_noneD
        | some l =>
          simp only [Bool.and_eq_true] at h2
          exact po_someD (chkE_ok lo sc l X h2.2 G).1 (isNop_ne h2.1)
      have ph : PO X hh (tOpt S P C hi) := by
        cases hh with
        | none => rw [isNop_eq h3]; exact po_noneD
        | some l =>
          simp only [Bool.and_eq_true] at h3
          exact po_someD (chkE_ok hi sc l X h3.2 G).1 (isNop_ne h3.1)
      exact both_of G.eK (pe_slcD G.eK pa pl ph) fun _ => rfl
    · cases h
  | .att a f, sc, e, X, h, G => by
    unfold chkE at h
    split at h
    · simp only [Bool.and_eq_true, decide_eq_true_eq] at h
      obtain ⟨h1, h2, h3⟩ := h
      subst h1
      exact both_of G.eK (pe_attD G.eK (chkE_ok a sc _ X h3 G).1 (attr_ok h2)) fun _ => rfl
    · cases h
  | .call f args kix kws, sc, e, X, h, G => by
    unfold chkE at h
    split at h
    · simp only [Bool.and_eq_true, decide_eq_true_eq] at h
      obtain ⟨h1, h2, h3, h4, h5, h6, h7⟩ := h
      obtain ⟨hg, ho⟩ := gloS_ok G h2
      exact both_of G.eK (pe_callD G.eK G.F (G.room.mono (by omega)) hg h1 (okn_ok ho).1 ((chkEs_ok args sc _ X h4 G).args h3) (chkKs_ok kws sc _ X h5 G) h6 h7) fun _ => rfl
    · cases h
  | .callv _ _, sc, e, X, h, G => by unfold chkE at h; cases h
  | .make c args kix kws, sc, e, X, h, G => by
    unfold chkE at h
    split at h
    · split at h
      · rename_i Kc hc
        simp only [Bool.and_eq_true, decide_eq_true_eq] at h
        obtain ⟨h1, h2, h3, h4, h5, h6, h7⟩ := h
        obtain ⟨hg, ho⟩ := gloS_ok G h2
        exact both_of G.eK (pe_makeD G.eK G.F G.room hg h1 (okn_ok ho).1 ((chkEs_ok args sc _ X h4 G).args h3) (chkKs_ok kws sc _ X h5 G) hc h6 h7) fun _ => rfl
      · cases h
    · cases h
  | .mth _ _ _ _ _, sc, e, X, h, G => by unfold chkE at h; cases h
  | .bif mt b args, sc, e, X, h, G => by
    unfold chkE at h
    split at h
    · rename_i x p0 xs p1
      split at h
      · rename_i yes no
        split at h
        · rename_i y z p2
          simp only [Bool.and_eq_true, decide_eq_true_eq] at h
          obtain ⟨h1, h2, h3, h4, h5, h6, h7⟩ := h
          subst h1
          obtain ⟨hg, ho⟩ := gloS_ok G h3
          obtain ⟨hgz, hoz⟩ := gloS_ok G h5
          obtain ⟨cv, c1, c2, c3⟩ := G.XF.xop z yes no h4
          obtain ⟨a, rfl, pa⟩ := chk1_ok args sc y X h7 G
          exact both_of G.eK (pe_isxD G.eK (G.XF.blt _ h2) hg (nm_of c1) hgz (okn_ok hoz).2.2 (okn_ok hoz).1 c2 c3 h6 pa) fun _ => rfl
        · cases h
      · split at h
        · rename_i v hv
          simp only [Bool.and_eq_true, decide_eq_true_eq, Bool.not_eq_true'] at h
          obtain ⟨h1, h2, h3, h4, h5, h6⟩ := h
          subst h1
          obtain ⟨hg, ho⟩ := gloS_ok G h3
          have fa := (chkEs_ok args sc _ X h6 G).args h5
          cases fa with
          | nil => cases h4
          | cons a1 a2 a3 => exact both_of G.eK (pe_bifD G.eK G.calm hv hg (G.XF.blt _ h2) (.cons a1 a2 a3)) fun _ => rfl
        · cases h
    · cases h
  | .exm c a, sc, e, X, h, G => by
    unfold chkE at h
    split at h
    · simp only [Bool.and_eq_true] at h
      obtain ⟨h1, h2, h3, h4⟩ := h
      obtain ⟨hg, ho⟩ := gloS_ok G h2
      obtain ⟨q1, q2⟩ := G.XF.xnm _ _ h1
      exact both_of G.eK (pe_exmD G.eK q1 q2 hg (okn_ok ho).1 h3 (chkE_ok a sc _ X h4 G).1) fun _ => rfl
    · cases h
  | .exi c f a, sc, e, X, h, G => by
    unfold chkE at h
    split at h
    · simp only [Bool.and_eq_true] at h
      obtain ⟨h1, h2, h3, h4⟩ := h
      obtain ⟨hg, ho⟩ := gloS_ok G h2
      obtain ⟨q1, q2, fI, fd, ps, q3, q4, q5, q6⟩ := G.XF.xin _ _ _ h1
      exact both_of G.eK (pe_exiD G.eK q2 q3 q4 q5 G.room q6 hg q1 (okn_ok ho).1 h3 (chkE_ok a sc _ X h4 G).1) fun _ => rfl
    · cases h
  | .atx a f, sc, e, X, h, G => by
    unfold chkE at h
    split at h
    · simp only [Bool.and_eq_true, decide_eq_true_eq] at h
      obtain ⟨h1, h2, h3⟩ := h
      subst h1
      exact both_of G.eK (pe_atxD G.eK (fun c hc => G.XF.xfl c _ hc) (attr_ok h2) (chkE_ok a sc _ X h3 G).1) fun _ => rfl
    · cases h
  | .lc mt own elt tg it cond, sc, e, X, h, G => by
    unfold chkE at h
    split at h
    · rename_i x g i ifs scope p1
      simp only [Bool.and_eq_true, decide_eq_true_eq] at h
      obtain ⟨h1, h2, h3, h4, h5, h6, h7, h8⟩ := h
      have bo := blk_ok G h2
      have pi := chkI_ok it sc g i X h6 G
      have main : PE X (.ListComp x [⟨g, i, ifs, 0⟩] scope p1) (tE S P C (.lc mt ((ownP N own).map (·.2)) elt tg it cond)) := by
        refine pe_lcD G.calm (by rw [G.eN]; exact G.nd) pi bo (by rw [h1]; intro j hj; simpa using List.all_eq_true.mp h3 j hj) (fun s H Ca cl fp => chkT_ok (G.blk bo.kind) tg g h4) (fun s H Ca cl fp => ?_) (fun s H Ca cl fp => (chkE_ok elt scope.names x _ h7 (G.blk bo.kind)).1) (set_ok h5)
        cases ifs with
        | nil => rw [isNop_eq h8]; exact pts_nilD
        | cons c cs =>
          cases cs with
          | nil =>
            simp only [Bool.and_eq_true] at h8
            exact pts_oneD (isNop_ne h8.1) (chkE_ok cond scope.names c _ h8.2 (G.blk bo.kind)).2
          | cons _ _ => cases h8
      rw [h1] at main
      exact both_of G.eK main fun _ => rfl
    · cases h
  | .lc2 _ _ _ _ _ _ _ _ _, sc, e, X, h, G => by unfold chkE at h; cases h
  | .dc _ _ _ _ _ _ _, sc, e, X, h, G => by unfold chkE at h; cases h
  | .dc2 _ _ _ _ _ _ _ _ _ _, sc, e, X, h, G => by unfold chkE at h; cases h
  | .sc _ _ _ _ _ _, sc, e, X, h, G => by unfold chkE at h; cases h
theorem chkEs_ok : ∀ (cs : List CE) (sc : Sc) (es : List Expr) (X : Cx), chkEs T P t N cs sc es = true → Gd S P C k T t N sc X → Fa S P C X es cs
  | [], sc, es, X, h, G => by
    unfold chkEs at h
    cases es with
    | nil => exact .nil
    | cons _ _ => cases h
  | c :: cs, sc, es, X, h, G => by
    cases es with
    | nil => unfold chkEs at h; cases h
    | cons e es =>
      unfold chkEs at h
      simp only [Bool.and_eq_true] at h
      have p := chkE_ok c sc e X h.1 G
      exact .cons p.1 p.2 (chkEs_ok cs sc es X h.2 G)
theorem chk1_ok : ∀ (cs : List CE) (sc : Sc) (e : Expr) (X : Cx), chk1 T P t N cs sc e = true → Gd S P C k T t N sc X → ∃ c, cs = [c] ∧ PE X e (tE S P C c)
  | [], sc, e, X, h, G => by unfold chk1 at h; cases h
  | c :: cs, sc, e, X, h, G => by
    unfold chk1 at h
    simp only [Bool.and_eq_true] at h
    refine ⟨c, ?_, (chkE_ok c sc e X h.2 G).1⟩
    cases cs with
    | nil => rfl
    | cons _ _ => exact absurd h.1 (by simp)
theorem chkKs_ok : ∀ (cs : List CE) (sc : Sc) (es : List Keyword) (X : Cx), chkKs T P t N cs sc es = true → Gd S P C k T t N sc X → Kws S P C X es cs
  | [], sc, es, X, h, G => by
    unfold chkKs at h
    cases es with
    | nil => exact .nil
    | cons _ _ => cases h
  | c :: cs, sc, es, X, h, G => by
    cases es with
    | nil => unfold chkKs at h; cases h
    | cons e es =>
      obtain ⟨n, e, p⟩ := e
      cases n with
      | none => unfold chkKs at h; cases h
      | some n =>
        unfold chkKs at h
        simp only [Bool.and_eq_true] at h
        exact .cons (chkE_ok c sc e X h.1 G).1 (chkKs_ok cs sc es X h.2 G)
theorem chkI_ok : ∀ (c : CI) (sc : Sc) (g e : Expr) (X : Cx), chkI T P t N c sc g e = true → Gd S P C k T t N sc X → PI X g e (tI S P C c)
  | .val a, sc, g, e, X, h, G => by
    unfold chkI at h
    exact pi_valD G.eK (chkE_ok a sc e X h G).1
  | .rng1 a, sc, g, e, X, h, G => by
    unfold chkI at h
    split at h
    · simp only [Bool.and_eq_true, decide_eq_true_eq] at h
      obtain ⟨h1, h2, h3, h4, h5⟩ := h
      subst h1
      exact pi_rng1D (gloS_ok G h3).1 (G.XF.blt _ h2) h4 (chkE_ok a sc _ X h5 G).1
    · cases h
  | .rng2 a b, sc, g, e, X, h, G => by
    unfold chkI at h
    split at h
    · simp only [Bool.and_eq_true, decide_eq_true_eq] at h
      obtain ⟨h1, h2, h3, h4, h5, h6, h7⟩ := h
      subst h1
      exact pi_rng2D (gloS_ok G h3).1 (G.XF.blt _ h2) h4 h5 (chkE_ok a sc _ X h6 G).1 (chkE_ok b sc _ X h7 G).1
    · cases h
  | .rng3 a b c, sc, g, e, X, h, G => by
    unfold chkI at h
    split at h
    · simp only [Bool.and_eq_true, decide_eq_true_eq] at h
      obtain ⟨h1, h2, h3, h4, h5, h6, h7, h8, h9⟩ := h
      subst h1
      exact pi_rng3D (gloS_ok G h3).1 (G.XF.blt _ h2) h4 h5 h6 (chkE_ok a sc _ X h7 G).1 (chkE_ok b sc _ X h8 G).1 (chkE_ok c sc _ X h9 G).1
    · cases h
  | .zip a b, sc, g, e, X, h, G => by
    unfold chkI at h
    split at h
    · simp only [Bool.and_eq_true, decide_eq_true_eq] at h
      obtain ⟨h1, h2, h3, h4, h5, h6, h7⟩ := h
      subst h1
      exact pi_zipD G.eK (gloS_ok G h3).1 (G.XF.blt _ h2) h4 h5 (chkE_ok a sc _ X h6 G).1 (chkE_ok b sc _ X h7 G).1
    · cases h
  | .zip3 _ _ _, sc, g, e, X, h, G => by unfold chkI at h; cases h
  | .enum a, sc, g, e, X, h, G => by
    unfold chkI at h
    split at h
    · simp only [Bool.and_eq_true, decide_eq_true_eq] at h
      obtain ⟨h1, h2, h3, h4, h5⟩ := h
      subst h1
      exact pi_enumD G.eK (gloS_ok G h3).1 (G.XF.blt _ h2) h4 (chkE_ok a sc _ X h5 G).1
    · cases h
  | .items _, sc, g, e, X, h, G => by unfold chkI at h; cases h
end
end
end Nl
end
section
set_option maxRecDepth 100000
set_option maxHeartbeats 8000000
/-! Nl.SndS: statements: the check and its soundness. -/
namespace Nl
open PySem L2 PySem.Spec PyProof.Rows
def noComp : Expr → Bool
  | .ListComp _ _ _ _ => false
  | .SetComp _ _ _ _ => false
  | .DictComp _ _ _ _ _ => false
  | _ => true
def noName : Expr → Bool
  | .Name _ _ => false
  | _ => true
/-- no stores are swapped -/
def swNone : Expr → Expr → Bool
  | .List _ _, _ => false
  | .Tuple ts _ _, .Tuple vs _ _ => !(ts.length == 2 || ts.length == 3) || (vs.length != ts.length || vs.all (foldedForSure 8))
  | _, _ => true
def par2 (x : Str) (px : Pos) (y : Str) (py : Pos) (a b : Expr) : Bool :=
  decide (py.line = px.line) && (decide (x ≠ y) && (noStar a && (noStar b && (!(foldedForSure 8 a && foldedForSure 8 b) && !(constantsAlone 8 a && constantsAlone 8 b)))))
def par3 (x : Str) (px : Pos) (y : Str) (py : Pos) (z : Str) (pz : Pos) (a b c : Expr) : Bool :=
  decide (py.line = px.line) && (decide (pz.line = px.line) && (decide (x ≠ y) && (decide (x ≠ z) && (decide (y ≠ z) && (noStar a && (noStar b && (noStar c && (!(foldedForSure 8 a && (foldedForSure 8 b && foldedForSure 8 c)) && !(constantsAlone 8 a && (constantsAlone 8 b && constantsAlone 8 c))))))))))
theorem sw_no {v : Expr} {g : Option Expr} {l : Nat} {env : Env} (h : noComp v = true) : swapsWith v g l env = pure false := by
  cases v <;> first | rfl | cases h
theorem sw_nn {v g : Expr} {l : Nat} {env : Env} (h : noName g = true) : swapsWith v (some g) l env = pure false := by
  cases g <;> first | (cases v <;> rfl) | cases h
theorem swn_ok {g v : Expr} {env : Env} (h : swNone g v = true) : swappedStores [g] v env = pure none := by
  unfold swappedStores
  cases g <;> first | (cases v <;> rfl) | (cases h; done) | skip
  rename_i ts k1 p1
  cases v <;> first | rfl | skip
  rename_i vs k2 p2
  unfold swNone at h
  dsimp only
  replace h : (!(ts.length == 2 || ts.length == 3) || (vs.length != ts.length || vs.all (foldedForSure 8))) = true := h
  by_cases h1 : (!(ts.length == 2 || ts.length == 3) || vs.length != ts.length || env.blockKind != .function) = true
  · rw [if_pos h1]
  · rw [if_neg h1]
    have hv : vs.all (foldedForSure 8) = true := by
      cases hq : vs.all (foldedForSure 8) with
      | true => rfl
      | false =>
        exfalso
        apply h1
        rw [hq] at h
        simp only [Bool.or_false] at h
        rw [h]
        simp
    split
    · rfl
    · split
      · rfl
      · first | rfl | (rw [if_pos hv]; rfl) | (rw [if_pos hv])
def isStar : Expr → Bool := fun | .Starred .. => true | _ => false
theorem star_f {e : Expr} (h : noStar e = true) : isStar e = false := by
  cases e <;> first | rfl | cases h
theorem par2_ok {x y : Str} {px py pt pt2 : Pos} {a b : Expr} {kt k2 : Nat} {env : Env} (hk : env.scope.kind = .function) (hx : env.scope.names.lookup x = some .local) (hy : env.scope.names.lookup y = some .local) (h : par2 x px y py a b = true) :
    swappedStores [.Tuple [.Name x px, .Name y py] kt pt] (.Tuple [a, b] k2 pt2) env = pure (some [x, y]) := by
  unfold par2 at h
  simp only [Bool.and_eq_true, decide_eq_true_eq, Bool.not_eq_true'] at h
  obtain ⟨h1, h2, h3, h4, h5, h6⟩ := h
  have kx : env.kindOf x = some .local := hx
  have ky : env.kindOf y = some .local := hy
  have hb : env.blockKind = .function := by unfold Env.blockKind; rw [hk]; rfl
  have yx : (y == x) = false := by simpa using fun z => h2 z.symm
  have f1 : ([a, b] : List Expr).all (foldedForSure 8) = false := by simpa using h5
  have f2 : ([a, b] : List Expr).all (constantsAlone 8) = false := by simpa using h6
  have st : ([a, b] : List Expr).any isStar = false := by
    rw [List.any_cons, List.any_cons, List.any_nil, star_f h3, star_f h4] <;> rfl
  unfold swappedStores
  dsimp only
  refine (if_neg (fun z => ?_)).trans ?_
  · simp [hb] at z
  refine (if_neg (fun z => ?_)).trans ?_
  · have z' : ([a, b] : List Expr).any isStar = true := z
    rw [st] at z'
    cases z'
  rw [f1, f2]
  simp [List.filterMap_cons, show (Expr.Name x px).pos = px from rfl, kx, ky, h1, List.eraseDups_cons, yx]
theorem par3_ok {x y z : Str} {px py pz pt pt2 : Pos} {a b c : Expr} {kt k2 : Nat} {env : Env} (hk : env.scope.kind = .function) (hx : env.scope.names.lookup x = some .local) (hy : env.scope.names.lookup y = some .local) (hz : env.scope.names.lookup z = some .local) (h : par3 x px y py z pz a b c = true) :
    swappedStores [.Tuple [.Name x px, .Name y py, .Name z pz] kt pt] (.Tuple [a, b, c] k2 pt2) env = pure (some [x, y, z]) := by
  unfold par3 at h
  simp only [Bool.and_eq_true, decide_eq_true_eq, Bool.not_eq_true'] at h
  obtain ⟨h1, h1', h2, h2', h2'', h3, h4, h4', h5, h6⟩ := h
  have kx : env.kindOf x = some .local := hx
  have ky : env.kindOf y = some .local := hy
  have kz : env.kindOf z = some .local := hz
  have hb : env.blockKind = .function := by unfold Env.blockKind; rw [hk]; rfl
  have yx : (y == x) = false := by simpa using fun z => h2 z.symm
  have zx : (z == x) = false := by simpa using fun z => h2' z.symm
  have zy : (z == y) = false := by simpa using fun z => h2'' z.symm
  have f1 : ([a, b, c] : List Expr).all (foldedForSure 8) = false := by simpa using h5
  have f2 : ([a, b, c] : List Expr).all (constantsAlone 8) = false := by simpa using h6
  have st : ([a, b, c] : List Expr).any isStar = false := by
    rw [List.any_cons, List.any_cons, List.any_cons, List.any_nil, star_f h3, star_f h4, star_f h4'] <;> rfl
  unfold swappedStores
  dsimp only
  refine (if_neg (fun z => ?_)).trans ?_
  · simp [hb] at z
  refine (if_neg (fun z => ?_)).trans ?_
  · have z' : ([a, b, c] : List Expr).any isStar = true := z
    rw [st] at z'
    cases z'
  rw [f1, f2]
  simp [List.filterMap_cons, show (Expr.Name x px).pos = px from rfl, kx, ky, kz, h1, h1', List.eraseDups_cons, yx, zx, zy]
end Nl
end
section
set_option maxRecDepth 100000
set_option maxHeartbeats 8000000
/-! Nl.SndT: statements: the check and its soundness. -/
namespace Nl
open PySem L2 PySem.Spec PyProof.Rows
def locS (sc : Sc) (x : Str) : Bool := match sc.lookup x with
  | some .local => true
  | _ => false
section
variable (T : Tab) (P : Pg) (t : XT) (N : List Str)
def asgLc (sc : Sc) : CT → CE → Expr → Expr → Bool
  | .nm i, .lc mt own elt tg it cond, .Name y py, .ListComp x [⟨g2, i2, ifs, 0⟩] scope cpos => decide (N[i]? = some y) && (locS sc y && (py.line == cpos.line && (!(scope.names.any fun (n, k) => n == y && (k == .local || k == .cell)) && chkE T P t N (.lc mt own elt tg it cond) sc (.ListComp x [⟨g2, i2, ifs, 0⟩] scope cpos))))
  | _, _, _, _ => false
def asgP2 (sc : Sc) : CT → CE → Expr → Expr → Bool
  | .tp [.nm i, .nm j], .tup [a, b], .Tuple [.Name x px, .Name y py] _ _, .Tuple [e1, e2] _ _ => decide (N[i]? = some x) && (decide (N[j]? = some y) && (decide (i ≠ j) && (locS sc x && (locS sc y && (par2 x px y py e1 e2 && (chkE T P t N a sc e1 && chkE T P t N b sc e2))))))
  | _, _, _, _ => false
def asgP3 (sc : Sc) : CT → CE → Expr → Expr → Bool
  | .tp [.nm i, .nm j, .nm l], .tup [a, b, c], .Tuple [.Name x px, .Name y py, .Name z pz] _ _, .Tuple [e1, e2, e3] _ _ => decide (N[i]? = some x) && (decide (N[j]? = some y) && (decide (N[l]? = some z) && (decide (i ≠ j) && (decide (i ≠ l) && (decide (j ≠ l) && (locS sc x && (locS sc y && (locS sc z && (par3 x px y py z pz e1 e2 e3 && (chkE T P t N a sc e1 && (chkE T P t N b sc e2 && chkE T P t N c sc e3)))))))))))
  | _, _, _, _ => false
mutual
def chkS : CS → Sc → Stmt → Bool
  | .asgN tg c, sc, s => match s with
    | .Assign [g] v _ => (noStar g && (swNone g v && ((noComp v || noName g) && (chkT N sc tg g && chkE T P t N c sc v)))) || (asgLc T P t N sc tg c g v || (asgP2 T P t N sc tg c g v || asgP3 T P t N sc tg c g v))
    | _ => false
  | .asgA o f c, sc, s => match s with
    | .Assign [.Attribute x g _] v _ => decide (f = g) && (chkE T P t N o sc x && chkE T P t N c sc v)
    | _ => false
  | .asgS o i c, sc, s => match s with
    | .Assign [.Subscript x y _] v _ => noSlice y && (chkE T P t N o sc x && (chkE T P t N i sc y && chkE T P t N c sc v))
    | _ => false
  | .augN i op c, sc, s => match s with
    | .AugAssign (.Name x _) o v _ => decide (N[i]? = some x) && (stoS sc x && (decide (op = .Add) && (decide (o = op) && chkE T P t N c sc v)))
    | _ => false
  | .augA _ _ _ _, _, _ => false
  | .augS _ _ _ _, _, _ => false
  | .expr c, sc, s => match s with
    | .Expr v _ => noComp v && chkE T P t N c sc v
    | _ => false
  | .ret c, sc, s => match s with
    | .Return (some v) _ => chkE T P t N c sc v
    | _ => false
  | .retN, sc, s => match s with
    | .Return none _ => true
    | _ => false
  | .ife c a b, sc, s => match s with
    | .If v xs ys _ => chkE T P t N c sc v && (chkSs a sc xs && chkSs b sc ys)
    | _ => false
  | .for_ tg it body, sc, s => match s with
    | .For g i xs [] _ => noSet i && (chkT N sc tg g && (chkI T P t N it sc g i && chkSs body sc xs))
    | _ => false
  | .whl c body, sc, s => match s with
    | .While v xs [] _ => chkE T P t N c sc v && chkSs body sc xs
    | _ => false
  | .pass, _, s => match s with
    | .Pass _ => true
    | .Expr (.Constant (.str _) _ _) _ => true
    | _ => false
  | .brk, _, s => match s with
    | .Break _ => true
    | _ => false
  | .cont, _, s => match s with
    | .Continue _ => true
    | _ => false
  | .never, _, _ => true
def chkSs : List CS → Sc → List Stmt → Bool
  | [], _, ss => ss.isEmpty
  | c :: cs, sc, ss => match ss with
    | s :: ss => chkS c sc s && chkSs cs sc ss
    | [] => false
end
end
section
variable {S : Sx} {P : Pg} {C : CallF} {k w : Nat} {T : Tab} {t : XT} {N : List Str} {X : Cx} {sc : Sc}
theorem locS_ok (G : Gd S P C k T t N sc X) {x : Str} (h : locS sc x = true) : X.env.scope.names.lookup x = some .local := by
  unfold locS at h
  split at h
  · rename_i e; exact G.loc x e
  · cases h
theorem asgLc_ok (G : Gd S P C k T t N sc X) {tg : CT} {c : CE} {g v : Expr} {pos : Pos} (h : asgLc T P t N sc tg c g v = true) : PS X (.Assign [g] v pos) (tS S P C w (.asgN tg c)) := by
  unfold asgLc at h
  split at h
  · rename_i i mt own elt tg it cond y py x g2 i2 ifs scope cpos
    simp only [Bool.and_eq_true, decide_eq_true_eq, Bool.not_eq_true'] at h
    obtain ⟨h1, h2, h3, h4, h⟩ := h
    have hl := locS_ok G h2
    unfold chkE at h
    simp only [Bool.and_eq_true, decide_eq_true_eq] at h
    obtain ⟨e1, e2, e3, e4, e5, e6, e7, e8⟩ := h
    have bo := blk_ok G e2
    have main := ps_setLcD (w := w) (mt := mt) (cc := cond) (ifs := ifs) (ce := elt) (elt := x) (pos := pos) (py := py) (cpos := cpos) G.calm (by rw [G.eN]; exact G.nd) (by rw [G.eN]; exact h1) hl (sw_true G.kind hl h3 h4) (chkI_ok it sc g2 i2 X e6 G) bo (by rw [e1]; intro j hj; simpa using List.all_eq_true.mp e3 j hj) (fun s H Ca cl fp => chkT_ok (G.blk bo.kind) tg g2 e4) (fun s H Ca cl fp => by
      cases ifs with
      | nil => rw [isNop_eq e8]; exact pts_nilD
      | cons c cs =>
        cases cs with
        | nil =>
          simp only [Bool.and_eq_true] at e8
          exact pts_oneD (isNop_ne e8.1) (chkE_ok cond scope.names c _ e8.2 (G.blk bo.kind)).2
        | cons _ _ => cases e8) (fun s H Ca cl fp => (chkE_ok elt scope.names x _ e7 (G.blk bo.kind)).1) (set_ok e5)
    rw [e1] at main
    exact main
  · cases h
theorem par2_star {x y : Str} {px py : Pos} {a b : Expr} (h : par2 x px y py a b = true) : noStar a = true ∧ noStar b = true := by
  unfold par2 at h
  simp only [Bool.and_eq_true] at h
  exact ⟨h.2.2.1, h.2.2.2.1⟩
theorem par3_star {x y z : Str} {px py pz : Pos} {a b c : Expr} (h : par3 x px y py z pz a b c = true) : noStar a = true ∧ noStar b = true ∧ noStar c = true := by
  unfold par3 at h
  simp only [Bool.and_eq_true] at h
  exact ⟨h.2.2.2.2.2.1, h.2.2.2.2.2.2.1, h.2.2.2.2.2.2.2.1⟩
theorem asgP2_ok (G : Gd S P C k T t N sc X) {tg : CT} {c : CE} {g v : Expr} {pos : Pos} (h : asgP2 T P t N sc tg c g v = true) : PS X (.Assign [g] v pos) (tS S P C w (.asgN tg c)) := by
  unfold asgP2 at h
  split at h
  · simp only [Bool.and_eq_true, decide_eq_true_eq] at h
    obtain ⟨h1, h2, h3, h4, h5, h6, h7, h8⟩ := h
    have hx := locS_ok G h4
    have hy := locS_ok G h5
    have n1 := par2_star h6
    exact ps_parD G.calm (by rw [G.eN]; exact G.nd) (by rw [G.eN]; exact h1) (by rw [G.eN]; exact h2) h3 hx hy (pa_consD (chkE_ok _ sc _ X h7 G).1 (pa_consD (chkE_ok _ sc _ X h8 G).1 pa_nilD (star_cons n1.2)) (star_cons n1.1)) (par2_ok G.kind hx hy h6)
  · cases h
theorem asgP3_ok (G : Gd S P C k T t N sc X) {tg : CT} {c : CE} {g v : Expr} {pos : Pos} (h : asgP3 T P t N sc tg c g v = true) : PS X (.Assign [g] v pos) (tS S P C w (.asgN tg c)) := by
  unfold asgP3 at h
  split at h
  · simp only [Bool.and_eq_true, decide_eq_true_eq] at h
    obtain ⟨h1, h2, h2', h3, h3', h3'', h4, h5, h5', h6, h7, h8, h9⟩ := h
    have hx := locS_ok G h4
    have hy := locS_ok G h5
    have hz := locS_ok G h5'
    have n1 := par3_star h6
    exact ps_par3D G.calm (by rw [G.eN]; exact G.nd) (by rw [G.eN]; exact h1) (by rw [G.eN]; exact h2) (by rw [G.eN]; exact h2') h3 h3' h3'' hx hy hz (pa_consD (chkE_ok _ sc _ X h7 G).1 (pa_consD (chkE_ok _ sc _ X h8 G).1 (pa_consD (chkE_ok _ sc _ X h9 G).1 pa_nilD (star_cons n1.2.2)) (star_cons n1.2.1)) (star_cons n1.1)) (par3_ok G.kind hx hy hz h6)
  · cases h
theorem clsOk (G : Gd S P C k T t N sc X) : ClsOk S P := fun c K hc => ⟨(G.F.cls c K hc).1, (G.F.cls c K hc).2.1⟩
mutual
theorem chkS_ok (hp : PassesOwn (model X.prog X.w) X.A X.env X.xe) (G : Gd S P C k T t N sc X) : ∀ (c : CS) (s : Stmt), chkS T P t N c sc s = true → PS X s (tS S P C w c)
  | .asgN tg c, s, h => by
    unfold chkS at h
    split at h
    · rename_i g v pos
      simp only [Bool.or_eq_true] at h
      rcases h with h | h | h | h
      · simp only [Bool.and_eq_true] at h
        obtain ⟨h1, h2, h3, h4, h5⟩ := h
        refine ps_asgD (chkE_ok c sc v X h5 G).1 (chkT_ok G tg g h4) ?_ (swn_ok h2) (by rw [asgn_cons h1]; rfl)
        show swapsWith v (some g) _ _ = _
        rcases Bool.or_eq_true_iff.mp h3 with q | q
        · exact sw_no q
        · exact sw_nn q
      · exact asgLc_ok G h
      · exact asgP2_ok G h
      · exact asgP3_ok G h
    · cases h
  | .asgA o f c, s, h => by
    unfold chkS at h
    split at h
    · simp only [Bool.and_eq_true, decide_eq_true_eq] at h
      obtain ⟨h1, h2, h3⟩ := h
      subst h1
      exact ps_asgAD G.eK (clsOk G) (chkE_ok c sc _ X h3 G).1 (chkE_ok o sc _ X h2 G).1 (sw_nn rfl)
    · cases h
  | .asgS o i c, s, h => by
    unfold chkS at h
    split at h
    · rename_i x y p2 v pos
      simp only [Bool.and_eq_true] at h
      obtain ⟨h1, h2, h3, h4⟩ := h
      refine ps_asgSD G.room.units (chkE_ok c sc _ X h4 G).1 (chkE_ok o sc _ X h2 G).1 (chkE_ok i sc _ X h3 G).1 (show swapsWith v (some (.Subscript x y p2)) pos.line X.env = pure false from sw_nn rfl) (swn_ok (by cases v <;> rfl)) ?_
      intro u
      cases y <;> first | rfl | cases h1
    · cases h
  | .augN i op c, s, h => by
    unfold chkS at h
    split at h
    · simp only [Bool.and_eq_true, decide_eq_true_eq] at h
      obtain ⟨h1, h2, h3, h4, h5⟩ := h
      subst h4
      obtain ⟨q1, q2⟩ := stoS_ok G h2
      exact ps_augND (by rw [G.eN]; exact G.nd) (by rw [G.eN]; exact h1) q1 (chkE_ok c sc _ X h5 G).1 h3 q2
    · cases h
  | .augA _ _ _ _, s, h => by unfold chkS at h; cases h
  | .augS _ _ _ _, s, h => by unfold chkS at h; cases h
  | .expr c, s, h => by
    unfold chkS at h
    split at h
    · simp only [Bool.and_eq_true] at h
      exact ps_exprD (sw_no h.1) (chkE_ok c sc _ X h.2 G).1
    · cases h
  | .ret c, s, h => by
    unfold chkS at h
    split at h
    · exact ps_retD (chkE_ok c sc _ X h G).1
    · cases h
  | .retN, s, h => by
    unfold chkS at h
    split at h
    · exact ps_retND
    · cases h
  | .ife c a b, s, h => by
    unfold chkS at h
    split at h
    · simp only [Bool.and_eq_true] at h
      exact ps_ifD (chkE_ok c sc _ X h.1 G).2 (chkSs_ok hp G a _ h.2.1) (chkSs_ok hp G b _ h.2.2)
    · cases h
  | .for_ tg it body, s, h => by
    unfold chkS at h
    split at h
    · simp only [Bool.and_eq_true] at h
      exact ps_forD hp G.calm (chkI_ok it sc _ _ X h.2.2.1 G) (chkT_ok G tg _ h.2.1) (chkSs_ok hp G body _ h.2.2.2) (set_ok h.1)
    · cases h
  | .whl c body, s, h => by
    unfold chkS at h
    split at h
    · simp only [Bool.and_eq_true] at h
      exact ps_whlD hp (chkE_ok c sc _ X h.1 G).2 (chkSs_ok hp G body _ h.2)
    · cases h
  | .pass, s, h => by
    unfold chkS at h
    split at h
    · exact ps_passD
    · exact ps_docD
    · cases h
  | .brk, s, h => by
    unfold chkS at h
    split at h
    · exact ps_brkD
    · cases h
  | .cont, s, h => by
    unfold chkS at h
    split at h
    · exact ps_contD
    · cases h
  | .never, s, h => ps_neverD
theorem chkSs_ok (hp : PassesOwn (model X.prog X.w) X.A X.env X.xe) (G : Gd S P C k T t N sc X) : ∀ (cs : List CS) (ss : List Stmt), chkSs T P t N cs sc ss = true → PSs X ss (tSs S P C w cs)
  | [], ss, h => by
    unfold chkSs at h
    cases ss with
    | nil => exact pss_nilD
    | cons _ _ => cases h
  | c :: cs, ss, h => by
    cases ss with
    | nil => unfold chkSs at h; cases h
    | cons s ss =>
      unfold chkSs at h
      rw [Bool.and_eq_true] at h
      exact pss_consD (chkS_ok hp G c s h.1) (chkSs_ok hp G cs ss h.2)
end
end
end Nl
end
section
set_option maxRecDepth 100000
set_option maxHeartbeats 4000000
/-! Nl.Def: the text's defs keep what callF says, to any depth. -/
namespace Nl
open PySem L2 PySem.Spec PyProof.Rows
def scopeB (N ps : List Str) (sc : Scope) : Bool :=
  (match sc.kind with | .function => true | _ => false) && (!sc.isCoroutine && (!sc.isGenerator && (decide N.Nodup && (decide (N.take ps.length = ps) && ((ps.all fun x => match sc.names.lookup x with
    | some .local => true
    | some .cell => true
    | _ => false) && sc.names.all fun y => match y.2 with | .free => false | _ => true)))))
theorem scopeB_ok {N ps : List Str} {sc : Scope} (h : scopeB N ps sc = true) : FnScope N ps sc := by
  unfold scopeB at h
  simp only [Bool.and_eq_true, decide_eq_true_eq, Bool.not_eq_true', List.all_eq_true] at h
  obtain ⟨h1, h2, h3, h4, h5, h6, h7⟩ := h
  refine ⟨?_, h2, h3, h4, h5, fun x hx => ?_, fun y hy => ?_⟩
  · split at h1
    · assumption
    · cases h1
  · have q := h6 x hx
    split at q
    · left; assumption
    · right; assumption
    · cases q
  · have q := h7 y hy
    intro e
    rw [e] at q
    cases q
section
variable {prog : Program} {wd : World} {mg : Str → Option Value} {base : Heap} {S : Sx} {P : Pg} {T : Tab} {t : XT} {w k : Nat}
theorem env_start {W : Wd} {H : Hp} {ds : List D} {vs : List V} {n : Nat} (r : Reps S W H ds vs) : EnvRel S W H (ds.map some ++ List.replicate n none) (vs.map some ++ List.replicate n none) := by
  have hl := r.len
  refine ⟨by simp [hl], fun i d e => ?_⟩
  by_cases hi : i < ds.length
  · rw [List.getElem?_append_left (by simpa using hi), List.getElem?_map] at e
    cases hd : ds[i]? with
    | none => rw [hd] at e; cases e
    | some d' =>
      rw [hd] at e
      cases e
      obtain ⟨v, hv, rv⟩ := r.get hd
      refine ⟨v, ?_, rv⟩
      rw [List.getElem?_append_left (by simpa [← hl] using hi), List.getElem?_map, hv]
      rfl
  · rw [List.getElem?_append_right (by simpa using hi), List.getElem?_replicate] at e
    split at e <;> cases e
theorem runB_inv {C : CallF} {F : FnI} {ds : List D} {M M' : Mem} {d : D} (h : runB P C w F ds M = some (d, M')) : ∃ fl, exSs P C w F.body (ds.map some ++ List.replicate (F.ns - ds.length) none) M = some (fl, M') ∧ (fl = .rt d ∨ (∃ env, fl = .nx env ∧ d = .non)) := by
  unfold runB at h
  obtain ⟨fl, M1, e1, e2⟩ := bE_inv h
  cases fl with
  | rt d' => cases e2; exact ⟨_, e1, .inl rfl⟩
  | nx env => cases e2; exact ⟨_, e1, .inr ⟨env, rfl, rfl⟩⟩
  | bk _ => cases e2
  | ct _ => cases e2
/-- one def, one level up -/
theorem def_step {f : Nat} {Fi : FnI} {fd : FuncData} {x qual : Str} {params : Arguments} {body : List Stmt} {scope : Scope} {dvs : List V} {kws : List (Str × V)} {N ps : List Str} (hF : P.fns[f]? = some Fi) (hp : Fi.pure = false)
    (FD : FunD S.K x qual params body scope dvs kws (S.fa f) fd) (sc : FnScope N ps scope) (ck : chkSs T P t N Fi.body scope.names body = true) (hnp : Fi.np = ps.length) (hns : Fi.ns = N.length)
    (HF : Facts prog wd mg base S P (callF P w k) (k + 1) T) (XF : XFacts prog wd mg base S P (k + 1) t) : FnOk prog wd S.K mg base CX0 (2 * (k + 2)) (S.fa f) fd ps (spI S (callF P w (k + 1)) f Fi.np) := by
  have e2 : 2 * (k + 2) = (2 * (k + 1) + 1) + 1 := by omega
  rw [e2]
  refine FD.ok sc (fun vs H Q E h => ?_) fun cdv A outer s H vs Q E hr h => ⟨tSs S P (callF P w k) w Fi.body, PSs.nox ?_, ?_⟩
  · obtain ⟨W, M, ds, d, M', m, r, hl, _⟩ := h
    rw [← r.len, hl, hnp]
  · refine chkSs_ok (k := k + 1) (T := T) (t := t) (N := N) (sc := scope.names) PassesOwn.never ?_ Fi.body body ck
    exact ⟨rfl, rfl, sc.nd, HF, XF, hr, rfl, sc.kind, fun x e => e, fun x e => ⟨e, rfl⟩, fun x e => .inr e, fun x e => e⟩
  · obtain ⟨W, M, ds, d, M', m, r, hl, e, q⟩ := h
    unfold callF at e
    rw [hF, bO_some, if_pos hl, hp, if_neg Bool.false_ne_true] at e
    obtain ⟨fl, e1, hfl⟩ := runB_inv e
    refine ⟨W, _, M, fl, M', ?_, m, e1, fun W' H' x => ?_⟩
    · have := env_start (n := Fi.ns - ds.length) r
      unfold L2.start
      rw [hns, r.len] at this
      rw [hns, r.len]
      exact this
    · rcases hfl with rfl | ⟨env, rfl, rfl⟩
      · exact fun v rv => q W' H' v x rv
      · exact fun σ _ => q W' H' .non x Rep.non
/-- what the written part says of the text, at every level -/
structure Stat (prog : Program) (wd : World) (mg : Str → Option Value) (base : Heap) (S : Sx) (P : Pg) (T : Tab) (t : XT) : Prop where
  fn : ∀ f F, P.fns[f]? = some F → F.pure = false ∧ ∃ (fd : FuncData) (x qual : Str) (params : Arguments) (body : List Stmt) (scope : Scope) (dvs : List V) (kws : List (Str × V)) (N : List Str), FunD S.K x qual params body scope dvs kws (S.fa f) fd ∧ FnScope N (T.par f) scope ∧ chkSs T P t N F.body scope.names body = true ∧ F.np = (T.par f).length ∧ F.ns = N.length ∧
    ∀ n kix, T.shp f n kix = true → ShapeOk S F fd (T.par f) n kix (kix.filterMap fun j => (T.par f)[j]?)
  nm : ∀ f x, T.fnm f = some x → mg x = some (.ref (S.fa f))
  cls : ∀ c K, P.cls[c]? = some K → Cls S.K (S.ca c) ∧ (∀ f ∈ K.flds, NoAttr S.K (S.ca c) f) ∧ (∀ m f, K.mths.lookup m = some f → Meth S.K (S.ca c) m (S.fa f)) ∧ Mk S.K (S.ca c) (S.fa K.init)
  cnm : ∀ c x, T.cnm c = some x → mg x = some (.ref (S.ca c))
  glb : GlbOk S P mg
  x : ∀ k, XFacts prog wd mg base S P (k + 1) t
theorem Stat.facts (st : Stat prog wd mg base S P T t) (w : Nat) : ∀ k, Facts prog wd mg base S P (callF P w k) (k + 1) T
  | 0 => by
    refine ⟨fun f F hF => ?_, st.nm, st.cls, st.cnm, st.glb⟩
    obtain ⟨_, fd, x, qual, params, body, scope, dvs, kws, N, FD, _, _, _, _, sh⟩ := st.fn f F hF
    refine ⟨fd, ⟨fun vs H Q E h => ?_, fun A outer s H args us vs Q E _ _ _ _ h => ?_⟩, FD.kp, sh⟩
    · obtain ⟨_, _, _, _, _, _, _, _, e, _⟩ := h
      cases e
    · obtain ⟨_, _, _, _, _, _, _, _, e, _⟩ := h
      cases e
  | k + 1 => by
    refine ⟨fun f F hF => ?_, st.nm, st.cls, st.cnm, st.glb⟩
    obtain ⟨hp, fd, x, qual, params, body, scope, dvs, kws, N, FD, sc, ck, hnp, hns, sh⟩ := st.fn f F hF
    exact ⟨fd, def_step hF hp FD sc ck hnp hns (st.facts w k) (st.x k), FD.kp, sh⟩
/-! ### shapes of calls -/
theorem bindA_all {dfl : List (Option D)} {np : Nat} {ds as : List D} (hl : ds.length = np) (h : bindA dfl np ds [] [] = some as) : as = ds := by
  unfold bindA at h
  rw [if_pos (by omega)] at h
  have key : ∀ (m i : Nat), i + m = ds.length → (List.range' i m).foldr (fun j acc => bO acc fun l => bO (if j < ds.length then ds[j]? else match (([] : List Nat).zip ([] : List D)).find? (fun p => p.1 == j) with
    | some p => some p.2
    | none => (dfl[j]?).join) fun d => some (d :: l)) (some []) = some (ds.drop i) := by
    intro m
    induction m with
    | zero => intro i hi; rw [List.range'_zero, List.foldr_nil, List.drop_eq_nil_of_le (by omega)]
    | succ m ih =>
      intro i hi
      rw [List.range'_succ, List.foldr_cons, ih (i + 1) (by omega), bO_some, if_pos (by omega), List.getElem?_eq_getElem (by omega), bO_some]
      rw [← List.drop_eq_getElem_cons]
  rw [List.range_eq_range'] at h
  exact (Option.some.inj ((key np 0 (by omega)).symm.trans h)).symm
theorem shape_all {F : FnI} {fd : FuncData} {ps : List Str} (b : Binds S.K fd ps []) (hn : F.np = ps.length) : ShapeOk S F fd ps ps.length [] [] := by
  refine ⟨fun us _ => us, fun vs _ => vs, ⟨fun s us ws X l1 l2 => ?_, fun r1 _ => r1⟩, fun W H ds ks as vs zs hl e r rk hk => ?_⟩
  · have := b s us X (by rw [List.append_nil]; exact l1)
    rw [List.append_nil] at this
    exact this
  · have hk0 : ks = [] := by simpa using hk
    subst hk0
    have := bindA_all (by rw [hl, hn]) e
    subst this
    exact ⟨r, by rw [hl, hn]⟩
end
end Nl
end
section
set_option maxRecDepth 100000
set_option maxHeartbeats 4000000
/-! Nl.Head: facts of the text by a look at the heap behind its top; exceptions' facts. -/
namespace Nl
open PySem L2 PySem.Spec PyProof.Rows
/-! ### a hook with a look of one's own -/
def obsX (fa : List He.Fa) (fn : List He.DefD) (xb : PySem.W.Frag → Bool) (K : PySem.W.Frag) : He.AlD := (((fa.all fun f => f.ok K) && fn.all fun d => d.ok K) && xb K, fn.map fun d => He.fnW K d.at_)
def SaysX (fa : List He.Fa) (fn : List He.DefD) (xb : PySem.W.Frag → Bool) (K : PySem.W.Frag) : Prop := obsX fa fn xb K = He.valD fn
def obsXG (n : Nat) (fa : List He.Fa) (fn : List He.DefD) (xb : PySem.W.Frag → Bool) (g : Addr → Option Obj) : He.AlD := obsX fa fn xb (He.frG g (He.asD g n ++ [cStatics]))
def hookX (n : Nat) (fa : List He.Fa) (fn : List He.DefD) (xb : PySem.W.Frag → Bool) : PySem.W.Hook where
  α := He.AlD
  obs := fun s => obsXG n fa fn xb s.heap.get?
  val := fun _ => He.valD fn
  says := fun _ h => ∃ K : PySem.W.Frag, K.In h ∧ SaysX fa fn xb K
  of := fun _ _ e => ⟨_, He.frG_in, e⟩
  keeps := fun _ _ _ ⟨K, hK, c⟩ k => ⟨K, PySem.W.Frag.In.keeps hK k, c⟩
theorem obsXG_eq {n : Nat} {fa : List He.Fa} {fn : List He.DefD} {xb : PySem.W.Frag → Bool} {g : Addr → Option Obj} {s : Shared} (h : ∀ a, g a = s.heap.get? a) : obsXG n fa fn xb g = (hookX n fa fn xb).obs s := by
  have e : g = s.heap.get? := funext h
  rw [e] <;> rfl
section
variable {fa : List He.Fa} {fn : List He.DefD} {xb : PySem.W.Frag → Bool} {K : PySem.W.Frag}
theorem SaysX.says (c : SaysX fa fn xb K) : He.SaysD fa fn K ∧ xb K = true := by
  have c1 : (((fa.all fun f => f.ok K) && fn.all fun d => d.ok K) && xb K) = true := congrArg (fun z : He.AlD => z.1) c
  have c2 : (fn.map fun d => He.fnW K d.at_) = fn.map He.DefD.val := congrArg (fun z : He.AlD => z.2) c
  rw [Bool.and_eq_true] at c1
  refine ⟨?_, c1.2⟩
  unfold He.SaysD He.obsD He.valD
  rw [c1.1, c2]
end
/-! ### lists of the written part are plain -/
def plainLs (K : PySem.W.Frag) : Bool := K.all fun p => match p.2.cls with
  | .type n => !(n == "list") || p.2.slots.size == 0
  | _ => true
theorem lookup_mem {a : Addr} {o : Obj} : ∀ {K : PySem.W.Frag}, K.lookup a = some o → (a, o) ∈ K
  | [], h => by simp at h
  | (b, u) :: r, h => by
    rw [List.lookup_cons] at h
    cases hb : a == b with
    | true =>
      rw [hb] at h
      cases h
      rw [beq_iff_eq.mp hb]
      exact List.mem_cons_self ..
    | false =>
      rw [hb] at h
      exact List.mem_cons_of_mem _ (lookup_mem h)
theorem plain_ok {K : PySem.W.Frag} (h : plainLs K = true) {a : Addr} {o : Obj} {its : Array Value} {n : Nat} (e : K.lookup a = some o) (hc : o.cls = .type "list") (hd : o.dict = none) (hs : o.data = .seq its n) : o = { cls := .type "list", data := .seq its n } := by
  have q := List.all_eq_true.mp h _ (lookup_mem (K := K) e)
  obtain ⟨oc, od, dt, sl⟩ := o
  dsimp only at hc hd hs q
  subst hc hd hs
  have q : (!("list" == "list") || sl.size == 0) = true := q
  have : sl = #[] := by
    have q2 : sl.size = 0 := by simpa using q
    exact Array.eq_empty_of_size_eq_zero q2
  rw [this]
theorem rdl_of {K : PySem.W.Frag} (h : plainLs K = true) {H : Hp} {a : Addr} {vs : List V} (s : SqL K H a vs) : RdL K H a vs := by
  rcases s with s | ⟨o, its, n, e, hc, hd, hs, hz, r⟩
  · exact .inl s
  · exact .inr ⟨its, n, by rw [e, plain_ok h e hc hd hs], hz, r⟩
/-! ### exceptions -/
def excCB (K : PySem.W.Frag) (D : Addr) : Bool :=
  decide (PySem.W.findIn K (.ref D) "__getattribute__" = some (some (.builtin "BaseException.__getattribute__"))) && (decide (PySem.W.findIn K (.ref D) "__getattr__" = some none) && (decide (PySem.W.subIn K (.ref D) (.type "BaseException") = some true) && (PySem.W.hasDictIn K D && (decide (PySem.W.findIn K (.ref D) "__class__" = some (some (.builtin "object.__class__"))) &&
    (decide (PySem.W.specialIn K (.builtin "object.__class__") "__get__" = some (some (.builtin "getset_descriptor.__get__"))) && (decide (PySem.W.takesIn K (.builtin "object.__class__") = some true) && decide (PySem.W.mroIn K D (.type "object") = some true)))))))
theorem excCB_ok {K : PySem.W.Frag} {D : Addr} (h : excCB K D = true) : L2.ExcC K D := by
  unfold excCB at h
  simp only [Bool.and_eq_true, decide_eq_true_eq] at h
  obtain ⟨h1, h2, h3, h4, h5, h6, h7, h8⟩ := h
  exact ⟨h1, h2, h3, h4, h5, h6, h7, h8⟩
def oexB (K : PySem.W.Frag) (C : Addr) : Bool :=
  (match K.lookup C with
  | some ⟨.type "type", _, .cls cd, sl⟩ => (match cd.mro, sl.toList with
    | .ref C' :: bm, [_, _, _, _, some (.builtin n), _] => C' == C && (n == "ValueError.__new__" && (!cd.hasDel && (cd.hasDict && PySem.HandSPX.refsVE bm)))
    | _, _ => false)
  | _ => false) && (decide (PySem.W.findIn K (.ref C) "__setattr__" = some (some (.builtin "object.__setattr__"))) && (decide (PySem.W.subIn K (.ref C) (.type "BaseException") = some true) && (decide (PySem.W.typeIn K (.ref C) = some (.type "type")) && PySem.W.keepIn K (.ref C))))
theorem oexB_ok {K : PySem.W.Frag} {C : Addr} (h : oexB K C = true) : OexC K C := by
  unfold oexB at h
  simp only [Bool.and_eq_true, decide_eq_true_eq] at h
  obtain ⟨h1, h2, h3, h4, h5⟩ := h
  refine ⟨?_, h2, h3, h4, h5⟩
  split at h1
  · rename_i dd cd sl ho
    split at h1
    · rename_i C' bm k0 k1 k2 k3 n k5 hm hs
      simp only [Bool.and_eq_true, beq_iff_eq, Bool.not_eq_true'] at h1
      obtain ⟨rfl, rfl, hdel, hdict, hve⟩ := h1
      obtain ⟨nm, bs, mro, ns, qn, hd, sn, sub, ab, col, del⟩ := cd
      dsimp only at hm hdel hdict
      subst hm hdel hdict
      have hsl : sl = #[k0, k1, k2, k3, some (.builtin "ValueError.__new__"), k5] := by
        obtain ⟨l⟩ := sl
        simp only at hs
        rw [hs]
      subst hsl
      exact ⟨nm, qn, ns, bs, bm, sn, sub, ab, col, dd, k0, k1, k2, k3, k5, ho, hve⟩
    · cases h1
  · cases h1
def xcpB (K : PySem.W.Frag) (C : Addr) : Bool := PySem.W.excIn K C veB "ValueError.__new__" && PySem.W.keepIn K (.ref C)
theorem xcpB_ok {K : PySem.W.Frag} {C : Addr} (h : xcpB K C = true) : XcP K C := by
  unfold xcpB at h
  rw [Bool.and_eq_true] at h
  exact ⟨h.1, h.2⟩
/-- C.__init__(self, ..) is ValueError's -/
def laB (K : PySem.W.Frag) (C : Addr) : Bool := decide (PySem.W.specialIn K (.ref C) "__getattribute__" = some (some (.builtin "type.__getattribute__"))) && (PySem.W.readsIn K C (.type "type") && (match PySem.W.findCls K (.ref C) (.type "type") "__init__" with
  | some (.val (.builtin n)) => n == "ValueError.__init__"
  | _ => false))
theorem laB_ok {K : PySem.W.Frag} {C : Addr} (h : laB K C = true) : PySem.W.specialIn K (.ref C) "__getattribute__" = some (some (.builtin "type.__getattribute__")) ∧ PySem.W.readsIn K C (.type "type") = true ∧ PySem.W.findCls K (.ref C) (.type "type") "__init__" = some (.val (.builtin "ValueError.__init__")) := by
  unfold laB at h
  simp only [Bool.and_eq_true, decide_eq_true_eq] at h
  obtain ⟨h1, h2, h3⟩ := h
  refine ⟨h1, h2, ?_⟩
  split at h3
  · rename_i n e
    rw [e, beq_iff_eq.mp h3]
  · cases h3
section
variable {X : Cx} {e : Expr} {es : List Expr} {ta : TA} {p1 p2 pos : Pos} {x : Str} {CL : Addr}
/-- C.__init__(self, ..), C an own exception class without an own __init__ -/
theorem pe_lainit {pl : Sem Bool} (hg : Gl X x) (hm : X.mg x = some (.ref CL)) (hd : (x == ("__debug__" : Str)) = false) (la : laB X.K CL = true) (ha : PA X (e :: es) ta)
    (hc : eval (.Call (.Attribute (.Name x p1) "__init__" p2) (e :: es) [] pos) X.env = (do
      let ov ← eval (.Name x p1) X.env
      standAt p2.atName
      let (f, first) ← holding [ov] (getMethod ov "__init__" pl)
      callWith pos f first (backTo pos (starEach (e :: es) X.env)) (backToKw pos (keywordEach [] X.env))) := by rfl)
    (he : starEach (e :: es) X.env = (false, eval e X.env) :: starEach es X.env := by rfl) (hpl : (backTo pos (starEach es X.env)).any (·.1) = false := by rfl) :
    PE X (.Call (.Attribute (.Name x p1) "__init__" p2) (e :: es) [] pos) (tVeI X.K ta) := by
  refine ⟨fun pins s σ H Q I h => ?_⟩
  obtain ⟨l1, l2, l3⟩ := laB_ok la
  refine PySem.W.methodCall_KW (ld_glob I hg hm ?_ hd) hc
  refine PySem.W.method_cls I.kIn l1 (PySem.W.cls_value I.kIn l2 l3 (by decide +kernel) ?_)
  show wpAny _ _ (callWith pos (Value.builtin "ValueError.__init__") [] (backTo pos (starEach (e :: es) X.env)) []) _ _ _
  refine PyProof.Rows.callWith_method1 (thn (ha.run pos pins _ σ H _ (I.tok _) h) fun us s1 ⟨vs, H1, I1, r1, a, C, ws, ev, hl, T, ea, q⟩ => ?_) he hpl
  subst ev
  cases r1 with
  | @cons _ u0 _ ur ra rw' =>
    obtain rfl : u0 = Value.ref a := ra
    have hlen : ur.length ≤ sizeLine := by
      rw [← Paired.length rw', sizeLine_eq]
      omega
    exact oinit_ok T I1 ea hlen fun s' J => ⟨.non, H1, J, rfl, q⟩
end
end Nl
end
section
set_option maxRecDepth 100000
set_option maxHeartbeats 4000000
/-! Nl.Law: a law's text as a table; from its checks to the law. -/
namespace Nl
open PySem L2 PySem.Spec PyProof.Rows
/-- a text: names of its defs and classes, its core form, its parameters, its tables, its defs as they stand and all their names -/
structure Txt where
  fnames : List Str
  cnames : List Str
  P : Pg
  par : List (List Str)
  xt : XT
  di : List (He.DefD × List Str)
namespace Txt
variable (X : Txt)
def S (K : PySem.W.Frag) : Sx := ⟨K, fun f => He.ga K (X.fnames.getD f Str.empty), fun c => He.ga K (X.cnames.getD c Str.empty)⟩
def T : Tab := ⟨fun f => X.fnames[f]?, fun f => X.par.getD f [], fun _ => none, fun f n kix => decide (n = (X.par.getD f []).length) && kix.isEmpty⟩
def fa : List He.Fa := (X.fnames ++ X.cnames).map He.Fa.glo ++ X.xt.blt.map He.Fa.free
def cv (K : PySem.W.Frag) (x : Str) : Value := if X.cnames.contains x then .ref (He.ga K x) else .type "ValueError"
def xopB (K : PySem.W.Frag) : Bool := X.xt.xop.all fun q => (X.cnames.contains q.1 || (decide (q.1 = ("ValueError" : Str)) && X.xt.blt.contains q.1)) &&
  ((q.2.1.all fun c => excCB K ((X.S K).ca c) && decide (PySem.W.kitOne K (.ref ((X.S K).ca c)) (X.cv K q.1) = some true)) && q.2.2.all fun c => excCB K ((X.S K).ca c) && decide (PySem.W.kitOne K (.ref ((X.S K).ca c)) (X.cv K q.1) = some false))
def xb (K : PySem.W.Frag) : Bool := plainLs K && ((X.xt.xnm.all fun q => decide (X.cnames[q.1]? = some q.2) && xcpB K ((X.S K).ca q.1)) && (X.xopB K && (X.P.xfl.all fun q => He.eqO (PySem.W.findIn K (.ref ((X.S K).ca q.1)) q.2) (some none) && xfB K ((X.S K).ca q.1))))
/-- each def reads as its core form -/
def defB (f : Nat) : Bool := match X.P.fns[f]?, X.di[f]? with
  | some F, some d => !F.pure && (scopeB d.2 (X.par.getD f []) d.1.scope && (chkSs X.T X.P X.xt d.2 F.body d.1.scope.names d.1.body && (decide (F.np = (X.par.getD f []).length) && (decide (F.ns = d.2.length) && (decide (d.1.at_ = (X.fnames.getD f Str.empty, none)) && (d.1.dfl.isEmpty && d.1.kwd.isEmpty))))))
  | _, _ => false
def ok : Bool := X.P.cls.isEmpty && (X.P.glb.isEmpty && (decide (X.P.fns.length ≤ X.fnames.length) && (List.range X.P.fns.length).all X.defB))
variable {X : Txt} {prog : Program} {wd : World} {mg : Str → Option Value} {base : Heap} {K : PySem.W.Frag} {h : Heap}
theorem says_fa {fa : List He.Fa} {fn : List He.DefD} (c : He.SaysD fa fn K) : ∀ f ∈ fa, f.ok K = true := by
  have c1 := (He.ba (show ((fa.all fun f => f.ok K) && fn.all fun d => d.ok K) = true from congrArg (fun z : He.AlD => z.1) c)).1
  exact List.all_eq_true.mp c1
theorem stat {fn : List He.DefD} (hok : X.ok = true) (KX : K.In h) (G : h.Ns mainGlobals mg) (c : He.SaysD X.fa fn K) (hfn : ∀ (i : Nat) (d : He.DefD × List Str), X.di[i]? = some d → fn[i]? = some d.1) (xb : X.xb K = true)
    (hb : ∀ (f : Nat) (F : FnI) (d : He.DefD × List Str), X.P.fns[f]? = some F → X.di[f]? = some d → ∀ fd, FunD K d.1.name d.1.qual d.1.params d.1.body d.1.scope [] [] ((X.S K).fa f) fd → Binds K fd (X.par.getD f []) [])
    (hin : ∀ k c x f, X.xt.xin.contains (c, x, f) = true → mg x = some (.ref ((X.S K).ca c)) ∧ OexC K ((X.S K).ca c) ∧ ∃ fI fd ps, PySem.W.findIn K (.ref ((X.S K).ca c)) "__init__" = some (some (.ref fI)) ∧ PySem.W.typeIn K (.ref fI) = some (.type "function") ∧ FnOk prog wd K mg base CX0 (2 * (k + 1)) fI fd ps (spX ((X.S K).ca c) f) ∧ Binds K fd ps []) :
    Stat prog wd mg base (X.S K) X.P X.T X.xt := by
  unfold ok at hok
  simp only [Bool.and_eq_true, decide_eq_true_eq, List.all_eq_true, List.mem_range, List.isEmpty_iff] at hok
  obtain ⟨hcls, hglb, hlen, hdef⟩ := hok
  have glo : ∀ x, x ∈ X.fnames ∨ x ∈ X.cnames → mg x = some (.ref (He.ga K x)) := fun x hx => He.glo_ok KX G (says_fa c (.glo x) (List.mem_append_left _ (List.mem_map.mpr ⟨x, List.mem_append.mpr hx, rfl⟩)))
  have fre : ∀ x, x ∈ X.xt.blt → mg x = none := fun x hx => He.free_ok KX G (says_fa c (.free x) (List.mem_append_right _ (List.mem_map.mpr ⟨x, hx, rfl⟩)))
  have getD_of : ∀ {l : List Str} {i : Nat} {x : Str}, l[i]? = some x → l.getD i Str.empty = x := fun {l i x} e => by rw [List.getD_eq_getElem?_getD, e]; rfl
  unfold Txt.xb at xb
  simp only [Bool.and_eq_true] at xb
  obtain ⟨_, xb1, xb2, xb3⟩ := xb
  refine ⟨fun f F hF => ?_, fun f x hx => ?_, fun c K hc => ?_, fun c x hx => (by cases hx), fun x d hx => ?_, fun k => ⟨fun x hx => fre x (by simpa using hx), fun c x hx => ?_, fun c x f hx => hin k c x f hx, fun x y n hx => ?_, fun c n hx => ?_⟩⟩
  · have hlt : f < X.P.fns.length := (List.getElem?_eq_some_iff.mp hF).1
    have q := hdef f hlt
    unfold defB at q
    rw [hF] at q
    cases hd : X.di[f]? with
    | none => rw [hd] at q; cases q
    | some d =>
      rw [hd] at q
      simp only [Bool.and_eq_true, Bool.not_eq_true', decide_eq_true_eq, List.isEmpty_iff] at q
      obtain ⟨q1, q2, q3, q4, q5, q6, q7, q8⟩ := q
      obtain ⟨fd, FD⟩ := c.def_ f (d := d.1) (hfn f d hd)
      have FD' : FunD K d.1.name d.1.qual d.1.params d.1.body d.1.scope [] [] ((X.S K).fa f) fd := by
        have e1 : d.1.dvs K = [] := by unfold He.DefD.dvs; rw [q7]; rfl
        have e2 : d.1.kws K = [] := by unfold He.DefD.kws; rw [q8]; rfl
        rw [e1, e2, q6] at FD
        exact FD
      have b := hb f F d hF hd fd FD'
      refine ⟨q1, fd, _, _, _, _, _, _, _, d.2, FD', scopeB_ok q2, q3, q4, q5, fun n kix hs => ?_⟩
      have hs' : (decide (n = (X.par.getD f []).length) && kix.isEmpty) = true := hs
      rw [Bool.and_eq_true, decide_eq_true_eq, List.isEmpty_iff] at hs'
      obtain ⟨rfl, rfl⟩ := hs'
      exact shape_all b q4
  · have e : X.fnames[f]? = some x := hx
    have e2 := getD_of e
    show mg x = some (.ref (He.ga K (X.fnames.getD f Str.empty)))
    rw [e2]
    exact glo x (.inl (List.mem_of_getElem? e))
  · rw [hcls] at hc
    cases hc
  · rw [hglb] at hx
    cases hx
  · have q := List.all_eq_true.mp xb1 (c, x) (by simpa using hx)
    simp only [Bool.and_eq_true, decide_eq_true_eq] at q
    refine ⟨xcpB_ok q.2, ?_⟩
    show mg x = some (.ref (He.ga K (X.cnames.getD c Str.empty)))
    rw [getD_of q.1]
    exact glo x (.inr (List.mem_of_getElem? q.1))
  · have q := List.all_eq_true.mp xb2 (x, y, n) (by simpa using hx)
    simp only [Bool.and_eq_true, Bool.or_eq_true, decide_eq_true_eq, List.all_eq_true] at q
    obtain ⟨q1, q2, q3⟩ := q
    refine ⟨X.cv K x, ?_, fun c hc => ⟨excCB_ok (q2 c hc).1, (q2 c hc).2⟩, fun c hc => ⟨excCB_ok (q3 c hc).1, (q3 c hc).2⟩⟩
    unfold cv
    by_cases hx : X.cnames.contains x = true
    · rw [if_pos hx]
      exact .inl ⟨_, rfl, glo x (.inr (by simpa using hx))⟩
    · rw [if_neg hx]
      rcases q1 with q1 | ⟨rfl, q1⟩
      · exact absurd q1 hx
      · exact .inr ⟨"ValueError", rfl, fre _ (by simpa using q1), PyProof.Rows.Boot.«ValueError»⟩
  · have q := List.all_eq_true.mp xb3 (c, n) (by simpa using hx)
    rw [Bool.and_eq_true] at q
    exact ⟨xfB_ok q.2, He.eqO_ok q.1⟩
/-- the law's promise from the core form's -/
theorem law_sp {C : CallF} {f : Nat} (pl : plainLs K = true) {H : Hp} {a : Addr} {ns : List Int} (hS : SqL K H a (ns.map V.int)) (hO : Only H) (hC : ∃ M', C f [.lst (ns.map D.int)] [] = some (.bl true, M')) :
    spI (X.S K) C f 1 [.ref a] H (fun v _ => v = .bl true) fun _ _ _ => False := by
  obtain ⟨M', hC⟩ := hC
  rcases rdl_of pl hS with q | q
  · have hf : ∃ o, H a = some o := by
      rcases q with q | ⟨o, q⟩
      · exact ⟨_, q⟩
      · exact ⟨_, q⟩
    let W : Wd := ⟨[], fun b => b = a⟩
    have m : MemRel (X.S K) W H [] := ⟨rfl, fun i j b e => (by simp [W] at e), fun i b e => (by simp [W] at e), fun i o b e => (by simp at e), fun b hb => hb ▸ hf⟩
    have r : Reps (X.S K) W H [D.lst (ns.map D.int)] [V.ref a] := Reps.cons (by
      simp only [Rep]
      exact ⟨a, _, rfl, .inl ⟨rfl, q⟩, Reps.map fun x _ => Rep.int x⟩) (Reps.nil.mpr rfl)
    exact ⟨W, [], _, _, M', m, r, rfl, hC, fun W' H' v _ rv => rv.bl_⟩
  · let W : Wd := ⟨[], fun _ => False⟩
    have m : MemRel (X.S K) W H [] := ⟨rfl, fun i j b e => (by simp [W] at e), fun i b e => (by simp [W] at e), fun i o b e => (by simp at e), fun b hb => hb.elim⟩
    have r : Reps (X.S K) W H [D.lst (ns.map D.int)] [V.ref a] := Reps.cons (by
      simp only [Rep]
      exact ⟨a, _, rfl, .inr q, Reps.map fun x _ => Rep.int x⟩) (Reps.nil.mpr rfl)
    exact ⟨W, [], _, _, M', m, r, rfl, hC, fun W' H' v _ rv => rv.bl_⟩
/-- what walk_ofE asks -/
theorem law_F {fn : List He.DefD} {xb : PySem.W.Frag → Bool} {k w lf : Nat} {Fi : FnI} {dl : He.DefD × List Str} {x : Str} (hok : X.ok = true) (hfn : ∀ (i : Nat) (d : He.DefD × List Str), X.di[i]? = some d → fn[i]? = some d.1) (hxb : ∀ K, xb K = true → X.xb K = true)
    (hb : ∀ (K : PySem.W.Frag) (f : Nat) (F : FnI) (d : He.DefD × List Str), X.P.fns[f]? = some F → X.di[f]? = some d → ∀ fd, FunD K d.1.name d.1.qual d.1.params d.1.body d.1.scope [] [] ((X.S K).fa f) fd → Binds K fd (X.par.getD f []) [])
    (hF : X.P.fns[lf]? = some Fi) (hd : X.di[lf]? = some dl) (hpar : X.par.getD lf [] = [x]) (hname : X.fnames[lf]? = some ("law" : Str))
    (hin : ∀ (K : PySem.W.Frag) (wd : World) (mg : Str → Option Value) (base : Heap), K.In base → base.Ns mainGlobals mg → He.SaysD X.fa fn K → xb K = true → ∀ k c x f, X.xt.xin.contains (c, x, f) = true → mg x = some (.ref ((X.S K).ca c)) ∧ OexC K ((X.S K).ca c) ∧ ∃ fI fd ps, PySem.W.findIn K (.ref ((X.S K).ca c)) "__init__" = some (some (.ref fI)) ∧ PySem.W.typeIn K (.ref fI) = some (.type "function") ∧ FnOk prog wd K mg base CX0 (2 * (k + 1)) fI fd ps (spX ((X.S K).ca c) f) ∧ Binds K fd ps [])
    (hA : ∀ (K : PySem.W.Frag) (fd : FuncData) (f : Addr), FunD K dl.1.name dl.1.qual dl.1.params dl.1.body dl.1.scope [] [] f fd → ∀ (s : Shared) (u : Value), BindsTo s fd ⟨[u], []⟩ [(x, u)])
    (pure : ∀ ns : List Int, ns.length ≤ 63 → ∃ M', callF X.P w (k + 1) lf [.lst (ns.map D.int)] [] = some (.bl true, M'))
    (wd : World) (mg : Str → Option Value) (fa : Addr) (h : Heap) (Y : ∃ K, K.In h ∧ SaysX X.fa fn xb K) (G : h.Ns mainGlobals mg) (hmg : mg ("law" : Str) = some (.ref fa)) :
    ∃ (K : PySem.W.Frag) (fd : FuncData) (sp : Sp), K.In h ∧ (∀ (s : Shared) (u : Value), BindsTo s fd ⟨[u], []⟩ [(x, u)]) ∧
      (∀ (H : Hp) (a : Addr) (ns : List Int), ns.length ≤ 63 → Only H → SqL K H a (ns.map V.int) → sp [.ref a] H (fun v _ => v = .bl true) fun _ _ _ => False) ∧
      ∀ base : Heap, K.In base → base.Ns mainGlobals mg → FnOk prog wd K mg base CX0 (2 * (k + 2)) fa fd [x] sp := by
  obtain ⟨K, KX, c⟩ := Y
  obtain ⟨cs, hx⟩ := c.says
  have hX := hxb K hx
  have hlt : lf < X.P.fns.length := (List.getElem?_eq_some_iff.mp hF).1
  have q : X.defB lf = true := by
    have hok' := hok
    unfold ok at hok'
    simp only [Bool.and_eq_true, decide_eq_true_eq, List.all_eq_true, List.mem_range, List.isEmpty_iff] at hok'
    exact hok'.2.2.2 lf hlt
  unfold defB at q
  rw [hF, hd] at q
  simp only [Bool.and_eq_true, Bool.not_eq_true', decide_eq_true_eq, List.isEmpty_iff] at q
  obtain ⟨q1, q2, q3, q4, q5, q6, q7, q8⟩ := q
  obtain ⟨fd, FD⟩ := cs.def_ lf (d := dl.1) (hfn lf dl hd)
  have e0 : X.fnames.getD lf Str.empty = ("law" : Str) := by rw [List.getD_eq_getElem?_getD, hname]; rfl
  have hfa : fa = (X.S K).fa lf := by
    have g := He.glo_ok KX G (says_fa cs (.glo ("law" : Str)) (List.mem_append_left _ (List.mem_map.mpr ⟨_, List.mem_append.mpr (.inl (List.mem_of_getElem? hname)), rfl⟩)))
    rw [hmg] at g
    cases g
    show _ = He.ga K (X.fnames.getD lf Str.empty)
    rw [e0]
  have FD' : FunD K dl.1.name dl.1.qual dl.1.params dl.1.body dl.1.scope [] [] ((X.S K).fa lf) fd := by
    have e1 : dl.1.dvs K = [] := by unfold He.DefD.dvs; rw [q7]; rfl
    have e2 : dl.1.kws K = [] := by unfold He.DefD.kws; rw [q8]; rfl
    rw [e1, e2, q6] at FD
    exact FD
  have np1 : Fi.np = 1 := by rw [q4, hpar]; rfl
  have pl : plainLs K = true := by
    have := hX
    unfold Txt.xb at this
    rw [Bool.and_eq_true] at this
    exact this.1
  refine ⟨K, fd, spI (X.S K) (callF X.P w (k + 1)) lf Fi.np, KX, hA K fd _ FD', fun H a ns hl hO hS => ?_, fun base KB GB => ?_⟩
  · rw [np1]
    exact law_sp pl hS hO (pure ns hl)
  · have st : Stat prog wd mg base (X.S K) X.P X.T X.xt := stat hok KB GB cs hfn hX (hb K) (hin K wd mg base KB GB cs hx)
    have sc := scopeB_ok q2
    rw [hfa]
    have r := def_step (w := w) (k := k) (x := dl.1.name) (qual := dl.1.qual) (params := dl.1.params) (body := dl.1.body) (scope := dl.1.scope) (dvs := []) (kws := []) (N := dl.2) hF q1 FD' sc q3 q4 q5 (st.facts w k) (st.x k)
    rw [hpar] at r
    exact r
end Txt
end Nl
end
section
set_option maxRecDepth 100000
set_option maxHeartbeats 0
namespace K91
open PySem PySem.Spec PyProof.Rows L2 Nl
abbrev prg : Program := PySem.Challenge.pw_nearlay_k91_classes_of_refusals
def top (i : Nat) : Stmt := prg.main.body.getD i (.Pass ⟨0, 0, 0, 0⟩)
def inner (i j : Nat) : Stmt := match top i with
  | .ClassDef (body := b) .. => b.getD j (.Pass ⟨0, 0, 0, 0⟩)
  | _ => .Pass ⟨0, 0, 0, 0⟩
def fnames : List PySem.Str := ["_law_cell", "_law_pen", "_law_draw", "_law_kinds", "_law_made", "law"]
def cnames : List PySem.Str := ["LayError", "NoProgram", "NoInputs", "NoFaces", "NoSize", "NoLaying", "NoMoves", "NoMemory", "NoNear", "NoTouches", "TooMany", "NoNumber", "NoDeed", "NoLine", "NoWork", "NoText"]
def par : List (List PySem.Str) := [["_law_script", "_law_k"], ["_law_cell_here"], ["_law_pen_here", "_law_many"], ["_law_e"], ["_law_text", "_law_number"], ["_law_script"]]
def xt : XT := ⟨["ValueError", "enumerate", "int", "isinstance", "len", "range"], [(0, "LayError"), (1, "NoProgram"), (2, "NoInputs"), (3, "NoFaces"), (4, "NoSize"), (5, "NoLaying"), (6, "NoMoves"), (7, "NoMemory"), (8, "NoNear"), (9, "NoTouches"), (10, "TooMany"), (11, "NoNumber"), (12, "NoDeed"), (13, "NoLine"), (14, "NoWork")], [(15, "NoText", "line")],
  [("NoProgram", [1], [0, 2, 3, 4, 5, 6, 7, 8, 9, 10, 11, 12, 13, 14, 15]), ("NoInputs", [2], [0, 1, 3, 4, 5, 6, 7, 8, 9, 10, 11, 12, 13, 14, 15]), ("NoFaces", [3], [0, 1, 2, 4, 5, 6, 7, 8, 9, 10, 11, 12, 13, 14, 15]), ("NoSize", [4], [0, 1, 2, 3, 5, 6, 7, 8, 9, 10, 11, 12, 13, 14, 15]), ("NoLaying", [5], [0, 1, 2, 3, 4, 6, 7, 8, 9, 10, 11, 12, 13, 14, 15]), ("NoMoves", [6], [0, 1, 2, 3, 4, 5, 7, 8, 9, 10, 11, 12, 13, 14, 15]), ("NoMemory", [7], [0, 1, 2, 3, 4, 5, 6, 8, 9, 10, 11, 12, 13, 14, 15]), ("NoNear", [8], [0, 1, 2, 3, 4, 5, 6, 7, 9, 10, 11, 12, 13, 14, 15]), ("NoTouches", [9], [0, 1, 2, 3, 4, 5, 6, 7, 8, 10, 11, 12, 13, 14, 15]), ("TooMany", [10], [0, 1, 2, 3, 4, 5, 6, 7, 8, 9, 11, 12, 13, 14, 15]), ("NoNumber", [11], [0, 1, 2, 3, 4, 5, 6, 7, 8, 9, 10, 12, 13, 14, 15]), ("NoDeed", [12], [0, 1, 2, 3, 4, 5, 6, 7, 8, 9, 10, 11, 13, 14, 15]), ("NoLine", [13], [0, 1, 2, 3, 4, 5, 6, 7, 8, 9, 10, 11, 12, 14, 15]), ("NoWork", [14], [0, 1, 2, 3, 4, 5, 6, 7, 8, 9, 10, 11, 12, 13, 15]), ("NoText", [15], [0, 1, 2, 3, 4, 5, 6, 7, 8, 9, 10, 11, 12, 13, 14]), ("LayError", [0, 1, 2, 3, 4, 5, 6, 7, 8, 9, 10, 11, 12, 13, 14, 15], []), ("ValueError", [0, 1, 2, 3, 4, 5, 6, 7, 8, 9, 10, 11, 12, 13, 14, 15], [])]⟩
def b0 : List CS := [.ife (.cmp .Lt (.var 1) (.bif false .len [(.var 0)])) [.ret (.sub (.var 0) (.var 1))] [], .ret (.con (.int 0))]
def f0 : FnI := ⟨2, 2, [], false, b0⟩
def d0 : He.DefD := ⟨("_law_cell", none), "_law_cell", "_law_cell", defArgs (top 18), defBody (top 18), defScope (top 18), [], []⟩
def b1 : List CS := [.ret (.lst true [(.var 0), (.bif false .int [(.cmp .GtE (.var 0) (.bin false .Pow (.con (.int 10)) (.con (.int 18))))])])]
def f1 : FnI := ⟨1, 1, [], false, b1⟩
def d1 : He.DefD := ⟨("_law_pen", none), "_law_pen", "_law_pen", defArgs (top 19), defBody (top 19), defScope (top 19), [], []⟩
def b2 : List CS := [.ife (.cmp .Eq (.sub (.var 0) (.con (.int 1))) (.con (.int 1))) [.asgN (.nm 2) (.bin false .Mod (.sub (.var 0) (.con (.int 0))) (.var 1)), .asgS (.var 0) (.con (.int 0)) (.bin false .FloorDiv (.sub (.var 0) (.con (.int 0))) (.var 1)), .ret (.var 2)] [], .asgS (.var 0) (.con (.int 0)) (.bin false .Mod (.bin false .Add (.bin false .Mult (.bin false .Mod (.sub (.var 0) (.con (.int 0))) (.con (.int 2147483629))) (.con (.int 48271))) (.con (.int 11))) (.con (.int 2147483629))), .ret (.bin false .Mod (.bin false .FloorDiv (.bin false .Mod (.bin false .Add (.bin false .Mult (.sub (.var 0) (.con (.int 0))) (.sub (.var 0) (.con (.int 0)))) (.bin false .Mult (.con (.int 40692)) (.sub (.var 0) (.con (.int 0))))) (.con (.int 2147483647))) (.con (.int 8))) (.var 1))]
def f2 : FnI := ⟨2, 3, [], false, b2⟩
def d2 : He.DefD := ⟨("_law_draw", none), "_law_draw", "_law_draw", defArgs (top 20), defBody (top 20), defScope (top 20), [], []⟩
def b3 : List CS := [.asgN (.nm 1) (.lst false [(.bif false (.isX [1] [0, 2, 3, 4, 5, 6, 7, 8, 9, 10, 11, 12, 13, 14, 15]) [(.var 0)]), (.bif false (.isX [2] [0, 1, 3, 4, 5, 6, 7, 8, 9, 10, 11, 12, 13, 14, 15]) [(.var 0)]), (.bif false (.isX [3] [0, 1, 2, 4, 5, 6, 7, 8, 9, 10, 11, 12, 13, 14, 15]) [(.var 0)]), (.bif false (.isX [4] [0, 1, 2, 3, 5, 6, 7, 8, 9, 10, 11, 12, 13, 14, 15]) [(.var 0)])]), .asgN (.nm 1) (.bin false .Add (.var 1) (.lst false [(.bif false (.isX [5] [0, 1, 2, 3, 4, 6, 7, 8, 9, 10, 11, 12, 13, 14, 15]) [(.var 0)]), (.bif false (.isX [6] [0, 1, 2, 3, 4, 5, 7, 8, 9, 10, 11, 12, 13, 14, 15]) [(.var 0)]), (.bif false (.isX [7] [0, 1, 2, 3, 4, 5, 6, 8, 9, 10, 11, 12, 13, 14, 15]) [(.var 0)]), (.bif false (.isX [8] [0, 1, 2, 3, 4, 5, 6, 7, 9, 10, 11, 12, 13, 14, 15]) [(.var 0)])])), .asgN (.nm 1) (.bin false .Add (.var 1) (.lst false [(.bif false (.isX [9] [0, 1, 2, 3, 4, 5, 6, 7, 8, 10, 11, 12, 13, 14, 15]) [(.var 0)]), (.bif false (.isX [10] [0, 1, 2, 3, 4, 5, 6, 7, 8, 9, 11, 12, 13, 14, 15]) [(.var 0)]), (.bif false (.isX [11] [0, 1, 2, 3, 4, 5, 6, 7, 8, 9, 10, 12, 13, 14, 15]) [(.var 0)]), (.bif false (.isX [12] [0, 1, 2, 3, 4, 5, 6, 7, 8, 9, 10, 11, 13, 14, 15]) [(.var 0)])])), .ret (.bin false .Add (.var 1) (.lst false [(.bif false (.isX [13] [0, 1, 2, 3, 4, 5, 6, 7, 8, 9, 10, 11, 12, 14, 15]) [(.var 0)]), (.bif false (.isX [14] [0, 1, 2, 3, 4, 5, 6, 7, 8, 9, 10, 11, 12, 13, 15]) [(.var 0)]), (.bif false (.isX [15] [0, 1, 2, 3, 4, 5, 6, 7, 8, 9, 10, 11, 12, 13, 14]) [(.var 0)])]))]
def f3 : FnI := ⟨1, 2, [], false, b3⟩
def d3 : He.DefD := ⟨("_law_kinds", none), "_law_kinds", "_law_kinds", defArgs (top 21), defBody (top 21), defScope (top 21), [], []⟩
def b4 : List CS := [.asgN (.nm 2) (.lst false [(.exm 1 (.var 0)), (.exm 2 (.var 0)), (.exm 3 (.var 0)), (.exm 4 (.var 0)), (.exm 5 (.var 0)), (.exm 6 (.var 0))]), .asgN (.nm 2) (.bin false .Add (.var 2) (.lst false [(.exm 7 (.var 0)), (.exm 8 (.var 0)), (.exm 9 (.var 0)), (.exm 10 (.var 0)), (.exm 11 (.var 0)), (.exm 12 (.var 0))])), .ret (.bin false .Add (.var 2) (.lst false [(.exm 13 (.var 0)), (.exm 14 (.var 0)), (.exi 15 "line" (.var 1))]))]
def f4 : FnI := ⟨2, 3, [], false, b4⟩
def d4 : He.DefD := ⟨("_law_made", none), "_law_made", "_law_made", defArgs (top 22), defBody (top 22), defScope (top 22), [], []⟩
def b5 : List CS := [.for_ (.nm 1) (.val (.bin false .Add (.lst false [(.call 0 [(.var 0), (.con (.int 0))] [] [])]) (.slc false (.var 0) (.con (.int 1)) (.con (.int 2))))) [.asgN (.nm 2) (.call 1 [(.var 1)] [] []), .asgN (.tp [(.nm 5), (.nm 6)]) (.tup [(.sub (.lst false [(.con (.str "")), (.con (.str "no")), (.con (.str "any text"))]) (.call 2 [(.var 2), (.con (.int 3))] [] [])), (.sub (.lst false [(.neg (.con (.int 1))), (.con (.int 0)), (.call 2 [(.var 2), (.con (.int 99))] [] [])]) (.call 2 [(.var 2), (.con (.int 3))] [] []))]), .asgN (.nm 3) (.call 4 [(.var 5), (.var 6)] [] []), .for_ (.tp [(.nm 7), (.nm 8)]) (.enum (.var 3)) [.ife (.bop false [(.cmp .NotEq (.call 3 [(.var 8)] [] []) (.lc false [9] (.cmp .Eq (.var 9) (.var 7)) (.nm 9) (.rng1 (.con (.int 15))) .nop)), (.not_ (.bif false (.isX [0, 1, 2, 3, 4, 5, 6, 7, 8, 9, 10, 11, 12, 13, 14, 15] []) [(.var 8)]))]) [.ret (.con (.bl false))] [], .ife (.not_ (.bif false (.isX [0, 1, 2, 3, 4, 5, 6, 7, 8, 9, 10, 11, 12, 13, 14, 15] []) [(.var 8)])) [.ret (.con (.bl false))] []], .asgN (.nm 4) (.exm 0 (.var 5)), .ife (.bop false [(.cmp .NotEq (.atx (.sub (.var 3) (.neg (.con (.int 1)))) "line") (.var 6)), (.cmp .In (.con (.bl true)) (.call 3 [(.var 4)] [] [])), (.not_ (.bif false (.isX [0, 1, 2, 3, 4, 5, 6, 7, 8, 9, 10, 11, 12, 13, 14, 15] []) [(.var 4)]))]) [.ret (.con (.bl false))] []], .ret (.con (.bl true))]
def f5 : FnI := ⟨1, 10, [], false, b5⟩
def d5 : He.DefD := ⟨("law", none), "law", "law", defArgs (top 23), defBody (top 23), defScope (top 23), [], []⟩
def Pg_ : Pg := ⟨[f0, f1, f2, f3, f4, f5], [], [], [(15, "line")]⟩
def X : Txt := ⟨fnames, cnames, Pg_, par, xt, [(d0, ["_law_script", "_law_k"]), (d1, ["_law_cell_here"]), (d2, ["_law_pen_here", "_law_many", "_law_digit"]), (d3, ["_law_e", "_law_found"]), (d4, ["_law_text", "_law_number", "_law_found"]), (d5, ["_law_script", "_law_cell_here", "_law_pen_here", "_law_rows", "_law_bare", "_law_text", "_law_number", "_law_at", "_law_one", "_law_place"])]⟩
theorem ok : X.ok = true := by kernel_rfl
def i15 : He.DefD := ⟨("NoText", some "__init__"), "__init__", "NoText.__init__", defArgs (inner 16 0), defBody (inner 16 0), defScope (inner 16 0), [], []⟩
end K91
end
section
set_option maxRecDepth 100000
set_option maxHeartbeats 0
namespace K91
open PySem PySem.Spec PyProof.Rows L2 Nl
def fn : List He.DefD := X.di.map (·.1) ++ [i15]
def xi (K : PySem.W.Frag) : Bool := oexB K (He.ga K "NoText") && (He.eqO (PySem.W.findIn K (.ref (He.ga K "NoText")) "__init__") (some (some (.ref (He.fAd K ("NoText", some "__init__"))))) && (decide (PySem.W.typeIn K (.ref (He.fAd K ("NoText", some "__init__"))) = some (.type "function")) && (laB K (He.ga K "LayError") && He.eqO (PySem.W.findIn K (.ref (He.ga K "NoText")) "line") (some none))))
def xb (K : PySem.W.Frag) : Bool := X.xb K && xi K
abbrev R : PySem.W.OpenRow := PySem.W.OpenLaw.row PySem.Challenge.rw_nearlay_k91_classes_of_refusals
abbrev hk : PySem.W.Hook := hookX 4 X.fa fn xb
def ob (s : PySem.W.SharedT) : He.AlD := obsXG 4 X.fa fn xb (HandSHeadRun.getT s)
theorem ob_eq (s : PySem.W.SharedT) : ob s = hk.obs s.abs := obsXG_eq (HandSHeadRun.getT_eq s)
def n0 : List PySem.Str := ["LayError", "NoProgram", "NoInputs", "NoFaces", "NoSize", "NoLaying", "NoMoves", "NoMemory", "NoNear", "NoTouches", "TooMany", "NoNumber", "NoDeed", "NoLine", "NoWork", "NoText", "_law_cell", "_law_pen", "_law_draw", "_law_kinds", "_law_made"]
def names : List PySem.Str := n0
theorem run (w : World) : HandSHeadRun.RunEq R (PySem.W.view R.prog [23]) hk ob 4000 names w := by
  intro os
  kernel_rfl
theorem binds {K : PySem.W.Frag} : ∀ (f : Nat) (F : FnI) (d : He.DefD × List PySem.Str), X.P.fns[f]? = some F → X.di[f]? = some d → ∀ fd, FunD K d.1.name d.1.qual d.1.params d.1.body d.1.scope [] [] ((X.S K).fa f) fd → Binds K fd (X.par.getD f []) [] := by
  intro f F d hF hd fd FD
  match f, hd with
  | 0, hd =>
    cases hd
    exact FunD.bindsN (ps := ["_law_script", "_law_k"]) FD fun _ _ _ _ _ _ us hl => match us, hl with | [_, _], _ => rfl
  | 1, hd =>
    cases hd
    exact FunD.bindsN (ps := ["_law_cell_here"]) FD fun _ _ _ _ _ _ us hl => match us, hl with | [_], _ => rfl
  | 2, hd =>
    cases hd
    exact FunD.bindsN (ps := ["_law_pen_here", "_law_many"]) FD fun _ _ _ _ _ _ us hl => match us, hl with | [_, _], _ => rfl
  | 3, hd =>
    cases hd
    exact FunD.bindsN (ps := ["_law_e"]) FD fun _ _ _ _ _ _ us hl => match us, hl with | [_], _ => rfl
  | 4, hd =>
    cases hd
    exact FunD.bindsN (ps := ["_law_text", "_law_number"]) FD fun _ _ _ _ _ _ us hl => match us, hl with | [_, _], _ => rfl
  | 5, hd =>
    cases hd
    exact FunD.bindsN (ps := ["_law_script"]) FD fun _ _ _ _ _ _ us hl => match us, hl with | [_], _ => rfl
  | _ + 6, hd => cases hd
end K91
end
section
set_option maxRecDepth 100000
set_option maxHeartbeats 8000000
namespace K91
open PySem PySem.Spec PyProof.Rows L2 Nl
theorem scI : FnScope ["self", "line"] ["self", "line"] (defScope (inner 16 0)) := ⟨rfl, rfl, rfl, by decide +kernel, rfl, by decide +kernel, by decide +kernel⟩
def t_init (K : PySem.W.Frag) : TS := tSeq (tDrop (tVeI K (tCons (tVar 0) (tCons (tC (.str "no text of a program")) tNil)))) (tOst K "line" (tVar 0) (tVar 1))
theorem init_ok {prog : Program} {wd : World} {mg : PySem.Str → Option Value} {base : Heap} {K : PySem.W.Frag} {f : Addr} {fd : FuncData} (F : FunD K "__init__" "NoText.__init__" (defArgs (inner 16 0)) (defBody (inner 16 0)) (defScope (inner 16 0)) [] [] f fd)
    (T : OexC K (He.ga K "NoText")) (hno : PySem.W.findIn K (.ref (He.ga K "NoText")) "line" = some none) (la : laB K (He.ga K "LayError") = true) (gL : mg "LayError" = some (.ref (He.ga K "LayError"))) : FnOk prog wd K mg base CX0 2 f fd ["self", "line"] (spX (He.ga K "NoText") "line") := by
  refine F.ok scI (fun vs H Q E h => ?_) (fun cdv A outer s H vs Q E hr h => ⟨t_init K, PSs.nox ?_, ?_⟩)
  · obtain ⟨a, i, rfl, _⟩ := h
    rfl
  · exact pss_cons (ps_expr (pe_lainit (X := (cxOf CX0 prog wd K mg base ["self", "line"] "NoText.__init__" (defScope (inner 16 0)) f cdv A outer s H E).nox) rfl gL rfl la (pa_cons (pe_var (i := 0) rfl (.inl rfl) rfl rfl) (pa_cons pe_str pa_nil)))) (pss_one (ps_ost (pe_var (i := 0) rfl (.inl rfl) rfl rfl) (pe_var (i := 1) rfl (.inl rfl) rfl rfl)))
  · obtain ⟨a, i, rfl, ha, q⟩ := h
    refine ⟨.ref a, rfl, a, _, _, rfl, by decide, T, ha, ?_⟩
    exact ⟨_, rfl, _, rfl, a, _, rfl, T, hno, .inl ⟨ha, fun dx h1 h2 => q dx h1 h2⟩⟩
end K91
namespace K91
open PySem PySem.Spec PyProof.Rows L2 Nl
theorem hin (K : PySem.W.Frag) (wd : World) (mg : PySem.Str → Option Value) (base : Heap) (KX : K.In base) (G : base.Ns mainGlobals mg) (cs : He.SaysD X.fa fn K) (hx : xb K = true) (k c : Nat) (x f : PySem.Str) (hc : X.xt.xin.contains (c, x, f) = true) :
    mg x = some (.ref ((X.S K).ca c)) ∧ OexC K ((X.S K).ca c) ∧ ∃ fI fd ps, PySem.W.findIn K (.ref ((X.S K).ca c)) "__init__" = some (some (.ref fI)) ∧ PySem.W.typeIn K (.ref fI) = some (.type "function") ∧ FnOk prg wd K mg base CX0 (2 * (k + 1)) fI fd ps (spX ((X.S K).ca c) f) ∧ Binds K fd ps [] := by
  have e : (c, x, f) = (15, ("NoText" : PySem.Str), ("line" : PySem.Str)) := by
    have : (c, x, f) ∈ X.xt.xin := by simpa using hc
    exact List.mem_singleton.mp this
  simp only [Prod.mk.injEq] at e
  obtain ⟨rfl, rfl, rfl⟩ := e
  have hc15 : (X.S K).ca 15 = He.ga K "NoText" := rfl
  rw [hc15]
  unfold xb at hx
  rw [Bool.and_eq_true] at hx
  have h2 := hx.2
  unfold xi at h2
  simp only [Bool.and_eq_true, decide_eq_true_eq] at h2
  obtain ⟨a1, a2, a3, a4, a5⟩ := h2
  obtain ⟨fd, FD⟩ := cs.def_ 6 (d := i15) rfl
  have gN := He.glo_ok KX G (Txt.says_fa cs (.glo "NoText") (List.mem_append_left _ (List.mem_map.mpr ⟨_, List.mem_append.mpr (.inr (List.mem_of_getElem? (i := 15) rfl)), rfl⟩)))
  have gL := He.glo_ok KX G (Txt.says_fa cs (.glo "LayError") (List.mem_append_left _ (List.mem_map.mpr ⟨_, List.mem_append.mpr (.inr (List.mem_of_getElem? (i := 0) rfl)), rfl⟩)))
  refine ⟨gN, oexB_ok a1, _, fd, ["self", "line"], He.eqO_ok a2, a3, ?_, ?_⟩
  · exact (init_ok FD (oexB_ok a1) (He.eqO_ok a5) a4 gL).mono (by omega)
  · exact FunD.bindsN (ps := ["self", "line"]) FD fun _ _ _ _ _ _ us hl => match us, hl with | [_, _], _ => rfl
theorem hfn : ∀ (i : Nat) (d : He.DefD × List PySem.Str), X.di[i]? = some d → fn[i]? = some d.1 := by
  intro i d h
  unfold fn
  have hl : i < (X.di.map (·.1)).length := by rw [List.length_map]; exact (List.getElem?_eq_some_iff.mp h).1
  rw [List.getElem?_append_left hl, List.getElem?_map, h]
  rfl
end K91
open PySem PySem.W PySem.Calls PyProof.Rows
theorem K91.holds_of (pure : ∀ ns : List Int, ns.length ≤ 63 → ∃ M', Nl.callF K91.X.P 0 (2 + 1) 5 [.lst (ns.map Nl.D.int)] [] = some (.bl true, M')) : PySem.Challenge.rw_nearlay_k91_classes_of_refusals.Holds := by
  w_on; o_law
  refine HandSHeadRun.head_any (r := OpenLaw.row PySem.Challenge.rw_nearlay_k91_classes_of_refusals) (q := view (OpenLaw.row PySem.Challenge.rw_nearlay_k91_classes_of_refusals).prog [23]) (H := K91.hk) (ob := K91.ob) (M := 4000) (loose := K91.names) (d := HandSHeadRun.topDef (OpenLaw.row PySem.Challenge.rw_nearlay_k91_classes_of_refusals).prog 23) (kwd := []) K91.ob_eq
    (by kernel_rfl) (fun s => by kernel_rfl) K91.run (by kernel_rfl) (by kernel_rfl) (by kernel_rfl) (by rfl) (by first | assumption | decide +kernel) (by decide +kernel) ⟨rfl, rfl, rfl, rfl, rfl, by decide +kernel⟩ ?hw ?hc
  case hw => w_witness2
  case hc =>
    refine L2.walk_ofE (l := PySem.Challenge.rw_nearlay_k91_classes_of_refusals) (n := 63) (k := 8) (x := "_law_script") (CX := L2.CX0) rfl (by decide) (by kernel_rfl) ⟨rfl, by decide, by decide⟩ ?F (fun _ _ _ _ z => z)
    intro w mg fa h Y G hmg0
    have hmg : mg ("law" : PySem.Str) = some (.ref fa) := by
      have e : (HandSHeadRun.topDef (OpenLaw.row PySem.Challenge.rw_nearlay_k91_classes_of_refusals).prog 23).name = ("law" : PySem.Str) := by kernel_rfl
      rw [← e]
      exact hmg0
    exact Nl.Txt.law_F (X := K91.X) (prog := K91.prg) (fn := K91.fn) (xb := K91.xb) (k := 2) (w := 0) (lf := 5) (x := "_law_script") K91.ok K91.hfn (fun K hx => (Bool.and_eq_true_iff.mp hx).1) (fun K => K91.binds) (hF := rfl) (hd := rfl) (hpar := rfl) (hname := rfl) K91.hin
      (fun K fd f FD s u => L2.FunD.bindsA (ps := ["_law_script"]) FD (fun _ _ _ _ _ _ us hl => match us, hl with | [_], _ => rfl) s [u] rfl) pure w mg fa h Y G hmg
end
section
set_option maxRecDepth 100000
set_option maxHeartbeats 4000000
namespace K91
open PySem L2 Nl
abbrev Cc : CallF := callF Pg_ 0 2
def rows (n : Int) : List D := [.exc 1 none, .exc 2 none, .exc 3 none, .exc 4 none, .exc 5 none, .exc 6 none, .exc 7 none, .exc 8 none, .exc 9 none, .exc 10 none, .exc 11 none, .exc 12 none, .exc 13 none, .exc 14 none, .exc 15 (some ("line", n))]
theorem made (t : PySem.Str) (n : Int) (M : Mem) : Cc 4 [.str t, .int n] M = some (.lst (rows n), M) := by rfl
theorem kinds0 (M : Mem) : Cc 3 [.exc 1 none] M = some (.lst ((List.range 15).map fun j => .bl (decide (j = 0))), M) := by rfl
theorem pen (c : Int) (M : Mem) : Cc 1 [.int c] M = some (.ref M.length, M ++ [.lst [.int c, .int (if decide ((10 : Int) ^ 18 ≤ c) = true then 1 else 0)]]) := by rfl
def body : List CS := match b5 with
  | .for_ _ _ b :: _ => b
  | _ => []
def inner_ : CS := body.getD 3 .never
def ifS : CS := body.getD 5 .never
theorem h3 (x0 x1 x2 x3 x4 x7 x8 x9 : Option D) (t : PySem.Str) (n : Int) (M : Mem) : exS Pg_ Cc 0 (body.getD 2 .never) [x0, x1, x2, x3, x4, some (.str t), some (.int n), x7, x8, x9] M = some (.nx [x0, x1, x2, some (.lst (rows n)), x4, some (.str t), some (.int n), x7, x8, x9], M) := by rfl
theorem h4 (x0 x1 x2 x4 x7 x8 x9 : Option D) (t : PySem.Str) (n : Int) (M : Mem) : exS Pg_ Cc 0 inner_ [x0, x1, x2, some (.lst (rows n)), x4, some (.str t), some (.int n), x7, x8, x9] M = some (.nx [x0, x1, x2, some (.lst (rows n)), x4, some (.str t), some (.int n), some (.int 14), some (.exc 15 (some ("line", n))), x9], M) := by kernel_rfl
theorem h1 (x0 x2 x3 x4 x5 x6 x7 x8 x9 : Option D) (c : Int) (M : Mem) : exS Pg_ Cc 0 (body.getD 0 .never) [x0, some (.int c), x2, x3, x4, x5, x6, x7, x8, x9] M = some (.nx [x0, some (.int c), some (.ref M.length), x3, x4, x5, x6, x7, x8, x9], M ++ [.lst [.int c, .int (if decide ((10 : Int) ^ 18 ≤ c) = true then 1 else 0)]]) := by kernel_rfl
theorem h5 (x0 x1 x2 x3 x4 x6 x7 x8 x9 : Option D) (t : PySem.Str) (M : Mem) : exS Pg_ Cc 0 (body.getD 4 .never) [x0, x1, x2, x3, x4, some (.str t), x6, x7, x8, x9] M = some (.nx [x0, x1, x2, x3, some (.exc 0 none), some (.str t), x6, x7, x8, x9], M) := by kernel_rfl
theorem eqInt (n : Int) (M : Mem) : cmpD .NotEq M (.int n) (.int n) = some false := by
  have : PyData.eqv (.int n) (.int n) = true := by simp [PyData.eqv]
  show ((eqD M (.int n) (.int n)).map (!·)) = some false
  have e : eqD M (.int n) (.int n) = some (PyData.eqv (.int n) (.int n)) := rfl
  rw [e, this]
  rfl
def c1 : CE := match ifS with
  | .ife (.bop _ (c :: _)) _ _ => c
  | _ => .nop
def cs2 : List CE := match ifS with
  | .ife (.bop _ (_ :: c)) _ _ => c
  | _ => []
theorem c1_ok (x0 x1 x2 x4 x5 x7 x8 x9 : Option D) (n : Int) (M : Mem) : evE Pg_ Cc c1 [x0, x1, x2, some (.lst (rows n)), x4, x5, some (.int n), x7, x8, x9] M = some (.bl false, M) := by
  have e : evE Pg_ Cc c1 [x0, x1, x2, some (.lst (rows n)), x4, x5, some (.int n), x7, x8, x9] M = bO (cmpD .NotEq M (.int n) (.int n)) fun t => some (.bl t, M) := by kernel_rfl
  rw [e, eqInt]
  rfl
theorem cs2_ok (x0 x1 x2 x3 x5 x6 x7 x8 x9 : Option D) (M : Mem) : evB Pg_ Cc false cs2 [x0, x1, x2, x3, some (.exc 0 none), x5, x6, x7, x8, x9] M = some (.bl false, M) := by kernel_rfl
theorem h6 (x0 x1 x2 x5 x7 x8 x9 : Option D) (n : Int) (M : Mem) : exS Pg_ Cc 0 ifS [x0, x1, x2, some (.lst (rows n)), some (.exc 0 none), x5, some (.int n), x7, x8, x9] M = some (.nx [x0, x1, x2, some (.lst (rows n)), some (.exc 0 none), x5, some (.int n), x7, x8, x9], M) := by
  have hc := c1_ok x0 x1 x2 (some (.exc 0 none)) x5 x7 x8 x9 n M
  have hs := cs2_ok x0 x1 x2 (some (.lst (rows n))) x5 (some (.int n)) x7 x8 x9 M
  have e : ifS = .ife (.bop false (c1 :: cs2)) [.ret (.con (.bl false))] [] := rfl
  rw [e]
  unfold exS evT
  rw [evE]
  have e2 : cs2 = cs2.headD .nop :: cs2.tail := rfl
  rw [e2] at hs ⊢
  rw [evB_cons, hc, bE_some]
  show bE (bE (bO (some false) fun t => if t = false then evB Pg_ Cc false (cs2.headD .nop :: cs2.tail) _ M else some (.bl false, M)) _) _ = _
  rw [bO_some, if_pos rfl, hs]
  rfl
/-! ### a draw -/
def nextC (c : Int) : Int := ((c.fmod 2147483629) * 48271 + 11).fmod 2147483629
theorem nextC_lt (c : Int) : 0 ≤ nextC c ∧ nextC c < 2147483629 := ⟨Int.fmod_nonneg_of_pos _ (by decide), Int.fmod_lt_of_pos _ (by decide)⟩
theorem set_get {M : Mem} {a : Nat} {o o' : MO} (h : M[a]? = some o) : (M.set a o')[a]? = some o' := by
  rw [List.getElem?_set_self (List.getElem?_eq_some_iff.mp h).1]
theorem draw (M : Mem) (a : Nat) (c b m : Int) (h : M[a]? = some (.lst [.int c, .int b])) (hm : 0 < m) (hm2 : m < 1073741824) : ∃ v c', Cc 2 [.ref a, .int m] M = some (.int v, M.set a (.lst [.int c', .int b])) ∧ 0 ≤ v ∧ v < m := by
  have hm0 : m ≠ 0 := by omega
  have hmn : m.natAbs < 1073741824 := by omega
  have sub0 : ∀ (M : Mem) (c b : Int), M[a]? = some (.lst [.int c, .int b]) → subD M (.ref a) (.int 0) = some (.int c) := fun M c b h => by
    unfold subD asC asS asL; simp [h, atI, ixN]
  have sub1 : ∀ (M : Mem) (c b : Int), M[a]? = some (.lst [.int c, .int b]) → subD M (.ref a) (.int 1) = some (.int b) := fun M c b h => by
    unfold subD asC asS asL; simp [h, atI, ixN]
  have set0 : ∀ (M : Mem) (c b c' : Int), M[a]? = some (.lst [.int c, .int b]) → setIt (.ref a) (.int 0) (.int c') M = some (M.set a (.lst [.int c', .int b])) := fun M c b c' h => by
    unfold setIt; simp [h, ixN]
  have eqI : ∀ (x y : Int) (M : Mem), eqD M (.int x) (.int y) = some (decide (x = y)) := fun x y M => by
    have e : eqD M (.int x) (.int y) = some (PyData.eqv (.int x) (.int y)) := rfl
    rw [e]
    show some ((x == y) : Bool) = _
    rw [show (x == y) = decide (x = y) by rw [Bool.eq_iff_iff]; simp]
  have hrun : Cc 2 [.ref a, .int m] M = bE (exSs Pg_ (callF Pg_ 0 1) 0 b2 [some (.ref a), some (.int m), none] M) fun f M => match f with
    | .rt d => some (d, M)
    | .nx _ => some (.non, M)
    | _ => none := rfl
  rw [hrun]
  generalize callF Pg_ 0 1 = C1
  have mul1 : ∀ i : Int, binI .Mult i 48271 = some (i * 48271) := fun i => by
    show (if (Nl.small64 i || Nl.small64 48271) = true then some (i * 48271) else none) = _
    rw [if_pos (by rw [show Nl.small64 48271 = true from rfl, Bool.or_true])]
  have mul2 : ∀ i : Int, binI .Mult 40692 i = some (40692 * i) := fun i => by
    show (if (Nl.small64 40692 || Nl.small64 i) = true then some (40692 * i) else none) = _
    rw [if_pos (by rw [show Nl.small64 40692 = true from rfl, Bool.true_or])]
  have mul3 : ∀ i : Int, 0 ≤ i → i < 2147483629 → binI .Mult i i = some (i * i) := fun i h1 h2 => by
    show (if (Nl.small64 i || Nl.small64 i) = true then some (i * i) else none) = _
    have : Nl.small64 i = true := by
      unfold Nl.small64
      have e1 : -(2 ^ 64) < i := by have : (-(2 ^ 64) : Int) < 0 := by decide
                                    omega
      have e2 : i < 2 ^ 64 := by have : (2147483629 : Int) < 2 ^ 64 := by decide
                                 omega
      rw [Bool.and_eq_true, decide_eq_true_eq, decide_eq_true_eq]
      exact ⟨e1, e2⟩
    rw [if_pos (by rw [this]; rfl)]
  have mod1 : ∀ i j : Int, j ≠ 0 → binI .Mod i j = some (i.fmod j) := fun i j h => by
    show (if j ≠ 0 then some (i.fmod j) else none) = _
    rw [if_pos h]
  have div1 : ∀ i j : Int, j ≠ 0 → j.natAbs < 1073741824 → binI .FloorDiv i j = some (i.fdiv j) := fun i j h h2 => by
    show (if j ≠ 0 ∧ j.natAbs < 1073741824 then some (i.fdiv j) else none) = _
    rw [if_pos ⟨h, h2⟩]
  have bn : ∀ (mt : Bool) (op : Operator) (i j k : Int) (M : Mem), binI op i j = some k → binD mt op (.int i) (.int j) M = some (.int k, M) := fun mt op i j k M h => by
    show (match binI op i j with | some k => some (D.int k, M) | none => none) = _
    rw [h]
  by_cases hb : b = 1
  · subst hb
    have hg := set_get (o' := .lst [.int (c.fdiv m), .int 1]) h
    refine ⟨c.fmod m, c.fdiv m, ?_, Int.fmod_nonneg_of_pos _ hm, Int.fmod_lt_of_pos _ hm⟩
    simp [b2, exSs, exS, evT, evE, bE, bO, sub0 M c 1 h, sub1 M c 1 h, cmpD, eqI, truthD, bn _ _ _ _ _ _ (mod1 c m hm0), bn _ _ _ _ _ _ (div1 c m hm0 hmn), set0 M c 1 _ h, asgT]
  · have hg := set_get (o' := .lst [.int (nextC c), .int b]) h
    have hx := nextC_lt c
    refine ⟨((((nextC c) * (nextC c) + 40692 * (nextC c)).fmod 2147483647).fdiv 8).fmod m, nextC c, ?_, Int.fmod_nonneg_of_pos _ hm, Int.fmod_lt_of_pos _ hm⟩
    have add1 : ∀ (mt : Bool) (i j : Int) (M : Mem), binD mt .Add (.int i) (.int j) M = some (.int (i + j), M) := fun _ _ _ _ => rfl
    have m1 := fun (mt : Bool) (i : Int) (M : Mem) => bn mt _ _ _ _ M (mul1 i)
    have m2 := fun (mt : Bool) (i : Int) (M : Mem) => bn mt _ _ _ _ M (mul2 i)
    have m3 := fun (mt : Bool) (M : Mem) => bn mt _ _ _ _ M (mul3 (nextC c) hx.1 hx.2)
    have d1 := fun (mt : Bool) (i : Int) (M : Mem) => bn mt _ _ _ _ M (mod1 i 2147483629 (by decide))
    have d2 := fun (mt : Bool) (i : Int) (M : Mem) => bn mt _ _ _ _ M (mod1 i 2147483647 (by decide))
    have d3 := fun (mt : Bool) (i : Int) (M : Mem) => bn mt _ _ _ _ M (div1 i 8 (by decide) (by decide))
    have d4 := fun (mt : Bool) (i : Int) (M : Mem) => bn mt _ _ _ _ M (mod1 i m hm0)
    have en : (c.fmod 2147483629 * 48271 + 11).fmod 2147483629 = nextC c := rfl
    simp [b2, exSs, exS, evT, evE, bE, bO, sub0 M c b h, sub1 M c b h, cmpD, eqI, truthD, hb, add1, m1, d1, en, set0 M c b _ h, sub0 _ _ _ hg, m2, m3, d2, d3, d4]
end K91
end
section
set_option maxRecDepth 100000
set_option maxHeartbeats 8000000
namespace K91
open PySem L2 Nl
theorem h2 (x0 x1 x3 x4 x5 x6 x7 x8 x9 : Option D) (M : Mem) (a : Nat) (c b : Int) (h : M[a]? = some (.lst [.int c, .int b])) :
    ∃ t n M', exS Pg_ Cc 0 (body.getD 1 .never) [x0, x1, some (.ref a), x3, x4, x5, x6, x7, x8, x9] M = some (.nx [x0, x1, some (.ref a), x3, x4, some (.str t), some (.int n), x7, x8, x9], M') := by
  obtain ⟨v1, c1, e1, l1, u1⟩ := draw M a c b 3 h (by decide) (by decide)
  have g1 := set_get (o' := .lst [.int c1, .int b]) h
  obtain ⟨v2, c2, e2, l2, u2⟩ := draw _ a c1 b 99 g1 (by decide) (by decide)
  have g2 := set_get (o' := .lst [.int c2, .int b]) g1
  obtain ⟨v3, c3, e3, l3, u3⟩ := draw _ a c2 b 3 g2 (by decide) (by decide)
  have hf : Pg_.fns[2]? = some f2 := rfl
  have hbi : ∀ x y, bindA f2.dfl f2.np [x, y] [] [] = some [x, y] := fun _ _ => rfl
  have k3 : (3 : Nat) ≤ LIM := by decide
  have k2 : (2 : Nat) ≤ LIM := by decide
  show ∃ t n M', exS Pg_ Cc 0 (.asgN (.tp [.nm 5, .nm 6]) (.tup [.sub (.lst false [.con (.str ""), .con (.str "no"), .con (.str "any text")]) (.call 2 [.var 2, .con (.int 3)] [] []), .sub (.lst false [.neg (.con (.int 1)), .con (.int 0), .call 2 [.var 2, .con (.int 99)] [] []]) (.call 2 [.var 2, .con (.int 3)] [] [])])) _ M = _
  generalize Cc = C at e1 e2 e3 ⊢
  simp only [List.set_set] at e2 e3
  rcases (show v1 = 0 ∨ v1 = 1 ∨ v1 = 2 by omega) with rfl | rfl | rfl <;> rcases (show v3 = 0 ∨ v3 = 1 ∨ v3 = 2 by omega) with rfl | rfl | rfl
  all_goals
    simp [exS, evE, evEs, bE, bO, hf, hbi, newL, e1, e2, e3, subD, asC, asS, asL, atI, ixN, asgT, asgTs, k2, k3]
    try exact ⟨_, _, _, rfl⟩
theorem exSs_cons {P : Pg} {C : CallF} {w : Nat} {s : CS} {ss : List CS} {σ : En} {M : Mem} : exSs P C w (s :: ss) σ M = bE (exS P C w s σ M) fun f M => match f with
    | .nx σ => exSs P C w ss σ M
    | f => some (f, M) := rfl
def Ten (σ : En) : Prop := ∃ x0 x1 x2 x3 x4 x5 x6 x7 x8 x9, σ = [x0, x1, x2, x3, x4, x5, x6, x7, x8, x9]
theorem turn (c : Int) (σ : En) (M : Mem) (hσ : Ten σ) : ∃ σ' M', Ten σ' ∧ (bO (asgT M (.nm 1) (.int c) σ) fun σ => exSs Pg_ Cc 0 body σ M) = some (.nx σ', M') := by
  obtain ⟨x0, x1, x2, x3, x4, x5, x6, x7, x8, x9, rfl⟩ := hσ
  have e0 : asgT M (.nm 1) (.int c) [x0, x1, x2, x3, x4, x5, x6, x7, x8, x9] = some [x0, some (.int c), x2, x3, x4, x5, x6, x7, x8, x9] := rfl
  rw [e0, bO_some]
  have eb : body = [body.getD 0 .never, body.getD 1 .never, body.getD 2 .never, inner_, body.getD 4 .never, ifS] := rfl
  have hM : (M ++ [MO.lst [.int c, .int (if decide ((10 : Int) ^ 18 ≤ c) = true then 1 else 0)]])[M.length]? = some (.lst [.int c, .int (if decide ((10 : Int) ^ 18 ≤ c) = true then 1 else 0)]) := by simp
  obtain ⟨t, n, M2, q2⟩ := h2 x0 (some (.int c)) x3 x4 x5 x6 x7 x8 x9 _ M.length c _ hM
  rw [eb, exSs_cons, h1, bE_some]
  dsimp only
  rw [exSs_cons, q2, bE_some]
  dsimp only
  rw [exSs_cons, h3, bE_some]
  dsimp only
  rw [exSs_cons, h4, bE_some]
  dsimp only
  rw [exSs_cons, h5, bE_some]
  dsimp only
  rw [exSs_cons, h6, bE_some]
  exact ⟨_, M2, ⟨_, _, _, _, _, _, _, _, _, _, rfl⟩, rfl⟩
theorem loop : ∀ (cs : List Int) (σ : En) (M : Mem), Ten σ → ∃ σ' M', Ten σ' ∧ loopS (fun d σ M => bO (asgT M (.nm 1) d σ) fun σ => exSs Pg_ Cc 0 body σ M) [] (cs.map D.int) σ M = some (.nx σ', M')
  | [], σ, M, h => ⟨σ, M, h, rfl⟩
  | c :: cs, σ, M, h => by
    obtain ⟨σ1, M1, t1, e1⟩ := turn c σ M h
    obtain ⟨σ2, M2, t2, e2⟩ := loop cs σ1 M1 t1
    refine ⟨σ2, M2, t2, ?_⟩
    rw [List.map_cons, loopS_cons, e1, bE_some]
    exact e2
theorem cell (ns : List Int) (M : Mem) : ∃ c, Cc 0 [.lst (ns.map D.int), .int 0] M = some (.int c, M) := by
  have hrun : Cc 0 [.lst (ns.map D.int), .int 0] M = bE (exSs Pg_ (callF Pg_ 0 1) 0 b0 [some (.lst (ns.map D.int)), some (.int 0)] M) fun f M => match f with
    | .rt d => some (d, M)
    | .nx _ => some (.non, M)
    | _ => none := rfl
  rw [hrun]
  cases ns with
  | nil => exact ⟨0, by kernel_rfl⟩
  | cons n ns =>
    refine ⟨n, ?_⟩
    have hl : ltD M (.int 0) (.int (((D.int n :: ns.map D.int).length : Nat) : Int)) = some true := by
      show some (decide ((0 : Int) < _)) = _
      rw [decide_eq_true (by rw [List.length_cons]; omega)]
    have hb : bifD false .len [.lst (D.int n :: ns.map D.int)] M = some (.int (((D.int n :: ns.map D.int).length : Nat) : Int), M) := rfl
    have hs : subD M (.lst (D.int n :: ns.map D.int)) (.int 0) = some (.int n) := by
      unfold subD asC asS asL
      simp only [atI]
      have : ixN (D.int n :: ns.map D.int).length 0 = some 0 := by
        unfold ixN
        rw [if_pos (by decide), if_pos (by rw [List.length_cons]; omega)]
        rfl
      rw [this]
      rfl
    clear hrun
    rw [List.map_cons]
    generalize (D.int n :: ns.map D.int) = L at hl hb hs ⊢
    simp [b0, exSs, exS, evT, evE, evEs, bE, bO, cmpD, truthD, hs, hb, hl]
theorem cut_map (ns : List Int) (lo hi : Option Int) : cut (ns.map D.int) lo hi = (cut ns lo hi).map D.int := by
  unfold cut
  rw [List.length_map, List.map_take, List.map_drop]
theorem cut_len (ns : List Int) (lo hi : Option Int) : (cut ns lo hi).length ≤ ns.length := by
  unfold cut
  rw [List.length_take, List.length_drop]
  omega
theorem plain (ns : List Int) (hl : ns.length ≤ 63) : ∃ M', callF X.P 0 (2 + 1) 5 [.lst (ns.map D.int)] [] = some (.bl true, M') := by
  have hrun : callF X.P 0 (2 + 1) 5 [.lst (ns.map D.int)] [] = bE (exSs Pg_ Cc 0 b5 [some (.lst (ns.map D.int)), none, none, none, none, none, none, none, none, none] []) fun f M => match f with
    | .rt d => some (d, M)
    | .nx _ => some (.non, M)
    | _ => none := rfl
  rw [hrun]
  obtain ⟨c, hc⟩ := cell ns []
  obtain ⟨σ', M', hT, hL⟩ := loop (c :: cut ns (some 1) (some 2)) [some (.lst (ns.map D.int)), none, none, none, none, none, none, none, none, none] [] ⟨_, _, _, _, _, _, _, _, _, _, rfl⟩
  have hit : evI Pg_ Cc (.val (.bin false .Add (.lst false [.call 0 [.var 0, .con (.int 0)] [] []]) (.slc false (.var 0) (.con (.int 1)) (.con (.int 2))))) [some (.lst (ns.map D.int)), none, none, none, none, none, none, none, none, none] [] = some (((c :: cut ns (some 1) (some 2)).map D.int, []), []) := by
    have hf : Pg_.fns[0]? = some f0 := rfl
    have hbi : ∀ x y, bindA f0.dfl f0.np [x, y] [] [] = some [x, y] := fun _ _ => rfl
    have k1 : (1 : Nat) ≤ LIM := by decide
    have hcut := cut_len ns (some 1) (some 2)
    have k2 : ([D.int c] : List D).length + (cut (ns.map D.int) (some 1) (some 2)).length ≤ LIM := by
      rw [cut_map, List.length_map]
      show 1 + _ ≤ 1000000
      omega
    have hadd : binD false .Add (.lst [.int c]) (.lst (cut (ns.map D.int) (some 1) (some 2))) [] = some (.lst (.int c :: cut (ns.map D.int) (some 1) (some 2)), []) := by
      show (if ([D.int c] : List D).length + (cut (ns.map D.int) (some 1) (some 2)).length ≤ LIM then some (newL false ([D.int c] ++ cut (ns.map D.int) (some 1) (some 2)) []) else none) = _
      rw [if_pos k2]
      rfl
    have hw : ∀ l : List D, walkD [] (.lst l) = some (l, []) := fun _ => rfl
    have hs : slcD false [] (.lst (ns.map D.int)) (some 1) (some 2) = some (.lst (cut (ns.map D.int) (some 1) (some 2)), []) := rfl
    generalize Cc = C at hc ⊢
    rw [List.map_cons, ← cut_map]
    simp [evI, evE, evEs, bE, bO, hf, hbi, hc, newL, k1, optE, hs, hadd, hw]
  have e5 : b5 = [.for_ (.nm 1) (.val (.bin false .Add (.lst false [.call 0 [.var 0, .con (.int 0)] [] []]) (.slc false (.var 0) (.con (.int 1)) (.con (.int 2))))) body, .ret (.con (.bl true))] := rfl
  have hfor : exS Pg_ Cc 0 (.for_ (.nm 1) (.val (.bin false .Add (.lst false [.call 0 [.var 0, .con (.int 0)] [] []]) (.slc false (.var 0) (.con (.int 1)) (.con (.int 2))))) body) [some (.lst (ns.map D.int)), none, none, none, none, none, none, none, none, none] [] = some (.nx σ', M') := by
    unfold exS
    rw [hit, bE_some]
    exact hL
  rw [e5, exSs_cons, hfor, bE_some]
  exact ⟨M', rfl⟩
end K91
end
open PySem
set_option maxRecDepth 100000 in
theorem PySem.Challenge.cw_nearlay_k91_classes_of_refusals_holds : PySem.Challenge.rw_nearlay_k91_classes_of_refusals.Holds := by
  exact K91.holds_of K91.plain
