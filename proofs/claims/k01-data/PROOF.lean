import PyProof.Rows.All
import Wide.All
import OpenK.AllK
import Wide.FinOn
import HandS.ForMost
import HandS.ForExc
import HandS.Flow
import HandS.Style
import HandS.IsInst
import HandS.ExcIs
import HandS.Wide
import HandS.WideBits
import HandS.Codes
import HandS.StrMore
import HandS.StrSplit
import HandS.Conv
import HandS.TupAny
import HandS.SortInts
import HandS.NoneIn
import HandS.RaiseMore
import HandS.RevTup
import HandS.Gcd
import HandS.DictComp
import HandS.Small
import HandS.Defaults
import HandS.TryOnly
import KE.KStateDown
import HandS.Ends
import HandS.Head0
import HandS.Head1
import HandS.Head2
import HandS.HeadEnd
import HandS.HeadHook1
import HandS.HeadHook2
import Lean
import PySem.Challenge.RW_howoften_k01_data
set_option Elab.async false
set_option linter.all false
set_option maxRecDepth 100000
/-! An interpreter over the syntax tree, with values of its own: definitions. -/
namespace P3
open PySem L2

/-- values: numbers, texts as lists of codes, tuples by their items; lst: a list that is only read; ref: an object of the abstract heap -/
inductive DV where
  | non | bl (b : Bool) | int (i : Int) | str (x : List Nat) | ty (n : String)
  | tup (xs : List DV) | lst (st : Bool) (xs : List DV) | ref (i : Nat)
  deriving Inhabited
inductive AO where
  | lst (xs : List DV) | dic (kvs : List (Key × DV))
  deriving Inhabited
abbrev AH := List AO
abbrev LS := List (Option DV)
structure Exc where
  cls : Str
  fs : List (Str × DV)
inductive R (α : Type) where
  | ok (a : α) (h : AH) | er (x : Exc) (h : AH)
inductive Fl where
  | nx | rt (d : DV) | bk | ct
inductive SR where
  | go (f : Fl) (ls : LS) (h : AH) | er (x : Exc) (ls : LS) (h : AH)
abbrev EM := LS → AH → Option (R DV)
abbrev SM := LS → AH → Option SR

def bd {α β : Type} (r : Option (R α)) (k : α → AH → Option (R β)) : Option (R β) :=
  match r with
  | none => none
  | some (.er x h) => some (.er x h)
  | some (.ok a h) => k a h
def up {α : Type} (r : Option (α × AH)) : Option (R α) := r.map fun p => .ok p.1 p.2
@[simp] theorem bd_none {α β} (k : α → AH → Option (R β)) : bd none k = none := rfl
@[simp] theorem bd_ok {α β} (a : α) (h : AH) (k : α → AH → Option (R β)) : bd (some (.ok a h)) k = k a h := rfl
@[simp] theorem bd_er {α β} (x : Exc) (h : AH) (k : α → AH → Option (R β)) : bd (some (.er x h)) k = some (.er x h) := rfl
@[simp] theorem up_some {α} (a : α) (h : AH) : up (some (a, h)) = some (.ok a h) := rfl
@[simp] theorem up_none {α} : up (none : Option (α × AH)) = none := rfl

def LIM : Nat := 16777216

/-! ### data without references, for == -/
mutual
def DV.pd : DV → Option PyData
  | .non => some .none
  | .bl b => some (.bool b)
  | .int i => some (.int i)
  | .str x => some (.str ⟨x.toArray⟩)
  | .ty _ => none
  | .tup xs => (DV.pds xs).map .tuple
  | .lst _ xs => (DV.pds xs).map .list
  | .ref _ => none
def DV.pds : List DV → Option (List PyData)
  | [] => some []
  | x :: r => match DV.pd x, DV.pds r with
    | some a, some b => some (a :: b)
    | _, _ => none
end
/-- a list of the abstract heap, or a read one -/
def seqOf (ah : AH) : DV → Option (List DV)
  | .lst _ xs => some xs
  | .ref r => match ah[r]? with
    | some (.lst xs) => some xs
    | _ => none
  | _ => none
/-- .. one level deep, for a comparison -/
def flat (ah : AH) (d : DV) : Option DV := match d with
  | .ref r => match ah[r]? with
    | some (.lst xs) => some (.lst true xs)
    | _ => none
  | d => some d
def eqD (ah : AH) : DV → DV → Option Bool
  | .int i, .int j => some (decide (i = j))
  | .str a, .str b => some (decide (a = b))
  | .bl a, .bl b => some (decide (a = b))
  | x, y => match (flat ah x).bind DV.pd, (flat ah y).bind DV.pd with
    | some a, some b => if (SeqAt.shaped a && SeqAt.shaped b) = true then some (PyData.eqv a b) else none
    | _, _ => none

/-! ### operators -/
def mulOk (i j : Int) : Bool := decide (i.natAbs.log2 + j.natAbs.log2 < 100000000)
def divOk (j : Int) : Bool := decide (0 < j) && decide (j.natAbs.log2 < 9000)
def powOk (i j : Int) : Bool := decide (0 ≤ j) && decide (j ≤ 1000000) && decide (i.natAbs < 2 ^ 64)
def newL (xs : List DV) (ah : AH) : Option (DV × AH) := if xs.length ≤ LIM then some (.ref ah.length, ah ++ [.lst xs]) else none
def newT (xs : List DV) (ah : AH) : Option (DV × AH) := if xs.length ≤ LIM then some (.tup xs, ah) else none
def binD (op : Operator) (x y : DV) (ah : AH) : Option (DV × AH) :=
  match op, x, y with
  | .Add, .int i, .int j => some (.int (i + j), ah)
  | .Add, .str a, .str b => if a.length + b.length ≤ LIM then some (.str (a ++ b), ah) else none
  | .Add, .tup a, .tup b => newT (a ++ b) ah
  | .Add, .ref a, .ref b => match ah[a]?, ah[b]? with
    | some (.lst xs), some (.lst ys) => newL (xs ++ ys) ah
    | _, _ => none
  | .Sub, .int i, .int j => some (.int (i - j), ah)
  | .Mult, .int i, .int j => if mulOk i j = true then some (.int (i * j), ah) else none
  | .Mult, .str x, .int n => if 1 < n ∧ x ≠ [] ∧ x.length * n.toNat ≤ LIM then some (.str (List.replicate n.toNat x).flatten, ah) else none
  | .FloorDiv, .int i, .int j => if divOk j = true then some (.int (i / j), ah) else none
  | .Mod, .int i, .int j => if 0 < j then some (.int (i % j), ah) else none
  | .Pow, .int i, .int j => if powOk i j = true then some (.int (i ^ j.toNat), ah) else none
  | _, _, _ => none
/-- in place: a list is never changed so -/
def ipD (op : Operator) (x y : DV) (ah : AH) : Option (DV × AH) :=
  match op, x, y with
  | .Add, .int i, .int j => some (.int (i + j), ah)
  | .Add, .str a, .str b => if a.length + b.length ≤ LIM then some (.str (a ++ b), ah) else none
  | .Sub, .int i, .int j => some (.int (i - j), ah)
  | _, _, _ => none
def keyOf : DV → Option Key
  | .int i => some (.inl i)
  | .str x => some (.inr ⟨x.toArray⟩)
  | _ => none
def valD {α : Type} (kvs : List (Key × α)) (k : Key) : Option α := (kvs.find? fun kv => decide (kv.1 = k)).map (·.2)
def putD {α : Type} (kvs : List (Key × α)) (k : Key) (v : α) : List (Key × α) :=
  if (kvs.any fun kv => decide (kv.1 = k)) = true then kvs.map (fun kv => if kv.1 = k then (kv.1, v) else kv) else kvs ++ [(k, v)]
/-- values that a search in a list or tuple is told for: one of these kinds -/
def scalD : DV → Bool
  | .non | .bl _ | .int _ | .str _ => true
  | _ => false
/-- == among scalars, as the machine has it -/
def sameS : DV → DV → Bool
  | .non, .non => true
  | .bl a, .bl b => decide (a = b)
  | .int a, .int b => decide (a = b)
  | .bl a, .int b => decide ((if a then (1 : Int) else 0) = b)
  | .int a, .bl b => decide (a = (if b then (1 : Int) else 0))
  | .str a, .str b => decide (a = b)
  | _, _ => false
def inSeq (x : DV) (ys : List DV) : Option Bool := if (scalD x && ys.all scalD) = true then some (ys.any fun y => sameS y x) else none
/-- the text a stands in b -/
def inTxt (a b : List Nat) : Bool := !(PySem.Builtin.Str.occurrences (SX.S b) (SX.S a) 0 b.length 1).isEmpty
def inD (ah : AH) (x y : DV) : Option Bool :=
  match x, y with
  | .str [c], .str b => some (decide (c ∈ b))
  | .str a, .str b => some (inTxt a b)
  | x, .tup ys => inSeq x ys
  | x, .lst _ ys => inSeq x ys
  | x, .ref r => match ah[r]? with
    | some (.lst ys) => inSeq x ys
    | some (.dic kvs) => (keyOf x).map fun k => (valD kvs k).isSome
    | _ => none
  | _, _ => none
def ltS (a b : List Nat) : Bool := decide (a < b)
def cmpB (op : CmpOp) (x y : DV) (ah : AH) : Option Bool :=
  match op, x, y with
  | .Eq, x, y => eqD ah x y
  | .NotEq, x, y => (eqD ah x y).map (!·)
  | .Lt, .int i, .int j => some (decide (i < j))
  | .LtE, .int i, .int j => some (decide (i ≤ j))
  | .Gt, .int i, .int j => some (decide (j < i))
  | .GtE, .int i, .int j => some (decide (j ≤ i))
  | .Lt, .str a, .str b => some (ltS a b)
  | .LtE, .str a, .str b => some (!ltS b a)
  | .Gt, .str a, .str b => some (ltS b a)
  | .GtE, .str a, .str b => some (!ltS a b)
  | .In, x, y => inD ah x y
  | .NotIn, x, y => (inD ah x y).map (!·)
  | _, _, _ => none
def cmpD (op : CmpOp) (x y : DV) (ah : AH) : Option (DV × AH) := (cmpB op x y ah).map fun b => (.bl b, ah)
def truD (ah : AH) : DV → Option Bool
  | .non => some false
  | .bl b => some b
  | .int i => some (i != 0)
  | .str x => if x.length ≤ LIM then some (!x.isEmpty) else none
  | .tup xs => some (!xs.isEmpty)
  | .lst _ xs => some (!xs.isEmpty)
  | .ref r => match ah[r]? with
    | some (.lst xs) => some (!xs.isEmpty)
    | some (.dic kvs) => some (!kvs.isEmpty)
    | _ => none
  | .ty _ => none
def negD (x : DV) (ah : AH) : Option (DV × AH) := match x with
  | .int i => some (.int (-i), ah)
  | _ => none

/-! ### subscripts -/
def cut {α : Type} (xs : List α) (lo hi : Option Int) : List α := (xs.drop (HT.sIx xs.length 0 lo)).take (HT.sIx xs.length xs.length hi - HT.sIx xs.length 0 lo)
def subD (o i : DV) (ah : AH) : Option (DV × AH) :=
  match o, i with
  | .str x, .int i => if x.length ≤ LIM then (atI x i).map fun c => (.str [c], ah) else none
  | .tup xs, .int i => (atI xs i).map fun d => (d, ah)
  | .lst _ xs, .int i => (atI xs i).map fun d => (d, ah)
  | .ref r, i => match ah[r]?, i with
    | some (.lst xs), .int i => (atI xs i).map fun d => (d, ah)
    | some (.dic kvs), k => (keyOf k).bind fun k => (valD kvs k).map fun d => (d, ah)
    | _, _ => none
  | _, _ => none
def slD (o : DV) (lo hi : Option Int) (ah : AH) : Option (DV × AH) :=
  match o with
  | .str x => if x.length ≤ LIM then some (.str (cut x lo hi), ah) else none
  | .tup xs => if HT.sIx xs.length 0 lo = 0 ∧ HT.sIx xs.length xs.length hi = xs.length then none else some (.tup (cut xs lo hi), ah)
  | .lst _ xs => some (.ref ah.length, ah ++ [.lst (cut xs lo hi)])
  | .ref r => match ah[r]? with
    | some (.lst xs) => some (.ref ah.length, ah ++ [.lst (cut xs lo hi)])
    | _ => none
  | _ => none
/-- xs[::-1] of a list -/
def revD (o : DV) (ah : AH) : Option (DV × AH) :=
  match seqOf ah o with
  | some xs => some (.ref ah.length, ah ++ [.lst xs.reverse])
  | none => none
/-- o[i] = v -/
def setD (o i v : DV) (ah : AH) : Option AH :=
  match o with
  | .ref r => match ah[r]?, i with
    | some (.lst xs), .int i => (ixN xs.length i).map fun j => ah.set r (.lst (xs.set j v))
    | some (.dic kvs), k => (keyOf k).bind fun k => if kvs.length < LIM then some (ah.set r (.dic (putD kvs k v))) else none
    | _, _ => none
  | _ => none

/-! ### built-in functions and methods -/
inductive Blt where
  | len | abs | int | str | list | tuple | divmod | isinstance | sum | all | any | sorted | ord | max | min | gcd
  deriving DecidableEq
def bName : Blt → Str
  | .len => "len" | .abs => "abs" | .int => "int" | .str => "str" | .list => "list" | .tuple => "tuple" | .divmod => "divmod" | .isinstance => "isinstance"
  | .sum => "sum" | .all => "all" | .any => "any" | .sorted => "sorted" | .ord => "ord" | .max => "max" | .min => "min" | .gcd => "gcd"
def allBlt : List Blt := [.len, .abs, .int, .str, .list, .tuple, .divmod, .isinstance, .sum, .all, .any, .sorted, .ord, .max, .min]
def bltOf (x : Str) : Option Blt := allBlt.find? fun b => decide (bName b = x)
def tyOfName (x : Str) : Option String := ["int", "str", "tuple", "bool", "list"].find? fun t => decide (Str.ofString t = x)
/-- the type of a value, by name -/
def tyD (ah : AH) : DV → Option String
  | .non => some "NoneType"
  | .bl _ => some "bool"
  | .int _ => some "int"
  | .str _ => some "str"
  | .tup _ => some "tuple"
  | .lst _ _ => some "list"
  | .ref r => match ah[r]? with
    | some (.lst _) => some "list"
    | some (.dic _) => some "dict"
    | none => none
  | .ty _ => none
def isiD (t c : String) : Option Bool := kitB t c
def intsD : List DV → Option (List Int)
  | [] => some []
  | .int i :: r => (intsD r).map (i :: ·)
  | _ :: _ => none
def boolsD : List DV → Option (List Bool)
  | [] => some []
  | .bl b :: r => (boolsD r).map (b :: ·)
  | _ :: _ => none
def strsD : List DV → Option (List (List Nat))
  | [] => some []
  | .str x :: r => (strsD r).map (x :: ·)
  | _ :: _ => none
def insT (x : List Nat) : List (List Nat) → List (List Nat)
  | [] => [x]
  | y :: r => if y < x then y :: insT x r else x :: y :: r
def sortT : List (List Nat) → List (List Nat)
  | [] => []
  | x :: r => insT x (sortT r)
def insI (x : Int) : List Int → List Int
  | [] => [x]
  | y :: r => if y < x then y :: insI x r else x :: y :: r
def sortI : List Int → List Int
  | [] => []
  | x :: r => insI x (sortI r)
def maxI : List Int → Option Int
  | [] => none
  | x :: r => match maxI r with
    | none => some x
    | some m => some (if m < x then x else m)
def minI : List Int → Option Int
  | [] => none
  | x :: r => match minI r with
    | none => some x
    | some m => some (if x < m then x else m)
/-- decimal digits -/
abbrev decN (n : Nat) : List Nat := TL.numL n
def decI (i : Int) : List Nat := if i < 0 then 45 :: TL.numL i.natAbs else TL.numL i.natAbs
def keysT : List (Key × DV) → Option (List (List Nat))
  | [] => some []
  | (.inr x, _) :: r => (keysT r).map (x.cps.toList :: ·)
  | _ :: _ => none
def bltD (b : Blt) (xs : List DV) (ah : AH) : Option (DV × AH) :=
  match b, xs with
  | .len, [.str x] => if x.length ≤ LIM then some (.int x.length, ah) else none
  | .len, [.tup xs] => some (.int xs.length, ah)
  | .len, [.lst _ xs] => some (.int xs.length, ah)
  | .len, [.ref r] => match ah[r]? with
    | some (.lst xs) => some (.int xs.length, ah)
    | some (.dic kvs) => some (.int kvs.length, ah)
    | none => none
  | .abs, [.int i] => some (.int i.natAbs, ah)
  | .int, [.int i] => some (.int i, ah)
  | .int, [.str x] => if x.length ≤ 640 then (intText? (SX.S x)).map fun n => (.int n, ah) else none
  | .str, [.int i] => if i.natAbs.log2 < 1920 then some (.str (decI i), ah) else none
  | .str, [.str x] => some (.str x, ah)
  | .list, [.tup xs] => some (.ref ah.length, ah ++ [.lst xs])
  | .list, [d] => (seqOf ah d).map fun xs => (.ref ah.length, ah ++ [.lst xs])
  | .tuple, [.tup xs] => some (.tup xs, ah)
  | .tuple, [d] => (seqOf ah d).map fun xs => (.tup xs, ah)
  | .divmod, [.int i, .int j] => if (decide (0 < j) && !PySem.Builtin.divisionGoesByPylong i j) = true then some (.tup [.int (i / j), .int (i % j)], ah) else none
  | .isinstance, [d, .ty c] => (tyD ah d).bind fun t => (isiD t c).map fun b => (.bl b, ah)
  | .sum, [d] => ((seqOf ah d).bind intsD).map fun ns => (.int ns.sum, ah)
  | .all, [d] => ((seqOf ah d).bind boolsD).map fun bs => (.bl (bs.all id), ah)
  | .any, [d] => ((seqOf ah d).bind boolsD).map fun bs => (.bl (bs.any id), ah)
  | .sorted, [.ref r] => match ah[r]? with
    | some (.lst xs) => match strsD xs with
      | some ys => if ys.length < 64 then some (.ref ah.length, ah ++ [.lst ((sortT ys).map .str)]) else none
      | none => (intsD xs).map fun ns => (.ref ah.length, ah ++ [.lst ((sortI ns).map .int)])
    | some (.dic kvs) => match keysT kvs with
      | some ys => if ys.length < 64 then some (.ref ah.length, ah ++ [.lst ((sortT ys).map .str)]) else none
      | none => none
    | none => none
  | .ord, [.str [c]] => some (.int c, ah)
  | .max, [.int i, .int j] => some (.int (if j > i then j else i), ah)
  | .min, [.int i, .int j] => some (.int (if j < i then j else i), ah)
  | .max, [d] => (((seqOf ah d).bind intsD).bind maxI).map fun m => (.int m, ah)
  | .min, [d] => (((seqOf ah d).bind intsD).bind minI).map fun m => (.int m, ah)
  | .gcd, [.int a, .int b] => some (.int (Nat.gcd a.natAbs b.natAbs), ah)
  | _, _ => none
inductive Mth where
  | append | insert | extend | pop | join | zfill | get | partition | split | find
  deriving DecidableEq
def mName : Mth → Str
  | .append => "append" | .insert => "insert" | .extend => "extend" | .pop => "pop" | .join => "join" | .zfill => "zfill" | .get => "get" | .partition => "partition" | .split => "split" | .find => "find"
def allMth : List Mth := [.append, .insert, .extend, .pop, .join, .zfill, .get, .partition, .split, .find]
def mthOf (x : Str) : Option Mth := allMth.find? fun m => decide (mName m = x)
def gluN (sep : List Nat) : List (List Nat) → List Nat
  | [] => []
  | [x] => x
  | x :: r => x ++ sep ++ gluN sep r
def seqT (ah : AH) : DV → Option (List DV)
  | .tup zs => some zs
  | d => seqOf ah d
def mthD (m : Mth) (o : DV) (xs : List DV) (ah : AH) : Option (DV × AH) :=
  match m, o, xs with
  | .append, .ref r, [d] => match ah[r]? with
    | some (.lst ys) => if ys.length < LIM then some (.non, ah.set r (.lst (ys ++ [d]))) else none
    | _ => none
  | .insert, .ref r, [.int i, d] => match ah[r]? with
    | some (.lst ys) => if ys.length < LIM ∧ 0 ≤ i ∧ i < 2 ^ 62 then some (.non, ah.set r (.lst (ys.take i.toNat ++ [d] ++ ys.drop i.toNat))) else none
    | _ => none
  | .extend, .ref r, [.ref q] => match ah[r]?, ah[q]? with
    | some (.lst ys), some (.lst zs) => if ys.length + zs.length ≤ LIM then some (.non, ah.set r (.lst (ys ++ zs))) else none
    | _, _ => none
  | .pop, .ref r, [] => match ah[r]? with
    | some (.lst ys) => ys.getLast?.map fun d => (d, ah.set r (.lst ys.dropLast))
    | _ => none
  | .join, .str s, [d] => match (seqT ah d).bind strsD with
    | some ts => if (ts.map (·.length)).sum + ts.length * s.length ≤ LIM then some (.str (gluN s ts), ah) else none
    | none => none
  | .zfill, .str x, [.int i] => if PadOk i = true then some (.str (Txt.zfill (SX.S x) i).cps.toList, ah) else none
  | .get, .ref r, [k, d] => match ah[r]?, keyOf k with
    | some (.dic kvs), some k => some ((valD kvs k).getD d, ah)
    | _, _ => none
  | .partition, .str x, [.str y] => if y ≠ [] ∧ x.length ≤ LIM then
      some (.tup [.str (Txt.partition (SX.S x) (SX.S y)).1.cps.toList, .str (Txt.partition (SX.S x) (SX.S y)).2.1.cps.toList, .str (Txt.partition (SX.S x) (SX.S y)).2.2.cps.toList], ah) else none
  | .find, .str x, [.str y, .int i] => some (.int (Txt.find3 (SX.S x) (SX.S y) i), ah)
  | .split, .str x, [.str y] => if y ≠ [] ∧ x.length + 2 ≤ LIM then
      some (.ref ah.length, ah ++ [.lst ((Txt.split (SX.S x) (SX.S y)).map fun z => .str z.cps.toList)]) else none
  | _, _, _ => none
end P3


set_option maxRecDepth 100000
/-! Combinators, and the interpreter itself. -/
namespace P3
open PySem L2

/-! ### expressions -/
def cVal (d : DV) : EM := fun _ h => some (.ok d h)
def cVar (i : Nat) : EM := fun ls h => match ls[i]? with
  | some (some d) => some (.ok d h)
  | _ => none
def cStuck : EM := fun _ _ => none
def cOp (op : DV → DV → AH → Option (DV × AH)) (f g : EM) : EM := fun ls h => bd (f ls h) fun x h1 => bd (g ls h1) fun y h2 => up (op x y h2)
def cUn (op : DV → AH → Option (DV × AH)) (f : EM) : EM := fun ls h => bd (f ls h) fun x h1 => up (op x h1)
/-- the truth of a value -/
def cTru (f : EM) (ls : LS) (h : AH) : Option (R Bool) := bd (f ls h) fun x h1 => match truD h1 x with
  | some b => some (.ok b h1)
  | none => none
def cNot (f : EM) : EM := fun ls h => bd (cTru f ls h) fun b h1 => some (.ok (.bl (!b)) h1)
def cAnd (f g : EM) : EM := fun ls h => bd (f ls h) fun x h1 => match truD h1 x with
  | some true => g ls h1
  | some false => some (.ok x h1)
  | none => none
def cOr (f g : EM) : EM := fun ls h => bd (f ls h) fun x h1 => match truD h1 x with
  | some true => some (.ok x h1)
  | some false => g ls h1
  | none => none
def cIf (c f g : EM) : EM := fun ls h => bd (cTru c ls h) fun b h1 => if b = true then f ls h1 else g ls h1
/-- a < b < c -/
def cChain (op op' : DV → DV → AH → Option (DV × AH)) (f g k : EM) : EM := fun ls h => bd (f ls h) fun x h1 => bd (g ls h1) fun y h2 => bd (up (op x y h2)) fun z h3 => match z with
  | .bl true => bd (k ls h3) fun u h4 => up (op' y u h4)
  | .bl false => some (.ok (.bl false) h3)
  | _ => none
def cArgs : List EM → LS → AH → Option (R (List DV))
  | [], _, h => some (.ok [] h)
  | f :: fs, ls, h => bd (f ls h) fun x h1 => bd (cArgs fs ls h1) fun xs h2 => some (.ok (x :: xs) h2)
def cTup (fs : List EM) : EM := fun ls h => bd (cArgs fs ls h) fun xs h1 => up (newT xs h1)
def cLst (fs : List EM) : EM := fun ls h => bd (cArgs fs ls h) fun xs h1 => up (newL xs h1)
def cDic : EM := fun _ h => some (.ok (.ref h.length) (h ++ [.dic []]))
def cPart : Option EM → LS → AH → Option (R (Option Int))
  | none, _, h => some (.ok none h)
  | some f, ls, h => bd (f ls h) fun x h1 => match x with
    | .int i => some (.ok (some i) h1)
    | _ => none
def cSl (f : EM) (lo hi : Option EM) : EM := fun ls h => bd (f ls h) fun x h1 => bd (cPart lo ls h1) fun l h2 => bd (cPart hi ls h2) fun u h3 => up (slD x l u h3)
def cBlt (b : Blt) (fs : List EM) : EM := fun ls h => bd (cArgs fs ls h) fun xs h1 => up (bltD b xs h1)
/-- the receiver is of the method's type -/
def mtyOk (m : Mth) (o : DV) (h : AH) : Bool := match m, o with
  | .append, .ref r | .insert, .ref r | .extend, .ref r | .pop, .ref r => (match h[r]? with
    | some (.lst _) => true
    | _ => false)
  | .get, .ref r => (match h[r]? with
    | some (.dic _) => true
    | _ => false)
  | .join, .str _ | .zfill, .str _ | .partition, .str _ | .split, .str _ | .find, .str _ => true
  | _, _ => false
def cMth (m : Mth) (f : EM) (fs : List EM) : EM := fun ls h => bd (f ls h) fun o h1 => if mtyOk m o h1 = true then bd (cArgs fs ls h1) fun xs h2 => up (mthD m o xs h2) else none
def cCall (F : List DV → AH → Option (R DV)) (fs : List EM) : EM := fun ls h => bd (cArgs fs ls h) fun xs h1 => F xs h1

/-! ### what a loop walks: at turn i, stuck, at the end, or an item -/
structure Itr where
  fuel : Nat
  nx : Nat → AH → Option (Option DV)
def itV (ds : List DV) : Itr := ⟨ds.length, fun i _ => some ds[i]?⟩
def itL (r n : Nat) : Itr := ⟨n, fun i h => match h[r]? with
  | some (.lst ys) => some ys[i]?
  | _ => none⟩
def itR (lo st : Int) (n : Nat) : Itr := ⟨n, fun i _ => if i < n then some (some (.int (lo + (i : Int) * st))) else some none⟩
def itZ (a b : Itr) : Itr := ⟨min a.fuel b.fuel, fun i h => match a.nx i h with
  | none => none
  | some none => (match b.nx i h with
    | none => none
    | some _ => some none)
  | some (some x) => match b.nx i h with
    | none => none
    | some none => some none
    | some (some y) => some (some (.tup [x, y]))⟩
def itE (a : Itr) : Itr := ⟨a.fuel, fun i h => match a.nx i h with
  | none => none
  | some none => some none
  | some (some x) => some (some (.tup [.int i, x]))⟩
/-- a value that is walked -/
def itOf (h : AH) : DV → Option Itr
  | .tup xs => some (itV xs)
  | .lst _ xs => some (itV xs)
  | .str x => some (itV (x.map fun c => .str [c]))
  | .ref r => match h[r]? with
    | some (.lst xs) => some (itL r xs.length)
    | _ => none
  | _ => none
abbrev IM := LS → AH → Option (R Itr)
def iVal (f : EM) : IM := fun ls h => bd (f ls h) fun x h1 => match itOf h1 x with
  | some it => some (.ok it h1)
  | none => none
def rngOk (i j c : Int) : Bool := decide (c ≠ 0) && decide (c.natAbs < 1073741824) && PySem.Builtin.Range.small i j c
def rngN (i j c : Int) : Nat := (PySem.Builtin.Range.rangeSize i j c).toNat
def iRng1 (f : EM) : IM := fun ls h => bd (cArgs [f] ls h) fun xs h1 => match xs with
  | [.int j] => if -(2 ^ 62) ≤ j ∧ j < 2 ^ 62 then some (.ok (itR 0 1 j.toNat) h1) else none
  | _ => none
def iRng2 (f g : EM) : IM := fun ls h => bd (cArgs [f, g] ls h) fun xs h1 => match xs with
  | [.int i, .int j] => if -(2 ^ 62) ≤ i ∧ i < 2 ^ 62 ∧ -(2 ^ 62) ≤ j ∧ j < 2 ^ 62 then some (.ok (itR i 1 (j - i).toNat) h1) else none
  | _ => none
def iRng3 (f g k : EM) : IM := fun ls h => bd (cArgs [f, g, k] ls h) fun xs h1 => match xs with
  | [.int i, .int j, .int c] => if rngOk i j c = true then some (.ok (itR i c (rngN i j c)) h1) else none
  | _ => none
def itOfL (h : AH) : DV → Option Itr
  | .lst _ xs => some (itV xs)
  | .ref r => match h[r]? with
    | some (.lst xs) => some (itL r xs.length)
    | _ => none
  | _ => none
def iZip (f g : EM) : IM := fun ls h => bd (cArgs [f, g] ls h) fun xs h2 => match xs with
  | [x, y] => (match itOfL h2 x, itOfL h2 y with
    | some a, some b => some (.ok (itZ a b) h2)
    | _, _ => none)
  | _ => none
def iEnum (f : EM) : IM := fun ls h => bd (cArgs [f] ls h) fun xs h1 => match xs with
  | [x] => (match itOfL h1 x with
    | some a => some (.ok (itE a) h1)
    | none => none)
  | _ => none

/-! ### targets -/
abbrev GM := DV → LS → AH → Option (LS × AH)
def gNm (i : Nat) : GM := fun d ls h => if i < ls.length then some (ls.set i (some d), h) else none
def gAll : List GM → List DV → LS → AH → Option (LS × AH)
  | [], [], ls, h => some (ls, h)
  | g :: gs, d :: ds, ls, h => match g d ls h with
    | some (ls', h') => gAll gs ds ls' h'
    | none => none
  | _, _, _, _ => none
def gTp (gs : List GM) : GM := fun d ls h => match d with
  | .tup ds => gAll gs ds ls h
  | _ => none
def gStuck : GM := fun _ _ _ => none

/-! ### comprehensions -/
def wipeL (ls : LS) : List Nat → LS
  | [] => ls
  | v :: vs => (wipeL ls vs).set v none
/-- the turns of a comprehension: its list stands at r -/
def compN (r : Nat) (nx : Nat → AH → Option (Option DV)) (turn : DV → AH → Option (R (Option DV))) : Nat → Nat → AH → Option (R DV)
  | 0, i, h => match nx i h with
    | some none => some (.ok (.ref r) h)
    | _ => none
  | k + 1, i, h => match nx i h with
    | none => none
    | some none => some (.ok (.ref r) h)
    | some (some d) => match turn d h with
      | some (.ok none h') => compN r nx turn k (i + 1) h'
      | some (.ok (some y) h') => match h'[r]? with
        | some (.lst acc) => if acc.length < LIM then compN r nx turn k (i + 1) (h'.set r (.lst (acc ++ [y]))) else none
        | _ => none
      | _ => none
def compT (g : GM) (c : Option EM) (f : EM) (ls : LS) (d : DV) (h : AH) : Option (R (Option DV)) :=
  match g d ls h with
  | none => none
  | some (ls2, h2) => match c with
    | none => bd (f ls2 h2) fun y h3 => some (.ok (some y) h3)
    | some c => bd (cTru c ls2 h2) fun b h3 => if b = true then bd (f ls2 h3) fun y h4 => some (.ok (some y) h4) else some (.ok none h3)
def cCmp (own : List Nat) (it : IM) (g : GM) (c : Option EM) (f : EM) : EM := fun ls h => bd (it ls h) fun j h1 =>
  compN h1.length j.nx (compT g c f (wipeL ls own)) j.fuel 0 (h1 ++ [.lst []])

/-! ### statements -/
def sSeq : List SM → SM
  | [] => fun ls h => some (.go .nx ls h)
  | s :: r => fun ls h => match s ls h with
    | some (.go .nx ls' h') => sSeq r ls' h'
    | o => o
def sE {α : Type} (r : Option (R α)) (ls : LS) (k : α → AH → Option SR) : Option SR := match r with
  | none => none
  | some (.er x h) => some (.er x ls h)
  | some (.ok a h) => k a h
@[simp] theorem sE_none {α} (ls) (k : α → AH → Option SR) : sE none ls k = none := rfl
@[simp] theorem sE_er {α} (x h ls) (k : α → AH → Option SR) : sE (some (.er x h)) ls k = some (.er x ls h) := rfl
@[simp] theorem sE_ok {α} (a : α) (h ls) (k : α → AH → Option SR) : sE (some (.ok a h)) ls k = k a h := rfl
def sExpr (f : EM) : SM := fun ls h => sE (f ls h) ls fun _ h1 => some (.go .nx ls h1)
def sRet (f : EM) : SM := fun ls h => sE (f ls h) ls fun d h1 => some (.go (.rt d) ls h1)
def sRetN : SM := fun ls h => some (.go (.rt .non) ls h)
def sPass : SM := fun ls h => some (.go .nx ls h)
def sBrk : SM := fun ls h => some (.go .bk ls h)
def sCont : SM := fun ls h => some (.go .ct ls h)
def sStuck : SM := fun _ _ => none
def sIf (c : EM) (a b : SM) : SM := fun ls h => sE (cTru c ls h) ls fun k h1 => if k = true then a ls h1 else b ls h1
def sAsg (f : EM) (g : GM) : SM := fun ls h => sE (f ls h) ls fun d h1 => match g d ls h1 with
  | some (ls', h2) => some (.go .nx ls' h2)
  | none => none
/-- o[i] = f -/
def sSet (f o i : EM) : SM := fun ls h => sE (f ls h) ls fun d h1 => sE (o ls h1) ls fun x h2 => sE (i ls h2) ls fun y h3 => match setD x y d h3 with
  | some h4 => some (.go .nx ls h4)
  | none => none
/-- x op= f -/
def sAug (i : Nat) (op : DV → DV → AH → Option (DV × AH)) (f : EM) : SM := fun ls h => match ls[i]? with
  | some (some x) => sE (f ls h) ls fun y h1 => match op x y h1 with
    | some (z, h2) => some (.go .nx (ls.set i (some z)) h2)
    | none => none
  | _ => none
def whN (c : EM) (b : SM) : Nat → SM
  | 0 => fun _ _ => none
  | k + 1 => fun ls h => sE (cTru c ls h) ls fun t h1 => if t = true then
      match b ls h1 with
      | some (.go .nx ls' h') => whN c b k ls' h'
      | some (.go .ct ls' h') => whN c b k ls' h'
      | some (.go .bk ls' h') => some (.go .nx ls' h')
      | o => o
    else some (.go .nx ls h1)
def WF : Nat := 10000000
def sWh (c : EM) (b : SM) : SM := whN c b WF
def loopN (nx : Nat → AH → Option (Option DV)) (g : GM) (b : SM) : Nat → Nat → SM
  | 0, i => fun ls h => match nx i h with
    | some none => some (.go .nx ls h)
    | _ => none
  | k + 1, i => fun ls h => match nx i h with
    | none => none
    | some none => some (.go .nx ls h)
    | some (some d) => match g d ls h with
      | none => none
      | some (ls1, h1) => match b ls1 h1 with
        | some (.go .nx ls' h') => loopN nx g b k (i + 1) ls' h'
        | some (.go .ct ls' h') => loopN nx g b k (i + 1) ls' h'
        | some (.go .bk ls' h') => some (.go .nx ls' h')
        | o => o
def sFor (it : IM) (g : GM) (b : SM) : SM := fun ls h => sE (it ls h) ls fun j h1 => loopN j.nx g b j.fuel 0 ls h1
def sRaise (x : Exc) : SM := fun ls h => some (.er x ls h)
/-- try: b; except c as slot i: return e (an expression over the error alone) -/
def sTry (b : SM) (is : Str → Option Bool) (su : Exc → Option DV) (gone : LS → LS) : SM := fun ls h => match b ls h with
  | some (.er x ls' h') => match is x.cls with
    | some true => if x.fs.isEmpty = true then (match su x with
      | some d => some (.go (.rt d) (gone ls') h')
      | none => none) else none
    | some false => some (.er x ls' h')
    | none => none
  | o => o

/-! ### the interpreter -/
structure GE where
  fns : List (Str × Nat)
  con : List (Str × DV)
  exc : List (Str × List Str)
  free : List Str
/-- a scope: names' kinds; of a comprehension its own names -/
structure SC where
  N : List Str
  sc : Scope
  fn : Option (List (Str × NameKind))
def SC.vis (c : SC) (x : Str) : Bool := match c.sc.names.lookup x with
  | some .local => true
  | some .cell => true
  | some .free => true
  | _ => false
def SC.sto (c : SC) (x : Str) : Bool := match c.sc.names.lookup x with
  | some .local => true
  | some .cell => (match c.fn with
    | none => true
    | some ns => (match ns.lookup x with
      | some .cell => true
      | _ => false))
  | _ => false
def SC.glo (c : SC) (x : Str) : Bool := match c.sc.names.lookup x with
  | some .globalImplicit => true
  | _ => false
def SC.calm (c : SC) : Bool := match c.sc.kind with
  | .function => true
  | _ => false
def isStar : Expr → Bool
  | .Starred .. => true
  | _ => false
def isComp : Expr → Bool
  | .ListComp .. | .SetComp .. | .DictComp .. => true
  | _ => false
def isSet : Expr → Bool
  | .Set .. => true
  | _ => false
def isSlice : Expr → Bool
  | .Slice .. => true
  | _ => false
def noSup : Expr → Bool
  | .Call (.Name ..) [] [] _ => false
  | _ => true
def okName (x : Str) : Bool := !(x == ("__debug__" : Str)) && !(x == ("__classdict__" : Str)) && !decide (x = "__name__")
section
variable (G : GE) (cf : Str → List DV → AH → Option (R DV))
def cName (c : SC) (x : Str) : EM :=
  if okName x = true then
    if c.vis x = true then (match c.N.idxOf? x with
      | some i => cVar i
      | none => cStuck)
    else if c.glo x = true then (match G.con.lookup x with
      | some d => cVal d
      | none => if G.free.contains x = true then (match tyOfName x with
        | some t => cVal (.ty t)
        | none => cStuck) else cStuck)
    else cStuck
  else cStuck
/-- the slots of a comprehension's own names -/
def ownOf (N : List Str) (scope : Scope) : List (Str × Nat) := scope.names.filterMap fun p => match p.2 with
  | .local => (N.idxOf? p.1).map fun i => (p.1, i)
  | .cell => (N.idxOf? p.1).map fun i => (p.1, i)
  | _ => none
def SC.sub (c : SC) (scope : Scope) : SC := ⟨c.N, relS scope c.sc, some scope.names⟩
def gOf (c : SC) : Nat → Expr → GM
  | 0, _ => gStuck
  | n + 1, e => match e with
    | .Name x _ => if c.sto x = true then (match c.N.idxOf? x with
        | some i => gNm i
        | none => gStuck) else gStuck
    | .Tuple es _ _ => if es.any isStar = true then gStuck else gTp (es.map (gOf c n))
    | _ => gStuck
/-- the slots that a target writes -/
def gSl (c : SC) : Nat → Expr → List Nat
  | 0, _ => []
  | n + 1, e => match e with
    | .Name x _ => (match c.N.idxOf? x with
        | some i => [i]
        | none => [])
    | .Tuple es _ _ => es.flatMap (gSl c n)
    | _ => []
def ands : List EM → EM
  | [] => cStuck
  | [f] => f
  | f :: r => cAnd f (ands r)
def ors : List EM → EM
  | [] => cStuck
  | [f] => f
  | f :: r => cOr f (ors r)
def cConst : Const → EM
  | .none => cVal .non
  | .bool b => cVal (.bl b)
  | .int i => cVal (.int i)
  | .str x => cVal (.str x.cps.toList)
  | _ => cStuck
/-- what a for walks, by its text -/
def isTup : Expr → Bool
  | .Tuple .. => true
  | _ => false
def iOf (c : SC) (tup : Bool) (den : Expr → EM) (e : Expr) : IM :=
  match e with
  | .Call (.Name f _) es [] _ =>
    if (c.glo f && G.free.contains f && okName f && !(es.any isStar)) = true then
      (if f = "range" then (match es with
         | [a] => iRng1 (den a)
         | [a, b] => iRng2 (den a) (den b)
         | [a, b, c] => iRng3 (den a) (den b) (den c)
         | _ => fun _ _ => none)
       else if f = "zip" then (match es, tup with
         | [a, b], true => iZip (den a) (den b)
         | _, _ => fun _ _ => none)
       else if f = "enumerate" then (match es, tup with
         | [a], true => iEnum (den a)
         | _, _ => fun _ _ => none)
       else iVal (den e))
    else iVal (den e)
  | e => if isSet e = true then (fun _ _ => none) else iVal (den e)
def denLc (D : SC → Expr → EM) (n : Nat) (c : SC) (elt tg iter : Expr) (ifs : List Expr) (scope : Scope) : EM :=
  if (blkC c.N c.sc scope (ownOf c.N scope) && ((gSl (c.sub scope) n tg).all fun i => ((ownOf c.N scope).map (·.2)).contains i) && !(isSet iter)) = true then
    (match ifs with
     | [] => cCmp ((ownOf c.N scope).map (·.2)) (iOf G c (isTup tg) (D c) iter) (gOf (c.sub scope) n tg) none (D (c.sub scope) elt)
     | [t] => cCmp ((ownOf c.N scope).map (·.2)) (iOf G c (isTup tg) (D c) iter) (gOf (c.sub scope) n tg) (some (D (c.sub scope) t)) (D (c.sub scope) elt)
     | _ => cStuck)
  else cStuck
def den : Nat → SC → Expr → EM
  | 0, _, _ => cStuck
  | n + 1, c, e => match e with
    | .Constant k _ _ => cConst k
    | .Name x _ => cName G c x
    | .BinOp a op b _ => cOp (binD op) (den n c a) (den n c b)
    | .UnaryOp .Not a _ => cNot (den n c a)
    | .UnaryOp .USub a _ => cUn negD (den n c a)
    | .BoolOp .And es _ => ands (es.map (den n c))
    | .BoolOp .Or es _ => ors (es.map (den n c))
    | .IfExp t a b _ => cIf (den n c t) (den n c a) (den n c b)
    | .Compare a [op] [b] _ => if behindInMarks op b = true then cStuck else cOp (cmpD op) (den n c a) (den n c b)
    | .Compare a [op, op'] [b, d] _ => if (behindInMarks op b || behindInMarks op' d) = true then cStuck else cChain (cmpD op) (cmpD op') (den n c a) (den n c b) (den n c d)
    | .Subscript a (.Slice lo hi none _) _ => cSl (den n c a) (lo.map (den n c)) (hi.map (den n c))
    | .Subscript a (.Slice none none (some (.UnaryOp .USub (.Constant (.int k) _ _) _)) _) _ => if k = 1 then cUn revD (den n c a) else cStuck
    | .Subscript a b _ => if isSlice b = true then cStuck else cOp subD (den n c a) (den n c b)
    | .Tuple es _ _ => if es.any isStar = true then cStuck else cTup (es.map (den n c))
    | .List es _ => if es.any isStar = true then cStuck else cLst (es.map (den n c))
    | .Dict [] [] _ => cDic
    | .Call (.Name f _) es [] _ => if (c.glo f && okName f && !(es.any isStar)) = true then
        (match G.fns.lookup f with
         | some k => if es.length = k ∧ 0 < k then cCall (cf f) (es.map (den n c)) else cStuck
         | none => if G.free.contains f = true then (match bltOf f with
           | some b => if es.isEmpty = true then cStuck else cBlt b (es.map (den n c))
           | none => cStuck) else cStuck) else cStuck
    | .Call (.Attribute o m ap) es [] cp => if (noSup o && decide (ap.endLine = cp.line) && !(es.any isStar) && decide (es.length < 25)) = true then (match mthOf m with
        | some k => cMth k (den n c o) (es.map (den n c))
        | none => cStuck) else cStuck
    | .ListComp elt [⟨tg, iter, ifs, 0⟩] scope _ => denLc G (den n) n c elt tg iter ifs scope
    | _ => cStuck
/-- an except suite's expression, over the error of name x alone -/
def suE (c : SC) (x : Option Str) : Nat → Expr → Exc → Option DV
  | 0, _, _ => none
  | n + 1, e, y => match e with
    | .Constant (.bool b) _ _ => some (.bl b)
    | .Constant .none _ _ => some .non
    | .Call (.Name f _) [.Name v _, .Name k _] [] _ => if (decide (f = "isinstance") && decide (some v = x) && c.glo f && G.free.contains f && okName v && c.glo k && okName k) = true then
        (match G.exc.lookup y.cls with
         | some bs => (match G.exc.lookup k with
           | some _ => some (.bl (bs.contains k))
           | none => none)
         | none => none) else none
    | .BoolOp .And [a, b] _ => match suE c x n a y with
      | some (.bl true) => suE c x n b y
      | some (.bl false) => some (.bl false)
      | _ => none
    | .UnaryOp .Not a _ => match suE c x n a y with
      | some (.bl b) => some (.bl (!b))
      | _ => none
    | _ => none
def excIs (x : Str) (k : Str) : Option Bool := match G.exc.lookup k with
  | some bs => some (bs.contains x)
  | none => none
def denS : Nat → SC → Stmt → SM
  | 0, _, _ => sStuck
  | n + 1, c, s => match s with
    | .Pass _ => sPass
    | .Break _ => sBrk
    | .Continue _ => sCont
    | .Expr (.Constant (.str _) _ _) _ => sPass
    | .Expr e _ => if isComp e = true then sStuck else sExpr (den G cf n c e)
    | .Return (some e) _ => sRet (den G cf n c e)
    | .Return none _ => sRetN
    | .If t a b _ => sIf (den G cf n c t) (sSeq (a.map (denS n c))) (sSeq (b.map (denS n c)))
    | .Assign [.Subscript o i _] e _ => if (isComp e || isSlice i) = true then sStuck else sSet (den G cf n c e) (den G cf n c o) (den G cf n c i)
    | .Assign [tg] e p => (match tg, e with
      | .Name y py, .ListComp _ _ scope pos => if (c.calm && c.sto y && (c.N.idxOf? y).isSome && decide (c.sc.names.lookup y = some .local) && (py.line == pos.line) && !(scope.names.any fun (n, k) => n == y && (k == .local || k == .cell))) = true then sAsg (den G cf n c e) (gOf c n tg) else sStuck
      | .Name _ _, e => if isComp e = true then sStuck else sAsg (den G cf n c e) (gOf c n tg)
      | .Tuple _ _ _, .Tuple _ _ _ => sStuck
      | .Tuple _ _ _, e => if isComp e = true then sStuck else sAsg (den G cf n c e) (gOf c n tg)
      | _, _ => sStuck)
    | .AugAssign (.Name x _) op e _ => if c.sto x = true then (match c.N.idxOf? x with
        | some i => sAug i (ipD op) (den G cf n c e)
        | none => sStuck) else sStuck
    | .While t b [] _ => sWh (den G cf n c t) (sSeq (b.map (denS n c)))
    | .For tg it b [] _ => sFor (iOf G c (isTup tg) (den G cf n c) it) (gOf c n tg) (sSeq (b.map (denS n c)))
    | .Raise (some (.Call (.Name x _) [.Constant (.str _) _ _] [] _)) none _ => if (c.glo x && okName x && (G.exc.lookup x).isSome) = true then sRaise ⟨x, []⟩ else sStuck
    | .Try b [.ExceptHandler (some (.Name x _)) (some y) [.Return (some e) _] _] [] [] _ =>
      if (c.glo x && okName x && (G.exc.lookup x).isSome && decide (c.sc.names.lookup y = some .local)) = true then (match c.N.idxOf? y with
        | some i => sTry (sSeq (b.map (denS n c))) (excIs G x) (suE G c (some y) n e) (fun ls => ls.set i none)
        | none => sStuck) else sStuck
    | .Try b [.ExceptHandler (some (.Name x _)) none [.Return (some e) _] _] [] [] _ =>
      if (c.glo x && okName x && (G.exc.lookup x).isSome) = true then sTry (sSeq (b.map (denS n c))) (excIs G x) (suE G c none n e) id else sStuck
    | _ => sStuck
end
/-! ### functions -/
/- what of a value stands by itself: no reference, no borrowed list -/
mutual
def DV.own : DV → Bool
  | .tup xs => DV.owns xs
  | .lst st xs => st && DV.owns xs
  | .ref _ => false
  | _ => true
def DV.owns : List DV → Bool
  | [] => true
  | x :: r => DV.own x && DV.owns r
end
/- a value read through its references; dr tells a reference's items -/
mutual
def snapW (st : Bool) (dr : Nat → Option (List DV)) : DV → Option DV
  | .tup xs => (snapWs st dr xs).map .tup
  | .lst b xs => if (!b && st) = true then none else (snapWs st dr xs).map (.lst b)
  | .ref r => (dr r).map (.lst st)
  | d => some d
def snapWs (st : Bool) (dr : Nat → Option (List DV)) : List DV → Option (List DV)
  | [] => some []
  | x :: r => match snapW st dr x, snapWs st dr r with
    | some y, some ys => some (y :: ys)
    | _, _ => none
end
def drN (st : Bool) (ex : List Nat) (h : AH) : Nat → Nat → Option (List DV)
  | 0, _ => none
  | n + 1, r => if ex.contains r = true then none else match h[r]? with
    | some (.lst xs) => snapWs st (drN st ex h n) xs
    | _ => none
/-- arguments: borrowed; answers: to be kept -/
def brw (ex : List Nat) (h : AH) (ds : List DV) : Option (List DV) := snapWs false (drN false ex h 4) ds
def kpt (ex : List Nat) (h : AH) (ds : List DV) : Option (List DV) := snapWs true (drN true ex h 4) ds
structure FD where
  name : Str
  ps : List Str
  N : List Str
  body : List Stmt
  sc : Scope
  kind : Nat
  args : Arguments
def retOf (o : Option SR) : Option (R DV) := match o with
  | some (.go (.rt d) _ h) => some (.ok d h)
  | some (.go .nx _ h) => some (.ok .non h)
  | some (.er x _ h) => some (.er x h)
  | _ => none
def startL (N : List Str) (ds : List DV) : LS := ds.map some ++ List.replicate (N.length - ds.length) none
def DEPTH : Nat := 40
def runF (G : GE) (cf : Str → List DV → AH → Option (R DV)) (f : FD) (ds : List DV) (h : AH) : Option (R DV) :=
  if ds.length = f.ps.length then retOf (sSeq (f.body.map (denS G cf DEPTH ⟨f.N, f.sc, none⟩)) (startL f.N ds) h) else none
def findF (T : List FD) (x : Str) : Option FD := T.find? fun f => decide (f.name = x)
def excOwn (x : Exc) : Bool := x.fs.all fun p => p.2.own
def lstAt (h : AH) (r : Nat) : Option (List DV) := match h[r]? with
  | some (.lst xs) => some xs
  | _ => none
def isRef : DV → Option Nat
  | .ref j => some j
  | _ => none
def apartE (h : AH) : R DV → Option (R DV)
  | .er x _ => if excOwn x = true then some (.er x h) else none
  | .ok d h' => match isRef d with
    | some j => (match lstAt h' j with
      | some xs => (match kpt [j] h' xs with
        | some ys => some (.ok (.ref h.length) (h ++ [.lst ys]))
        | none => none)
      | none => none)
    | none => (match kpt [] h' [d] with
      | some [e] => some (.ok e h)
      | _ => none)
/-- apart: the arguments are read, the answer is data or a new list -/
def apart (F : List DV → AH → Option (R DV)) (ds : List DV) (h : AH) : Option (R DV) := match brw [] h ds with
  | none => none
  | some es => (F es []).bind (apartE h)
def inoutE (r : Nat) (h : AH) : R DV → Option (R DV)
  | .er x h' => (match lstAt h' 0 with
    | some zs => (match kpt [0] h' zs with
      | some ws => if excOwn x = true then some (.er x (h.set r (.lst ws))) else none
      | none => none)
    | none => none)
  | .ok d h' => match isRef d, lstAt h' 0 with
    | some j, some zs => (match lstAt h' j with
      | some xs => (match kpt [0, j] h' xs, kpt [0, j] h' zs with
        | some ys, some ws => if j = 0 then none else some (.ok (.ref h.length) (h.set r (.lst ws) ++ [.lst ys]))
        | _, _ => none)
      | none => none)
    | none, some zs => (match kpt [0] h' [d], kpt [0] h' zs with
      | some [e], some ws => some (.ok e (h.set r (.lst ws)))
      | _, _ => none)
    | _, _ => none
/-- the first argument is a list that may be changed -/
def inout (F : List DV → AH → Option (R DV)) (ds : List DV) (h : AH) : Option (R DV) := match ds with
  | .ref r :: ds => (match lstAt h r, brw [r] h ds with
    | some xs, some es => if DV.owns xs = true then (F (.ref 0 :: es) [.lst xs]).bind (inoutE r h) else none
    | _, _ => none)
  | _ => none
def callN (G : GE) (T : List FD) : Nat → Str → List DV → AH → Option (R DV)
  | 0, _, _, _ => none
  | d + 1, x, ds, h => match findF T x with
    | some f => (match f.kind with
      | 0 => apart (runF G (callN G T d) f) ds h
      | 1 => inout (runF G (callN G T d) f) ds h
      | _ => runF G (callN G T d) f ds h)
    | none => none
end P3


set_option maxRecDepth 100000
set_option maxHeartbeats 1000000
set_option autoImplicit false
/-! What the interpreter's values stand for. -/
namespace P3
open PySem L2

def KLst (K : PySem.W.Frag) (a : Addr) (xs : List V) : Prop :=
  ∃ (o : Obj) (its : Array Value) (n : Nat), K.lookup a = some o ∧ o.cls = .type "list" ∧ o.dict = none ∧ o.data = .seq its n ∧ its.size ≤ sizeLine ∧ Vals xs its.toList
def SqS (K : PySem.W.Frag) (Φ : Addr → Prop) (θ : List Addr) (st : Bool) (H : Hp) (a : Addr) (vs : List V) : Prop :=
  (Rd H a (.lst vs) ∧ a ∉ θ ∧ (st = true → ¬ Φ a)) ∨ KLst K a vs
theorem SqS.sql {K : PySem.W.Frag} {Φ : Addr → Prop} {θ : List Addr} {st : Bool} {H : Hp} {a : Addr} {vs : List V} (h : SqS K Φ θ st H a vs) : SqL K H a vs := by
  rcases h with ⟨h, _⟩ | h
  · exact .inl h
  · exact .inr h
mutual
inductive RV (K : PySem.W.Frag) (Φ : Addr → Prop) (θ : List Addr) (H : Hp) : V → DV → Prop
  | non : RV K Φ θ H .non .non
  | bl (b : Bool) : RV K Φ θ H (.bl b) (.bl b)
  | int (i : Int) : RV K Φ θ H (.int i) (.int i)
  | str (x : List Nat) : RV K Φ θ H (.str (SX.S x)) (.str x)
  | ty (n : String) : RV K Φ θ H (.ty n) (.ty n)
  | tup {a : Addr} {vs : List V} {ds : List DV} : SqT K H a vs → RVs K Φ θ H vs ds → RV K Φ θ H (.ref a) (.tup ds)
  | lst {a : Addr} {st : Bool} {vs : List V} {ds : List DV} : SqS K Φ θ st H a vs → RVs K Φ θ H vs ds → RV K Φ θ H (.ref a) (.lst st ds)
  | ref {a : Addr} {i : Nat} : θ[i]? = some a → RV K Φ θ H (.ref a) (.ref i)
inductive RVs (K : PySem.W.Frag) (Φ : Addr → Prop) (θ : List Addr) (H : Hp) : List V → List DV → Prop
  | nil : RVs K Φ θ H [] []
  | cons {v : V} {vs : List V} {d : DV} {ds : List DV} : RV K Φ θ H v d → RVs K Φ θ H vs ds → RVs K Φ θ H (v :: vs) (d :: ds)
end
variable {K : PySem.W.Frag} {Φ : Addr → Prop} {θ θ' θ1 θ2 : List Addr} {H H' H1 H2 : Hp} {ah ah1 ah2 : AH}
theorem RVs.length : ∀ {vs : List V} {ds : List DV}, RVs K Φ θ H vs ds → vs.length = ds.length
  | _, _, .nil => rfl
  | _, _, .cons _ t => by simp [RVs.length t]
theorem RVs.get : ∀ {vs : List V} {ds : List DV} {i : Nat} {d : DV}, RVs K Φ θ H vs ds → ds[i]? = some d → ∃ v, vs[i]? = some v ∧ RV K Φ θ H v d
  | _, _, _, _, .nil, e => by simp at e
  | _, _, 0, _, .cons r _, e => by simp at e; subst e; exact ⟨_, rfl, r⟩
  | _, _, i + 1, d, .cons _ t, e => by
    obtain ⟨v, h1, h2⟩ := RVs.get (i := i) (d := d) t (by simpa using e)
    exact ⟨v, by simpa using h1, h2⟩
theorem RVs.append : ∀ {vs ws : List V} {ds es : List DV}, RVs K Φ θ H vs ds → RVs K Φ θ H ws es → RVs K Φ θ H (vs ++ ws) (ds ++ es)
  | _, _, _, _, .nil, s => s
  | _, _, _, _, .cons r t, s => .cons r (RVs.append t s)
theorem RVs.take : ∀ {vs : List V} {ds : List DV} (n : Nat), RVs K Φ θ H vs ds → RVs K Φ θ H (vs.take n) (ds.take n)
  | _, _, 0, _ => .nil
  | _, _, _ + 1, .nil => .nil
  | _, _, n + 1, .cons r t => .cons r (RVs.take n t)
theorem RVs.drop : ∀ {vs : List V} {ds : List DV} (n : Nat), RVs K Φ θ H vs ds → RVs K Φ θ H (vs.drop n) (ds.drop n)
  | _, _, 0, r => r
  | _, _, _ + 1, .nil => .nil
  | _, _, n + 1, .cons _ t => RVs.drop n t
theorem RVs.set {v : V} {d : DV} (r : RV K Φ θ H v d) : ∀ {vs : List V} {ds : List DV} (i : Nat), RVs K Φ θ H vs ds → RVs K Φ θ H (vs.set i v) (ds.set i d)
  | _, _, _, .nil => .nil
  | _, _, 0, .cons _ t => .cons r t
  | _, _, i + 1, .cons q t => .cons q (RVs.set r i t)
theorem RVs.reverse : ∀ {vs : List V} {ds : List DV}, RVs K Φ θ H vs ds → RVs K Φ θ H vs.reverse ds.reverse
  | _, _, .nil => .nil
  | _, _, .cons r t => by
    rw [List.reverse_cons, List.reverse_cons]
    exact (RVs.reverse t).append (.cons r .nil)

structure Ext (θ : List Addr) (H : Hp) (θ' : List Addr) (H' : Hp) : Prop where
  pre : ∃ new, θ' = θ ++ new ∧ ∀ a ∈ new, H a = none
  keep : ∀ a o, H a = some o → a ∉ θ → H' a = some o
theorem Ext.refl : Ext θ H θ H := ⟨⟨[], by simp, by simp⟩, fun _ _ h _ => h⟩
def RO (K : PySem.W.Frag) (Φ : Addr → Prop) (θ : List Addr) (H : Hp) (a : Addr) : AO → Prop
  | .lst xs => ∃ vs, H a = some (.lst vs) ∧ RVs K Φ θ H vs xs
  | .dic kvs => ∃ ws, H a = some (.dK ws) ∧ Paired (fun (p : Key × V) (q : Key × DV) => p.1 = q.1 ∧ RV K Φ θ H p.2 q.2) ws kvs
structure Rel (K : PySem.W.Frag) (Φ : Addr → Prop) (θ : List Addr) (ah : AH) (H : Hp) : Prop where
  len : θ.length = ah.length
  nd : θ.Nodup
  obj : ∀ (i : Nat) (a : Addr) (o : AO), θ[i]? = some a → ah[i]? = some o → RO K Φ θ H a o
  apart : ∀ a, Φ a → a ∉ θ ∧ H a ≠ none
theorem Rel.at (r : Rel K Φ θ ah H) {a : Addr} (h : a ∈ θ) : ∃ (i : Nat) (o : AO), θ[i]? = some a ∧ ah[i]? = some o ∧ RO K Φ θ H a o := by
  obtain ⟨i, hi, e⟩ := List.getElem_of_mem h
  have h1 : θ[i]? = some a := by rw [List.getElem?_eq_getElem hi, e]
  have hi2 : i < ah.length := by rw [← r.len]; exact hi
  exact ⟨i, ah[i], h1, List.getElem?_eq_getElem hi2, r.obj i a _ h1 (List.getElem?_eq_getElem hi2)⟩
theorem Rel.mut (r : Rel K Φ θ ah H) {a : Addr} (h : a ∈ θ) : (∃ vs, H a = some (.lst vs)) ∨ ∃ ws, H a = some (.dK ws) := by
  obtain ⟨i, o, _, _, h⟩ := r.at h
  cases o with
  | lst xs => obtain ⟨vs, e, _⟩ := h; exact .inl ⟨vs, e⟩
  | dic kvs => obtain ⟨ws, e, _⟩ := h; exact .inr ⟨ws, e⟩
theorem Rel.live (r : Rel K Φ θ ah H) {a : Addr} (h : a ∈ θ) : H a ≠ none := by
  rcases r.mut h with ⟨_, e⟩ | ⟨_, e⟩ <;> rw [e] <;> simp
theorem Rel.notin (r : Rel K Φ θ ah H) {a : Addr} {o : HO} (e : H a = some o) (n : ∀ vs, o ≠ .lst vs) (n2 : ∀ ws, o ≠ .dK ws) : a ∉ θ := fun h => by
  rcases r.mut h with ⟨vs, e2⟩ | ⟨ws, e2⟩
  · rw [e] at e2; exact n vs (Option.some.inj e2)
  · rw [e] at e2; exact n2 ws (Option.some.inj e2)
theorem Rel.freshΦ (r : Rel K Φ θ ah H) {p : Addr} (h : H p = none) : ¬ Φ p := fun hp => (r.apart p hp).2 h
theorem Ext.trans (x : Ext θ H θ1 H1) (r : Rel K Φ θ1 ah1 H1) (y : Ext θ1 H1 θ2 H2) : Ext θ H θ2 H2 := by
  obtain ⟨⟨n1, e1, f1⟩, k1⟩ := x
  obtain ⟨⟨n2, e2, f2⟩, k2⟩ := y
  refine ⟨⟨n1 ++ n2, by rw [e2, e1, List.append_assoc], fun a ha => ?_⟩, fun a o h hn => ?_⟩
  · rcases List.mem_append.mp ha with h | h
    · exact f1 a h
    · cases q : H a with
      | none => rfl
      | some o =>
        have h1 := f2 a h
        by_cases hθ : a ∈ θ
        · exact absurd h1 (r.live (by rw [e1]; exact List.mem_append_left _ hθ))
        · rw [k1 a o q hθ] at h1; cases h1
  · refine k2 a o (k1 a o h hn) ?_
    rw [e1]
    intro hm
    rcases List.mem_append.mp hm with z | z
    · exact hn z
    · rw [f1 a z] at h; cases h
theorem Ext.get (x : Ext θ H θ' H') {i : Nat} {a : Addr} (h : θ[i]? = some a) : θ'[i]? = some a := by
  obtain ⟨⟨n, e, _⟩, _⟩ := x
  rw [e, List.getElem?_append_left (List.getElem?_eq_some_iff.mp h).1]
  exact h
theorem SqT.mono (x : Ext θ H θ' H') (r : Rel K Φ θ ah H) {a : Addr} {vs : List V} (h : SqT K H a vs) : SqT K H' a vs := by
  rcases h with (h | ⟨o, h⟩) | h
  · exact .inl (.inl (x.keep _ _ h (r.notin h (fun _ q => nomatch q) (fun _ q => nomatch q))))
  · exact .inl (.inr ⟨o, x.keep _ _ h (r.notin h (fun _ q => nomatch q) (fun _ q => nomatch q))⟩)
  · exact .inr h
theorem SqS.mono (x : Ext θ H θ' H') {a : Addr} {st : Bool} {vs : List V} (h : SqS K Φ θ st H a vs) : SqS K Φ θ' st H' a vs := by
  rcases h with ⟨h, n, f⟩ | h
  · refine .inl ⟨?_, fun hm => ?_, f⟩
    · rcases h with h | ⟨o, h⟩
      · exact .inl (x.keep _ _ h n)
      · exact .inr ⟨o, x.keep _ _ h n⟩
    · obtain ⟨⟨new, e, fr⟩, _⟩ := x
      rw [e] at hm
      rcases List.mem_append.mp hm with z | z
      · exact n z
      · have := fr a z
        rcases h with h | ⟨o, h⟩ <;> rw [this] at h <;> cases h
  · exact .inr h
mutual
theorem RV.mono (x : Ext θ H θ' H') (r : Rel K Φ θ ah H) : ∀ {v : V} {d : DV}, RV K Φ θ H v d → RV K Φ θ' H' v d
  | _, _, .non => .non
  | _, _, .bl b => .bl b
  | _, _, .int i => .int i
  | _, _, .str y => .str y
  | _, _, .ty n => .ty n
  | _, _, .tup h t => .tup (SqT.mono x r h) (RVs.mono x r t)
  | _, _, .lst h t => .lst (h.mono x) (RVs.mono x r t)
  | _, _, .ref h => .ref (x.get h)
theorem RVs.mono (x : Ext θ H θ' H') (r : Rel K Φ θ ah H) : ∀ {vs : List V} {ds : List DV}, RVs K Φ θ H vs ds → RVs K Φ θ' H' vs ds
  | _, _, .nil => .nil
  | _, _, .cons h t => .cons (RV.mono x r h) (RVs.mono x r t)
end
/-! a new object -/
theorem notin_of_none (r : Rel K Φ θ ah H) {p : Addr} (h : H p = none) : p ∉ θ := fun hm => r.live hm h
theorem Ext.upd_new {p : Addr} {o : HO} (h : H p = none) : Ext θ H θ (upd H p o) :=
  ⟨⟨[], by simp, by simp⟩, fun a u e _ => by rw [upd_ne (ne_of_none e h)]; exact e⟩
theorem Ext.push_new {p : Addr} {o : HO} (h : H p = none) : Ext θ H (θ ++ [p]) (upd H p o) :=
  ⟨⟨[p], rfl, by simpa using h⟩, fun a u e _ => by rw [upd_ne (ne_of_none e h)]; exact e⟩
theorem RO.mono (x : Ext θ H θ' H') (r : Rel K Φ θ ah H) {a : Addr} {o : AO} (ho : RO K Φ θ H a o) (k : ∀ u, H a = some u → H' a = some u) : RO K Φ θ' H' a o := by
  cases o with
  | lst xs => obtain ⟨vs, e, t⟩ := ho; exact ⟨vs, k _ e, t.mono x r⟩
  | dic kvs => obtain ⟨ws, e, t⟩ := ho; exact ⟨ws, k _ e, L2.Paired.mapP t fun p q z => ⟨z.1, z.2.mono x r⟩⟩
theorem Rel.newU (r : Rel K Φ θ ah H) {p : Addr} {o : HO} (h : H p = none) : Rel K Φ θ ah (upd H p o) where
  len := r.len
  nd := r.nd
  obj := fun i a u h1 h2 => (r.obj i a u h1 h2).mono (Ext.upd_new h) r fun w e => by rw [upd_ne (ne_of_none e h)]; exact e
  apart := fun a ha => ⟨(r.apart a ha).1, by
    have := (r.apart a ha).2
    by_cases e : a = p
    · subst e; exact absurd h this
    · rw [upd_ne e]; exact this⟩
theorem Rel.push (r : Rel K Φ θ ah H) {p : Addr} {o : HO} {u : AO} (h : H p = none) (hu : RO K Φ (θ ++ [p]) (upd H p o) p u) : Rel K Φ (θ ++ [p]) (ah ++ [u]) (upd H p o) where
  len := by simp [r.len]
  nd := by
    refine List.nodup_append.mpr ⟨r.nd, by simp, fun a ha b hb => ?_⟩
    have : b = p := by simpa using hb
    subst this
    exact fun e => notin_of_none r h (e ▸ ha)
  obj := fun i a w h1 h2 => by
    by_cases hi : i < θ.length
    · rw [List.getElem?_append_left hi] at h1
      rw [List.getElem?_append_left (by rw [← r.len]; exact hi)] at h2
      exact (r.obj i a w h1 h2).mono (Ext.push_new h) r fun z e => by rw [upd_ne (ne_of_none e h)]; exact e
    · have hi' : i = θ.length := by
        have := (List.getElem?_eq_some_iff.mp h1).1
        simp at this; omega
      subst hi'
      rw [List.getElem?_append_right (Nat.le_refl _)] at h1
      rw [r.len, List.getElem?_append_right (Nat.le_refl _)] at h2
      simp at h1 h2
      subst h1 h2
      exact hu
  apart := fun a ha => by
    have h2 := r.apart a ha
    have hne : a ≠ p := fun e => h2.2 (e ▸ h)
    refine ⟨fun hm => ?_, by rw [upd_ne hne]; exact h2.2⟩
    rcases List.mem_append.mp hm with z | z
    · exact h2.1 z
    · exact hne (by simpa using z)
/-! an object written -/
theorem Ext.write {a : Addr} {o : HO} (h : a ∈ θ) : Ext θ H θ (upd H a o) :=
  ⟨⟨[], by simp, by simp⟩, fun b u e n => by rw [upd_ne (fun q : b = a => n (q.symm ▸ h))]; exact e⟩
theorem nodup_ix {i j : Nat} {a : Addr} (hn : θ.Nodup) (h1 : θ[i]? = some a) (h2 : θ[j]? = some a) : i = j := by
  obtain ⟨l1, e1⟩ := List.getElem?_eq_some_iff.mp h1
  obtain ⟨l2, e2⟩ := List.getElem?_eq_some_iff.mp h2
  exact (List.getElem_inj hn).mp (e1.trans e2.symm)
theorem Rel.write (r : Rel K Φ θ ah H) {i : Nat} {a : Addr} {o : HO} {u : AO} (hi : θ[i]? = some a) (hu : RO K Φ θ (upd H a o) a u) : Rel K Φ θ (ah.set i u) (upd H a o) where
  len := by simp [r.len]
  nd := r.nd
  obj := fun j b w h1 h2 => by
    by_cases e : j = i
    · subst e
      rw [hi] at h1; cases h1
      rw [List.getElem?_set_self (by rw [← r.len]; exact (List.getElem?_eq_some_iff.mp hi).1)] at h2
      cases h2
      exact hu
    · rw [List.getElem?_set_ne (Ne.symm e)] at h2
      have hm : a ∈ θ := List.mem_of_getElem? hi
      refine (r.obj j b w h1 h2).mono (Ext.write hm) r fun z q => ?_
      rw [upd_ne (fun z : b = a => e (nodup_ix r.nd h1 (z.symm ▸ hi)))]
      exact q
  apart := fun b hb => ⟨(r.apart b hb).1, by
    rw [upd_ne (fun z : b = a => (r.apart b hb).1 (z.symm ▸ List.mem_of_getElem? hi))]
    exact (r.apart b hb).2⟩
/-! the frame's names -/
structure SL (K : PySem.W.Frag) (Φ : Addr → Prop) (θ : List Addr) (H : Hp) (σ : L2.St) (ls : LS) : Prop where
  len : σ.length = ls.length
  at_ : ∀ (i : Nat) (d : DV), ls[i]? = some (some d) → ∃ v : V, σ[i]? = some (some v) ∧ RV K Φ θ H v d
theorem SL.mono {σ : L2.St} {ls : LS} (x : Ext θ H θ' H') (r : Rel K Φ θ ah H) (s : SL K Φ θ H σ ls) : SL K Φ θ' H' σ ls :=
  ⟨s.len, fun i d h => let ⟨v, e, t⟩ := s.at_ i d h; ⟨v, e, t.mono x r⟩⟩
theorem SL.set {σ : L2.St} {ls : LS} {i : Nat} {v : V} {d : DV} (s : SL K Φ θ H σ ls) (h : RV K Φ θ H v d) (hi : i < ls.length) : SL K Φ θ H (σ.set i (some v)) (ls.set i (some d)) := by
  refine ⟨by simp [s.len], fun j e hj => ?_⟩
  by_cases q : j = i
  · subst q
    rw [List.getElem?_set_self hi] at hj
    cases hj
    exact ⟨v, List.getElem?_set_self (by rw [s.len]; exact hi), h⟩
  · rw [List.getElem?_set_ne (Ne.symm q)] at hj
    obtain ⟨w, e1, t⟩ := s.at_ j e hj
    exact ⟨w, by rw [List.getElem?_set_ne (Ne.symm q)]; exact e1, t⟩
theorem SL.unset {σ : L2.St} {ls : LS} {i : Nat} (s : SL K Φ θ H σ ls) : SL K Φ θ H (σ.set i none) (ls.set i none) := by
  refine ⟨by simp [s.len], fun j e hj => ?_⟩
  by_cases q : j = i
  · subst q
    by_cases hl : j < ls.length
    · rw [List.getElem?_set_self hl] at hj; cases hj
    · rw [List.getElem?_eq_none (by simpa using hl)] at hj; cases hj
  · rw [List.getElem?_set_ne (Ne.symm q)] at hj
    obtain ⟨w, e1, t⟩ := s.at_ j e hj
    exact ⟨w, by rw [List.getElem?_set_ne (Ne.symm q)]; exact e1, t⟩
theorem SL.wipe {σ : L2.St} {ls : LS} (s : SL K Φ θ H σ ls) : ∀ vs : List Nat, SL K Φ θ H (wipe σ vs) (wipeL ls vs)
  | [] => s
  | v :: vs => (SL.wipe s vs).unset
/-- an error: its class, its fields in its own dict -/
def RX (K : PySem.W.Frag) (Φ : Addr → Prop) (mg : Str → Option Value) (H : Hp) (cls : Value) (dd : Option Addr) (x : Exc) : Prop :=
  (∃ C, mg x.cls = some (.ref C) ∧ cls = .ref C) ∧ (x.fs = [] ∧ dd = none ∨ x.fs ≠ [] ∧ ∃ d fs, dd = some d ∧ H d = some (.xd fs) ∧ Paired (fun (p : Str × V) (q : Str × DV) => p.1 = q.1 ∧ q.2.own = true ∧ RV K Φ [] H p.2 q.2) fs x.fs)
end P3


set_option maxRecDepth 100000
set_option maxHeartbeats 1000000
set_option autoImplicit false
/-! Readings: expressions. -/
namespace P3
open PySem L2

section
variable (X : Cx) (Φ : Addr → Prop) (W : WX)
abbrev RelT (α β : Type) := List Addr → Hp → β → α → Prop
def Post {α β : Type} (rel : RelT α β) (θ : List Addr) (H : Hp) (σ : L2.St) (r : R α) (Q : β → Hp → Prop) : Prop :=
  match r with
  | .ok d ah' => ∀ θ' H' v, Ext θ H θ' H' → Rel X.K Φ θ' ah' H' → rel θ' H' v d → Q v H'
  | .er x ah' => ∀ θ' H' cls dd, Ext θ H θ' H' → Rel X.K Φ θ' ah' H' → RX X.K Φ X.mg H' cls dd x → W cls dd σ H'
def tX {α β : Type} (rel : RelT α β) (f : LS → AH → Option (R α)) : L2.St → Hp → (β → Hp → Prop) → Prop := fun σ H Q =>
  ∃ θ ls ah r, Rel X.K Φ θ ah H ∧ SL X.K Φ θ H σ ls ∧ f ls ah = some r ∧ Post X Φ W rel θ H σ r Q
abbrev rV : RelT DV V := fun θ H v d => RV X.K Φ θ H v d
abbrev rVs : RelT (List DV) (List V) := fun θ H v d => RVs X.K Φ θ H v d
abbrev rB : RelT Bool Bool := fun _ _ v d => v = d
abbrev tE (f : EM) : TE := tX X Φ W (rV X Φ) f
abbrev tAs (fs : List EM) : TA := tX X Φ W (rVs X Φ) (cArgs fs)
abbrev tT (f : EM) : TT := tX X Φ W rB (cTru f)
end
section
variable {X : Cx} {Φ : Addr → Prop} {W : WX}
variable {α β γ δ : Type} {rel : RelT α β} {rel2 : RelT γ δ} {θ θ1 : List Addr} {H H1 : Hp} {σ : L2.St} {ls : LS} {ah ah1 : AH}
theorem Post.trans {r : R α} {Q : β → Hp → Prop} (h : Post X Φ W rel θ H σ r Q) (x : Ext θ H θ1 H1) (r1 : Rel X.K Φ θ1 ah1 H1) : Post X Φ W rel θ1 H1 σ r Q := by
  cases r with
  | ok d ah' => exact fun θ' H' v e r2 q => h θ' H' v (x.trans r1 e) r2 q
  | er y ah' => exact fun θ' H' c d e r2 q => h θ' H' c d (x.trans r1 e) r2 q
theorem Post.imp {r : R α} {Q Q' : β → Hp → Prop} (h : Post X Φ W rel θ H σ r Q) (k : ∀ v H', Q v H' → Q' v H') : Post X Φ W rel θ H σ r Q' := by
  cases r with
  | ok d ah' => exact fun θ' H' v e r2 q => k _ _ (h θ' H' v e r2 q)
  | er y ah' => exact h
theorem tX.mono {f : LS → AH → Option (R α)} {Q Q' : β → Hp → Prop} (h : tX X Φ W rel f σ H Q) (k : ∀ v H', Q v H' → Q' v H') : tX X Φ W rel f σ H Q' := by
  obtain ⟨θ, ls, ah, r, h1, h2, h3, h4⟩ := h
  exact ⟨θ, ls, ah, r, h1, h2, h3, h4.imp k⟩
theorem bd_step {f : LS → AH → Option (R α)} {k : α → AH → Option (R γ)} {r : R γ} {Q : δ → Hp → Prop} (R0 : Rel X.K Φ θ ah H) (S0 : SL X.K Φ θ H σ ls) (e : bd (f ls ah) k = some r) (P : Post X Φ W rel2 θ H σ r Q) :
    tX X Φ W rel f σ H fun v H1 => ∃ θ1 ah1 d, Ext θ H θ1 H1 ∧ Rel X.K Φ θ1 ah1 H1 ∧ SL X.K Φ θ1 H1 σ ls ∧ rel θ1 H1 v d ∧ k d ah1 = some r ∧ Post X Φ W rel2 θ1 H1 σ r Q ∧ f ls ah = some (.ok d ah1) := by
  cases q : f ls ah with
  | none => rw [q] at e; cases e
  | some s =>
    rw [q] at e
    refine ⟨θ, ls, ah, s, R0, S0, q, ?_⟩
    cases s with
    | er x h => cases e; exact P
    | ok d h => exact fun θ' H' v x r' rv => ⟨θ', h, d, x, r', S0.mono x R0, rv, e, P.trans x r', rfl⟩
/-- .. where an error ends -/
theorem tX.start {f : LS → AH → Option (R α)} {Q : β → Hp → Prop} (h : tX X Φ W rel f σ H Q) : ∃ θ ls ah r, Rel X.K Φ θ ah H ∧ SL X.K Φ θ H σ ls ∧ f ls ah = some r ∧ Post X Φ W rel θ H σ r Q := h
theorem up_eq {o : Option (α × AH)} {r : R α} (h : up o = some r) : ∃ d ah, o = some (d, ah) ∧ r = .ok d ah := by
  cases o with
  | none => cases h
  | some p => obtain ⟨d, a⟩ := p; cases h; exact ⟨d, a, rfl, rfl⟩

/-- an operation by values -/
def PostV (X : Cx) (Φ : Addr → Prop) (θ : List Addr) (H : Hp) (d : DV) (ah' : AH) (Q : VK) : Prop :=
  ∀ θ' H' v, Ext θ H θ' H' → Rel X.K Φ θ' ah' H' → RV X.K Φ θ' H' v d → Q v H'
def r3 (X : Cx) (Φ : Addr → Prop) (op : DV → DV → AH → Option (DV × AH)) : R2 := fun x y H Q =>
  ∃ θ ah dx dy d ah', Rel X.K Φ θ ah H ∧ RV X.K Φ θ H x dx ∧ RV X.K Φ θ H y dy ∧ op dx dy ah = some (d, ah') ∧ PostV X Φ θ H d ah' Q
theorem PostV.here {d : DV} {Q : VK} {v : V} (h : PostV X Φ θ H d ah Q) (r : Rel X.K Φ θ ah H) (hv : RV X.K Φ θ H v d) : Q v H := h θ H v Ext.refl r hv
theorem PostV.tup {ds : List DV} {vs : List V} {Q : VK} (h : PostV X Φ θ H (.tup ds) ah Q) (r : Rel X.K Φ θ ah H) (hv : RVs X.K Φ θ H vs ds) : ∀ p, H p = none → Q (.ref p) (upd H p (.tup vs)) := fun p hp =>
  h θ _ _ (Ext.upd_new hp) (r.newU hp) (.tup (SqT.of upd_same) (hv.mono (Ext.upd_new hp) r))
theorem PostV.lst {ds : List DV} {vs : List V} {Q : VK} (h : PostV X Φ θ H (.ref ah.length) (ah ++ [.lst ds]) Q) (r : Rel X.K Φ θ ah H) (hv : RVs X.K Φ θ H vs ds) : ∀ p, H p = none → Q (.ref p) (upd H p (.lst vs)) := fun p hp =>
  h _ _ _ (Ext.push_new hp) (r.push hp ⟨vs, upd_same, hv.mono (Ext.push_new hp) r⟩) (.ref (by rw [← r.len, List.getElem?_append_right (Nat.le_refl _)]; simp))
theorem lim_eq : LIM = sizeLine := by rw [sizeLine_eq]; rfl
/-- an index that is an object -/
theorem RV.obj {v : V} {i : Nat} (r : Rel X.K Φ θ ah H) (h : RV X.K Φ θ H v (.ref i)) : ∃ a, v = .ref a ∧ θ[i]? = some a ∧ ∀ o, ah[i]? = some o → RO X.K Φ θ H a o := by
  cases h with
  | ref e => exact ⟨_, rfl, e, fun o ho => r.obj _ _ o e ho⟩
theorem RV.list {v : V} {i : Nat} {xs : List DV} (r : Rel X.K Φ θ ah H) (h : RV X.K Φ θ H v (.ref i)) (e : ah[i]? = some (.lst xs)) : ∃ a vs, v = .ref a ∧ θ[i]? = some a ∧ H a = some (.lst vs) ∧ RVs X.K Φ θ H vs xs := by
  obtain ⟨a, rfl, h1, h2⟩ := RV.obj r h
  obtain ⟨vs, h3, h4⟩ := h2 _ e
  exact ⟨a, vs, rfl, h1, h3, h4⟩
theorem RV.seq {v : V} {d : DV} {xs : List DV} (r : Rel X.K Φ θ ah H) (h : RV X.K Φ θ H v d) (e : seqOf ah d = some xs) : ∃ a vs, v = .ref a ∧ SqL X.K H a vs ∧ RVs X.K Φ θ H vs xs := by
  cases h with
  | lst h1 h2 => cases e; exact ⟨_, _, rfl, h1.sql, h2⟩
  | @ref a i h1 =>
    cases q : ah[i]? with
    | none => simp [seqOf, q] at e
    | some o =>
      cases o with
      | lst ys =>
        simp [seqOf, q] at e
        subst e
        obtain ⟨vs, h3, h4⟩ := r.obj _ _ _ h1 q
        exact ⟨a, vs, rfl, SqL.of h3, h4⟩
      | dic kvs => simp [seqOf, q] at e
  | _ => cases e
theorem mulX_of {i j : Int} (h : mulOk i j = true) : CMulX i j := by
  have h1 : i.natAbs.log2 + j.natAbs.log2 < 100000000 := of_decide_eq_true h
  have b : ∀ x : Int, PySem.Builtin.Int.intBits x ≤ x.natAbs.log2 + 1 := fun x => by
    unfold PySem.Builtin.Int.intBits
    split <;> omega
  have b1 := b i
  have b2 := b j
  unfold CMulX
  omega
theorem mul_txt {x : List Nat} {n : Int} (hn : 1 < n) (hx : x ≠ []) (hl : x.length * n.toNat ≤ LIM) : MulOk (SX.S x) n ∧ Txt.mul (SX.S x) n = SX.S (List.replicate n.toNat x).flatten := by
  have hxl : 0 < x.length := List.length_pos_iff.mpr hx
  have hnl : n.toNat ≤ LIM := Nat.le_trans (Nat.le_mul_of_pos_left _ hxl) hl
  unfold LIM at hl hnl
  refine ⟨⟨?_, fun _ _ => ?_, fun _ _ => ?_⟩, ?_⟩
  · have h1 : ¬ n < -(2 ^ 63 : Int) := by omega
    have h2 : ¬ n ≥ 2 ^ 63 := by omega
    rw [decide_eq_false h1, decide_eq_false h2]; rfl
  · rw [SX.S_len]
    have h3 : (x.length : Int) * n ≤ 16777216 := by
      have : n = (n.toNat : Int) := by omega
      rw [this, ← Int.natCast_mul]; exact Int.ofNat_le.mpr hl
    have : (x.length : Int) ≤ (2 ^ 63 - 1) / n := (Int.le_ediv_iff_mul_le (by omega)).mpr (by omega)
    omega
  · rw [SX.S_len]
    unfold PySem.Builtin.Str.tooLong
    exact decide_eq_false (by unfold sizeLine; omega)
  · unfold Txt.mul
    have h1 : ¬ n < 1 := by omega
    have h2 : ¬ (n == 1 || (SX.S x).length == 0) = true := by
      rw [SX.S_len]
      intro z
      rcases Bool.or_eq_true_iff.mp z with z | z
      · have := eq_of_beq z; omega
      · have := eq_of_beq z; omega
    rw [if_neg h1, if_neg h2]
    apply TL.ext_tl
    show ((List.replicate n.toNat (SX.S x).cps).foldl (· ++ ·) #[]).toList = _
    generalize n.toNat = k
    have key : ∀ (k : Nat) (a : Array Nat), ((List.replicate k (SX.S x).cps).foldl (· ++ ·) a).toList = a.toList ++ (List.replicate k x).flatten := by
      intro k
      induction k with
      | zero => intro a; simp
      | succ k ih =>
        intro a
        rw [List.replicate_succ, List.foldl_cons, ih, List.replicate_succ, List.flatten_cons]
        simp [SX.S]
    rw [key]
    rfl
theorem op_mul_str : OpR X (binaryOp .Mult) (fun x y H Q => ∃ i j, x = .str i ∧ y = .int j ∧ MulOk i j ∧ Q (.str (Txt.mul i j)) H) := by
  intro pins s σ H x y v u Q I rx ry h
  obtain ⟨i, j, rfl, rfl, hz, q⟩ := h
  obtain ⟨t, rfl⟩ := rx
  obtain ⟨t', rfl⟩ := ry
  exact PySem.SB.mul hz (fun t' k => ⟨.str (Txt.mul i j), H, I.tok _, ⟨_, rfl⟩, q⟩)
theorem op_bin (o : Operator) : OpR X (binaryOp o) (r3 X Φ (binD o)) := by
  intro pins s σ H x y v u Q I rx ry h
  obtain ⟨θ, ah, dx, dy, d, ah', R0, hx, hy, e, P⟩ := h
  unfold binD at e
  split at e
  · cases hx; cases hy; cases e
    exact op_add pins s σ H _ _ v u Q I rx ry ⟨_, _, rfl, rfl, P.here R0 (.int _)⟩
  · rename_i a b
    cases hx; cases hy
    split at e <;> cases e
    rename_i hl
    refine op_add_str pins s σ H _ _ v u Q I rx ry ⟨_, _, rfl, rfl, by rw [SX.S_len, SX.S_len, ← lim_eq]; exact hl, ?_⟩
    rw [SX.S_cat]
    exact P.here R0 (.str _)
  · rename_i a b
    cases hx with
    | tup h1 h2 =>
    cases hy with
    | tup h3 h4 =>
    rename_i A vs B ws
    unfold newT at e
    split at e <;> cases e
    rename_i hl
    have l1 := h2.length
    have l2 := h4.length
    refine op_catA pins s σ H _ _ v u Q I rx ry ⟨A, B, vs, ws, rfl, rfl, h1, h3, by rw [l1, l2, ← lim_eq]; simpa using hl, fun z => ?_, fun z1 z2 => ?_, fun _ _ => P.tup R0 (h2.append h4)⟩
    · subst z
      have : a = [] := by cases h2; rfl
      subst this
      exact P.here R0 (.tup h3 h4)
    · subst z2
      have : b = [] := by cases h4; rfl
      subst this
      rw [List.append_nil] at P
      exact P.here R0 (.tup h1 h2)
  · rename_i a b
    split at e <;> try (cases e)
    rename_i xs ys q1 q2
    unfold newL at e
    split at e <;> cases e
    rename_i hl
    obtain ⟨A, vs, rfl, _, h2, h3⟩ := RV.list R0 hx q1
    obtain ⟨B, ws, rfl, _, h5, h6⟩ := RV.list R0 hy q2
    exact op_cat pins s σ H _ _ v u Q I rx ry ⟨A, B, vs, ws, rfl, rfl, h2, h5, by rw [h3.length, h6.length, ← lim_eq]; simpa using hl, P.lst R0 (h3.append h6)⟩
  · cases hx; cases hy; cases e
    exact op_sub pins s σ H _ _ v u Q I rx ry ⟨_, _, rfl, rfl, P.here R0 (.int _)⟩
  · cases hx; cases hy
    split at e <;> cases e
    rename_i hl
    exact op_mulX pins s σ H _ _ v u Q I rx ry ⟨_, _, rfl, rfl, mulX_of hl, P.here R0 (.int _)⟩
  · cases hx; cases hy
    split at e <;> cases e
    rename_i hl
    obtain ⟨m1, m2⟩ := mul_txt hl.1 hl.2.1 hl.2.2
    refine op_mul_str pins s σ H _ _ v u Q I rx ry ⟨_, _, rfl, rfl, m1, ?_⟩
    rw [m2]
    exact P.here R0 (.str _)
  · cases hx; cases hy
    split at e <;> cases e
    rename_i hl
    unfold divOk at hl
    simp only [Bool.and_eq_true, decide_eq_true_eq] at hl
    exact op_fdivW pins s σ H _ _ v u Q I rx ry ⟨_, _, rfl, rfl, hl, P.here R0 (.int _)⟩
  · cases hx; cases hy
    split at e <;> cases e
    rename_i hl
    exact op_mod pins s σ H _ _ v u Q I rx ry ⟨_, _, rfl, rfl, hl, P.here R0 (.int _)⟩
  · cases hx; cases hy
    split at e <;> cases e
    rename_i hl
    unfold powOk at hl
    simp only [Bool.and_eq_true, decide_eq_true_eq] at hl
    exact op_pow pins s σ H _ _ v u Q I rx ry ⟨_, _, rfl, rfl, ⟨hl.1.1, hl.1.2, hl.2⟩, P.here R0 (.int _)⟩
  · cases e
end
end P3


set_option maxRecDepth 100000
set_option maxHeartbeats 1000000
set_option autoImplicit false
/-! Operations by values: comparisons, truth, subscripts, slices, stores. -/
namespace P3
open PySem L2
section
variable {X : Cx} {Φ : Addr → Prop} {W : WX}
variable {θ θ1 : List Addr} {H H1 : Hp} {σ : L2.St} {ls : LS} {ah ah1 : AH}
/-! ### == -/
mutual
theorem dp_of : ∀ {v : V} {d : DV} {p : PyData}, RV X.K Φ θ H v d → d.pd = some p → Dp X.K H v p
  | _, _, _, .non, e => by cases e; exact .non
  | _, _, _, .bl b, e => by cases e; exact .bl b
  | _, _, _, .int i, e => by cases e; exact .int i
  | _, _, _, .str x, e => by cases e; exact .str _
  | _, _, _, .ty n, e => by cases e
  | _, _, _, .ref h, e => by cases e
  | _, .tup ds, _, .tup h t, e => by
    cases q : DV.pds ds with
    | none => simp [DV.pd, q] at e
    | some ps => simp [DV.pd, q] at e; subst e; exact .tup h (dps_of t q)
  | _, .lst _ ds, _, .lst h t, e => by
    cases q : DV.pds ds with
    | none => simp [DV.pd, q] at e
    | some ps => simp [DV.pd, q] at e; subst e; exact .lst h.sql (dps_of t q)
theorem dps_of : ∀ {vs : List V} {ds : List DV} {ps : List PyData}, RVs X.K Φ θ H vs ds → DV.pds ds = some ps → DpAll X.K H vs ps
  | _, _, _, .nil, e => by cases e; exact .nil
  | _, d :: ds, _, .cons h t, e => by
    cases q : d.pd with
    | none => simp [DV.pds, q] at e
    | some p =>
      cases q2 : DV.pds ds with
      | none => simp [DV.pds, q, q2] at e
      | some ps => simp [DV.pds, q, q2] at e; subst e; exact .cons (dp_of h q) (dps_of t q2)
end
theorem dp_flat (R0 : Rel X.K Φ θ ah H) {v : V} {d : DV} {p : PyData} (h : RV X.K Φ θ H v d) (e : (flat ah d).bind DV.pd = some p) : Dp X.K H v p := by
  cases h with
  | @ref a i h1 =>
    cases q : ah[i]? with
    | none => simp [flat, q] at e
    | some o =>
      cases o with
      | dic kvs => simp [flat, q] at e
      | lst xs =>
        obtain ⟨vs, h3, h4⟩ := R0.obj _ _ _ h1 q
        simp [flat, q] at e
        cases q2 : DV.pds xs with
        | none => simp [DV.pd, q2] at e
        | some ps => simp [DV.pd, q2] at e; subst e; exact .lst (SqL.of h3) (dps_of h4 q2)
  | non => exact dp_of (Φ := Φ) (θ := θ) .non (by simpa [flat] using e)
  | bl b => exact dp_of (Φ := Φ) (θ := θ) (.bl b) (by simpa [flat] using e)
  | int i => exact dp_of (Φ := Φ) (θ := θ) (.int i) (by simpa [flat] using e)
  | str x => exact dp_of (Φ := Φ) (θ := θ) (.str x) (by simpa [flat] using e)
  | ty n => exact dp_of (Φ := Φ) (θ := θ) (.ty n) (by simpa [flat] using e)
  | tup a b => exact dp_of (.tup a b) (by simpa [flat] using e)
  | lst a b => exact dp_of (.lst a b) (by simpa [flat] using e)
theorem V.str_eq (a b : List Nat) : decide (V.str (SX.S a) = V.str (SX.S b)) = decide (a = b) := by
  by_cases h : a = b
  · subst h; simp
  · have : ¬ V.str (SX.S a) = V.str (SX.S b) := fun e => h (SX.S_inj (V.str.inj e))
    simp [h, this]
theorem run_eq (hu : X.A.units + 64 < cLine) {dx dy : DV} {b : Bool} {x y : V} (R0 : Rel X.K Φ θ ah H) (hx : RV X.K Φ θ H x dx) (hy : RV X.K Φ θ H y dy) (e : eqD ah dx dy = some b) {pins : List (Addr × Obj)} {s : Shared} {σ : L2.St} {v u : Value} {Q : VK}
    (I : Inv X pins σ H s) (rx : RelV x v) (ry : RelV y u) (q : Q (.bl b) H) : wpAny (model X.prog X.w) X.A (compareOp .Eq v u) (EP X pins σ Q) X.xe s := by
  unfold eqD at e
  split at e
  · cases hx; cases hy; cases e
    exact op_eq pins s σ H _ _ v u Q I rx ry ⟨rfl, by rw [dec_int, Bool.beq_eq_decide_eq]; exact q⟩
  · cases hx; cases hy; cases e
    exact op_eq pins s σ H _ _ v u Q I rx ry ⟨rfl, by rw [V.str_eq]; exact q⟩
  · cases hx; cases hy; cases e
    exact op_eq pins s σ H _ _ v u Q I rx ry ⟨rfl, by rw [dec_bl, Bool.beq_eq_decide_eq]; exact q⟩
  · split at e
    · rename_i p r q1 q2
      split at e <;> cases e
      rename_i hs
      obtain ⟨s1, s2⟩ := Bool.and_eq_true_iff.mp hs
      exact op_eqD hu pins s σ H _ _ v u Q I rx ry ⟨p, r, dp_flat R0 hx q1, dp_flat R0 hy q2, s1, s2, q⟩
    · cases e
theorem run_ne (hu : X.A.units + 64 < cLine) {dx dy : DV} {b : Bool} {x y : V} (R0 : Rel X.K Φ θ ah H) (hx : RV X.K Φ θ H x dx) (hy : RV X.K Φ θ H y dy) (e : eqD ah dx dy = some b) {pins : List (Addr × Obj)} {s : Shared} {σ : L2.St} {v u : Value} {Q : VK}
    (I : Inv X pins σ H s) (rx : RelV x v) (ry : RelV y u) (q : Q (.bl (!b)) H) : wpAny (model X.prog X.w) X.A (compareOp .NotEq v u) (EP X pins σ Q) X.xe s := by
  unfold eqD at e
  split at e
  · cases hx; cases hy; cases e
    exact op_ne pins s σ H _ _ v u Q I rx ry ⟨rfl, by rw [dec_int, Bool.beq_eq_decide_eq]; exact q⟩
  · cases hx; cases hy; cases e
    exact op_ne pins s σ H _ _ v u Q I rx ry ⟨rfl, by rw [V.str_eq]; exact q⟩
  · cases hx; cases hy; cases e
    exact op_ne pins s σ H _ _ v u Q I rx ry ⟨rfl, by rw [dec_bl, Bool.beq_eq_decide_eq]; exact q⟩
  · split at e
    · rename_i p r q1 q2
      split at e <;> cases e
      rename_i hs
      obtain ⟨s1, s2⟩ := Bool.and_eq_true_iff.mp hs
      exact op_neD hu pins s σ H _ _ v u Q I rx ry ⟨p, r, dp_flat R0 hx q1, dp_flat R0 hy q2, s1, s2, q⟩
    · cases e
/-! ### in -/
theorem eqV_same {x y : V} {dx dy : DV} (hx : RV X.K Φ θ H x dx) (hy : RV X.K Φ θ H y dy) (sx : scalD dx = true) (sy : scalD dy = true) : eqV x y = sameS dx dy := by
  cases hx <;> cases hy <;> first
    | (cases sx; done)
    | (cases sy; done)
    | rfl
    | exact SX.S_beq_eq
    | (simp [eqV, sameS, Bool.beq_eq_decide_eq]; done)
theorem flat_scal {x : V} {d : DV} (hx : RV X.K Φ θ H x d) (s : scalD d = true) : flatV x = true := by
  cases hx <;> first | rfl | cases s
theorem flats_scal : ∀ {xs : List V} {ds : List DV}, RVs X.K Φ θ H xs ds → ds.all scalD = true → xs.all flatV = true
  | _, _, .nil, _ => rfl
  | _, _, .cons h t, s => by
    simp only [List.all_cons, Bool.and_eq_true] at s ⊢
    exact ⟨flat_scal h s.1, flats_scal t s.2⟩
theorem inV_same {x : V} {d : DV} (hx : RV X.K Φ θ H x d) (s : scalD d = true) : ∀ {xs : List V} {ds : List DV}, RVs X.K Φ θ H xs ds → ds.all scalD = true → inV x xs = ds.any fun y => sameS y d
  | _, _, .nil, _ => rfl
  | _, _, .cons h t, q => by
    simp only [List.all_cons, Bool.and_eq_true] at q
    have := inV_same hx s t q.2
    unfold inV at this ⊢
    rw [List.any_cons, List.any_cons, this, eqV_same h hx q.1 s]
theorem keyOf_V {x : V} {d : DV} {k : Key} (hx : RV X.K Φ θ H x d) (e : keyOf d = some k) : x = kV k := by
  cases hx <;> cases e <;> rfl
theorem valD_rel {k : Key} : ∀ {ws : List (Key × V)} {kvs : List (Key × DV)}, Paired (fun (p : Key × V) (q : Key × DV) => p.1 = q.1 ∧ RV X.K Φ θ H p.2 q.2) ws kvs →
    (valV ws k = none ∧ valD kvs k = none) ∨ ∃ w d, valV ws k = some w ∧ valD kvs k = some d ∧ RV X.K Φ θ H w d
  | _, _, .nil => .inl ⟨rfl, rfl⟩
  | _, _, .cons (a := p) (b := q) h t => by
    by_cases e : p.1 = k
    · have e2 : q.1 = k := h.1 ▸ e
      exact .inr ⟨p.2, q.2, by simp [valV, e], by simp [valD, e2], h.2⟩
    · have e2 : ¬ q.1 = k := fun z => e (h.1.trans z)
      rcases valD_rel t with ⟨h1, h2⟩ | ⟨w, d, h1, h2, h3⟩
      · exact .inl ⟨by rw [valV_neg e]; exact h1, by simpa [valD, e2] using h2⟩
      · exact .inr ⟨w, d, by rw [valV_neg e]; exact h1, by simpa [valD, e2] using h2, h3⟩
theorem RV.dict {v : V} {i : Nat} {kvs : List (Key × DV)} (r : Rel X.K Φ θ ah H) (h : RV X.K Φ θ H v (.ref i)) (e : ah[i]? = some (.dic kvs)) :
    ∃ a ws, v = .ref a ∧ θ[i]? = some a ∧ H a = some (.dK ws) ∧ Paired (fun (p : Key × V) (q : Key × DV) => p.1 = q.1 ∧ RV X.K Φ θ H p.2 q.2) ws kvs := by
  obtain ⟨a, rfl, h1, h2⟩ := RV.obj r h
  obtain ⟨vs, h3, h4⟩ := h2 _ e
  exact ⟨a, vs, rfl, h1, h3, h4⟩
/-- the five ways of «in» -/
theorem in_cases {dx dy : DV} {b : Bool} {x y : V} (R0 : Rel X.K Φ θ ah H) (hx : RV X.K Φ θ H x dx) (hy : RV X.K Φ θ H y dy) (e : inD ah dx dy = some b) :
    (∃ (c : Nat) (z : Str), x = .str ⟨#[c]⟩ ∧ y = .str z ∧ b = decide (c ∈ z.cps.toList)) ∨
    (∃ i j : Str, x = .str i ∧ y = .str j ∧ b = (!(PySem.Builtin.Str.occurrences j i 0 j.length 1).isEmpty)) ∨
    (∃ p xs, y = .ref p ∧ (SqL X.K H p xs ∨ SqT X.K H p xs) ∧ flatV x = true ∧ xs.all flatV = true ∧ b = inV x xs) ∨
    ∃ a o, y = .ref a ∧ DGet H a x o ∧ b = o.isSome := by
  have seq : ∀ {ys : List DV} {p : Addr} {vs : List V}, inSeq dx ys = some b → (SqL X.K H p vs ∨ SqT X.K H p vs) → RVs X.K Φ θ H vs ys → y = .ref p → ∃ p xs, y = .ref p ∧ (SqL X.K H p xs ∨ SqT X.K H p xs) ∧ flatV x = true ∧ xs.all flatV = true ∧ b = inV x xs := by
    intro ys p vs q hs hv ey
    unfold inSeq at q
    split at q <;> cases q
    rename_i hc
    obtain ⟨h1, h2⟩ := Bool.and_eq_true_iff.mp hc
    exact ⟨p, vs, ey, hs, flat_scal hx h1, flats_scal hv h2, (inV_same hx h1 hv h2).symm⟩
  unfold inD at e
  split at e
  · cases hx; cases hy; cases e
    exact .inl ⟨_, _, rfl, rfl, by simp⟩
  · cases hx; cases hy; cases e
    refine .inr (.inl ⟨_, _, rfl, rfl, ?_⟩)
    unfold inTxt
    rw [SX.S_len]
  · cases hy with
    | tup h1 h2 => exact .inr (.inr (.inl (seq e (.inr h1) h2 rfl)))
  · cases hy with
    | lst h1 h2 => exact .inr (.inr (.inl (seq e (.inl h1.sql) h2 rfl)))
  · rename_i r _
    split at e
    · rename_i ys q
      obtain ⟨a, vs, rfl, _, h2, h3⟩ := RV.list R0 hy q
      exact .inr (.inr (.inl (seq e (.inl (SqL.of h2)) h3 rfl)))
    · rename_i kvs q
      obtain ⟨a, ws, rfl, _, h2, h3⟩ := RV.dict R0 hy q
      cases q2 : keyOf dx with
      | none => rw [q2] at e; cases e
      | some k =>
        rw [q2] at e
        have e2 := keyOf_V hx q2
        subst e2
        refine .inr (.inr (.inr ⟨a, _, rfl, DGet.k h2, ?_⟩))
        have e3 : (valD kvs k).isSome = b := by simpa using e
        rcases valD_rel (k := k) h3 with ⟨e1, e2⟩ | ⟨w, d, e1, e2, _⟩
        · rw [e1]; rw [e2] at e3; exact e3.symm
        · rw [e1]; rw [e2] at e3; exact e3.symm
    · cases e
  · cases e
theorem run_in (hu : X.A.units + 64 < cLine) {dx dy : DV} {b : Bool} {x y : V} (R0 : Rel X.K Φ θ ah H) (hx : RV X.K Φ θ H x dx) (hy : RV X.K Φ θ H y dy) (e : inD ah dx dy = some b) {pins : List (Addr × Obj)} {s : Shared} {σ : L2.St} {v u : Value} {Q : VK}
    (I : Inv X pins σ H s) (rx : RelV x v) (ry : RelV y u) (q : Q (.bl b) H) : wpAny (model X.prog X.w) X.A (compareOp .In v u) (EP X pins σ Q) X.xe s := by
  rcases in_cases R0 hx hy e with ⟨c, z, rfl, rfl, rfl⟩ | ⟨i, j, rfl, rfl, rfl⟩ | ⟨p, xs, rfl, h1, h2, h3, rfl⟩ | ⟨a, o, rfl, h1, rfl⟩
  · exact op_in_sign pins s σ H _ _ v u Q I rx ry ⟨c, z, rfl, rfl, q⟩
  · exact op_in_str pins s σ H _ _ v u Q I rx ry ⟨i, j, rfl, rfl, q⟩
  · exact op_in_seq pins s σ H _ _ v u Q I rx ry ⟨p, xs, rfl, h1, h2, h3, by simpa using q⟩
  · cases (show u = Value.ref a from ry)
    exact d_in (by omega) I h1 rx fun s3 I3 => ⟨.bl _, H, I3, rfl, q⟩
theorem run_notIn (hu : X.A.units + 64 < cLine) {dx dy : DV} {b : Bool} {x y : V} (R0 : Rel X.K Φ θ ah H) (hx : RV X.K Φ θ H x dx) (hy : RV X.K Φ θ H y dy) (e : inD ah dx dy = some b) {pins : List (Addr × Obj)} {s : Shared} {σ : L2.St} {v u : Value} {Q : VK}
    (I : Inv X pins σ H s) (rx : RelV x v) (ry : RelV y u) (q : Q (.bl (!b)) H) : wpAny (model X.prog X.w) X.A (compareOp .NotIn v u) (EP X pins σ Q) X.xe s := by
  rcases in_cases R0 hx hy e with ⟨c, z, rfl, rfl, rfl⟩ | ⟨i, j, rfl, rfl, rfl⟩ | ⟨p, xs, rfl, h1, h2, h3, rfl⟩ | ⟨a, o, rfl, h1, rfl⟩
  · exact op_notIn_sign pins s σ H _ _ v u Q I rx ry ⟨c, z, rfl, rfl, q⟩
  · exact op_notin_str pins s σ H _ _ v u Q I rx ry ⟨i, j, rfl, rfl, q⟩
  · exact op_notIn_seq pins s σ H _ _ v u Q I rx ry ⟨p, xs, rfl, h1, h2, h3, by simpa using q⟩
  · cases (show u = Value.ref a from ry)
    exact d_notIn (by omega) I h1 rx fun s3 I3 => ⟨.bl _, H, I3, rfl, q⟩
theorem op_cmp (hu : X.A.units + 64 < cLine) (o : CmpOp) : OpR X (compareOp o) (r3 X Φ (cmpD o)) := by
  intro pins s σ H x y v u Q I rx ry h
  obtain ⟨θ, ah, dx, dy, d, ah', R0, hx, hy, e, P⟩ := h
  unfold cmpD at e
  cases q : cmpB o dx dy ah with
  | none => rw [q] at e; cases e
  | some b =>
  rw [q] at e
  cases e
  have fin := P.here R0 (.bl b)
  unfold cmpB at q
  split at q
  · exact run_eq hu R0 hx hy q I rx ry fin
  · cases q2 : eqD ah dx dy with
    | none => rw [q2] at q; cases q
    | some c => rw [q2] at q; cases q; exact run_ne hu R0 hx hy q2 I rx ry fin
  · cases hx; cases hy; cases q; exact op_lt pins s σ H _ _ v u Q I rx ry ⟨_, _, rfl, rfl, fin⟩
  · cases hx; cases hy; cases q; exact op_le pins s σ H _ _ v u Q I rx ry ⟨_, _, rfl, rfl, fin⟩
  · cases hx; cases hy; cases q; exact op_gt pins s σ H _ _ v u Q I rx ry ⟨_, _, rfl, rfl, fin⟩
  · cases hx; cases hy; cases q; exact op_ge pins s σ H _ _ v u Q I rx ry ⟨_, _, rfl, rfl, fin⟩
  · cases hx; cases hy; cases q; exact op_lt_str pins s σ H _ _ v u Q I rx ry ⟨_, _, rfl, rfl, by simpa [ltS] using fin⟩
  · cases hx; cases hy; cases q; exact op_le_str pins s σ H _ _ v u Q I rx ry ⟨_, _, rfl, rfl, by simpa [ltS] using fin⟩
  · cases hx; cases hy; cases q; exact op_gt_str pins s σ H _ _ v u Q I rx ry ⟨_, _, rfl, rfl, by simpa [ltS] using fin⟩
  · cases hx; cases hy; cases q; exact op_ge_str pins s σ H _ _ v u Q I rx ry ⟨_, _, rfl, rfl, by simpa [ltS] using fin⟩
  · exact run_in hu R0 hx hy q I rx ry fin
  · cases q2 : inD ah dx dy with
    | none => rw [q2] at q; cases q
    | some c => rw [q2] at q; cases q; exact run_notIn hu R0 hx hy q2 I rx ry fin
  · cases q
/-! ### truth -/
theorem isEmpty_RVs {vs : List V} {ds : List DV} (r : RVs X.K Φ θ H vs ds) : (!ds.isEmpty) = !vs.isEmpty := by cases r <;> rfl
theorem tru_of {x : V} {d : DV} {b : Bool} (R0 : Rel X.K Φ θ ah H) (hx : RV X.K Φ θ H x d) (e : truD ah d = some b) : TruV X.K x H b := by
  unfold truD at e
  split at e
  · cases hx; cases e; rfl
  · cases hx; cases e; rfl
  · cases hx; cases e; rfl
  · rename_i x
    cases hx
    split at e <;> cases e
    rename_i hl
    refine ⟨by rw [SX.S_len, ← lim_eq]; exact hl, ?_⟩
    rw [SX.S_len]
    cases x <;> simp
    omega
  · cases hx with
    | tup h1 h2 => cases e; exact .inr (.inl ⟨_, h1, isEmpty_RVs h2⟩)
  · cases hx with
    | lst h1 h2 => cases e; exact .inl ⟨_, h1.sql, isEmpty_RVs h2⟩
  · split at e
    · rename_i xs q
      cases e
      obtain ⟨a, vs, rfl, _, h2, h3⟩ := RV.list R0 hx q
      exact .inl ⟨_, SqL.of h2, isEmpty_RVs h3⟩
    · rename_i kvs q
      cases e
      obtain ⟨a, ws, rfl, _, h2, h3⟩ := RV.dict R0 hx q
      exact .inr (.inr ⟨ws, h2, by cases h3 <;> rfl⟩)
    · cases e
  · cases e
theorem un_neg3 {pins : List (Addr × Obj)} {s : Shared} {σ : L2.St} {x : V} {v : Value} {Q : VK} {dx d : DV} {ah' : AH} (I : Inv X pins σ H s) (rx : RelV x v) (R0 : Rel X.K Φ θ ah H) (hx : RV X.K Φ θ H x dx) (e : negD dx ah = some (d, ah')) (P : PostV X Φ θ H d ah' Q) :
    wpAny (model X.prog X.w) X.A (unaryOp .USub v) (EP X pins σ Q) X.xe s := by
  unfold negD at e
  split at e <;> cases e
  cases hx
  exact un_neg pins s σ H _ v Q I rx ⟨_, rfl, P.here R0 (.int _)⟩
/-! ### subscripts -/
def isDic (d : DV) (ah : AH) : Bool := match d with
  | .ref r => match ah[r]? with
    | some (.dic _) => true
    | _ => false
  | _ => false
theorem atI_get' {α : Type} {xs : List α} {i : Int} {x : α} (h : atI xs i = some x) : ∃ j, ixN xs.length i = some j ∧ xs[j]? = some x := by
  unfold atI at h
  cases q : ixN xs.length i with
  | none => rw [q] at h; cases h
  | some j => rw [q] at h; exact ⟨j, rfl, h⟩
theorem atI_rel {vs : List V} {ds : List DV} {i : Int} {d : DV} (r : RVs X.K Φ θ H vs ds) (h : atI ds i = some d) : ∃ v, atI vs i = some v ∧ RV X.K Φ θ H v d := by
  obtain ⟨j, h1, h2⟩ := atI_get' h
  obtain ⟨v, h3, h4⟩ := r.get h2
  exact ⟨v, by unfold atI; rw [r.length, h1]; exact h3, h4⟩
theorem ix3 : IxR X (fun x y H Q => ∃ θ ah dx dy d ah', Rel X.K Φ θ ah H ∧ RV X.K Φ θ H x dx ∧ RV X.K Φ θ H y dy ∧ isDic dx ah = false ∧ subD dx dy ah = some (d, ah') ∧ PostV X Φ θ H d ah' Q) := by
  intro value slice pins s σ H x y v u Q I rx ry h hs
  obtain ⟨θ, ah, dx, dy, d, ah', R0, hx, hy, nd, e, P⟩ := h
  unfold subD at e
  split at e
  · cases hx; cases hy
    split at e
    · rename_i z i hl
      cases q : atI z i with
      | none => rw [q] at e; cases e
      | some c =>
        rw [q] at e
        cases e
        exact ix_str value slice pins s σ H _ _ v u Q I rx ry ⟨_, _, c, rfl, rfl, by rw [SX.S_len, ← lim_eq]; exact hl, by simpa using q, P.here R0 (.str _)⟩ hs
    · cases e
  · rename_i xs i
    cases hy
    cases hx with
    | tup h1 h2 =>
      cases q : atI xs i with
      | none => rw [q] at e; cases e
      | some c =>
        rw [q] at e
        cases e
        obtain ⟨w, h3, h4⟩ := atI_rel h2 q
        exact ix_tup value slice pins s σ H _ _ v u Q I rx ry ⟨_, _, _, w, rfl, rfl, h1, h3, P.here R0 h4⟩ hs
  · rename_i st xs i
    cases hy
    cases hx with
    | lst h1 h2 =>
      cases q : atI xs i with
      | none => rw [q] at e; cases e
      | some c =>
        rw [q] at e
        cases e
        obtain ⟨w, h3, h4⟩ := atI_rel h2 q
        exact ix_list value slice pins s σ H _ _ v u Q I rx ry ⟨_, _, _, w, rfl, rfl, h1.sql, h3, P.here R0 h4⟩ hs
  · rename_i r i
    split at e
    · rename_i xs i q1
      cases hy
      obtain ⟨a, vs, rfl, _, h2, h3⟩ := RV.list R0 hx q1
      cases q : atI xs i with
      | none => rw [q] at e; cases e
      | some c =>
        rw [q] at e
        cases e
        obtain ⟨w, h4, h5⟩ := atI_rel h3 q
        exact ix_list value slice pins s σ H _ _ v u Q I rx ry ⟨_, _, _, w, rfl, rfl, SqL.of h2, h4, P.here R0 h5⟩ hs
    · rename_i kvs q1
      simp [isDic, q1] at nd
    · cases e
  · cases e
theorem cut_rel {vs : List V} {ds : List DV} (lo hi : Option Int) (r : RVs X.K Φ θ H vs ds) : RVs X.K Φ θ H (cutV vs lo hi) (cut ds lo hi) := by
  unfold cutV cut
  rw [r.length]
  exact (r.drop _).take _
theorem sl3 : SlR X (fun x lo hi H Q => ∃ θ ah dx d ah', Rel X.K Φ θ ah H ∧ RV X.K Φ θ H x dx ∧ slD dx lo hi ah = some (d, ah') ∧ PostV X Φ θ H d ah' Q) := by
  intro pins s σ H x v vl vu lo hi sl Q I rx hs pl pu h
  obtain ⟨θ, ah, dx, d, ah', R0, hx, e, P⟩ := h
  unfold slD at e
  split at e
  · cases hx
    split at e <;> cases e
    rename_i z hl
    refine sl_str pins s σ H _ v vl vu lo hi sl Q I rx hs pl pu ⟨_, rfl, by rw [SX.S_len, ← lim_eq]; exact hl, ?_⟩
    have : cutS (SX.S z) lo hi = SX.S (cut z lo hi) := by unfold cutS cut; rw [SX.S_len]
    rw [this]
    exact P.here R0 (.str _)
  · rename_i xs
    cases hx with
    | tup h1 h2 =>
      split at e <;> cases e
      rename_i hw
      exact sl_tup pins s σ H _ v vl vu lo hi sl Q I rx hs pl pu ⟨_, _, rfl, h1, by rw [h2.length]; exact hw, P.tup R0 (cut_rel lo hi h2)⟩
  · cases hx with
    | lst h1 h2 => cases e; exact sl_list pins s σ H _ v vl vu lo hi sl Q I rx hs pl pu ⟨_, _, rfl, h1.sql, P.lst R0 (cut_rel lo hi h2)⟩
  · split at e <;> cases e
    rename_i xs q
    obtain ⟨a, vs, rfl, _, h2, h3⟩ := RV.list R0 hx q
    exact sl_list pins s σ H _ v vl vu lo hi sl Q I rx hs pl pu ⟨_, _, rfl, SqL.of h2, P.lst R0 (cut_rel lo hi h3)⟩
  · cases e
/-! ### o[i] = v -/
theorem put_rel {k : Key} {w : V} {d : DV} (h : RV X.K Φ θ H w d) {ws : List (Key × V)} {kvs : List (Key × DV)} (r : Paired (fun (p : Key × V) (q : Key × DV) => p.1 = q.1 ∧ RV X.K Φ θ H p.2 q.2) ws kvs) :
    Paired (fun (p : Key × V) (q : Key × DV) => p.1 = q.1 ∧ RV X.K Φ θ H p.2 q.2) (putK ws k w) (putD kvs k d) := by
  have ha : (ws.any fun kv => decide (kv.1 = k)) = (kvs.any fun kv => decide (kv.1 = k)) := by
    induction r with
    | nil => rfl
    | cons h t ih => rw [List.any_cons, List.any_cons, ih, h.1]
  unfold putK putD
  rw [ha]
  split
  · rename_i hc
    clear hc ha
    induction r with
    | nil => exact .nil
    | cons h1 t ih =>
      rw [List.map_cons, List.map_cons]
      refine .cons ?_ ih
      rw [h1.1]
      split
      · exact ⟨rfl, h⟩
      · exact h1
  · rename_i hc
    clear hc ha
    induction r with
    | nil => exact .cons ⟨rfl, h⟩ .nil
    | cons h1 t ih => exact .cons h1 ih
theorem paired_len {α β : Type} {F : α → β → Prop} : ∀ {l : List α} {m : List β}, Paired F l m → l.length = m.length
  | _, _, .nil => rfl
  | _, _, .cons _ t => by simp [paired_len t]
theorem set3 (hu : X.A.units + 64 < cLine) : PSet X (fun o i v H Q => ∃ θ ah dx dy dv ah', Rel X.K Φ θ ah H ∧ RV X.K Φ θ H o dx ∧ RV X.K Φ θ H i dy ∧ RV X.K Φ θ H v dv ∧ setD dx dy dv ah = some ah' ∧
    ∀ H', Ext θ H θ H' → Rel X.K Φ θ ah' H' → Q H') := by
  intro pins s σ H o i v ov iv u Q I ro ri rv h
  obtain ⟨θ, ah, dx, dy, dv, ah', R0, hx, hy, hv, e, P⟩ := h
  unfold setD at e
  split at e
  · rename_i r
    split at e
    · rename_i xs k q
      cases hy
      obtain ⟨a, vs, rfl, h1, h2, h3⟩ := RV.list R0 hx q
      cases q2 : ixN xs.length k with
      | none => rw [q2] at e; cases e
      | some j =>
        rw [q2] at e
        cases e
        have hm : a ∈ θ := List.mem_of_getElem? h1
        refine set_list pins s σ H _ _ v ov iv u Q I ro ri rv ⟨a, vs, k, j, rfl, rfl, h2, by rw [h3.length]; exact q2, P _ (Ext.write hm) (R0.write h1 ⟨_, upd_same, ?_⟩)⟩
        exact ((h3.mono (Ext.write hm) R0).set (hv.mono (Ext.write hm) R0) j)
    · rename_i _ _ kvs _ q
      obtain ⟨a, ws, rfl, h1, h2, h3⟩ := RV.dict R0 hx q
      generalize q2 : keyOf _ = kk at e
      cases kk with
      | none => cases e
      | some k =>
        have ek := keyOf_V hy q2
        subst ek
        simp only [Option.bind_some] at e
        split at e <;> cases e
        rename_i hl
        have hm : a ∈ θ := List.mem_of_getElem? h1
        refine set_dict (by omega) pins s σ H _ _ v ov iv u Q I ro ri rv ⟨a, _, rfl, DPut.k h2 (by rw [paired_len h3, ← lim_eq]; exact hl), P _ (Ext.write hm) (R0.write h1 ⟨_, upd_same, ?_⟩)⟩
        exact put_rel (hv.mono (Ext.write hm) R0) (L2.Paired.mapP h3 fun p q z => ⟨z.1, z.2.mono (Ext.write hm) R0⟩)
    · cases e
  · cases e
end
end P3


set_option maxRecDepth 100000
set_option maxHeartbeats 1000000
set_option autoImplicit false
/-! Built-in functions and methods. -/
namespace P3
open PySem L2
section
variable {X : Cx} {Φ : Addr → Prop} {W : WX}
variable {θ θ1 : List Addr} {H H1 : Hp} {σ : L2.St} {ls : LS} {ah ah1 : AH}
theorem map_ints : ∀ {vs : List V} {ds : List DV} {ns : List Int}, RVs X.K Φ θ H vs ds → intsD ds = some ns → vs = ns.map V.int
  | _, _, _, .nil, e => by cases e; rfl
  | _, _, _, .cons h t, e => by
    cases h <;> simp only [intsD] at e <;> try (cases e; done)
    generalize q : intsD _ = o at e
    cases o with
    | none => cases e
    | some r => cases e; rw [map_ints t q]; rfl
theorem map_bools : ∀ {vs : List V} {ds : List DV} {ns : List Bool}, RVs X.K Φ θ H vs ds → boolsD ds = some ns → vs = ns.map V.bl
  | _, _, _, .nil, e => by cases e; rfl
  | _, _, _, .cons h t, e => by
    cases h <;> simp only [boolsD] at e <;> try (cases e; done)
    generalize q : boolsD _ = o at e
    cases o with
    | none => cases e
    | some r => cases e; rw [map_bools t q]; rfl
theorem map_strs : ∀ {vs : List V} {ds : List DV} {ns : List (List Nat)}, RVs X.K Φ θ H vs ds → strsD ds = some ns → vs = (ns.map SX.S).map V.str
  | _, _, _, .nil, e => by cases e; rfl
  | _, _, _, .cons h t, e => by
    cases h <;> simp only [strsD] at e <;> try (cases e; done)
    generalize q : strsD _ = o at e
    cases o with
    | none => cases e
    | some r => cases e; rw [map_strs t q]; rfl
theorem RVs_strs : ∀ ns : List (List Nat), RVs X.K Φ θ H ((ns.map SX.S).map V.str) (ns.map DV.str)
  | [] => .nil
  | n :: r => .cons (.str n) (RVs_strs r)
theorem RVs_ints : ∀ ns : List Int, RVs X.K Φ θ H (ns.map V.int) (ns.map DV.int)
  | [] => .nil
  | n :: r => .cons (.int n) (RVs_ints r)
theorem RV.seqT' {v : V} {d : DV} {xs : List DV} (r : Rel X.K Φ θ ah H) (h : RV X.K Φ θ H v d) (e : seqT ah d = some xs) : ∃ a vs, v = .ref a ∧ (SqL X.K H a vs ∨ SqT X.K H a vs) ∧ RVs X.K Φ θ H vs xs := by
  unfold seqT at e
  split at e
  · cases e
    cases h with
    | tup h1 h2 => exact ⟨_, _, rfl, .inr h1, h2⟩
  · obtain ⟨a, vs, h1, h2, h3⟩ := RV.seq r h e
    exact ⟨a, vs, h1, .inl h2, h3⟩
theorem vals1 {vs : List V} {d : DV} (h : RVs X.K Φ θ H vs [d]) : ∃ v, vs = [v] ∧ RV X.K Φ θ H v d := by
  cases h with
  | cons h t => cases t; exact ⟨_, rfl, h⟩
theorem vals2' {vs : List V} {d e : DV} (h : RVs X.K Φ θ H vs [d, e]) : ∃ v w, vs = [v, w] ∧ RV X.K Φ θ H v d ∧ RV X.K Φ θ H w e := by
  cases h with
  | cons h t => obtain ⟨w, rfl, h2⟩ := vals1 t; exact ⟨_, _, rfl, h, h2⟩

def bval : Blt → Value
  | .len => .builtin "len" | .abs => .builtin "abs" | .int => .type "int" | .str => .type "str" | .list => .type "list" | .tuple => .type "tuple"
  | .divmod => .builtin "divmod" | .isinstance => .builtin "isinstance" | .sum => .builtin "sum" | .all => .builtin "all" | .any => .builtin "any"
  | .sorted => .builtin "sorted" | .ord => .builtin "ord" | .max => .builtin "max" | .min => .builtin "min" | .gcd => .builtin "math.gcd"
def c3 (X : Cx) (Φ : Addr → Prop) (b : Blt) : List V → Hp → VK → Prop := fun xs H Q =>
  ∃ θ ah ds d ah', Rel X.K Φ θ ah H ∧ RVs X.K Φ θ H xs ds ∧ bltD b ds ah = some (d, ah') ∧ PostV X Φ θ H d ah' Q
theorem ty_of {x : V} {d : DV} {t : String} (R0 : Rel X.K Φ θ ah H) (hx : RV X.K Φ θ H x d) (e : tyD ah d = some t) : TyX X.K H x (.type t) := by
  cases hx with
  | non => cases e; exact .base .non
  | bl b => cases e; exact .base (.bl b)
  | int i => cases e; exact .base (.int i)
  | str x => cases e; exact .base (.str _)
  | ty n => cases e
  | tup h1 h2 =>
    cases e
    rcases h1 with (h1 | ⟨o, h1⟩) | ⟨o, its, n, h1, h3, _⟩
    · exact .base (.tup h1)
    · exact .fTuple h1
    · exact .kTuple h1 h3
  | lst h1 h2 =>
    cases e
    rcases h1 with ⟨h1 | ⟨o, h1⟩, _⟩ | ⟨o, its, n, h1, h3, _⟩
    · exact .base (.lst h1)
    · exact .base (.frz h1)
    · exact .kList h1 h3
  | @ref a i h1 =>
    cases q : ah[i]? with
    | none => simp [tyD, q] at e
    | some o =>
      cases o with
      | lst ys =>
        simp [tyD, q] at e
        subst e
        obtain ⟨vs, h3, h4⟩ := R0.obj _ _ _ h1 q
        exact .base (.lst h3)
      | dic ys =>
        simp [tyD, q] at e
        subst e
        obtain ⟨vs, h3, h4⟩ := R0.obj _ _ _ h1 q
        exact .base (.dK h3)
theorem maxI_of : ∀ {ns : List Int} {m : Int}, maxI ns = some m → m ∈ ns ∧ ∀ y ∈ ns, y ≤ m
  | [], _, e => by cases e
  | x :: r, m, e => by
    unfold maxI at e
    cases q : maxI r with
    | none =>
      rw [q] at e
      cases e
      cases r with
      | nil => exact ⟨List.mem_cons_self, by simp⟩
      | cons y z =>
        exfalso
        unfold maxI at q
        split at q <;> cases q
    | some k =>
      obtain ⟨h1, h2⟩ := maxI_of q
      rw [q] at e
      simp only [Option.some.injEq] at e
      split at e
      · subst e
        rename_i hk
        refine ⟨List.mem_cons_self, fun y hy => ?_⟩
        rcases List.mem_cons.mp hy with rfl | hy
        · exact Int.le_refl _
        · have := h2 y hy; omega
      · subst e
        rename_i hk
        refine ⟨List.mem_cons_of_mem _ h1, fun y hy => ?_⟩
        rcases List.mem_cons.mp hy with rfl | hy
        · omega
        · exact h2 y hy
theorem minI_of : ∀ {ns : List Int} {m : Int}, minI ns = some m → m ∈ ns ∧ ∀ y ∈ ns, m ≤ y
  | [], _, e => by cases e
  | x :: r, m, e => by
    unfold minI at e
    cases q : minI r with
    | none =>
      rw [q] at e
      cases e
      cases r with
      | nil => exact ⟨List.mem_cons_self, by simp⟩
      | cons y z =>
        exfalso
        unfold minI at q
        split at q <;> cases q
    | some k =>
      obtain ⟨h1, h2⟩ := minI_of q
      rw [q] at e
      simp only [Option.some.injEq] at e
      split at e
      · subst e
        rename_i hk
        refine ⟨List.mem_cons_self, fun y hy => ?_⟩
        rcases List.mem_cons.mp hy with rfl | hy
        · exact Int.le_refl _
        · have := h2 y hy; omega
      · subst e
        rename_i hk
        refine ⟨List.mem_cons_of_mem _ h1, fun y hy => ?_⟩
        rcases List.mem_cons.mp hy with rfl | hy
        · omega
        · exact h2 y hy
/-! sorting -/
theorem lt_nat_total (a b : List Nat) (h1 : ¬ a < b) (h2 : ¬ b < a) : a = b := List.le_antisymm (List.not_lt.mp h2) (List.not_lt.mp h1)
theorem insT_perm (x : List Nat) : ∀ l, (insT x l).Perm (x :: l)
  | [] => .refl _
  | y :: r => by
    unfold insT
    split
    · exact ((insT_perm x r).cons y).trans (.swap x y r)
    · exact .refl _
theorem sortT_perm : ∀ l, (sortT l).Perm l
  | [] => .refl _
  | x :: r => (insT_perm x _).trans ((sortT_perm r).cons x)
theorem insT_pw (x : List Nat) : ∀ l, l.Pairwise (fun a b => ¬ b < a) → (insT x l).Pairwise (fun a b => ¬ b < a)
  | [], _ => by simp [insT]
  | y :: r, h => by
    rw [List.pairwise_cons] at h
    unfold insT
    split
    · rename_i hlt
      refine List.pairwise_cons.mpr ⟨fun z hz => ?_, insT_pw x r h.2⟩
      rcases List.mem_cons.mp ((insT_perm x r).mem_iff.mp hz) with e | hz
      · subst e; exact List.lt_asymm hlt
      · exact h.1 z hz
    · rename_i hn
      refine List.pairwise_cons.mpr ⟨fun z hz => ?_, List.pairwise_cons.mpr h⟩
      rcases List.mem_cons.mp hz with e | hz
      · subst e; exact hn
      · exact fun hlt => (h.1 z hz) (Std.lt_of_lt_of_le hlt (List.not_lt.mp hn))
theorem sortT_pw : ∀ l, (sortT l).Pairwise (fun a b => ¬ b < a)
  | [] => .nil
  | x :: r => insT_pw x _ (sortT_pw r)
theorem rising_pw : ∀ (l : List Str) (p : Str), PyProof.Rows.risingS p l = true → (p :: l).Pairwise (fun a b => ¬ b.cps.toList < a.cps.toList)
  | [], p, _ => by simp
  | x :: r, p, h => by
    unfold PyProof.Rows.risingS at h
    obtain ⟨h1, h2⟩ := Bool.and_eq_true_iff.mp h
    have hn : ¬ x.cps.toList < p.cps.toList := by
      rw [PyProof.Rows.ltCps_eq] at h1
      simpa using h1
    have ih := rising_pw r x h2
    refine List.pairwise_cons.mpr ⟨fun z hz => ?_, ih⟩
    rcases List.mem_cons.mp hz with e | hz
    · subst e; exact hn
    · have := (List.pairwise_cons.mp ih).1 z hz
      exact fun hlt => this (Std.lt_of_lt_of_le hlt (List.not_lt.mp hn))
theorem sortedS_pw {l : List Str} (h : PyProof.Rows.sortedS l = true) : l.Pairwise (fun a b => ¬ b.cps.toList < a.cps.toList) := by
  cases l with
  | nil => exact .nil
  | cons x r => exact rising_pw r x h
theorem sort_one {ys : List Str} {ns : List (List Nat)} (hp : ys.Perm (ns.map SX.S)) (hs : PyProof.Rows.sortedS ys = true) : ys = (sortT ns).map SX.S := by
  have e : ys.map (fun y => y.cps.toList) = sortT ns := by
    refine List.Perm.eq_of_pairwise (le := fun a b : List Nat => ¬ b < a) (fun a b _ _ h1 h2 => lt_nat_total a b h2 h1) ?_ (sortT_pw ns) ?_
    · exact List.pairwise_map.mpr (sortedS_pw hs)
    · have h1 := hp.map fun y : Str => y.cps.toList
      rw [List.map_map] at h1
      have h2 : ns.map ((fun y : Str => y.cps.toList) ∘ SX.S) = ns := by
        have : ((fun y : Str => y.cps.toList) ∘ SX.S) = id := by funext l; simp [SX.S]
        rw [this, List.map_id]
      rw [h2] at h1
      exact h1.trans (sortT_perm ns).symm
  rw [← e, List.map_map]
  have : (SX.S ∘ fun y : Str => y.cps.toList) = id := by funext y; simp [SX.S]
  rw [this, List.map_id]
theorem insI_perm (x : Int) : ∀ l, (insI x l).Perm (x :: l)
  | [] => .refl _
  | y :: r => by
    unfold insI
    split
    · exact ((insI_perm x r).cons y).trans (.swap x y r)
    · exact .refl _
theorem sortI_perm : ∀ l, (sortI l).Perm l
  | [] => .refl _
  | x :: r => (insI_perm x _).trans ((sortI_perm r).cons x)
theorem insI_pw (x : Int) : ∀ l, l.Pairwise (· ≤ ·) → (insI x l).Pairwise (· ≤ ·)
  | [], _ => by simp [insI]
  | y :: r, h => by
    rw [List.pairwise_cons] at h
    unfold insI
    split
    · rename_i hlt
      refine List.pairwise_cons.mpr ⟨fun z hz => ?_, insI_pw x r h.2⟩
      rcases List.mem_cons.mp ((insI_perm x r).mem_iff.mp hz) with e | hz
      · omega
      · exact h.1 z hz
    · rename_i hn
      refine List.pairwise_cons.mpr ⟨fun z hz => ?_, List.pairwise_cons.mpr h⟩
      rcases List.mem_cons.mp hz with e | hz
      · omega
      · have := h.1 z hz; omega
theorem sortI_pw : ∀ l, (sortI l).Pairwise (· ≤ ·)
  | [] => .nil
  | x :: r => insI_pw x _ (sortI_pw r)
theorem sortI_one {ys ns : List Int} (hp : ys.Perm ns) (hs : ys.Pairwise (· ≤ ·)) : ys = sortI ns :=
  List.Perm.eq_of_pairwise (le := fun a b : Int => a ≤ b) (fun a b _ _ h1 h2 => Int.le_antisymm h1 h2) hs (sortI_pw ns) (hp.trans (sortI_perm ns).symm)
theorem keys_strs : ∀ {ws : List (Key × V)} {kvs : List (Key × DV)} {ns : List (List Nat)}, Paired (fun (p : Key × V) (q : Key × DV) => p.1 = q.1 ∧ RV X.K Φ θ H p.2 q.2) ws kvs → keysT kvs = some ns → ws.map (·.1) = (ns.map SX.S).map Sum.inr
  | _, _, _, .nil, e => by cases e; rfl
  | _, (k, d) :: kvs, _, .cons h t, e => by
    cases k with
    | inl i => cases e
    | inr x =>
      simp only [keysT] at e
      generalize q : keysT _ = o at e
      cases o with
      | none => cases e
      | some r =>
        cases e
        rw [List.map_cons, keys_strs t q, h.1]
        simp [SX.S]
theorem str_nat (n : Nat) : Str.ofString (toString ((n : Nat) : Int)) = SX.S (TL.numL n) := by
  have := TL.tl_num n
  simp only [SX.S]
  have e2 : (Str.ofString (toString ((n : Nat) : Int))).cps = (TL.numL n).toArray := by
    apply Array.toList_inj.mp
    simpa using this
  rw [← e2]
theorem str_decI (i : Int) : Str.ofString (toString i) = SX.S (decI i) := by
  unfold decI
  by_cases h : i < 0
  · rw [if_pos h, PyProof.Rows.toString_neg h]
    have e : (0 : Int) - i = ((i.natAbs : Nat) : Int) := by omega
    rw [e]
    have e3 : Str.ofString ("-" ++ toString ((i.natAbs : Nat) : Int)) = SX.S [45] ++ Str.ofString (toString ((i.natAbs : Nat) : Int)) := by
      apply TL.ext_tl
      rw [TL.tl_ofString, String.toList_append, List.map_append, TL.tl_append, TL.tl_ofString]
      rfl
    rw [e3, str_nat, SX.S_cat]; rfl
  · rw [if_neg h]
    have e : i = ((i.natAbs : Nat) : Int) := by omega
    have := str_nat i.natAbs
    rw [← e] at this
    exact this
theorem call3 (hu : X.A.units + 64 < cLine) (hc : X.calm = true) (b : Blt) : CallR X (bval b) (c3 X Φ b) := by
  intro pins s σ H xs us Q I r h
  obtain ⟨θ, ah, ds, d, ah', R0, hx, e, P⟩ := h
  unfold bltD at e
  split at e
  · obtain ⟨v, rfl, hv⟩ := vals1 hx
    cases hv
    split at e <;> cases e
    rename_i z hl
    exact call_len pins s σ H _ us Q I r ⟨_, z.length, rfl, ⟨by rw [SX.S_len, ← lim_eq]; exact hl, (SX.S_len z).symm⟩, P.here R0 (.int _)⟩
  · obtain ⟨v, rfl, hv⟩ := vals1 hx
    cases hv with
    | tup h1 h2 => cases e; exact call_len pins s σ H _ us Q I r ⟨_, _, rfl, .inr ⟨_, h1, rfl⟩, by rw [h2.length]; exact P.here R0 (.int _)⟩
  · obtain ⟨v, rfl, hv⟩ := vals1 hx
    cases hv with
    | lst h1 h2 => cases e; exact call_len pins s σ H _ us Q I r ⟨_, _, rfl, .inl ⟨_, h1.sql, rfl⟩, by rw [h2.length]; exact P.here R0 (.int _)⟩
  · obtain ⟨v, rfl, hv⟩ := vals1 hx
    split at e
    · rename_i ys q
      cases e
      obtain ⟨a, vs, rfl, _, h2, h3⟩ := RV.list R0 hv q
      exact call_len pins s σ H _ us Q I r ⟨_, _, rfl, .inl ⟨_, SqL.of h2, rfl⟩, by rw [h3.length]; exact P.here R0 (.int _)⟩
    · rename_i kvs q
      cases e
      obtain ⟨a, ws, rfl, _, h2, h3⟩ := RV.dict R0 hv q
      exact call_lenD pins s σ H _ us Q I r ⟨a, ws, rfl, h2, by rw [paired_len h3]; exact P.here R0 (.int _)⟩
    · cases e
  · obtain ⟨v, rfl, hv⟩ := vals1 hx
    cases hv; cases e
    refine call_abs pins s σ H _ us Q I r ⟨_, rfl, ?_⟩
    rename_i i
    have : (if i < 0 then -i else i) = (i.natAbs : Int) := by split <;> omega
    rw [this]
    exact P.here R0 (.int _)
  · obtain ⟨v, rfl, hv⟩ := vals1 hx
    cases hv; cases e
    exact call_int1 pins s σ H _ us Q I r (.inl ⟨_, rfl, P.here R0 (.int _)⟩)
  · obtain ⟨v, rfl, hv⟩ := vals1 hx
    cases hv
    split at e
    · rename_i z hl
      cases q : intText? (SX.S z) with
      | none => rw [q] at e; cases e
      | some n => rw [q] at e; cases e; exact call_int_str pins s σ H _ us Q I r ⟨_, n, rfl, q, by rw [SX.S_len]; exact hl, P.here R0 (.int _)⟩
    · cases e
  · obtain ⟨v, rfl, hv⟩ := vals1 hx
    cases hv
    split at e <;> cases e
    rename_i i hl
    refine call_str_int pins s σ H _ us Q I r ⟨_, rfl, hl, ?_⟩
    rw [str_decI i]
    exact P.here R0 (.str _)
  · obtain ⟨v, rfl, hv⟩ := vals1 hx
    cases hv; cases e
    exact SkE.call_str_str pins s σ H _ us Q I r ⟨_, rfl, P.here R0 (.str _)⟩
  · obtain ⟨v, rfl, hv⟩ := vals1 hx
    cases hv with
    | tup h1 h2 => cases e; exact call_list_of pins s σ H _ us Q I r ⟨_, _, rfl, .inr h1, P.lst R0 h2⟩
  · rename_i d0 _
    obtain ⟨v, rfl, hv⟩ := vals1 hx
    cases q : seqOf ah d0 with
    | none => rw [q] at e; cases e
    | some ys =>
      rw [q] at e; cases e
      obtain ⟨a, vs, rfl, h1, h2⟩ := RV.seq R0 hv q
      exact call_list_of pins s σ H _ us Q I r ⟨_, _, rfl, .inl h1, P.lst R0 h2⟩
  · obtain ⟨v, rfl, hv⟩ := vals1 hx
    cases hv with
    | tup h1 h2 => cases e; exact call_tuple_of pins s σ H _ us Q I r ⟨_, _, rfl, .inr ⟨h1, P.here R0 (.tup h1 h2)⟩⟩
  · rename_i d0 _
    obtain ⟨v, rfl, hv⟩ := vals1 hx
    cases q : seqOf ah d0 with
    | none => rw [q] at e; cases e
    | some ys =>
      rw [q] at e; cases e
      obtain ⟨a, vs, rfl, h1, h2⟩ := RV.seq R0 hv q
      exact call_tuple_of pins s σ H _ us Q I r ⟨_, _, rfl, .inl ⟨h1, P.tup R0 h2⟩⟩
  · obtain ⟨v, w, rfl, hv, hw⟩ := vals2' hx
    cases hv; cases hw
    split at e <;> cases e
    rename_i hl
    obtain ⟨h1, h2⟩ := Bool.and_eq_true_iff.mp hl
    exact call_divmodW pins s σ H _ us Q I r ⟨_, _, rfl, ⟨of_decide_eq_true h1, by simpa using h2⟩, P.tup R0 (.cons (.int _) (.cons (.int _) .nil))⟩
  · rename_i d0 c0
    obtain ⟨v, w, rfl, hv, hw⟩ := vals2' hx
    cases hw
    cases q : tyD ah d0 with
    | none => rw [q] at e; cases e
    | some t =>
      rw [q] at e
      simp only [Option.bind_some] at e
      cases q2 : isiD t c0 with
      | none => rw [q2] at e; cases e
      | some bb =>
        rw [q2] at e; cases e
        exact call_isi pins s σ H _ us Q I r ⟨v, .ty c0, .type t, .type c0, bb, rfl, .ty _, ty_of R0 hv q, kit_ty q2, P.here R0 (.bl _)⟩
  · rename_i d0
    obtain ⟨v, rfl, hv⟩ := vals1 hx
    cases q : seqOf ah d0 with
    | none => rw [q] at e; cases e
    | some ys =>
      rw [q] at e
      simp only [Option.bind_some] at e
      cases q2 : intsD ys with
      | none => rw [q2] at e; cases e
      | some ns =>
        rw [q2] at e; cases e
        obtain ⟨a, vs, rfl, h1, h2⟩ := RV.seq R0 hv q
        rw [map_ints h2 q2] at h1
        exact cr_sum hc pins s σ H _ us Q I r ⟨a, ns, rfl, h1, P.here R0 (.int _)⟩
  · rename_i d0
    obtain ⟨v, rfl, hv⟩ := vals1 hx
    cases q : seqOf ah d0 with
    | none => rw [q] at e; cases e
    | some ys =>
      rw [q] at e
      simp only [Option.bind_some] at e
      cases q2 : boolsD ys with
      | none => rw [q2] at e; cases e
      | some ns =>
        rw [q2] at e; cases e
        obtain ⟨a, vs, rfl, h1, h2⟩ := RV.seq R0 hv q
        rw [map_bools h2 q2] at h1
        exact cr_all hc pins s σ H _ us Q I r ⟨a, ns, rfl, h1, P.here R0 (.bl _)⟩
  · rename_i d0
    obtain ⟨v, rfl, hv⟩ := vals1 hx
    cases q : seqOf ah d0 with
    | none => rw [q] at e; cases e
    | some ys =>
      rw [q] at e
      simp only [Option.bind_some] at e
      cases q2 : boolsD ys with
      | none => rw [q2] at e; cases e
      | some ns =>
        rw [q2] at e; cases e
        obtain ⟨a, vs, rfl, h1, h2⟩ := RV.seq R0 hv q
        rw [map_bools h2 q2] at h1
        exact cr_any hc pins s σ H _ us Q I r ⟨a, ns, rfl, h1, P.here R0 (.bl _)⟩
  · obtain ⟨v, rfl, hv⟩ := vals1 hx
    split at e
    · rename_i ys q
      obtain ⟨a, vs, rfl, _, h2, h3⟩ := RV.list R0 hv q
      split at e
      · rename_i ts q2
        split at e <;> cases e
        rename_i hl
        rw [map_strs h3 q2] at h2
        refine cr_sortedS pins s σ H _ us Q I r ⟨a, _, rfl, SqL.of h2, by simpa using hl, fun zs p hp hs hn => ?_⟩
        rw [sort_one hp hs]
        exact P.lst R0 (RVs_strs _) p hn
      · cases q2 : intsD ys with
        | none => rw [q2] at e; cases e
        | some ns =>
          rw [q2] at e; cases e
          rw [map_ints h3 q2] at h2
          refine cr_sortedI pins s σ H _ us Q I r ⟨a, _, rfl, SqL.of h2, fun zs p hp hs hn => ?_⟩
          rw [sortI_one hp hs]
          exact P.lst R0 (RVs_ints _) p hn
    · rename_i kvs q
      obtain ⟨a, ws, rfl, _, h2, h3⟩ := RV.dict R0 hv q
      split at e
      · rename_i ts q2
        split at e <;> cases e
        rename_i hl
        refine call_sortedD hc pins s σ H _ us Q I r ⟨a, ws, _, rfl, Rd.of h2, keys_strs h3 q2, by simpa using hl, fun zs p hp hs hn => ?_⟩
        rw [sort_one hp hs]
        exact P.lst R0 (RVs_strs _) p hn
      · cases e
    · cases e
  · obtain ⟨v, rfl, hv⟩ := vals1 hx
    cases hv; cases e
    exact call_ord pins s σ H _ us Q I r ⟨_, rfl, by simp [Str.length], by simpa using P.here R0 (.int _)⟩
  · obtain ⟨v, w, rfl, hv, hw⟩ := vals2' hx
    cases hv; cases hw; cases e
    exact call_max2 hc pins s σ H _ us Q I r ⟨_, _, rfl, P.here R0 (.int _)⟩
  · obtain ⟨v, w, rfl, hv, hw⟩ := vals2' hx
    cases hv; cases hw; cases e
    exact call_min2 hc pins s σ H _ us Q I r ⟨_, _, rfl, P.here R0 (.int _)⟩
  · rename_i d0
    obtain ⟨v, rfl, hv⟩ := vals1 hx
    cases q : seqOf ah d0 with
    | none => rw [q] at e; cases e
    | some ys =>
      rw [q] at e
      simp only [Option.bind_some] at e
      cases q2 : intsD ys with
      | none => rw [q2] at e; cases e
      | some ns =>
        rw [q2] at e
        simp only [Option.bind_some] at e
        cases q3 : maxI ns with
        | none => rw [q3] at e; cases e
        | some m =>
        rw [q3] at e; cases e
        obtain ⟨a, vs, rfl, h1, h2⟩ := RV.seq R0 hv q
        rw [map_ints h2 q2] at h1
        obtain ⟨m1, m2⟩ := maxI_of q3
        refine cr_max hc pins s σ H _ us Q I r ⟨a, ns, rfl, h1, List.length_pos_of_mem m1, fun k k1 k2 => ?_⟩
        have : k = m := Int.le_antisymm (m2 k k1) (k2 m m1)
        subst this
        exact P.here R0 (.int _)
  · rename_i d0
    obtain ⟨v, rfl, hv⟩ := vals1 hx
    cases q : seqOf ah d0 with
    | none => rw [q] at e; cases e
    | some ys =>
      rw [q] at e
      simp only [Option.bind_some] at e
      cases q2 : intsD ys with
      | none => rw [q2] at e; cases e
      | some ns =>
        rw [q2] at e
        simp only [Option.bind_some] at e
        cases q3 : minI ns with
        | none => rw [q3] at e; cases e
        | some m =>
        rw [q3] at e; cases e
        obtain ⟨a, vs, rfl, h1, h2⟩ := RV.seq R0 hv q
        rw [map_ints h2 q2] at h1
        obtain ⟨m1, m2⟩ := minI_of q3
        refine cr_min hc pins s σ H _ us Q I r ⟨a, ns, rfl, h1, List.length_pos_of_mem m1, fun k k1 k2 => ?_⟩
        have : k = m := Int.le_antisymm (k2 m m1) (m2 k k1)
        subst this
        exact P.here R0 (.int _)
  · obtain ⟨v, w, rfl, hv, hw⟩ := vals2' hx
    cases hv; cases hw; cases e
    exact cr_gcd pins s σ H _ us Q I r ⟨_, _, rfl, P.here R0 (.int _)⟩
  · cases e
end
end P3


set_option maxRecDepth 100000
set_option maxHeartbeats 1000000
set_option autoImplicit false
/-! Methods; the rules for expressions. -/
namespace P3
open PySem L2
section
variable {X : Cx} {Φ : Addr → Prop} {W : WX}
variable {θ θ1 : List Addr} {H H1 : Hp} {σ : L2.St} {ls : LS} {ah ah1 : AH}
def mty : Mth → String
  | .append | .insert | .extend | .pop => "list"
  | .get => "dict"
  | _ => "str"
def mid : Mth → String
  | .append => "list.append" | .insert => "list.insert" | .extend => "list.extend" | .pop => "list.pop" | .get => "dict.get"
  | .join => "str.join" | .zfill => "str.zfill" | .partition => "str.partition" | .split => "str.split" | .find => "str.find"
def m3 (X : Cx) (Φ : Addr → Prop) (m : Mth) : V → List V → Hp → VK → Prop := fun x xs H Q =>
  ∃ θ ah o ds d ah', Rel X.K Φ θ ah H ∧ RV X.K Φ θ H x o ∧ RVs X.K Φ θ H xs ds ∧ mthD m o ds ah = some (d, ah') ∧ PostV X Φ θ H d ah' Q
theorem PostV.wr {i : Nat} {a : Addr} {xs : List DV} {vs : List V} {d : DV} {v : V} {Q : VK} (h : PostV X Φ θ H d (ah.set i (.lst xs)) Q) (r : Rel X.K Φ θ ah H) (e : θ[i]? = some a) (hv : RVs X.K Φ θ H vs xs) (hd : RV X.K Φ θ H v d) :
    Q v (upd H a (.lst vs)) := by
  have hm : a ∈ θ := List.mem_of_getElem? e
  exact h _ _ _ (Ext.write hm) (r.write e ⟨vs, upd_same, hv.mono (Ext.write hm) r⟩) (hd.mono (Ext.write hm) r)
theorem S_ofTL (x : Str) : x = SX.S x.cps.toList := by simp [SX.S]
theorem mth3 (hu : X.A.units + 64 < cLine) (m : Mth) : MtR X (mid m) (m3 X Φ m) := by
  intro pins s σ H x xs v us Q I rx r h
  obtain ⟨θ, ah, o, ds, d, ah', R0, ho, hx, e, P⟩ := h
  unfold mthD at e
  split at e
  · obtain ⟨y, rfl, hy⟩ := vals1 hx
    split at e
    · rename_i ys q
      split at e <;> cases e
      rename_i hl
      obtain ⟨a, vs, rfl, h1, h2, h3⟩ := RV.list R0 ho q
      exact mt_append pins s σ H _ _ v us Q I rx r ⟨a, vs, y, rfl, rfl, h2, by rw [h3.length, ← lim_eq]; exact hl, P.wr R0 h1 (h3.append (.cons hy .nil)) .non⟩
    · cases e
  · obtain ⟨y, z, rfl, hy, hz⟩ := vals2' hx
    cases hy
    split at e
    · rename_i ys q
      split at e <;> cases e
      rename_i hl
      obtain ⟨a, vs, rfl, h1, h2, h3⟩ := RV.list R0 ho q
      refine mt_insert pins s σ H _ _ v us Q I rx r ⟨a, vs, _, z, rfl, rfl, h2, by rw [h3.length, ← lim_eq]; exact hl.1, hl.2.1, by omega, P.wr R0 h1 (((h3.take _).append (.cons hz .nil)).append (h3.drop _)) .non⟩
    · cases e
  · obtain ⟨y, rfl, hy⟩ := vals1 hx
    split at e
    · rename_i ys zs q1 q2
      split at e <;> cases e
      rename_i hl
      obtain ⟨a, vs, rfl, h1, h2, h3⟩ := RV.list R0 ho q1
      obtain ⟨b, ws, rfl, h4, h5, h6⟩ := RV.list R0 hy q2
      exact mt_extend pins s σ H _ _ v us Q I rx r ⟨a, b, vs, ws, rfl, rfl, h2, h5, by rw [h3.length, h6.length, ← lim_eq]; exact hl, P.wr R0 h1 (h3.append h6) .non⟩
    · cases e
  · cases hx
    split at e
    · rename_i ys q
      obtain ⟨a, vs, rfl, h1, h2, h3⟩ := RV.list R0 ho q
      cases q2 : ys.getLast? with
      | none => rw [q2] at e; cases e
      | some d0 =>
        rw [q2] at e; cases e
        have hne : ys ≠ [] := by rintro rfl; simp at q2
        have hlen : 0 < ys.length := List.length_pos_iff.mpr hne
        rw [List.getLast?_eq_getElem?] at q2
        obtain ⟨y, hy1, hy2⟩ := h3.get q2
        refine mt_pop pins s σ H _ _ v us Q I rx r ⟨a, vs, y, rfl, rfl, h2, by rw [h3.length]; exact hy1, P.wr R0 h1 ?_ hy2⟩
        rw [List.dropLast_eq_take, List.dropLast_eq_take, h3.length]
        exact h3.take _
    · cases e
  · obtain ⟨y, rfl, hy⟩ := vals1 hx
    rename_i sp d0
    cases ho
    cases q : seqT ah d0 with
    | none => simp [q] at e
    | some ys =>
      cases q2 : strsD ys with
      | none => simp [q, q2] at e
      | some ts =>
        simp only [q, q2, Option.bind_some] at e
        split at e <;> cases e
        rename_i hl
        obtain ⟨p, vs, rfl, h1, h2⟩ := RV.seqT' R0 hy q
        rw [map_strs h2 q2] at h1
        refine mt_join pins s σ H _ _ v us Q I rx r ⟨_, p, _, rfl, rfl, h1, ?_, ?_⟩
        · rw [SX.S_len, List.length_map, SX.lens]
          exact hl
        · have : Txt.join (SX.S sp) (ts.map SX.S) = SX.S (gluN sp ts) := by
            have g : ∀ l : List (List Nat), Str.join (SX.S sp) (l.map SX.S) = SX.S (gluN sp l) := by
              intro l
              induction l with
              | nil => rfl
              | cons x r ih =>
                cases r with
                | nil => rfl
                | cons y z =>
                  show SX.S x ++ SX.S sp ++ Str.join (SX.S sp) (SX.S y :: z.map SX.S) = SX.S (x ++ sp ++ gluN sp (y :: z))
                  rw [show Str.join (SX.S sp) (SX.S y :: z.map SX.S) = SX.S (gluN sp (y :: z)) from ih, SX.S_cat, SX.S_cat]
            rw [← g ts]
            exact TL.join_eq _ _
          rw [this]
          exact P.here R0 (.str _)
  · obtain ⟨y, rfl, hy⟩ := vals1 hx
    cases ho; cases hy
    split at e <;> cases e
    rename_i hl
    refine mt_zfill pins s σ H _ _ v us Q I rx r ⟨_, _, rfl, rfl, hl, ?_⟩
    rw [S_ofTL (Txt.zfill _ _)]
    exact P.here R0 (.str _)
  · obtain ⟨y, z, rfl, hy, hz⟩ := vals2' hx
    split at e
    · rename_i kvs k q1 q2
      cases e
      obtain ⟨a, ws, rfl, h1, h2, h3⟩ := RV.dict R0 ho q1
      have ek := keyOf_V hy q2
      subst ek
      cases r with
      | cons r1 rr =>
      cases rr with
      | cons r2 rr =>
      cases rr
      cases (show v = Value.ref a from rx)
      refine d_get2 (by omega) I (DGet.k h2) r1 r2 fun w' s4 I4 rw' => ⟨_, H, I4, rw', P.here R0 ?_⟩
      rcases valD_rel (k := k) h3 with ⟨e1, e2⟩ | ⟨w, d, e1, e2, h⟩
      · rw [e1, e2]; exact hz
      · rw [e1, e2]; exact h
    · cases e
  · obtain ⟨y, rfl, hy⟩ := vals1 hx
    cases ho; cases hy
    split at e <;> cases e
    rename_i x y hl
    refine mt_partition pins s σ H _ _ v us Q I rx r ⟨_, _, rfl, rfl, ?_, by rw [SX.S_len, ← lim_eq]; exact hl.2, ?_⟩
    · rw [SX.S_len]
      have := List.length_pos_iff.mpr hl.1
      simp
      exact hl.1
    · rw [S_ofTL (Txt.partition (SX.S x) (SX.S y)).1, S_ofTL (Txt.partition (SX.S x) (SX.S y)).2.1, S_ofTL (Txt.partition (SX.S x) (SX.S y)).2.2]
      exact P.tup R0 (.cons (.str _) (.cons (.str _) (.cons (.str _) .nil)))
  · obtain ⟨y, z, rfl, hy, hz⟩ := vals2' hx
    cases ho; cases hy; cases hz; cases e
    exact mt_find3 pins s σ H _ _ v us Q I rx r ⟨_, _, _, rfl, rfl, P.here R0 (.int _)⟩
  · obtain ⟨y, rfl, hy⟩ := vals1 hx
    cases ho; cases hy
    split at e <;> cases e
    rename_i x y hl
    refine mt_split pins s σ H _ _ v us Q I rx r ⟨_, _, rfl, rfl, ?_, by rw [SX.S_len, ← lim_eq]; exact hl.2, ?_⟩
    · rw [SX.S_len]
      simp
      exact hl.1
    · refine P.lst R0 ?_
      generalize Txt.split (SX.S x) (SX.S y) = zs
      induction zs with
      | nil => exact .nil
      | cons z zs ih =>
        refine .cons ?_ ih
        conv => arg 5; rw [S_ofTL z]
        exact .str _
  · cases e
end
end P3


set_option maxRecDepth 100000
set_option maxHeartbeats 1000000
set_option autoImplicit false
/-! The rules for expressions. -/
namespace P3
open PySem L2
section
variable {X : Cx}
theorem PE.imp {e : Expr} {t t' : TE} (h : PE X e t) (k : ∀ σ H Q, t' σ H Q → t σ H Q) : PE X e t' := ⟨fun pins s σ H Q I q => h.run pins s σ H Q I (k _ _ _ q)⟩
theorem PT.imp {e : Expr} {t t' : TT} (h : PT X e t) (k : ∀ σ H Q, t' σ H Q → t σ H Q) : PT X e t' := ⟨fun pins s σ H Q I q => h.run pins s σ H Q I (k _ _ _ q)⟩
theorem PA.imp {es : List Expr} {t t' : TA} (h : PA X es t) (k : ∀ σ H Q, t' σ H Q → t σ H Q) : PA X es t' := ⟨fun pos pins s σ H Q I q => h.run pos pins s σ H Q I (k _ _ _ q)⟩
theorem PO.imp {e : Option Expr} {t t' : TO} (h : PO X e t) (k : ∀ σ H Q, t' σ H Q → t σ H Q) : PO X e t' := ⟨fun pins s σ H Q I q => h.run pins s σ H Q I (k _ _ _ q)⟩
theorem star1 {e : Expr} {es : List Expr} {env : Env} (h : isStar e = false) : starEach (e :: es) env = (false, eval e env) :: starEach es env := by
  cases e <;> first | rfl | cases h
theorem star_plain {env : Env} : ∀ {es : List Expr}, es.any isStar = false → (starEach es env).any (·.1) = false
  | [], _ => rfl
  | e :: es, h => by
    rw [List.any_cons, Bool.or_eq_false_iff] at h
    rw [star1 h.1, List.any_cons, star_plain h.2]
    rfl
theorem star_len {env : Env} : ∀ {es : List Expr}, es.any isStar = false → (starEach es env).length = es.length
  | [], _ => rfl
  | e :: es, h => by
    rw [List.any_cons, Bool.or_eq_false_iff] at h
    rw [star1 h.1, List.length_cons, star_len h.2]
    rfl
theorem back_plain {pos : Pos} : ∀ {l : List (Bool × Sem Value)}, (backTo pos l).any (·.1) = l.any (·.1)
  | [] => rfl
  | x :: l => by
    show (x.1 || (backTo pos l).any (·.1)) = (x.1 || l.any (·.1))
    rw [back_plain]
theorem any_all {l : List (Bool × Sem Value)} (h : l.any (·.1) = false) : l.all (fun x => !x.1) = true := by
  induction l with
  | nil => rfl
  | cons x l ih =>
    rw [List.any_cons, Bool.or_eq_false_iff] at h
    rw [List.all_cons, ih h.2, h.1]
    rfl
theorem base_plain {o : Expr} {m : Str} {env : Env} {w : Sem Value} (h : noSup o = true) : attributeBase o m env w = w := by
  unfold attributeBase
  cases o with
  | Call f args kws pos =>
    cases f with
    | Name id p =>
      cases args with
      | nil =>
        cases kws with
        | nil => cases h
        | cons a b => rfl
      | cons a b => rfl
    | _ => rfl
  | _ => rfl
end
section
variable {X : Cx} {Φ : Addr → Prop} {W : WX}
variable {θ θ1 : List Addr} {H H1 : Hp} {σ : L2.St} {ls : LS} {ah ah1 : AH}
theorem pe_stuck {e : Expr} : PE X e (tE X Φ W cStuck) := ⟨fun pins s σ H Q I h => by obtain ⟨_, _, _, _, _, _, e, _⟩ := h; cases e⟩
theorem pe_val {e : Expr} {v : V} {d : DV} (h : PE X e (tC v)) (hv : ∀ θ H, RV X.K Φ θ H v d) : PE X e (tE X Φ W (cVal d)) :=
  PE.imp h fun σ H Q ⟨θ, ls, ah, r, R0, S0, e, P⟩ => by cases e; exact P θ H v Ext.refl R0 (hv θ H)
theorem pe_varL {i : Nat} {x : Str} {pos : Pos} (h : PE X (.Name x pos) (tVar i)) : PE X (.Name x pos) (tE X Φ W (cVar i)) :=
  PE.imp h fun σ H Q ⟨θ, ls, ah, r, R0, S0, e, P⟩ => by
    unfold cVar at e
    split at e <;> cases e
    rename_i d hd
    obtain ⟨v, h1, h2⟩ := S0.at_ _ _ hd
    exact ⟨v, h1, P θ H v Ext.refl R0 h2⟩
theorem pe_opL {a b : Expr} {o : Operator} {pos : Pos} {f g : EM} (ha : PE X a (tE X Φ W f)) (hb : PE X b (tE X Φ W g)) : PE X (.BinOp a o b pos) (tE X Φ W (cOp (binD o) f g)) :=
  PE.imp (pe_op (op_bin (Φ := Φ) o) ha hb) fun σ H Q ⟨θ, ls, ah, r, R0, S0, e, P⟩ => by
    refine (bd_step R0 S0 e P).mono fun x H1 ⟨θ1, ah1, d1, x1, R1, S1, rv1, e1, P1, _⟩ => ?_
    refine (bd_step R1 S1 e1 P1).mono fun y H2 ⟨θ2, ah2, d2, x2, R2, S2, rv2, e2, P2, _⟩ => ?_
    obtain ⟨d, ah', e3, rfl⟩ := up_eq e2
    exact ⟨θ2, ah2, d1, d2, d, ah', R2, RV.mono x2 R1 rv1, rv2, e3, P2⟩
theorem pe_cmpL (hu : X.A.units + 64 < cLine) {a b : Expr} {o : CmpOp} {pos : Pos} {f g : EM} (ha : PE X a (tE X Φ W f)) (hb : PE X b (tE X Φ W g)) (hm : behindInMarks o b = false) : PE X (.Compare a [o] [b] pos) (tE X Φ W (cOp (cmpD o) f g)) :=
  PE.imp (pe_cmpR (op_cmp (Φ := Φ) hu o) ha hb hm) fun σ H Q ⟨θ, ls, ah, r, R0, S0, e, P⟩ => by
    refine (bd_step R0 S0 e P).mono fun x H1 ⟨θ1, ah1, d1, x1, R1, S1, rv1, e1, P1, _⟩ => ?_
    refine (bd_step R1 S1 e1 P1).mono fun y H2 ⟨θ2, ah2, d2, x2, R2, S2, rv2, e2, P2, _⟩ => ?_
    obtain ⟨d, ah', e3, rfl⟩ := up_eq e2
    exact ⟨θ2, ah2, d1, d2, d, ah', R2, RV.mono x2 R1 rv1, rv2, e3, P2⟩
theorem cmp_bl {o : CmpOp} {x y : DV} {p : DV × AH} (h : cmpD o x y ah = some p) : ∃ b, p = (.bl b, ah) := by
  unfold cmpD at h
  cases q : cmpB o x y ah with
  | none => rw [q] at h; cases h
  | some b => rw [q] at h; cases h; exact ⟨b, rfl⟩
theorem pt_cmpL (hu : X.A.units + 64 < cLine) {a b : Expr} {o : CmpOp} {pos : Pos} {f g : EM} (ha : PE X a (tE X Φ W f)) (hb : PE X b (tE X Φ W g)) (hm : behindInMarks o b = false) : PT X (.Compare a [o] [b] pos) (tT X Φ W (cOp (cmpD o) f g)) :=
  PT.imp (pt_cmpR (op_cmp (Φ := Φ) hu o) ha hb hm) fun σ H Q ⟨θ, ls, ah, r, R0, S0, e, P⟩ => by
    unfold cTru cOp at e
    cases q : f ls ah with
    | none => rw [q] at e; cases e
    | some s =>
    cases s with
    | er y h => rw [q] at e; cases e; exact ⟨θ, ls, ah, _, R0, S0, q, P⟩
    | ok d1 ah1 =>
    rw [q] at e
    simp only [bd_ok] at e
    refine ⟨θ, ls, ah, _, R0, S0, q, fun θ1 H1 x x1 R1 rv1 => ?_⟩
    have S1 := S0.mono x1 R0
    have P1 := P.trans x1 R1
    cases q2 : g ls ah1 with
    | none => rw [q2] at e; cases e
    | some s =>
    cases s with
    | er y h => rw [q2] at e; cases e; exact ⟨θ1, ls, ah1, _, R1, S1, q2, P1⟩
    | ok d2 ah2 =>
    rw [q2] at e
    simp only [bd_ok] at e
    refine ⟨θ1, ls, ah1, _, R1, S1, q2, fun θ2 H2 y x2 R2 rv2 => ?_⟩
    have P2 := P1.trans x2 R2
    cases q3 : cmpD o d1 d2 ah2 with
    | none => rw [q3] at e; cases e
    | some p =>
    obtain ⟨b, rfl⟩ := cmp_bl q3
    rw [q3] at e
    cases e
    refine ⟨θ2, _, d1, d2, _, _, R2, RV.mono x2 R1 rv1, rv2, q3, fun θ3 H3 v x3 R3 rv3 => ?_⟩
    cases rv3
    exact ⟨b, rfl, P2 _ _ b x3 R3 rfl⟩
theorem tru_step {f : EM} {k : Bool → AH → Option (R DV)} {r : R DV} {Q : VK} (R0 : Rel X.K Φ θ ah H) (S0 : SL X.K Φ θ H σ ls) (e : bd (cTru f ls ah) k = some r) (P : Post X Φ W (rV X Φ) θ H σ r Q) :
    tT X Φ W f σ H fun b H1 => ∃ θ1 ah1, Ext θ H θ1 H1 ∧ Rel X.K Φ θ1 ah1 H1 ∧ SL X.K Φ θ1 H1 σ ls ∧ k b ah1 = some r ∧ Post X Φ W (rV X Φ) θ1 H1 σ r Q :=
  (bd_step (rel := rB) R0 S0 e P).mono fun b H1 ⟨θ1, ah1, d, x1, R1, S1, rv, e1, P1, _⟩ => by
    cases rv
    exact ⟨θ1, ah1, x1, R1, S1, e1, P1⟩
/-- an expression's truth by its value -/
theorem pt_valL {a : Expr} {f : EM} (ha : PE X a (tE X Φ W f)) (he : ∀ whole, isTrue a X.env whole = (do let v ← whole; standAt a.pos; holding [v] (truthy v))) : PT X a (tT X Φ W f) :=
  PT.imp (pt_truth ha he) fun σ H Q ⟨θ, ls, ah, r, R0, S0, e, P⟩ => by
    refine (bd_step (rel := rV X Φ) R0 S0 e P).mono fun x H1 ⟨θ1, ah1, d1, x1, R1, S1, rv1, e1, P1, _⟩ => ?_
    cases q : truD ah1 d1 with
    | none => rw [q] at e1; cases e1
    | some b => rw [q] at e1; cases e1; exact ⟨b, tru_of R1 rv1 q, P1 θ1 H1 b Ext.refl R1 rfl⟩
theorem pe_notL {a : Expr} {f : EM} {pos : Pos} (ha : PE X a (tE X Φ W f)) : PE X (.UnaryOp .Not a pos) (tE X Φ W (cNot f)) :=
  PE.imp (pe_notT ha) fun σ H Q ⟨θ, ls, ah, r, R0, S0, e, P⟩ => by
    unfold cNot cTru at e
    cases q : f ls ah with
    | none => rw [q] at e; cases e
    | some s =>
    cases s with
    | er y h => rw [q] at e; cases e; exact ⟨θ, ls, ah, _, R0, S0, q, P⟩
    | ok d1 ah1 =>
    rw [q] at e
    simp only [bd_ok] at e
    refine ⟨θ, ls, ah, _, R0, S0, q, fun θ1 H1 x x1 R1 rv1 => ?_⟩
    cases q2 : truD ah1 d1 with
    | none => rw [q2] at e; cases e
    | some b => rw [q2] at e; cases e; exact ⟨b, tru_of R1 rv1 q2, P _ _ _ x1 R1 (.bl _)⟩
theorem pt_notL {a : Expr} {f : EM} {pos : Pos} (ha : PT X a (tT X Φ W f)) : PT X (.UnaryOp .Not a pos) (tT X Φ W (cNot f)) :=
  PT.imp (pt_not ha) fun σ H Q ⟨θ, ls, ah, r, R0, S0, e, P⟩ => by
    cases q : cTru f ls ah with
    | none => unfold cTru cNot at e; rw [q] at e; cases e
    | some s =>
    cases s with
    | er y h => unfold cTru cNot at e; rw [q] at e; cases e; exact ⟨θ, ls, ah, _, R0, S0, q, P⟩
    | ok b ah1 =>
    unfold cTru cNot at e
    rw [q] at e
    cases e
    exact ⟨θ, ls, ah, _, R0, S0, q, fun θ1 H1 x x1 R1 rv1 => by cases rv1; exact P _ _ _ x1 R1 rfl⟩
theorem pe_ifL {c a b : Expr} {k f g : EM} {pos : Pos} (hc : PT X c (tT X Φ W k)) (ha : PE X a (tE X Φ W f)) (hb : PE X b (tE X Φ W g)) : PE X (.IfExp c a b pos) (tE X Φ W (cIf k f g)) :=
  PE.imp (pe_ifExp hc ha hb) fun σ H Q ⟨θ, ls, ah, r, R0, S0, e, P⟩ => by
    refine (tru_step R0 S0 e P).mono fun x H1 ⟨θ1, ah1, x1, R1, S1, e1, P1⟩ => ?_
    cases x with
    | true => exact ⟨θ1, ls, ah1, r, R1, S1, e1, P1⟩
    | false => exact ⟨θ1, ls, ah1, r, R1, S1, e1, P1⟩
theorem pe_andL {a b : Expr} {rest : List Expr} {f g : EM} {pos : Pos} (ha : PE X a (tE X Φ W f)) (hb : PE X (.BoolOp .And (b :: rest) pos) (tE X Φ W g)) : PE X (.BoolOp .And (a :: b :: rest) pos) (tE X Φ W (cAnd f g)) :=
  PE.imp (pe_andT ha hb) fun σ H Q ⟨θ, ls, ah, r, R0, S0, e, P⟩ => by
    refine (bd_step (rel := rV X Φ) R0 S0 e P).mono fun x H1 ⟨θ1, ah1, d1, x1, R1, S1, rv1, e1, P1, _⟩ => ?_
    cases q : truD ah1 d1 with
    | none => rw [q] at e1; cases e1
    | some k =>
      rw [q] at e1
      refine ⟨k, tru_of R1 rv1 q, ?_⟩
      cases k with
      | true => exact ⟨θ1, ls, ah1, r, R1, S1, e1, P1⟩
      | false => cases e1; exact P1 θ1 H1 x Ext.refl R1 rv1
theorem pe_orL {a b : Expr} {rest : List Expr} {f g : EM} {pos : Pos} (ha : PE X a (tE X Φ W f)) (hb : PE X (.BoolOp .Or (b :: rest) pos) (tE X Φ W g)) : PE X (.BoolOp .Or (a :: b :: rest) pos) (tE X Φ W (cOr f g)) :=
  PE.imp (pe_orT ha hb) fun σ H Q ⟨θ, ls, ah, r, R0, S0, e, P⟩ => by
    refine (bd_step (rel := rV X Φ) R0 S0 e P).mono fun x H1 ⟨θ1, ah1, d1, x1, R1, S1, rv1, e1, P1, _⟩ => ?_
    cases q : truD ah1 d1 with
    | none => rw [q] at e1; cases e1
    | some k =>
      rw [q] at e1
      refine ⟨k, tru_of R1 rv1 q, ?_⟩
      cases k with
      | false => exact ⟨θ1, ls, ah1, r, R1, S1, e1, P1⟩
      | true => cases e1; exact P1 θ1 H1 x Ext.refl R1 rv1
/-- tests by and, or: the machine never asks the truth of the whole -/
theorem tru_and {f g : EM} {ls : LS} {h : AH} : cTru (cAnd f g) ls h = bd (cTru f ls h) fun b h1 => if b = true then cTru g ls h1 else some (.ok false h1) := by
  unfold cTru cAnd
  cases f ls h with
  | none => rfl
  | some s =>
    cases s with
    | er y h => rfl
    | ok d h1 =>
      simp only [bd_ok]
      cases q : truD h1 d with
      | none => rfl
      | some b => cases b <;> simp [q]
theorem tru_or {f g : EM} {ls : LS} {h : AH} : cTru (cOr f g) ls h = bd (cTru f ls h) fun b h1 => if b = true then some (.ok true h1) else cTru g ls h1 := by
  unfold cTru cOr
  cases f ls h with
  | none => rfl
  | some s =>
    cases s with
    | er y h => rfl
    | ok d h1 =>
      simp only [bd_ok]
      cases q : truD h1 d with
      | none => rfl
      | some b => cases b <;> simp [q]
theorem PW.imp {e : Expr} {t t' : TT} (h : PW X e t) (k : ∀ σ H Q, t' σ H Q → t σ H Q) : PW X e t' := ⟨fun wh pins s σ H Q I q => h.run wh pins s σ H Q I (k _ _ _ q)⟩
theorem trB_step {f : EM} {k : Bool → AH → Option (R Bool)} {r : R Bool} {Q : Bool → Hp → Prop} (R0 : Rel X.K Φ θ ah H) (S0 : SL X.K Φ θ H σ ls) (e : bd (cTru f ls ah) k = some r) (P : Post X Φ W rB θ H σ r Q) :
    tT X Φ W f σ H fun b H1 => ∃ θ1 ah1, Ext θ H θ1 H1 ∧ Rel X.K Φ θ1 ah1 H1 ∧ SL X.K Φ θ1 H1 σ ls ∧ k b ah1 = some r ∧ Post X Φ W rB θ1 H1 σ r Q :=
  (bd_step (rel := rB) R0 S0 e P).mono fun b H1 ⟨θ1, ah1, d, x1, R1, S1, rv, e1, P1, _⟩ => by
    cases rv
    exact ⟨θ1, ah1, x1, R1, S1, e1, P1⟩
theorem pw_andL {a b : Expr} {rest : List Expr} {f g : EM} {pos : Pos} (ha : PT X a (tT X Φ W f)) (hb : PW X (.BoolOp .And (b :: rest) pos) (tT X Φ W g)) : PW X (.BoolOp .And (a :: b :: rest) pos) (tT X Φ W (cAnd f g)) :=
  PW.imp (pw_and ha hb) fun σ H Q ⟨θ, ls, ah, r, R0, S0, e, P⟩ => by
    rw [tru_and] at e
    refine (trB_step R0 S0 e P).mono fun x H1 ⟨θ1, ah1, x1, R1, S1, e1, P1⟩ => ?_
    cases x with
    | true => exact ⟨θ1, ls, ah1, r, R1, S1, e1, P1⟩
    | false => cases e1; exact P1 θ1 H1 false Ext.refl R1 rfl
theorem pw_orL {a b : Expr} {rest : List Expr} {f g : EM} {pos : Pos} (ha : PT X a (tT X Φ W f)) (hb : PW X (.BoolOp .Or (b :: rest) pos) (tT X Φ W g)) : PW X (.BoolOp .Or (a :: b :: rest) pos) (tT X Φ W (cOr f g)) :=
  PW.imp (pw_or ha hb) fun σ H Q ⟨θ, ls, ah, r, R0, S0, e, P⟩ => by
    rw [tru_or] at e
    refine (trB_step R0 S0 e P).mono fun x H1 ⟨θ1, ah1, x1, R1, S1, e1, P1⟩ => ?_
    cases x with
    | false => exact ⟨θ1, ls, ah1, r, R1, S1, e1, P1⟩
    | true => cases e1; exact P1 θ1 H1 true Ext.refl R1 rfl
theorem pe_negL {a : Expr} {f : EM} {pos : Pos} (ha : PE X a (tE X Φ W f)) : PE X (.UnaryOp .USub a pos) (tE X Φ W (cUn negD f)) :=
  PE.imp (pe_un (r := fun x H Q => ∃ θ ah dx d ah', Rel X.K Φ θ ah H ∧ RV X.K Φ θ H x dx ∧ negD dx ah = some (d, ah') ∧ PostV X Φ θ H d ah' Q) (fun pins s σ H x v Q I rx h => by
      obtain ⟨θ, ah, dx, d, ah', R0, hx, e, P⟩ := h
      exact un_neg3 I rx R0 hx e P) ha) fun σ H Q ⟨θ, ls, ah, r, R0, S0, e, P⟩ => by
    refine (bd_step (rel := rV X Φ) R0 S0 e P).mono fun x H1 ⟨θ1, ah1, d1, x1, R1, S1, rv1, e1, P1, _⟩ => ?_
    obtain ⟨d, ah', e3, rfl⟩ := up_eq e1
    exact ⟨θ1, ah1, d1, d, ah', R1, rv1, e3, P1⟩
theorem pe_chainL (hu : X.A.units + 64 < cLine) {a b c : Expr} {o o' : CmpOp} {pos : Pos} {f g k : EM} (ha : PE X a (tE X Φ W f)) (hb : PE X b (tE X Φ W g)) (hc : PE X c (tE X Φ W k)) (hm : behindInMarks o' c = false) :
    PE X (.Compare a [o, o'] [b, c] pos) (tE X Φ W (cChain (cmpD o) (cmpD o') f g k)) :=
  PE.imp (pe_chain (op_cmp (Φ := Φ) hu o) (op_cmp (Φ := Φ) hu o') ha hb hc hm) fun σ H Q ⟨θ, ls, ah, r, R0, S0, e, P⟩ => by
    refine (bd_step R0 S0 e P).mono fun x H1 ⟨θ1, ah1, d1, x1, R1, S1, rv1, e1, P1, _⟩ => ?_
    refine (bd_step R1 S1 e1 P1).mono fun y H2 ⟨θ2, ah2, d2, x2, R2, S2, rv2, e2, P2, _⟩ => ?_
    cases q : cmpD o d1 d2 ah2 with
    | none => rw [q] at e2; cases e2
    | some p =>
    obtain ⟨t, rfl⟩ := cmp_bl q
    rw [q] at e2
    refine ⟨θ2, _, d1, d2, _, _, R2, RV.mono x2 R1 rv1, rv2, q, fun θ3 H3 v x3 R3 rv3 => ?_⟩
    cases rv3
    refine ⟨t, rfl, ?_⟩
    have S3 := S2.mono x3 R2
    have P3 := P2.trans x3 R3
    cases t with
    | false => cases e2; exact P3 θ3 H3 _ Ext.refl R3 (.bl _)
    | true =>
      have e3 : bd (k ls _) (fun u h4 => up (cmpD o' d2 u h4)) = some r := e2
      refine (bd_step R3 S3 e3 P3).mono fun z H4 ⟨θ4, ah4, d4, x4, R4, S4, rv4, e4, P4, _⟩ => ?_
      obtain ⟨d, ah', e5, rfl⟩ := up_eq e4
      exact ⟨θ4, ah4, d2, d4, d, ah', R4, RV.mono x4 R3 (RV.mono x3 R2 rv2), rv4, e5, P4⟩
/-- argument lists -/
theorem args_nil {Q : List V → Hp → Prop} (h : tAs X Φ W [] σ H Q) : Q [] H := by
  obtain ⟨θ, ls, ah, r, R0, S0, e, P⟩ := h
  cases e
  exact P θ H [] Ext.refl R0 .nil
theorem paL {D : Expr → EM} : ∀ {es : List Expr}, (∀ e ∈ es, PE X e (tE X Φ W (D e))) → es.any isStar = false → PA X es (tAs X Φ W (es.map D))
  | [], _, _ => PA.imp pa_nil fun σ H Q h => args_nil h
  | e :: es, ih, h => by
    rw [List.any_cons, Bool.or_eq_false_iff] at h
    refine PA.imp (pa_cons (ih e List.mem_cons_self) (paL (fun x hx => ih x (List.mem_cons_of_mem _ hx)) h.2) (star1 h.1)) fun σ H Q ⟨θ, ls, ah, r, R0, S0, e0, P⟩ => ?_
    have e0' : bd (D e ls ah) (fun x h1 => bd (cArgs (es.map D) ls h1) fun xs h2 => some (.ok (x :: xs) h2)) = some r := e0
    refine (bd_step (rel := rV X Φ) R0 S0 e0' P).mono fun x H1 ⟨θ1, ah1, d1, x1, R1, S1, rv1, e1, P1, _⟩ => ?_
    refine (bd_step (rel := rVs X Φ) R1 S1 e1 P1).mono fun xs H2 ⟨θ2, ah2, d2, x2, R2, S2, rv2, e2, P2, _⟩ => ?_
    cases e2
    exact P2 θ2 H2 _ Ext.refl R2 (.cons (RV.mono x2 R1 rv1) rv2)
theorem pe_tupL {es : List Expr} {k : Nat} {pos : Pos} {fs : List EM} (h : PA X es (tAs X Φ W fs)) : PE X (.Tuple es k pos) (tE X Φ W (cTup fs)) :=
  PE.imp (pe_tup h) fun σ H Q ⟨θ, ls, ah, r, R0, S0, e, P⟩ => by
    refine (bd_step (rel := rVs X Φ) R0 S0 e P).mono fun xs H1 ⟨θ1, ah1, d1, x1, R1, S1, rv1, e1, P1, _⟩ => ?_
    obtain ⟨d, ah', e3, rfl⟩ := up_eq e1
    unfold newT at e3
    split at e3 <;> cases e3
    rename_i hl _
    exact ⟨by rw [rv1.length, ← lim_eq]; exact hl, PostV.tup P1 R1 rv1⟩
theorem pe_lstL {es : List Expr} {pos : Pos} {fs : List EM} (h : PA X es (tAs X Φ W fs)) : PE X (.List es pos) (tE X Φ W (cLst fs)) :=
  PE.imp (pe_lst h) fun σ H Q ⟨θ, ls, ah, r, R0, S0, e, P⟩ => by
    refine (bd_step (rel := rVs X Φ) R0 S0 e P).mono fun xs H1 ⟨θ1, ah1, d1, x1, R1, S1, rv1, e1, P1, _⟩ => ?_
    obtain ⟨d, ah', e3, rfl⟩ := up_eq e1
    unfold newL at e3
    split at e3 <;> cases e3
    rename_i hl _
    exact ⟨by rw [rv1.length, ← lim_eq]; exact hl, PostV.lst P1 R1 rv1⟩
theorem pe_dicL {pos : Pos} : PE X (.Dict [] [] pos) (tE X Φ W cDic) :=
  PE.imp pe_dnewK fun σ H Q ⟨θ, ls, ah, r, R0, S0, e, P⟩ => by
    cases e
    intro p hp
    exact P _ _ _ (Ext.push_new hp) (R0.push hp ⟨[], upd_same, .nil⟩) (.ref (by rw [← R0.len, List.getElem?_append_right (Nat.le_refl _)]; simp))
theorem poL {lo : Option Expr} {D : Expr → EM} (h : ∀ e, PE X e (tE X Φ W (D e))) : PO X lo (tX X Φ W (fun _ _ v d => v = d) (cPart (lo.map D))) := by
  cases lo with
  | none => exact PO.imp po_none fun σ H Q ⟨θ, ls, ah, r, R0, S0, e, P⟩ => by cases e; exact P θ H none Ext.refl R0 rfl
  | some e =>
    refine PO.imp (po_some (h e)) fun σ H Q ⟨θ, ls, ah, r, R0, S0, e0, P⟩ => ?_
    refine (bd_step (rel := rV X Φ) R0 S0 e0 P).mono fun x H1 ⟨θ1, ah1, d1, x1, R1, S1, rv1, e1, P1, _⟩ => ?_
    split at e1 <;> cases e1
    cases rv1
    exact ⟨_, rfl, P1 θ1 H1 _ Ext.refl R1 rfl⟩
theorem pe_slL {a : Expr} {lo hi : Option Expr} {D : Expr → EM} {pos p2 : Pos} (h : ∀ e, PE X e (tE X Φ W (D e))) : PE X (.Subscript a (.Slice lo hi none p2) pos) (tE X Φ W (cSl (D a) (lo.map D) (hi.map D))) :=
  PE.imp (pe_slice (sl3 (Φ := Φ)) (h a) (poL h) (poL h)) fun σ H Q ⟨θ, ls, ah, r, R0, S0, e, P⟩ => by
    refine (bd_step (rel := rV X Φ) R0 S0 e P).mono fun x H1 ⟨θ1, ah1, d1, x1, R1, S1, rv1, e1, P1, _⟩ => ?_
    refine (bd_step (rel := fun _ _ v d => v = d) R1 S1 e1 P1).mono fun l H2 ⟨θ2, ah2, d2, x2, R2, S2, rv2, e2, P2, _⟩ => ?_
    refine (bd_step (rel := fun _ _ v d => v = d) R2 S2 e2 P2).mono fun u H3 ⟨θ3, ah3, d3, x3, R3, S3, rv3, e3, P3, _⟩ => ?_
    obtain ⟨d, ah', e4, rfl⟩ := up_eq e3
    subst rv2 rv3
    exact ⟨θ3, ah3, d1, d, ah', R3, RV.mono x3 R2 (RV.mono x2 R1 rv1), e4, P3⟩
theorem pe_revLL {a : Expr} {f : EM} {k : Nat} {p1 p2 p3 pos : Pos} (ha : PE X a (tE X Φ W f)) : PE X (.Subscript a (.Slice none none (some (.UnaryOp .USub (.Constant (.int 1) k p1) p2)) p3) pos) (tE X Φ W (cUn revD f)) :=
  PE.imp (pe_revL ha) fun σ H Q ⟨θ, ls, ah, r, R0, S0, e, P⟩ => by
    refine (bd_step (rel := rV X Φ) R0 S0 e P).mono fun x H1 ⟨θ1, ah1, d1, x1, R1, S1, rv1, e1, P1, _⟩ => ?_
    obtain ⟨d, ah', e3, rfl⟩ := up_eq e1
    unfold revD at e3
    split at e3 <;> cases e3
    rename_i xs q _
    obtain ⟨p, vs, rfl, h1, h2⟩ := RV.seq R1 rv1 q
    exact ⟨p, vs, rfl, h1, PostV.lst P1 R1 h2.reverse⟩
theorem plainIx {b : Expr} (h : isSlice b = false) : PlainIx b := fun o i => by
  cases b <;> first | rfl | cases h
theorem pe_subL (hu : X.A.units + 64 < cLine) {a b : Expr} {f g : EM} {pos : Pos} (ha : PE X a (tE X Φ W f)) (hb : PE X b (tE X Φ W g)) (hs : isSlice b = false) : PE X (.Subscript a b pos) (tE X Φ W (cOp subD f g)) := by
  refine ⟨fun pins s σ H Q I ⟨θ, ls, ah, r, R0, S0, e, P⟩ => ?_⟩
  have hns : NoSl b := plainIx hs
  by_cases hd : ∃ dx h1 dy h2, f ls ah = some (.ok dx h1) ∧ g ls h1 = some (.ok dy h2) ∧ isDic dx h2 = true
  · obtain ⟨dx, h1, dy, h2, q1, q2, q3⟩ := hd
    refine (pe_dget (by omega) ha hb hns).run pins s σ H Q I ?_
    refine (bd_step (rel := rV X Φ) R0 S0 e P).mono fun x H1 ⟨θ1, ah1, d1, x1, R1, S1, rv1, e1, P1, w1⟩ => ?_
    rw [q1] at w1; cases w1
    refine (bd_step (rel := rV X Φ) R1 S1 e1 P1).mono fun y H2 ⟨θ2, ah2, d2, x2, R2, S2, rv2, e2, P2, w2⟩ => ?_
    rw [q2] at w2; cases w2
    obtain ⟨d, ah', e3, rfl⟩ := up_eq e2
    have rv1' := RV.mono x2 R1 rv1
    unfold isDic at q3
    split at q3
    · rename_i rr
      split at q3
      · rename_i kvs q4
        obtain ⟨p, ws, rfl, _, h3, h4⟩ := RV.dict R2 rv1' q4
        unfold subD at e3
        simp only [q4] at e3
        cases q5 : keyOf dy with
        | none => rw [q5] at e3; cases e3
        | some k =>
          rw [q5] at e3
          simp only [Option.bind_some] at e3
          have ek := keyOf_V rv2 q5
          subst ek
          rcases valD_rel (k := k) h4 with ⟨z1, z2⟩ | ⟨w, dd, z1, z2, z3⟩
          · rw [z2] at e3; cases e3
          · rw [z2] at e3
            cases e3
            exact ⟨p, w, rfl, by rw [← z1]; exact DGet.k h3, P2 θ2 H2 w Ext.refl R2 z3⟩
      · cases q3
    · cases q3
  · refine (pe_ix (ix3 (Φ := Φ)) ha hb (plainIx hs)).run pins s σ H Q I ?_
    refine (bd_step (rel := rV X Φ) R0 S0 e P).mono fun x H1 ⟨θ1, ah1, d1, x1, R1, S1, rv1, e1, P1, w1⟩ => ?_
    refine (bd_step (rel := rV X Φ) R1 S1 e1 P1).mono fun y H2 ⟨θ2, ah2, d2, x2, R2, S2, rv2, e2, P2, w2⟩ => ?_
    obtain ⟨d, ah', e3, rfl⟩ := up_eq e2
    refine ⟨θ2, ah2, d1, d2, d, ah', R2, RV.mono x2 R1 rv1, rv2, ?_, e3, P2⟩
    cases q : isDic d1 ah2 with
    | false => rfl
    | true => exact absurd ⟨d1, ah1, d2, ah2, w1, w2, q⟩ hd
end
end P3


set_option maxRecDepth 100000
set_option maxHeartbeats 1000000
set_option autoImplicit false
/-! What loops walk; targets; comprehensions; calls. -/
namespace P3
open PySem L2
section
variable {X : Cx} {Φ : Addr → Prop} {W : WX}
variable {θ θ1 : List Addr} {H H1 : Hp} {σ : L2.St} {ls : LS} {ah ah1 : AH}
def rI (X : Cx) (Φ : Addr → Prop) : RelT P3.Itr It := fun θ0 H0 J it => ∀ (i : Nat) (θ : List Addr) (ah : AH) (H : Hp), Ext θ0 H0 θ H → Rel X.K Φ θ ah H →
  (∀ d, it.nx i ah = some (some d) → J.go i H ∧ ∀ x H', J.yld i H x H' → Ext θ H θ H' ∧ Rel X.K Φ θ ah H' ∧ RV X.K Φ θ H' x d) ∧ (it.nx i ah = some none → J.stop i H)
abbrev tI (X : Cx) (Φ : Addr → Prop) (W : WX) (im : IM) : TI := tX X Φ W (rI X Φ) im
/-- a list that is read at each turn -/
def LSrc (X : Cx) (Φ : Addr → Prop) (θ0 : List Addr) (H0 : Hp) (p : Addr) (it : P3.Itr) : Prop := ∀ (i : Nat) (θ : List Addr) (ah : AH) (H : Hp), Ext θ0 H0 θ H → Rel X.K Φ θ ah H →
  (∀ d, it.nx i ah = some (some d) → ∃ xs x, SqL X.K H p xs ∧ xs[i]? = some x ∧ RV X.K Φ θ H x d) ∧ (it.nx i ah = some none → ∃ xs, SqL X.K H p xs ∧ xs.length ≤ i)
theorem src_of {v : V} {d : DV} {it : P3.Itr} (R0 : Rel X.K Φ θ ah H) (h : RV X.K Φ θ H v d) (e : itOfL ah d = some it) : ∃ p, v = .ref p ∧ (∃ xs, SqL X.K H p xs) ∧ LSrc X Φ θ H p it := by
  unfold itOfL at e
  split at e
  · cases h with
    | @lst p st vs ds h1 h2 =>
      cases e
      refine ⟨p, rfl, ⟨vs, h1.sql⟩, fun i θ' ah' H' x R' => ⟨fun d q => ?_, fun q => ?_⟩⟩
      · simp only [itV, Option.some.injEq] at q
        obtain ⟨y, hy1, hy2⟩ := h2.get q
        exact ⟨vs, y, (h1.mono x).sql, hy1, hy2.mono x R0⟩
      · simp only [itV, Option.some.injEq] at q
        exact ⟨vs, (h1.mono x).sql, by rw [h2.length]; exact List.getElem?_eq_none_iff.mp q⟩
  · rename_i r
    split at e <;> cases e
    rename_i xs q0
    obtain ⟨p, vs, rfl, h1, h2, h3⟩ := RV.list R0 h q0
    refine ⟨p, rfl, ⟨vs, SqL.of h2⟩, fun i θ' ah' H' x R' => ⟨fun d q => ?_, fun q => ?_⟩⟩
    · simp only [itL] at q
      split at q
      · rename_i ys q1
        have q2 := Option.some.inj q
        obtain ⟨ws, w1, w2⟩ := R'.obj _ _ _ (x.get h1) q1
        obtain ⟨y, hy1, hy2⟩ := w2.get q2
        exact ⟨ws, y, SqL.of w1, hy1, hy2⟩
      · cases q
    · simp only [itL] at q
      split at q
      · rename_i ys q1
        have q2 := Option.some.inj q
        obtain ⟨ws, w1, w2⟩ := R'.obj _ _ _ (x.get h1) q1
        exact ⟨ws, SqL.of w1, by rw [w2.length]; exact List.getElem?_eq_none_iff.mp q2⟩
      · cases q
  · cases e
theorem src_I {p : Addr} {it : P3.Itr} (h : LSrc X Φ θ H p it) : rI X Φ θ H (Itl X.K p) it := fun i θ' ah' H' x R' => ⟨fun d q => by
    obtain ⟨xs, y, h1, h2, h3⟩ := (h i θ' ah' H' x R').1 d q
    refine ⟨⟨xs, y, h1, h2⟩, fun z H2 ⟨e1, e2⟩ => ?_⟩
    subst e1
    have := e2 xs h1
    rw [h2] at this
    cases this
    exact ⟨Ext.refl, R', h3⟩, fun q => (h i θ' ah' H' x R').2 q⟩
theorem pi_valL {tg e : Expr} {f : EM} (ha : PE X e (tE X Φ W f)) : PI X tg e (tI X Φ W (iVal f)) := by
  refine ⟨fun pins s σ H Rr I ⟨θ, ls, ah, r, R0, S0, e, P⟩ => ?_⟩
  have e0 : bd (f ls ah) (fun x h1 => match itOf h1 x with | some it => some (R.ok it h1) | none => none) = some r := e
  cases q : f ls ah with
  | none => rw [q] at e0; cases e0
  | some w =>
  cases w with
  | er y h => 
    refine (pi_list ha).run pins s σ H Rr I ?_
    rw [q] at e0; cases e0
    exact ⟨θ, ls, ah, _, R0, S0, q, P⟩
  | ok d1 ah1 =>
  rw [q] at e0
  simp only [bd_ok] at e0
  have step : ∀ {Q : VK}, (∀ x H1 θ1, Ext θ H θ1 H1 → Rel X.K Φ θ1 ah1 H1 → RV X.K Φ θ1 H1 x d1 → Post X Φ W (rI X Φ) θ1 H1 σ r Rr → Q x H1) → tE X Φ W f σ H Q := fun k =>
    ⟨θ, ls, ah, _, R0, S0, q, fun θ' H' v x r' rv => k v H' θ' x r' rv (P.trans x r')⟩
  cases d1 with
  | tup xs =>
    refine (pi_tup ha).run pins s σ H Rr I (step fun x H1 θ1 x1 R1 rv P1 => ?_)
    cases e0
    cases rv with
    | @tup p vs ds h1 h2 =>
    refine ⟨p, rfl, ⟨vs, h1⟩, P1 θ1 H1 _ Ext.refl R1 fun i θ' ah' H' x R' => ⟨fun d q => ?_, fun q => ?_⟩⟩
    · have q' : xs[i]? = some d := by simpa [itV] using q
      obtain ⟨y, hy1, hy2⟩ := h2.get q'
      refine ⟨⟨vs, y, SqT.mono x R1 h1, hy1⟩, fun z H2 ⟨e1, e2⟩ => ?_⟩
      subst e1
      have := e2 vs (SqT.mono x R1 h1)
      rw [hy1] at this
      cases this
      exact ⟨Ext.refl, R', hy2.mono x R1⟩
    · have q' : xs[i]? = none := by simpa [itV] using q
      exact ⟨vs, SqT.mono x R1 h1, by rw [h2.length]; exact List.getElem?_eq_none_iff.mp q'⟩
  | lst st xs =>
    refine (pi_list ha).run pins s σ H Rr I (step fun x H1 θ1 x1 R1 rv P1 => ?_)
    cases e0
    obtain ⟨p, rfl, h1, h2⟩ := src_of R1 rv (show itOfL ah1 (.lst st xs) = some (itV xs) from rfl)
    exact ⟨p, rfl, h1, P1 θ1 H1 _ Ext.refl R1 (src_I h2)⟩
  | ref i =>
    refine (pi_list ha).run pins s σ H Rr I (step fun x H1 θ1 x1 R1 rv P1 => ?_)
    simp only [itOf] at e0
    cases q1 : ah1[i]? with
    | none => rw [q1] at e0; cases e0
    | some o =>
    cases o with
    | dic kvs => rw [q1] at e0; cases e0
    | lst xs =>
    rw [q1] at e0
    cases e0
    obtain ⟨p, rfl, h1, h2⟩ := src_of R1 rv (show itOfL ah1 (.ref i) = some (itL i xs.length) by simp [itOfL, q1])
    exact ⟨p, rfl, h1, P1 θ1 H1 _ Ext.refl R1 (src_I h2)⟩
  | str z =>
    refine (pi_str ha).run pins s σ H Rr I (step fun x H1 θ1 x1 R1 rv P1 => ?_)
    cases e0
    cases rv
    refine ⟨_, rfl, P1 θ1 H1 _ Ext.refl R1 fun i θ' ah' H' x R' => ⟨fun d q => ?_, fun q => ?_⟩⟩
    · have q' : (z.map fun c => DV.str [c])[i]? = some d := by simpa [itV] using q
      rw [List.getElem?_map] at q'
      cases q2 : z[i]? with
      | none => rw [q2] at q'; cases q'
      | some c =>
        rw [q2] at q'
        cases q'
        refine ⟨by simpa [L2.Its] using (List.getElem?_eq_some_iff.mp q2).1, fun w H2 ⟨e1, c', e2, e3⟩ => ?_⟩
        subst e1 e3
        have : c' = c := by
          have : z[i]? = some c' := by simpa using e2
          rw [q2] at this; cases this; rfl
        subst this
        exact ⟨Ext.refl, R', .str [c']⟩
    · have q' : (z.map fun c => DV.str [c])[i]? = none := by simpa [itV] using q
      rw [List.getElem?_map] at q'
      have : z[i]? = none := by cases h : z[i]? with
        | none => rfl
        | some c => rw [h] at q'; cases q'
      simpa [L2.Its] using List.getElem?_eq_none_iff.mp this
  | _ => cases e0
theorem rng_I (lo st : Int) (n : Nat) (J : It) (h1 : ∀ i H, i < n → J.go i H) (h2 : ∀ i H x H', J.yld i H x H' → H' = H ∧ x = .int (lo + (i : Int) * st)) (h3 : ∀ i H, n ≤ i → J.stop i H) : rI X Φ θ H J (itR lo st n) := by
  refine fun i θ' ah' H' x R' => ⟨fun d q => ?_, fun q => ?_⟩
  · simp only [itR] at q
    split at q
    · rename_i hi
      cases q
      refine ⟨h1 _ _ hi, fun z H2 hy => ?_⟩
      obtain ⟨rfl, rfl⟩ := h2 _ _ _ _ hy
      exact ⟨Ext.refl, R', .int _⟩
    · cases q
  · simp only [itR] at q
    split at q
    · cases q
    · rename_i hi
      exact h3 _ _ (Nat.not_lt.mp hi)
theorem rng_1 (lo : Int) (n : Nat) : rI X Φ θ H (L2.Itr lo n) (itR lo 1 n) :=
  rng_I lo 1 n _ (fun _ _ h => h) (fun i H x H' h => ⟨h.1, by rw [Int.mul_one]; exact h.2⟩) (fun _ _ h => h)
theorem rng_c (lo c : Int) (n : Nat) : rI X Φ θ H (Itc lo c n) (itR lo c n) :=
  rng_I lo c n _ (fun _ _ h => h) (fun i H x H' h => h) (fun _ _ h => h)
theorem pi_rng1L {tg a : Expr} {f : EM} {p pos : Pos} (hg : Gl X "range") (hm : X.mg "range" = none) (ha : PA X [a] (tAs X Φ W [f])) (h1 : isStar a = false) : PI X tg (.Call (.Name "range" p) [a] [] pos) (tI X Φ W (iRng1 f)) := by
  refine ⟨fun pins s σ H Rr I ⟨θ, ls, ah, r, R0, S0, e, P⟩ => ?_⟩
  refine (pi_range1 hg hm ha (star1 h1)).run pins s σ H Rr I ?_
  refine (bd_step (rel := rVs X Φ) R0 S0 e P).mono fun xs H1 ⟨θ1, ah1, d1, x1, R1, S1, rv1, e1, P1, _⟩ => ?_
  split at e1
  · split at e1 <;> cases e1
    rename_i hb _
    obtain ⟨v, rfl, hv⟩ := vals1 rv1
    cases hv
    exact ⟨_, rfl, hb.1, hb.2, P1 θ1 H1 _ Ext.refl R1 (rng_1 _ _)⟩
  · cases e1
theorem pi_rng2L {tg a b : Expr} {f g : EM} {p pos : Pos} (hg : Gl X "range") (hm : X.mg "range" = none) (ha : PA X [a, b] (tAs X Φ W [f, g])) (h1 : isStar a = false) (h2 : isStar b = false) :
    PI X tg (.Call (.Name "range" p) [a, b] [] pos) (tI X Φ W (iRng2 f g)) := by
  refine ⟨fun pins s σ H Rr I ⟨θ, ls, ah, r, R0, S0, e, P⟩ => ?_⟩
  refine (pi_range2 hg hm ha (by rw [star1 h1, star1 h2]; rfl) (star1 h2)).run pins s σ H Rr I ?_
  refine (bd_step (rel := rVs X Φ) R0 S0 e P).mono fun xs H1 ⟨θ1, ah1, d1, x1, R1, S1, rv1, e1, P1, _⟩ => ?_
  split at e1
  · split at e1 <;> cases e1
    rename_i hb _
    obtain ⟨v, w, rfl, hv, hw⟩ := vals2' rv1
    cases hv; cases hw
    exact ⟨_, _, rfl, hb, P1 θ1 H1 _ Ext.refl R1 (rng_1 _ _)⟩
  · cases e1
theorem vals3' {vs : List V} {d e f : DV} (h : RVs X.K Φ θ H vs [d, e, f]) : ∃ v w u, vs = [v, w, u] ∧ RV X.K Φ θ H v d ∧ RV X.K Φ θ H w e ∧ RV X.K Φ θ H u f := by
  cases h with
  | cons h t => obtain ⟨w, u, rfl, h2, h3⟩ := vals2' t; exact ⟨_, _, _, rfl, h, h2, h3⟩
theorem pi_rng3L {tg a b c : Expr} {f g k : EM} {p pos : Pos} (hg : Gl X "range") (hm : X.mg "range" = none) (ha : PA X [a, b, c] (tAs X Φ W [f, g, k])) (h1 : isStar a = false) (h2 : [b, c].any isStar = false) :
    PI X tg (.Call (.Name "range" p) [a, b, c] [] pos) (tI X Φ W (iRng3 f g k)) := by
  refine ⟨fun pins s σ H Rr I ⟨θ, ls, ah, r, R0, S0, e, P⟩ => ?_⟩
  refine (pi_range3 hg hm ha (star1 h1) (by rw [back_plain]; exact star_plain h2)).run pins s σ H Rr I ?_
  refine (bd_step (rel := rVs X Φ) R0 S0 e P).mono fun xs H1 ⟨θ1, ah1, d1, x1, R1, S1, rv1, e1, P1, _⟩ => ?_
  split at e1
  · split at e1 <;> cases e1
    rename_i i j c0 hb _
    obtain ⟨v, w, u, rfl, hv, hw, hu⟩ := vals3' rv1
    cases hv; cases hw; cases hu
    unfold rngOk at hb
    simp only [Bool.and_eq_true, decide_eq_true_eq] at hb
    exact ⟨_, _, _, _, rfl, ⟨hb.1.1, hb.1.2, hb.2, PyProof.Rows.rangeSize_toNat _ _ _⟩, P1 θ1 H1 _ Ext.refl R1 (rng_c _ _ _)⟩
  · cases e1
/-- a tuple that an iterator makes -/
theorem yld_tup {T : Addr} {x y : V} {d e : DV} (R0 : Rel X.K Φ θ ah H) (hn : H T = none) (hx : RV X.K Φ θ H x d) (hy : RV X.K Φ θ H y e) :
    Ext θ H θ (upd H T (.tup [x, y])) ∧ Rel X.K Φ θ ah (upd H T (.tup [x, y])) ∧ RV X.K Φ θ (upd H T (.tup [x, y])) (.ref T) (.tup [d, e]) :=
  ⟨Ext.upd_new hn, R0.newU hn, .tup (SqT.of upd_same) (.cons (hx.mono (Ext.upd_new hn) R0) (.cons (hy.mono (Ext.upd_new hn) R0) .nil))⟩
theorem pi_enumL {a : Expr} {es : List Expr} {f : EM} {k : Nat} {p pos tp : Pos} (hg : Gl X "enumerate") (hm : X.mg "enumerate" = none) (ha : PA X [a] (tAs X Φ W [f])) (h1 : isStar a = false) :
    PI X (.Tuple es k tp) (.Call (.Name "enumerate" p) [a] [] pos) (tI X Φ W (P3.iEnum f)) := by
  refine ⟨fun pins s σ H Rr I ⟨θ, ls, ah, r, R0, S0, e, P⟩ => ?_⟩
  refine (pi_enum hg hm ha (star1 h1)).run pins s σ H Rr I ?_
  refine (bd_step (rel := rVs X Φ) R0 S0 e P).mono fun xs H1 ⟨θ1, ah1, d1, x1, R1, S1, rv1, e1, P1, _⟩ => ?_
  split at e1
  · rename_i d0 _
    obtain ⟨v, rfl, hv⟩ := vals1 rv1
    split at e1 <;> cases e1
    rename_i it q _
    obtain ⟨p, rfl, ⟨ws, h2⟩, h3⟩ := src_of R1 hv q
    refine ⟨p, ws, rfl, h2, P1 θ1 H1 _ Ext.refl R1 fun i θ' ah' H' x R' => ⟨fun d q => ?_, fun q => ?_⟩⟩
    · simp only [itE] at q
      split at q
      · cases q
      · cases q
      · rename_i y q1
        cases q
        obtain ⟨zs, z, z1, z2, z3⟩ := (h3 i θ' ah' H' x R').1 y q1
        refine ⟨⟨zs, z, z1, z2⟩, fun w H2 ⟨T, w2, e1, e2, e3, e4⟩ => ?_⟩
        subst e1 e3
        have := e4 zs z1
        rw [z2] at this
        cases this
        exact yld_tup R' e2 (.int _) z3
    · simp only [itE] at q
      split at q
      · cases q
      · rename_i q1
        exact (h3 i θ' ah' H' x R').2 q1
      · cases q
  · cases e1
theorem pi_zipL {a b : Expr} {es : List Expr} {f g : EM} {k : Nat} {p pos tp : Pos} (hg : Gl X "zip") (hm : X.mg "zip" = none) (ha : PA X [a, b] (tAs X Φ W [f, g])) (h1 : isStar a = false) (h2 : [b].any isStar = false) :
    PI X (.Tuple es k tp) (.Call (.Name "zip" p) [a, b] [] pos) (tI X Φ W (P3.iZip f g)) := by
  refine ⟨fun pins s σ H Rr I ⟨θ, ls, ah, r, R0, S0, e, P⟩ => ?_⟩
  refine (pi_zip hg hm ha (star1 h1) (by rw [back_plain]; exact star_plain h2)).run pins s σ H Rr I ?_
  refine (bd_step (rel := rVs X Φ) R0 S0 e P).mono fun xs H1 ⟨θ1, ah1, d1, x1, R1, S1, rv1, e1, P1, _⟩ => ?_
  split at e1
  · obtain ⟨v, w, rfl, hv, hw⟩ := vals2' rv1
    split at e1 <;> cases e1
    rename_i it jt q1 q2 _
    obtain ⟨p, rfl, ⟨ws, h2⟩, h3⟩ := src_of R1 hv q1
    obtain ⟨p', rfl, ⟨ws', h2'⟩, h3'⟩ := src_of R1 hw q2
    refine ⟨p, p', ws, ws', rfl, h2, h2', P1 θ1 H1 _ Ext.refl R1 fun i θ' ah' H' x R' => ⟨fun d q => ?_, fun q => ?_⟩⟩
    · simp only [itZ] at q
      split at q
      · cases q
      · split at q <;> cases q
      · rename_i y q3
        split at q
        · cases q
        · cases q
        · rename_i y' q4
          cases q
          obtain ⟨zs, z, z1, z2, z3⟩ := (h3 i θ' ah' H' x R').1 y q3
          obtain ⟨zs', z', z1', z2', z3'⟩ := (h3' i θ' ah' H' x R').1 y' q4
          refine ⟨⟨zs, zs', z, z', z1, z1', z2, z2'⟩, fun w H2 ⟨T, u, u', e1, e2, e3, e4, e5⟩ => ?_⟩
          subst e1 e3
          have t1 := e4 zs z1
          have t2 := e5 zs' z1'
          rw [z2] at t1
          rw [z2'] at t2
          cases t1; cases t2
          exact yld_tup R' e2 z3 z3'
    · simp only [itZ] at q
      split at q
      · cases q
      · rename_i q3
        obtain ⟨zs, z1, z2⟩ := (h3 i θ' ah' H' x R').2 q3
        split at q
        · cases q
        · rename_i o q4
          cases o with
          | none => obtain ⟨zs', z1', z2'⟩ := (h3' i θ' ah' H' x R').2 q4; exact ⟨zs, zs', z1, z1', .inl z2⟩
          | some y' => obtain ⟨zs', z', z1', z2', z3'⟩ := (h3' i θ' ah' H' x R').1 y' q4; exact ⟨zs, zs', z1, z1', .inl z2⟩
      · rename_i y q3
        split at q
        · cases q
        · rename_i q4
          obtain ⟨zs, z, z1, z2, z3⟩ := (h3 i θ' ah' H' x R').1 y q3
          obtain ⟨zs', z1', z2'⟩ := (h3' i θ' ah' H' x R').2 q4
          exact ⟨zs, zs', z1, z1', .inr z2'⟩
        · cases q
  · cases e1
end
end P3


set_option maxRecDepth 100000
set_option maxHeartbeats 1000000
set_option autoImplicit false
/-! Targets; comprehensions; names; calls. -/
namespace P3
open PySem L2
section
theorem wipe_get {σ : L2.St} {j : Nat} : ∀ {vs : List Nat}, (wipe σ vs)[j]? = if j ∈ vs ∧ j < σ.length then some none else σ[j]?
  | [] => by simp [wipe]
  | v :: vs => by
    unfold wipe
    rw [List.getElem?_set, wipe_get, wipe_length]
    by_cases h : v = j
    · subst h
      by_cases h2 : v < σ.length
      · simp [h2]
      · simp [h2]
    · have : ¬ j = v := fun e => h e.symm
      simp [h, this]
theorem wipe_set {σ : L2.St} {i : Nat} {x : Option V} {vs : List Nat} (h : i ∈ vs) : wipe (σ.set i x) vs = wipe σ vs := by
  apply List.ext_getElem?
  intro j
  rw [wipe_get, wipe_get, List.length_set, List.getElem?_set]
  by_cases e : i = j
  · subst e
    by_cases h2 : i < σ.length
    · simp [h, h2]
    · simp [h2]
  · simp [e]
end
section
variable {X : Cx} {Φ : Addr → Prop} {W : WX}
variable {θ θ1 : List Addr} {H H1 : Hp} {σ : L2.St} {ls : LS} {ah ah1 : AH}
def PGo (X : Cx) (Φ : Addr → Prop) (θ : List Addr) (H : Hp) (σ : L2.St) (sl : List Nat) (ls' : LS) (ah' : AH) (Q : L2.St → Hp → Prop) : Prop :=
  ∀ θ' σ' H', Ext θ H θ' H' → Rel X.K Φ θ' ah' H' → SL X.K Φ θ' H' σ' ls' → (∀ vs, (∀ i ∈ sl, i ∈ vs) → wipe σ' vs = wipe σ vs) → Q σ' H'
def tG (X : Cx) (Φ : Addr → Prop) (g : GM) (sl : List Nat) : TG := fun v σ H Q =>
  ∃ θ ls ah d ls' ah', Rel X.K Φ θ ah H ∧ SL X.K Φ θ H σ ls ∧ RV X.K Φ θ H v d ∧ g d ls ah = some (ls', ah') ∧ PGo X Φ θ H σ sl ls' ah' Q
def tGs (X : Cx) (Φ : Addr → Prop) (gs : List GM) (sl : List Nat) : TGs := fun vs σ H Q =>
  ∃ θ ls ah ds ls' ah', Rel X.K Φ θ ah H ∧ SL X.K Φ θ H σ ls ∧ RVs X.K Φ θ H vs ds ∧ gAll gs ds ls ah = some (ls', ah') ∧ PGo X Φ θ H σ sl ls' ah' Q
theorem PG.imp {e : Expr} {t t' : TG} (h : PG X e t) (k : ∀ v σ H Q, t' v σ H Q → t v σ H Q) : PG X e t' := ⟨fun pins s σ H v u Q I r q => h.run pins s σ H v u Q I r (k _ _ _ _ q)⟩
theorem PGs.imp {es : List Expr} {t t' : TGs} (h : PGs X es t) (k : ∀ v σ H Q, t' v σ H Q → t v σ H Q) : PGs X es t' := ⟨fun pins s σ H v u Q I r q => h.run pins s σ H v u Q I r (k _ _ _ _ q)⟩
theorem pg_never {e : Expr} {sl : List Nat} : PG X e (tG X Φ gStuck sl) := ⟨fun pins s σ H v u Q I r h => by obtain ⟨_, _, _, _, _, _, _, _, _, e, _⟩ := h; cases e⟩
theorem pg_nmL {x : Str} {pos : Pos} {i : Nat} (h : PG X (.Name x pos) (gName i)) : PG X (.Name x pos) (tG X Φ (gNm i) [i]) :=
  PG.imp h fun v σ H Q ⟨θ, ls, ah, d, ls', ah', R0, S0, rv, e, P⟩ => by
    unfold gNm at e
    split at e <;> cases e
    rename_i hi
    exact P θ _ H Ext.refl R0 (S0.set rv hi) fun vs hv => wipe_set (hv i (by simp))
theorem asg1 {e : Expr} {es : List Expr} {env : Env} (h : isStar e = false) : assignEach (e :: es) env = (false, assign e env) :: assignEach es env := by
  cases e <;> first | rfl | cases h
theorem asg_len {env : Env} : ∀ {es : List Expr}, es.any isStar = false → (assignEach es env).length = es.length ∧ (assignEach es env).findIdx? (·.1) = none
  | [], _ => ⟨rfl, rfl⟩
  | e :: es, h => by
    rw [List.any_cons, Bool.or_eq_false_iff] at h
    obtain ⟨h1, h2⟩ := asg_len (env := env) h.2
    rw [asg1 h.1]
    refine ⟨by simp [h1], ?_⟩
    rw [List.findIdx?_cons]
    simp [h2]
theorem pgsL {g : Expr → GM} {sl : Expr → List Nat} : ∀ {es : List Expr}, (∀ e ∈ es, PG X e (tG X Φ (g e) (sl e))) → es.any isStar = false → PGs X es (tGs X Φ (es.map g) (es.flatMap sl))
  | [], _, _ => PGs.imp pgs_nil fun vs σ H Q ⟨θ, ls, ah, ds, ls', ah', R0, S0, rv, e, P⟩ => by
      cases ds with
      | nil => cases rv; cases e; exact ⟨rfl, P θ σ H Ext.refl R0 S0 fun _ _ => rfl⟩
      | cons d ds => cases e
  | e :: es, ih, h => by
    rw [List.any_cons, Bool.or_eq_false_iff] at h
    refine PGs.imp (pgs_cons (ih e List.mem_cons_self) (pgsL (fun x hx => ih x (List.mem_cons_of_mem _ hx)) h.2) (by rw [asg1 h.1]; rfl)) fun vs σ H Q ⟨θ, ls, ah, ds, ls', ah', R0, S0, rv, e0, P⟩ => ?_
    cases ds with
    | nil => cases e0
    | cons d ds =>
    cases rv with
    | @cons v vs _ _ hv ht =>
    have e1 : (match g e d ls ah with | some (l1, h1) => gAll (es.map g) ds l1 h1 | none => none) = some (ls', ah') := e0
    cases q : g e d ls ah with
    | none => rw [q] at e1; cases e1
    | some w =>
    obtain ⟨l1, h1⟩ := w
    rw [q] at e1
    refine ⟨v, vs, rfl, θ, ls, ah, d, l1, h1, R0, S0, hv, q, fun θ1 σ1 H1 x1 R1 S1 w1 => ?_⟩
    refine ⟨θ1, l1, h1, ds, ls', ah', R1, S1, ht.mono x1 R0, e1, fun θ2 σ2 H2 x2 R2 S2 w2 => ?_⟩
    refine P θ2 σ2 H2 (x1.trans R1 x2) R2 S2 fun us hu => ?_
    rw [w2 us fun i hi => hu i (by rw [List.flatMap_cons]; exact List.mem_append_right _ hi), w1 us fun i hi => hu i (by rw [List.flatMap_cons]; exact List.mem_append_left _ hi)]
theorem pg_tpL {es : List Expr} {k : Nat} {pos : Pos} {gs : List GM} {sl : List Nat} (hc : X.calm = true) (h : PGs X es (tGs X Φ gs sl)) (hs : es.any isStar = false) (hl : gs.length = es.length) : PG X (.Tuple es k pos) (tG X Φ (gTp gs) sl) :=
  PG.imp (pg_tup hc h (asg_len hs).1 (asg_len hs).2) fun v σ H Q ⟨θ, ls, ah, d, ls', ah', R0, S0, rv, e, P⟩ => by
    unfold gTp at e
    split at e
    · rename_i ds
      cases rv with
      | @tup a vs _ h1 h2 =>
      refine ⟨a, vs, rfl, h1, ?_, θ, ls, ah, ds, ls', ah', R0, S0, h2, e, P⟩
      rw [h2.length, ← hl]
      have : ∀ (gs : List GM) (ds : List DV) (ls : LS) (ah : AH) (r : LS × AH), gAll gs ds ls ah = some r → ds.length = gs.length := by
        intro gs
        induction gs with
        | nil => intro ds ls ah r e; cases ds <;> first | rfl | cases e
        | cons g gs ih =>
          intro ds ls ah r e
          cases ds with
          | nil => cases e
          | cons d ds =>
            have e1 : (match g d ls ah with | some (l1, h1) => gAll gs ds l1 h1 | none => none) = some r := e
            split at e1
            · simp [ih _ _ _ _ e1]
            · cases e1
      exact this _ _ _ _ _ e
    · cases e
/-! ### calls that take one level each -/
structure Rm (k : Nat) (A : Around) : Prop where
  free : A.handled = none
  deep : A.depth + k + 5 < recursionLimit
  unit : A.units + 5 * k + 200 < cLine
theorem Rm.down {k : Nat} {A : Around} (r : Rm (k + 1) A) (env : Env) : Rm k (A.deeper env) := by
  have h1 := r.deep
  have h2 := r.unit
  refine ⟨r.free, ?_, ?_⟩
  · show A.depth + 1 + k + 5 < _
    omega
  · show A.units + 3 + 5 * k + 200 < _
    omega
theorem Rm.of {k j : Nat} {A : Around} (r : Room k A) (h : j ≤ 3 * k) : Rm j A := by
  have h1 := r.dp
  have h2 := r.un
  exact ⟨r.hd, by omega, by omega⟩
/-- a def that keeps its promise with k levels left -/
structure FnR (P : Program) (w : World) (K : PySem.W.Frag) (mg : Str → Option Value) (base : Heap) (k : Nat) (f : Addr) (fd : FuncData) (ps : List Str) (sp : Sp) : Prop where
  size : ∀ vs H Q E, sp vs H Q E → vs.length = ps.length
  goes : ∀ (A : Around) (stack : List Env) (s : Shared) (H : Hp) (args : Args) (us : List Value) (vs : List V) (Q : VK) (E : XK), Rm k A → Env0 P w K mg base A stack s H → BindsTo s fd args (ps.zip us) → Vals vs us → sp vs H Q E →
    codeAny (model P w) A (.call (.ref f) args) (CR (L2.CX P w) stack P w H s Q E) s
theorem FnR.weak {P : Program} {w : World} {K : PySem.W.Frag} {mg : Str → Option Value} {base : Heap} {k : Nat} {f : Addr} {fd : FuncData} {ps : List Str} {sp sp' : Sp} (F : FnR P w K mg base k f fd ps sp) (h : ∀ vs H Q E, sp' vs H Q E → sp vs H Q E) : FnR P w K mg base k f fd ps sp' :=
  ⟨fun vs H Q E q => F.size _ _ _ _ (h vs H Q E q), fun A stack s H args us vs Q E a b c d q => F.goes A stack s H args us vs Q E a b c d (h vs H Q E q)⟩
theorem FnR.make {P : Program} {w : World} {K : PySem.W.Frag} {mg : Str → Option Value} {base : Heap} {x qual : Str} {params : Arguments} {body : List Stmt} {scope : Scope} {dvs : List V} {kws : List (Str × V)} {f : Addr} {fd : FuncData} {N ps : List Str} {k : Nat} {sp : Sp}
    (F : FunD K x qual params body scope dvs kws f fd) (sc : FnScope N ps scope) (size : ∀ vs H Q E, sp vs H Q E → vs.length = ps.length)
    (hb : ∀ (cd : Value) (A : Around) (stack : List Env) (s : Shared) (H : Hp) (vs : List V) (Q : VK) (E : XK), Rm k (A.deeper (PyProof.Rows.envOfC qual scope s.heap.objs.size f cd)) → sp vs H Q E →
      ∃ t, PSs (cxOf (L2.CX P w) P w K mg base N qual scope f cd A stack s H E) body t ∧ t { nx := fun _ H' => Q .non H', rt := Q } (L2.start N vs) H) : FnR P w K mg base (k + 1) f fd ps sp := by
  obtain ⟨o1, o2, v1, v2, v3, v4, a1, cd, v5, sl, rfl, found, known, _, _⟩ := F.ex
  refine ⟨size, fun A stack s H args us vs Q E room at0 bind val prom => ?_⟩
  have same : ∀ b o, base.get? b = some o → s.heap.get? b = some o := fun b o e => (at0.bs b o e).1
  have KX := at0.mod.kin.keeps same
  have lim := at0.mod.nolimit.keeps same
  have kinds : ∀ y ∈ ps.zip us, scope.names.lookup y.1 = some .local ∨ (scope.names.lookup y.1 = some .cell ∧ ((cellsFrom (s.heap.objs.size + 1) scope.names []).lookup y.1).isSome = true) := by
    rintro ⟨n, v⟩ hy
    refine (sc.par n (List.of_mem_zip hy).1).imp id fun q => ⟨q, ?_⟩
    exact PySem.W.cellsFrom_some _ _ _ (.inl q)
  have dp : A.depth < recursionLimit := by have := room.deep; omega
  refine codeAny_call_function dp (KX _ _ found) rfl sc.co sc.gen rfl (PySem.W.codeRec_of KX known) (bind _ _ _ _ ?_)
  refine wpAny_newFunctionEnv_cells sc.kind kinds fun env1 eq1 st1 z => ?_
  subst eq1
  refine ⟨lim.keeps z.toInCall.keep, ?_⟩
  refine codeAny_func ?_
  obtain ⟨t, pt, qt⟩ := hb cd A stack s H vs Q E (room.down _) prom
  have inv0 := inv_start (CX := L2.CX P w) (E := E) sc room.free at0 (size _ _ _ _ prom) val z
  refine wpAny_mono (pt.run [] st1 _ H _ inv0 qt) (fun fl s2 done => ?_) fun e s2 q => q
  cases fl with
  | ret u =>
    obtain ⟨v, σ2, H2, J, rv, q⟩ := done
    exact ⟨v, H2, J.os, J.bare, J.base, J.hok, rv, q⟩
  | next =>
    obtain ⟨σ2, H2, J, q⟩ := done
    exact ⟨.non, H2, J.os, J.bare, J.base, J.hok, rfl, q⟩
  | brk =>
    obtain ⟨_, _, _, q⟩ := done
    cases q
  | cont =>
    obtain ⟨_, _, _, q⟩ := done
    cases q
theorem pe_callR {X : Cx} {k : Nat} {f : Addr} {fd : FuncData} {ps : List Str} {sp : Sp} {E : L2.St → XK} {x : Str} {p pos : Pos} {e : Expr} {es : List Expr} {t : TA} (F : FnR X.prog X.w X.K X.mg X.base k f fd ps sp) (rm : Rm k X.A) (gx : Gl X x) (mx : X.mg x = some (.ref f)) (kx : PySem.W.keepIn X.K (.ref f) = true) (bx : Binds X.K fd ps [])
    (px : ∀ σ, PassesAt (L2.CX X.prog X.w) X σ (E σ)) (ax : PA X (e :: es) t) (nd : (x == ("__debug__" : Str)) = false) (st : starEach (e :: es) X.env = (false, eval e X.env) :: starEach es X.env) (pl : (backTo pos (starEach es X.env)).any (·.1) = false) : PE X (.Call (.Name x p) (e :: es) [] pos) (tCallS sp E t) := by
  constructor
  intro pins s σ H Q I q
  refine wpAny_Call_Name_kw (ld_glob I gx mx ?_ nd)
  have args := ax.run pos pins s σ H _ I q
  refine PySem.W.callWith_K (h₀ := X.base) I.ok.mod.kin kx (thn args fun us s1 ⟨vs, H1, J, rv, sq⟩ => ⟨J.kIn, ?_⟩) st pl
  have len : us.length = ps.length := rv.length ▸ F.size _ _ _ _ sq
  have bind := bx s1 us J.kIn (by simpa using len)
  rw [List.append_nil] at bind
  refine wpAny_call (codeAny_mono (F.goes X.A X.stack s1 H1 ⟨us, []⟩ us vs Q (E σ) rm J.env0 bind rv sq) fun r s2 q2 => ?_)
  match r, q2 with
  | .error er, q2 => exact px σ pins H1 s1 er s2 J q2
  | .ok (.ret u), q2 => exact J.after q2
  | .ok .next, q2 => exact q2.elim
  | .ok .brk, q2 => exact q2.elim
  | .ok .cont, q2 => exact q2.elim
/-! ### the context -/
def spF (K : PySem.W.Frag) (mg : Str → Option Value) (n : Nat) (F : List DV → AH → Option (R DV)) : Sp := fun vs H Q E =>
  vs.length = n ∧ ∃ (Φ : Addr → Prop) (θ : List Addr) (ah : AH) (ds : List DV) (r : R DV), Rel K Φ θ ah H ∧ RVs K Φ θ H vs ds ∧ F ds ah = some r ∧
    (match r with
      | .ok d ah' => ∀ θ' H' v, Ext θ H θ' H' → Rel K Φ θ' ah' H' → RV K Φ θ' H' v d → Q v H'
      | .er x ah' => ∀ θ' H' cls dd, Ext θ H θ' H' → Rel K Φ θ' ah' H' → RX K Φ mg H' cls dd x → E cls dd H')
/-- an own error class -/
structure ExcOk (K : PySem.W.Frag) (mg : Str → Option Value) (x : Str) (C : Addr) : Prop where
  mgx : mg x = some (.ref C)
  exc : PySem.W.excIn K C [.type "ValueError", .type "Exception", .type "BaseException", .type "object"] "ValueError.__new__" = true
  kp : PySem.W.keepIn K (.ref C) = true
  sub : PySem.W.subIn K (.ref C) (.type "BaseException") = some true
  ty : PySem.W.typeIn K (.ref C) = some (.type "type")
  isE : ExcC K C
structure Glob (G : GE) (cf : Str → List DV → AH → Option (R DV)) (X : Cx) : Prop where
  con : ∀ x d, G.con.lookup x = some d → ∃ v u, X.mg x = some u ∧ RelV v u ∧ ∀ Φ θ H, RV X.K Φ θ H v d
  free : ∀ x, G.free.contains x = true → X.mg x = none
  fns : ∀ x k, G.fns.lookup x = some k → ∃ f fd ps j, X.mg x = some (.ref f) ∧ PySem.W.keepIn X.K (.ref f) = true ∧ FnR X.prog X.w X.K X.mg X.base j f fd ps (spF X.K X.mg k (cf x)) ∧ Rm j X.A ∧ Binds X.K fd ps []
  exc : ∀ x bs, G.exc.lookup x = some bs → ∃ C, ExcOk X.K X.mg x C
  exm : ∀ x bs y cs C D, G.exc.lookup x = some bs → G.exc.lookup y = some cs → X.mg x = some (.ref C) → X.mg y = some (.ref D) → PySem.W.exmOne X.K (.ref C) (.ref D) = some (bs.contains y) ∧ PySem.W.kitOne X.K (.ref C) (.ref D) = some (bs.contains y)
structure Cxt (G : GE) (cf : Str → List DV → AH → Option (R DV)) (c : SC) (X : Cx) : Prop where
  N : X.N = c.N
  nd : c.N.Nodup
  sc : X.env.scope = c.sc
  fn : ∀ x, c.sto x = true → X.fn x = true ∨ X.env.scope.names.lookup x = some .local
  calm : X.calm = true
  hu : X.A.units + 64 < cLine
  glob : Glob G cf X
variable {G : GE} {cf : Str → List DV → AH → Option (R DV)} {c : SC}
theorem okName_ {x : Str} (h : okName x = true) : (x == ("__debug__" : Str)) = false ∧ (x == ("__classdict__" : Str)) = false ∧ x ≠ "__name__" := by
  unfold okName at h
  simp only [Bool.and_eq_true, Bool.not_eq_true', decide_eq_false_iff_not] at h
  exact ⟨h.1.1, h.1.2, h.2⟩
theorem vis_ {x : Str} (C : Cxt G cf c X) (h : c.vis x = true) : Vis X.env.scope x := by
  rw [C.sc]
  unfold SC.vis at h
  unfold Vis
  split at h
  · exact .inl (by assumption)
  · exact .inr (.inl (by assumption))
  · exact .inr (.inr (by assumption))
  · cases h
theorem glo_ {x : Str} (C : Cxt G cf c X) (h : c.glo x = true) : Gl X x := by
  unfold Gl Env.kindOf
  rw [C.sc]
  unfold SC.glo at h
  split at h
  · assumption
  · cases h
theorem sto_ {x : Str} (C : Cxt G cf c X) (h : c.sto x = true) : L2.Loc X.env.scope x := by
  rw [C.sc]
  unfold SC.sto at h
  unfold L2.Loc
  split at h
  · exact .inl (by assumption)
  · exact .inr (by assumption)
  · cases h
theorem idx_ {x : Str} {i : Nat} (C : Cxt G cf c X) (h : c.N.idxOf? x = some i) : X.N[i]? = some x := by
  rw [C.N]
  unfold List.idxOf? at h
  obtain ⟨h1, h2, _⟩ := List.findIdx?_eq_some_iff_getElem.mp h
  rw [List.getElem?_eq_getElem h1]
  simpa using h2
theorem pg3 (C : Cxt G cf c X) : ∀ (n : Nat) (e : Expr), PG X e (tG X Φ (gOf c n e) (gSl c n e))
  | 0, _ => pg_never
  | n + 1, e => by
    unfold gOf gSl
    cases e with
    | Name x pos =>
      simp only
      split
      · rename_i hs
        cases q : c.N.idxOf? x with
        | none => exact pg_never
        | some i => exact pg_nmL (pg_name (by rw [C.N]; exact C.nd) (idx_ C q) (sto_ C hs) (C.fn x hs))
      · exact pg_never
    | Tuple es k pos =>
      simp only
      split
      · exact pg_never
      · rename_i hs
        have hs' : es.any isStar = false := by simpa using hs
        exact pg_tpL C.calm (pgsL (fun e _ => pg3 C n e) hs') hs' (by simp)
    | _ => exact pg_never
/-! ### names -/
theorem ty_boot {x : Str} {t : String} (h : tyOfName x = some t) : bootBuiltins x = some (.type t) := by
  unfold tyOfName at h
  have h1 := List.find?_some h
  simp only [decide_eq_true_eq] at h1
  have h2 := List.mem_of_find?_eq_some h
  subst h1
  have h3 : (["int", "str", "tuple", "bool", "list"].all fun t => decide (bootBuiltins (Str.ofString t) = some (.type t))) = true := by decide +kernel
  exact of_decide_eq_true (List.all_eq_true.mp h3 t h2)
theorem pe_nameL (C : Cxt G cf c X) (x : Str) (pos : Pos) : PE X (.Name x pos) (tE X Φ W (cName G c x)) := by
  unfold cName
  split
  · rename_i hn
    obtain ⟨n1, n2, n3⟩ := okName_ hn
    split
    · rename_i hv
      cases q : c.N.idxOf? x with
      | none => exact pe_stuck
      | some i => exact pe_varL (pe_var (idx_ C q) (vis_ C hv) n1 n2)
    · split
      · rename_i hg
        cases q : G.con.lookup x with
        | some d =>
          obtain ⟨v, u, h1, h2, h3⟩ := C.glob.con x d q
          exact pe_val (pe_glob (glo_ C hg) h1 h2 n1) fun θ H => h3 Φ θ H
        | none =>
          simp only
          split
          · rename_i hf
            cases q2 : tyOfName x with
            | none => exact pe_stuck
            | some t => exact pe_val (pe_bltn (v := .ty t) (glo_ C hg) (C.glob.free x hf) (ty_boot q2) rfl n3 n1) fun θ H => .ty t
          · exact pe_stuck
      · exact pe_stuck
  · exact pe_stuck
/-! ### calls -/
theorem blt_boot {x : Str} {b : Blt} (h : bltOf x = some b) : bootBuiltins x = some (bval b) := by
  unfold bltOf at h
  have h1 := List.find?_some h
  simp only [decide_eq_true_eq] at h1
  have h2 := List.mem_of_find?_eq_some h
  subst h1
  have h3 : (allBlt.all fun b => decide (bootBuiltins (bName b) = some (bval b))) = true := by decide +kernel
  exact of_decide_eq_true (List.all_eq_true.mp h3 b h2)
theorem cArgs_len : ∀ {fs : List EM} {ls : LS} {h h' : AH} {ds : List DV}, cArgs fs ls h = some (.ok ds h') → ds.length = fs.length
  | [], _, _, _, _, e => by cases e; rfl
  | f :: fs, ls, h, h', ds, e => by
    have e1 : bd (f ls h) (fun x h1 => bd (cArgs fs ls h1) fun xs h2 => some (.ok (x :: xs) h2)) = some (.ok ds h') := e
    cases q : f ls h with
    | none => rw [q] at e1; cases e1
    | some w =>
    cases w with
    | er y k => rw [q] at e1; cases e1
    | ok d k =>
    rw [q] at e1
    simp only [bd_ok] at e1
    cases q2 : cArgs fs ls k with
    | none => rw [q2] at e1; cases e1
    | some w =>
    cases w with
    | er y k => rw [q2] at e1; cases e1
    | ok ds' k' =>
    rw [q2] at e1
    cases e1
    simp [cArgs_len q2]
theorem pe_bltL (C : Cxt G cf c X) {x : Str} {b : Blt} {es : List Expr} {fs : List EM} {p pos : Pos} (hn : okName x = true) (hg : c.glo x = true) (hf : G.free.contains x = true) (hb : bltOf x = some b) (ha : PA X es (tAs X Φ W fs)) (hs : es.any isStar = false) (h0 : es.isEmpty = false) :
    PE X (.Call (.Name x p) es [] pos) (tE X Φ W (cBlt b fs)) := by
  obtain ⟨n1, n2, n3⟩ := okName_ hn
  cases es with
  | nil => cases h0
  | cons e es =>
  rw [List.any_cons, Bool.or_eq_false_iff] at hs
  have key : PE X (.Call (.Name x p) (e :: es) [] pos) (tCB (c3 X Φ b) (tAs X Φ W fs)) := by
    have cr := call3 (Φ := Φ) C.hu C.calm b
    have bb := blt_boot hb
    have m := C.glob.free x hf
    have st := star1 (es := es) (env := X.env) hs.1
    have pl : (backTo pos (starEach es X.env)).any (·.1) = false := by rw [back_plain]; exact star_plain hs.2
    cases b <;> first
      | exact pe_callB cr (glo_ C hg) m bb ha n3 n1 st pl
      | exact pe_callTy cr (glo_ C hg) m bb ha n3 n1 st pl
  exact PE.imp key fun σ H Q ⟨θ, ls, ah, r, R0, S0, e0, P⟩ => by
    refine (bd_step (rel := rVs X Φ) R0 S0 e0 P).mono fun xs H1 ⟨θ1, ah1, d1, x1, R1, S1, rv1, e1, P1, _⟩ => ?_
    obtain ⟨d, ah', e3, rfl⟩ := up_eq e1
    exact ⟨θ1, ah1, d1, d, ah', R1, rv1, e3, P1⟩
theorem pe_callL (C : Cxt G cf c X) (tk : Takes X W) {x : Str} {k : Nat} {es : List Expr} {fs : List EM} {p pos : Pos} (hn : okName x = true) (hg : c.glo x = true) (hf : G.fns.lookup x = some k) (ha : PA X es (tAs X Φ W fs)) (hs : es.any isStar = false) (hl : es.length = k) (h0 : 0 < k) (hfl : fs.length = es.length) :
    PE X (.Call (.Name x p) es [] pos) (tE X Φ W (cCall (cf x) fs)) := by
  obtain ⟨n1, n2, n3⟩ := okName_ hn
  obtain ⟨f, fd, ps, j, h1, h2, h3, h4, h5⟩ := C.glob.fns x k hf
  cases es with
  | nil => simp at hl; omega
  | cons e es =>
  rw [List.any_cons, Bool.or_eq_false_iff] at hs
  refine PE.imp (pe_callR (E := fun σ => WE W σ) h3 h4 (glo_ C hg) h1 h2 h5 (fun σ => passAt tk σ) ha n1 (star1 hs.1) (by rw [back_plain]; exact star_plain hs.2)) fun σ H Q ⟨θ, ls, ah, r, R0, S0, e0, P⟩ => ?_
  refine (bd_step (rel := rVs X Φ) R0 S0 e0 P).mono fun xs H1 ⟨θ1, ah1, d1, x1, R1, S1, rv1, e1, P1, w1⟩ => ?_
  refine ⟨?_, Φ, θ1, ah1, d1, r, R1, rv1, e1, ?_⟩
  · rw [rv1.length, cArgs_len w1, hfl, hl]
  · cases r with
    | ok d ah' => exact fun θ' H' v x r q => P1 θ' H' v x r q
    | er y ah' => exact fun θ' H' cls dd x r q => P1 θ' H' cls dd x r q
theorem slot_of (m : Mth) : PlainAttrs (mty m) := by cases m <;> first | exact PySem.F.plainAttrs_list | exact PySem.F.plainAttrs_str | exact PySem.F.plainAttrs_dict
theorem mth_slot {x : Str} {m : Mth} (h : mthOf x = some m) : Slot (mty m) x (mid m) := by
  unfold mthOf at h
  have h1 := List.find?_some h
  simp only [decide_eq_true_eq] at h1
  subst h1
  cases m
  · exact PySem.F.slot_list_append
  · exact PySem.F.slot_list_insert
  · exact PySem.F.slot_list_extend
  · exact PySem.F.slot_list_pop
  · exact PySem.F.slot_str_join
  · exact PySem.F.slot_str_zfill
  · exact PySem.F.slot_dict_get
  · exact PySem.F.slot_str_partition
  · exact PySem.F.slot_str_split
  · exact PySem.F.slot_str_find
theorem mth_type (m : Mth) : typeOf (.builtin (mid m)) = pure (.type "method_descriptor") := by
  cases m
  · exact PySem.F.type_list_append
  · exact PySem.F.type_list_insert
  · exact PySem.F.type_list_extend
  · exact PySem.F.type_list_pop
  · exact PySem.F.type_str_join
  · exact PySem.F.type_str_zfill
  · exact PySem.F.type_dict_get
  · exact PySem.F.type_str_partition
  · exact PySem.F.type_str_split
  · exact PySem.F.type_str_find
theorem lst_V {r : Nat} {x : V} (R0 : Rel X.K Φ θ ah H) (hx : RV X.K Φ θ H x (.ref r)) (h : (match ah[r]? with | some (.lst _) => true | _ => false) = true) : tyV X.K "list" x H := by
  split at h
  · rename_i ys q
    obtain ⟨p, vs, rfl, _, h2, _⟩ := RV.list R0 hx q
    exact .inl ⟨rfl, vs, SqL.of h2⟩
  · cases h
theorem dic_V {r : Nat} {x : V} (R0 : Rel X.K Φ θ ah H) (hx : RV X.K Φ θ H x (.ref r)) (h : (match ah[r]? with | some (.dic _) => true | _ => false) = true) : tyV X.K "dict" x H := by
  split at h
  · rename_i ys q
    obtain ⟨p, vs, rfl, _, h2, _⟩ := RV.dict R0 hx q
    exact .inr (.inr (.inl ⟨rfl, .inl ⟨vs, h2⟩⟩))
  · cases h
theorem str_V {z : List Nat} {x : V} (hx : RV X.K Φ θ H x (.str z)) : tyV X.K "str" x H := by cases hx; rfl
theorem mty_V {m : Mth} {o : DV} {x : V} (R0 : Rel X.K Φ θ ah H) (hx : RV X.K Φ θ H x o) (h : mtyOk m o ah = true) : tyV X.K (mty m) x H := by
  cases m <;> cases o <;> first
    | exact lst_V R0 hx h
    | exact dic_V R0 hx h
    | exact str_V hx
    | cases h
theorem pe_mthL (hu : X.A.units + 64 < cLine) {m : Mth} {name : Str} {o : Expr} {f : EM} {es : List Expr} {fs : List EM} {ap cp : Pos} (hm : mthOf name = some m) (ho : PE X o (tE X Φ W f)) (ha : PA X es (tAs X Φ W fs)) (hs : es.any isStar = false) (hb : noSup o = true)
    (hl : ap.endLine = cp.line) (hn : es.length < 25) (hf : fs.length = es.length) : PE X (.Call (.Attribute o name ap) es [] cp) (tE X Φ W (cMth m f fs)) := by
  have hline : (ap.endLine == cp.line) = true := by rw [hl]; simp
  have hbase := base_plain (m := name) (env := X.env) (w := eval o X.env) hb
  have mt := mth3 (Φ := Φ) hu m
  cases es with
  | nil =>
    cases fs with
    | cons a b => cases hf
    | nil =>
    refine PE.imp (pe_bm0 (slot_of m) (mth_slot hm) (mth_type m) mt ho hbase hline) fun σ H Q ⟨θ, ls, ah, r, R0, S0, e0, P⟩ => ?_
    refine (bd_step (rel := rV X Φ) R0 S0 e0 P).mono fun x H1 ⟨θ1, ah1, d1, x1, R1, S1, rv1, e1, P1, w1⟩ => ?_
    by_cases ht : mtyOk m d1 ah1 = true
    · rw [if_pos ht] at e1
      refine ⟨mty_V R1 rv1 ht, ?_⟩
      have e2 : up (mthD m d1 [] ah1) = some r := e1
      obtain ⟨d, ah', e3, rfl⟩ := up_eq e2
      exact ⟨θ1, ah1, d1, [], d, ah', R1, rv1, .nil, e3, P1⟩
    · rw [if_neg ht] at e1; cases e1
  | cons e es =>
    rw [List.any_cons, Bool.or_eq_false_iff] at hs
    refine PE.imp (pe_bm (slot_of m) (mth_slot hm) (mth_type m) mt ho ha hbase ?_ hline (star1 hs.1) (by rw [back_plain]; exact star_plain hs.2)) fun σ H Q ⟨θ, ls, ah, r, R0, S0, e0, P⟩ => ?_
    · have h1 : (backTo cp (starEach (e :: es) X.env)).any (·.1) = false := by rw [back_plain, star1 hs.1, List.any_cons, star_plain hs.2]; rfl
      rw [any_all h1]
      have h2 : (e :: es).length + 0 + 0 < 30 := by simp at hn ⊢; omega
      simpa [keywordEach, backToKw] using h2
    · refine (bd_step (rel := rV X Φ) R0 S0 e0 P).mono fun x H1 ⟨θ1, ah1, d1, x1, R1, S1, rv1, e1, P1, w1⟩ => ?_
      by_cases ht : mtyOk m d1 ah1 = true
      · rw [if_pos ht] at e1
        refine ⟨mty_V R1 rv1 ht, ?_⟩
        refine (bd_step (rel := rVs X Φ) R1 S1 e1 P1).mono fun xs H2 ⟨θ2, ah2, d2, x2, R2, S2, rv2, e2, P2, w2⟩ => ?_
        obtain ⟨d, ah', e3, rfl⟩ := up_eq e2
        exact ⟨θ2, ah2, d1, d2, d, ah', R2, rv1.mono x2 R1, rv2, e3, P2⟩
      · rw [if_neg ht] at e1; cases e1
end
end P3


set_option maxRecDepth 100000
set_option maxHeartbeats 1000000
set_option autoImplicit false
/-! Comprehensions; the interpreter's expressions are right. -/
namespace P3
open PySem L2
section
variable {X : Cx} {Φ : Addr → Prop} {W : WX}
variable {θ θ1 : List Addr} {H H1 : Hp} {σ : L2.St} {ls : LS} {ah ah1 : AH}
abbrev WN : WX := fun _ _ _ _ => False
/-- a comprehension's tests and item, of one turn -/
theorem turnE {f : EM} {te : TE} {ls2 : LS} {h2 : AH} {σ2 : L2.St} {H2 : Hp} {θ2 : List Addr} {y : DV} {h3 : AH} (R2 : Rel X.K Φ θ2 h2 H2) (S2 : SL X.K Φ θ2 H2 σ2 ls2) (q : f ls2 h2 = some (.ok y h3)) {Q : VK}
    (k : ∀ v H3 θ3, Ext θ2 H2 θ3 H3 → Rel X.K Φ θ3 h3 H3 → RV X.K Φ θ3 H3 v y → Q v H3) : tE X Φ WN f σ2 H2 Q :=
  ⟨θ2, ls2, h2, _, R2, S2, q, fun θ3 H3 v x R3 rv => k v H3 θ3 x R3 rv⟩
theorem turnB {c : EM} {ls2 : LS} {h2 : AH} {σ2 : L2.St} {H2 : Hp} {θ2 : List Addr} {b : Bool} {h3 : AH} (R2 : Rel X.K Φ θ2 h2 H2) (S2 : SL X.K Φ θ2 H2 σ2 ls2) (q : cTru c ls2 h2 = some (.ok b h3)) {Q : Bool → Hp → Prop}
    (k : ∀ H3 θ3, Ext θ2 H2 θ3 H3 → Rel X.K Φ θ3 h3 H3 → Q b H3) : tT X Φ WN c σ2 H2 Q :=
  ⟨θ2, ls2, h2, _, R2, S2, q, fun θ3 H3 v x R3 rv => by cases rv; exact k H3 θ3 x R3⟩
def tIfs (X : Cx) (Φ : Addr → Prop) : Option EM → TT
  | none => tYes
  | some c => tT X Φ WN c
theorem wipe_idem {σ : L2.St} {vs : List Nat} : wipe (wipe σ vs) vs = wipe σ vs := by
  apply List.ext_getElem?
  intro j
  rw [wipe_get, wipe_length]
  by_cases h : j ∈ vs ∧ j < σ.length
  · rw [if_pos h, wipe_get, if_pos h]
  · rw [if_neg h]
theorem comp_read {im : IM} {g : GM} {c : Option EM} {f : EM} {own sl : List Nat} (hsl : ∀ i ∈ sl, i ∈ own) {Q : VK} (h : tE X Φ W (cCmp own im g c f) σ H Q) :
    tLc (tI X Φ W im) (tG X Φ g sl) (tIfs X Φ c) (tE X Φ WN f) own σ H Q := by
  obtain ⟨θ, ls, ah, r, R0, S0, e, P⟩ := h
  refine (bd_step (rel := rI X Φ) R0 S0 e P).mono fun J H1 ⟨θ1, ah1, it, x1, R1, S1, hJ, e1, P1, _⟩ => ?_
  intro D hD
  have x2 : Ext θ1 H1 (θ1 ++ [D]) (upd H1 D (.lst [])) := Ext.push_new hD
  have R2 : Rel X.K Φ (θ1 ++ [D]) (ah1 ++ [.lst []]) (upd H1 D (.lst [])) := R1.push hD ⟨[], upd_same, .nil⟩
  refine ⟨fun i m H' => ∃ θ' ah', Ext θ1 H1 θ' H' ∧ Rel X.K Φ θ' ah' H' ∧ θ'[ah1.length]? = some D ∧ compN ah1.length it.nx (compT g c f (wipeL ls own)) m i ah' = some r,
    ⟨it.fuel, θ1 ++ [D], ah1 ++ [.lst []], x2, R2, by rw [← R1.len, List.getElem?_append_right (Nat.le_refl _)]; simp, e1⟩, ?_⟩
  rintro i m H3 ⟨θ3, ah3, x3, R3, hD3, e3⟩
  obtain ⟨hgo, hst⟩ := hJ i θ3 ah3 H3 x3 R3
  have stop : it.nx i ah3 = some none → r = .ok (.ref ah1.length) ah3 → J.stop i H3 ∧ Q (.ref D) H3 := fun q er => by
    subst er
    exact ⟨hst q, P1 θ3 H3 (.ref D) x3 R3 (.ref hD3)⟩
  cases m with
  | zero =>
    unfold compN at e3
    split at e3
    · rename_i q
      cases e3
      exact .inl (stop q rfl)
    · cases e3
  | succ k =>
    unfold compN at e3
    split at e3
    · cases e3
    · rename_i q
      cases e3
      exact .inl (stop q rfl)
    · rename_i d q
      obtain ⟨go, hy⟩ := hgo d q
      refine .inr ⟨go, _, fun H' hn => ⟨k, Nat.lt_succ_self k, hn⟩, fun x H4 y4 => ?_⟩
      obtain ⟨x4, R4, rv4⟩ := hy x H4 y4
      have x04 : Ext θ1 H1 θ3 H4 := x3.trans R3 x4
      have S4 : SL X.K Φ θ3 H4 (wipe σ own) (wipeL ls own) := (S1.mono x04 R1).wipe own
      cases qt : compT g c f (wipeL ls own) d ah3 with
      | none => rw [qt] at e3; cases e3
      | some w =>
      cases w with
      | er y h => rw [qt] at e3; cases e3
      | ok o h5 =>
      rw [qt] at e3
      unfold compT at qt
      cases qg : g d (wipeL ls own) ah3 with
      | none => rw [qg] at qt; cases qt
      | some w =>
      obtain ⟨ls5, h4⟩ := w
      rw [qg] at qt
      refine ⟨θ3, wipeL ls own, ah3, d, ls5, h4, R4, S4, rv4, qg, fun θ5 σ5 H5 x5 R5 S5 w5 => ⟨(w5 own hsl).trans wipe_idem, ?_⟩⟩
      have x05 : Ext θ1 H1 θ5 H5 := x04.trans R4 x5
      have D5 : θ5[ah1.length]? = some D := x5.get hD3
      -- the item is put onto the list
      have put : ∀ {y : DV} {h6 : AH} {v : V} {H6 : Hp} {θ6 : List Addr}, Ext θ5 H5 θ6 H6 → Rel X.K Φ θ6 h6 H6 → RV X.K Φ θ6 H6 v y → o = some y → h6 = h5 →
          ∃ acc, H6 D = some (.lst acc) ∧ acc.length < sizeLine ∧ ∃ θ' ah', Ext θ1 H1 θ' (upd H6 D (.lst (acc ++ [v]))) ∧ Rel X.K Φ θ' ah' (upd H6 D (.lst (acc ++ [v]))) ∧ θ'[ah1.length]? = some D ∧ compN ah1.length it.nx (compT g c f (wipeL ls own)) k (i + 1) ah' = some r := by
        intro y h6 v H6 θ6 x6 R6 rv6 eo eh
        subst eo eh
        have D6 : θ6[ah1.length]? = some D := x6.get D5
        have e4 : (match h6[ah1.length]? with
          | some (.lst acc) => if acc.length < LIM then compN ah1.length it.nx (compT g c f (wipeL ls own)) k (i + 1) (h6.set ah1.length (.lst (acc ++ [y]))) else none
          | _ => none) = some r := e3
        split at e4
        · rename_i acc qa
          by_cases hl : acc.length < LIM
          · rw [if_pos hl] at e4
            obtain ⟨vs, v1, v2⟩ := R6.obj _ _ _ D6 qa
            have hm : D ∈ θ6 := List.mem_of_getElem? D6
            refine ⟨vs, v1, by rw [v2.length, ← lim_eq]; exact hl, θ6, _, (x05.trans R5 x6).trans R6 (Ext.write hm), R6.write (u := .lst (acc ++ [y])) D6 ⟨_, upd_same, (v2.append (.cons rv6 .nil)).mono (Ext.write hm) R6⟩, D6, e4⟩
          · rw [if_neg hl] at e4; cases e4
        · cases e4
      cases c with
      | none =>
        dsimp only [tIfs, tYes]
        rw [if_pos rfl]
        cases qf : f ls5 h4 with
        | none => simp only [qf, bd_none] at qt; cases qt
        | some w =>
        cases w with
        | er y h => simp only [qf, bd_er] at qt; cases qt
        | ok y h6 =>
        simp only [qf, bd_ok] at qt
        cases qt
        exact turnE (te := tE X Φ WN f) R5 S5 qf fun v H6 θ6 x6 R6 rv6 => put x6 R6 rv6 rfl rfl
      | some cc =>
        cases qc : cTru cc ls5 h4 with
        | none => simp only [qc, bd_none] at qt; cases qt
        | some w =>
        cases w with
        | er y h => simp only [qc, bd_er] at qt; cases qt
        | ok b h6 =>
        simp only [qc, bd_ok] at qt
        refine turnB R5 S5 qc fun H6 θ6 x6 R6 => ?_
        cases b with
        | false =>
          rw [if_neg Bool.false_ne_true] at qt ⊢
          cases qt
          exact ⟨θ6, _, x05.trans R5 x6, R6, x6.get D5, e3⟩
        | true =>
          rw [if_pos rfl] at qt ⊢
          have S6 := S5.mono x6 R5
          cases qf : f ls5 h6 with
          | none => simp only [qf, bd_none] at qt; cases qt
          | some w =>
          cases w with
          | er y h => simp only [qf, bd_er] at qt; cases qt
          | ok y h7 =>
          simp only [qf, bd_ok] at qt
          cases qt
          exact turnE (te := tE X Φ WN f) R6 S6 qf fun v H7 θ7 x7 R7 rv7 => put (x6.trans R6 x7) R7 rv7 rfl rfl
/-! ### the block's context -/
variable {G : GE} {cf : Str → List DV → AH → Option (R DV)} {c : SC}
theorem Cxt.blk (C : Cxt G cf c X) {scope : Scope} {s : Shared} {H : Hp} {Cc : Addr} {cl : List (Str × Addr)} {fp : List Addr} : Cxt G cf (c.sub scope) (X.blk s H scope (compEnvC scope cl Cc X.env) fp) where
  N := C.N
  nd := C.nd
  sc := by
    show relabel scope X.env = relS scope c.sc
    unfold relabel relS Env.kindOf
    rw [C.sc]
  fn := fun x h => by
    have es : (relabel scope X.env) = relS scope c.sc := by
      unfold relabel relS Env.kindOf
      rw [C.sc]
    unfold SC.sto SC.sub at h
    simp only at h
    show (scope.names.lookup x == some .cell) = true ∨ (relabel scope X.env).names.lookup x = some .local
    rw [es]
    split at h
    · exact .inr (by assumption)
    · split at h
      · rename_i q
        left
        rw [q]
        rfl
      · cases h
    · cases h
  calm := C.calm
  hu := C.hu
  glob := ⟨C.glob.con, C.glob.free, C.glob.fns, C.glob.exc, C.glob.exm⟩
theorem takesN {X : Cx} : Takes X WN := fun u s' ⟨_, _, _, _, _, _, _, _, _, _, _, _, _, _, _, _, w⟩ => w.elim
theorem ands_ {D : Expr → EM} {pos : Pos} : ∀ {es : List Expr}, (∀ e ∈ es, PE X e (tE X Φ W (D e))) → PE X (.BoolOp .And es pos) (tE X Φ W (ands (es.map D)))
  | [], _ => pe_stuck
  | [e], h => pe_one (h e List.mem_cons_self)
  | a :: b :: r, h => pe_andL (h a List.mem_cons_self) (ands_ fun e he => h e (List.mem_cons_of_mem _ he))
theorem ors_ {D : Expr → EM} {pos : Pos} : ∀ {es : List Expr}, (∀ e ∈ es, PE X e (tE X Φ W (D e))) → PE X (.BoolOp .Or es pos) (tE X Φ W (ors (es.map D)))
  | [], _ => pe_stuck
  | [e], h => pe_one (h e List.mem_cons_self)
  | a :: b :: r, h => pe_orL (h a List.mem_cons_self) (ors_ fun e he => h e (List.mem_cons_of_mem _ he))
theorem pt_stuck {e : Expr} : PT X e (tT X Φ W cStuck) := ⟨fun pins s σ H Q I h => by obtain ⟨_, _, _, _, _, _, e, _⟩ := h; cases e⟩
theorem andsT {D : Expr → EM} {pos : Pos} : ∀ {es : List Expr}, (∀ e ∈ es, PT X e (tT X Φ W (D e))) → PW X (.BoolOp .And es pos) (tT X Φ W (ands (es.map D)))
  | [], _ => ⟨fun wh pins s σ H Q I h => by obtain ⟨_, _, _, _, _, _, e, _⟩ := h; cases e⟩
  | [e], h => pw_and1 (h e List.mem_cons_self)
  | a :: b :: r, h => pw_andL (h a List.mem_cons_self) (andsT fun e he => h e (List.mem_cons_of_mem _ he))
theorem orsT {D : Expr → EM} {pos : Pos} : ∀ {es : List Expr}, (∀ e ∈ es, PT X e (tT X Φ W (D e))) → PW X (.BoolOp .Or es pos) (tT X Φ W (ors (es.map D)))
  | [], _ => ⟨fun wh pins s σ H Q I h => by obtain ⟨_, _, _, _, _, _, e, _⟩ := h; cases e⟩
  | [e], h => pw_or1 (h e List.mem_cons_self)
  | a :: b :: r, h => pw_orL (h a List.mem_cons_self) (orsT fun e he => h e (List.mem_cons_of_mem _ he))
end
end P3


set_option maxRecDepth 100000
set_option maxHeartbeats 2000000
set_option autoImplicit false
/-! The interpreter's expressions are right. -/
namespace P3
open PySem L2
section
variable {Φ : Addr → Prop}
theorem pt_chainL {X : Cx} {W : WX} (hu : X.A.units + 64 < cLine) {a b c : Expr} {o o' : CmpOp} {pos : Pos} {f g k : EM} (ha : PE X a (tE X Φ W f)) (hb : PE X b (tE X Φ W g)) (hc : PE X c (tE X Φ W k)) (hm : behindInMarks o' c = false) :
    PT X (.Compare a [o, o'] [b, c] pos) (tT X Φ W (cChain (cmpD o) (cmpD o') f g k)) :=
  PT.imp (pt_chain (op_cmp (Φ := Φ) hu o) (op_cmp (Φ := Φ) hu o') ha hb hc hm) fun σ H Q ⟨θ, ls, ah, r, R0, S0, e, P⟩ => by
    have e0 : bd (f ls ah) (fun x h1 => bd (bd (g ls h1) fun y h2 => bd (up (cmpD o x y h2)) fun z h3 => match z with
      | .bl true => bd (k ls h3) fun u h4 => up (cmpD o' y u h4)
      | .bl false => some (.ok (.bl false) h3)
      | _ => none) fun x h1 => match truD h1 x with | some b => some (.ok b h1) | none => none) = some r := by
      rw [← e]
      unfold cTru cChain
      cases f ls ah with
      | none => rfl
      | some w => cases w <;> rfl
    refine (bd_step (rel := rV X Φ) R0 S0 e0 P).mono fun x H1 ⟨θ1, ah1, d1, x1, R1, S1, rv1, e1, P1, _⟩ => ?_
    have e1' : bd (g ls ah1) (fun y h2 => bd (bd (up (cmpD o d1 y h2)) fun z h3 => match z with
      | .bl true => bd (k ls h3) fun u h4 => up (cmpD o' y u h4)
      | .bl false => some (.ok (.bl false) h3)
      | _ => none) fun x h1 => match truD h1 x with | some b => some (.ok b h1) | none => none) = some r := by
      rw [← e1]
      cases g ls ah1 with
      | none => rfl
      | some w => cases w <;> rfl
    refine (bd_step (rel := rV X Φ) R1 S1 e1' P1).mono fun y H2 ⟨θ2, ah2, d2, x2, R2, S2, rv2, e2, P2, _⟩ => ?_
    cases q : cmpD o d1 d2 ah2 with
    | none => rw [q] at e2; cases e2
    | some p =>
    obtain ⟨t, rfl⟩ := cmp_bl q
    rw [q] at e2
    refine ⟨θ2, _, d1, d2, _, _, R2, RV.mono x2 R1 rv1, rv2, q, fun θ3 H3 v x3 R3 rv3 => ?_⟩
    cases rv3
    refine ⟨t, rfl, ?_⟩
    have S3 := S2.mono x3 R2
    have P3 := P2.trans x3 R3
    cases t with
    | false =>
      have e3 : some (R.ok false ah2) = some r := e2
      cases e3
      exact ⟨false, rfl, P3 θ3 H3 _ Ext.refl R3 rfl⟩
    | true =>
      have e3 : bd (bd (k ls ah2) (fun u h4 => up (cmpD o' d2 u h4))) (fun x h1 => match truD h1 x with | some b => some (R.ok b h1) | none => none) = some r := e2
      have e4 : bd (k ls ah2) (fun u h4 => bd (up (cmpD o' d2 u h4)) (fun x h1 => match truD h1 x with | some b => some (R.ok b h1) | none => none)) = some r := by
        rw [← e3]
        generalize k ls ah2 = w
        cases w with
        | none => rfl
        | some w => cases w <;> rfl
      refine (bd_step (rel := rV X Φ) R3 S3 e4 P3).mono fun z H4 ⟨θ4, ah4, d4, x4, R4, S4, rv4, e5, P4, _⟩ => ?_
      cases q2 : cmpD o' d2 d4 ah4 with
      | none => rw [q2] at e5; cases e5
      | some p =>
      obtain ⟨t, rfl⟩ := cmp_bl q2
      rw [q2] at e5
      cases e5
      refine ⟨θ4, _, d2, d4, _, _, R4, RV.mono x4 R3 (RV.mono x3 R2 rv2), rv4, q2, fun θ5 H5 v x5 R5 rv5 => ?_⟩
      cases rv5
      exact ⟨t, rfl, P4 θ5 H5 _ x5 R5 rfl⟩
theorem cTru_if {c f g : EM} {ls : LS} {h : AH} : cTru (cIf c f g) ls h = bd (cTru c ls h) fun b h1 => if b = true then cTru f ls h1 else cTru g ls h1 := by
  have : cTru (cIf c f g) ls h = bd (bd (cTru c ls h) fun b h1 => if b = true then f ls h1 else g ls h1) fun x h1 => match truD h1 x with | some b => some (.ok b h1) | none => none := rfl
  rw [this]
  cases cTru c ls h with
  | none => rfl
  | some w =>
    cases w with
    | er y h => rfl
    | ok b h1 => cases b <;> rfl
theorem pt_ifL {X : Cx} {W : WX} {c a b : Expr} {k f g : EM} {pos : Pos} (hc : PT X c (tT X Φ W k)) (ha : PT X a (tT X Φ W f)) (hb : PT X b (tT X Φ W g)) : PT X (.IfExp c a b pos) (tT X Φ W (cIf k f g)) := by
  refine ⟨fun pins s σ H Q I ⟨θ, ls, ah, r, R0, S0, e, P⟩ => ?_⟩
  rw [cTru_if] at e
  show wpAny _ _ (isTrue c X.env (eval c X.env) >>= fun t => if t = true then isTrue a X.env (eval a X.env) else isTrue b X.env (eval b X.env)) _ _ s
  refine wpAny_bind (thn (hc.run pins s σ H _ I (trB_step R0 S0 e P)) fun t s1 ⟨H1, I1, θ1, ah1, x1, R1, S1, e1, P1⟩ => ?_)
  cases t with
  | true => exact ha.run pins s1 σ H1 Q I1 ⟨θ1, ls, ah1, r, R1, S1, e1, P1⟩
  | false => exact hb.run pins s1 σ H1 Q I1 ⟨θ1, ls, ah1, r, R1, S1, e1, P1⟩
variable {G : GE} {cf : Str → List DV → AH → Option (R DV)}
abbrev Both (X : Cx) (Φ : Addr → Prop) (W : WX) (e : Expr) (f : EM) : Prop := PE X e (tE X Φ W f) ∧ PT X e (tT X Φ W f)
theorem both_stuck {X : Cx} {W : WX} {e : Expr} : Both X Φ W e cStuck := ⟨pe_stuck, pt_stuck⟩
theorem PI.never {X : Cx} {W : WX} {tg e : Expr} : PI X tg e (tI X Φ W fun _ _ => none) := ⟨fun pins s σ H R I ⟨_, _, _, _, _, _, e, _⟩ => by cases e⟩
theorem iOf_ok {X : Cx} {W : WX} {c : SC} (C : Cxt G cf c X) {D : Expr → EM} (h : ∀ e, PE X e (tE X Φ W (D e))) (tg e : Expr) : PI X tg e (tI X Φ W (iOf G c (isTup tg) D e)) := by
  unfold iOf
  split
  · rename_i f p es pos
    split
    · rename_i hc
      simp only [Bool.and_eq_true, Bool.not_eq_true'] at hc
      obtain ⟨⟨⟨h1, h2⟩, h3⟩, h4⟩ := hc
      have hm := C.glob.free f h2
      have hg := glo_ C h1
      split
      · rename_i e1
        subst e1
        split
        · exact pi_rng1L hg hm (paL (fun e _ => h e) h4) (by simpa using h4)
        · simp only [List.any_cons, List.any_nil, Bool.or_false, Bool.or_eq_false_iff] at h4
          exact pi_rng2L hg hm (paL (D := D) (fun e _ => h e) (by simp [h4])) h4.1 h4.2
        · simp only [List.any_cons, List.any_nil, Bool.or_false, Bool.or_eq_false_iff] at h4
          exact pi_rng3L hg hm (paL (D := D) (fun e _ => h e) (by simp [h4])) h4.1 (by simp [h4])
        · exact PI.never
      · split
        · rename_i e1
          subst e1
          split
          · rename_i a b ht
            simp only [List.any_cons, List.any_nil, Bool.or_false, Bool.or_eq_false_iff] at h4
            cases tg with
            | Tuple ts k tp => exact pi_zipL hg hm (paL (D := D) (fun e _ => h e) (by simp [h4])) h4.1 (by simp [h4])
            | _ => cases ht
          · exact PI.never
        · split
          · rename_i e1
            subst e1
            split
            · rename_i a ht
              cases tg with
              | Tuple ts k tp => exact pi_enumL hg hm (paL (D := D) (fun e _ => h e) h4) (by simpa using h4)
              | _ => cases ht
            · exact PI.never
          · exact pi_valL (h _)
    · exact pi_valL (h _)
  · split
    · exact PI.never
    · exact pi_valL (h _)
theorem setI {e : Expr} {env : Env} (h : isSet e = true → False) : ∀ x, foldedSetIterable e env x = pure x := by
  intro x
  cases e <;> first | rfl | exact (h rfl).elim
theorem isSet_stuck {c : SC} {t : Bool} {D : Expr → EM} {e : Expr} (h : isSet e = true) : iOf G c t D e = fun _ _ => none := by
  cases e <;> first | (cases h; done) | rfl
/-- the parts of a comprehension -/
theorem lc_parts {n : Nat} {X : Cx} {c : SC} {W : WX} (C : Cxt G cf c X) (ihE : ∀ e, PE X e (tE X Φ W (den G cf n c e))) (ih : ∀ {X : Cx} {c : SC} {W : WX}, Takes X W → Cxt G cf c X → ∀ e : Expr, Both X Φ W e (den G cf n c e)) (elt tg iter : Expr) (ifs : List Expr) (scope : Scope) :
    denLc G (den G cf n) n c elt tg iter ifs scope = cStuck ∨ ∃ (g : TG) (tt : TT) (te : TE), PI X tg iter (tI X Φ W (iOf G c (isTup tg) (den G cf n c) iter)) ∧ BlkOk X.N X.env.scope scope (ownOf c.N scope) ∧
      (∀ (s : Shared) (H : Hp) (Cc : Addr) (cl : List (Str × Addr)) (fp : List Addr), PG (X.blk s H scope (compEnvC scope cl Cc X.env) fp) tg g) ∧
      (∀ (s : Shared) (H : Hp) (Cc : Addr) (cl : List (Str × Addr)) (fp : List Addr), PTs (X.blk s H scope (compEnvC scope cl Cc X.env) fp) ifs tt) ∧
      (∀ (s : Shared) (H : Hp) (Cc : Addr) (cl : List (Str × Addr)) (fp : List Addr), PE (X.blk s H scope (compEnvC scope cl Cc X.env) fp) elt te) ∧ (∀ x, foldedSetIterable iter X.env x = pure x) ∧
      ∀ σ H Q, tE X Φ W (denLc G (den G cf n) n c elt tg iter ifs scope) σ H Q → tLc (tI X Φ W (iOf G c (isTup tg) (den G cf n c) iter)) g tt te ((ownOf c.N scope).map (·.2)) σ H Q := by
  unfold denLc
  split
  · rename_i hc
    simp only [Bool.and_eq_true, Bool.not_eq_true'] at hc
    obtain ⟨⟨h1, h2⟩, h3⟩ := hc
    have hsl : ∀ i ∈ gSl (c.sub scope) n tg, i ∈ (ownOf c.N scope).map (·.2) := fun i hi => by
      have := List.all_eq_true.mp h2 i hi
      simpa using this
    have ok : BlkOk X.N X.env.scope scope (ownOf c.N scope) := by rw [C.N, C.sc]; exact blkOk_by h1
    have sub : ∀ s H Cc cl fp, Cxt G cf (c.sub scope) (X.blk s H scope (compEnvC scope cl Cc X.env) fp) := fun s H Cc cl fp => C.blk
    have hset : ¬ isSet iter = true := by rw [h3]; exact Bool.false_ne_true
    split
    · exact .inr ⟨tG X Φ (gOf (c.sub scope) n tg) (gSl (c.sub scope) n tg), tIfs X Φ none, tE X Φ WN (den G cf n (c.sub scope) elt), iOf_ok C ihE tg iter, ok, fun s H Cc cl fp => pg3 (sub s H Cc cl fp) n tg,
        fun s H Cc cl fp => pts_nil, fun s H Cc cl fp => (ih takesN (sub s H Cc cl fp) elt).1, setI fun h => hset h, fun σ H Q h => comp_read hsl h⟩
    · rename_i t
      exact .inr ⟨tG X Φ (gOf (c.sub scope) n tg) (gSl (c.sub scope) n tg), tIfs X Φ (some (den G cf n (c.sub scope) t)), tE X Φ WN (den G cf n (c.sub scope) elt), iOf_ok C ihE tg iter, ok, fun s H Cc cl fp => pg3 (sub s H Cc cl fp) n tg,
        fun s H Cc cl fp => pts_one (ih takesN (sub s H Cc cl fp) t).2, fun s H Cc cl fp => (ih takesN (sub s H Cc cl fp) elt).1, setI fun h => hset h, fun σ H Q h => comp_read hsl h⟩
    · exact .inl rfl
  · exact .inl rfl
theorem den_ok : ∀ (n : Nat) {X : Cx} {c : SC} {W : WX}, Takes X W → Cxt G cf c X → ∀ e : Expr, Both X Φ W e (den G cf n c e)
  | 0, _, _, _, _, _, _ => both_stuck
  | n + 1, X, c, W, tk, C, e => by
    have ih := fun e => den_ok n tk C e
    have ihE := fun e => (ih e).1
    have ihT := fun e => (ih e).2
    unfold den
    split
    · -- constants
      rename_i k j p
      have he : ∀ f, PE X (.Constant k j p) (tE X Φ W f) → Both X Φ W (.Constant k j p) f := fun f h => ⟨h, pt_valL h fun _ => rfl⟩
      refine he _ ?_
      cases k with
      | none => exact pe_val pe_non fun _ _ => .non
      | bool b => exact pe_val pe_bl fun _ _ => .bl b
      | int i => exact pe_val pe_int fun _ _ => .int i
      | str x =>
        refine pe_val pe_str fun _ _ => ?_
        conv => arg 5; rw [S_ofTL x]
        exact .str _
      | _ => exact pe_stuck
    · rename_i x p
      have h := pe_nameL (Φ := Φ) (W := W) C x p
      exact ⟨h, pt_valL h fun _ => rfl⟩
    · rename_i a op b p
      have h := pe_opL (Φ := Φ) (W := W) (pos := p) (o := op) (ihE a) (ihE b)
      exact ⟨h, pt_valL h fun _ => rfl⟩
    · rename_i a p
      exact ⟨pe_notL (ihE a), pt_notL (ihT a)⟩
    · rename_i a p
      have h := pe_negL (Φ := Φ) (W := W) (pos := p) (ihE a)
      exact ⟨h, pt_valL h fun _ => rfl⟩
    · rename_i es p
      exact ⟨ands_ fun e _ => ihE e, (andsT fun e _ => ihT e).pt⟩
    · rename_i es p
      exact ⟨ors_ fun e _ => ihE e, (orsT fun e _ => ihT e).pt⟩
    · rename_i t a b p
      exact ⟨pe_ifL (ihT t) (ihE a) (ihE b), pt_ifL (ihT t) (ihT a) (ihT b)⟩
    · rename_i a op b p
      split
      · exact both_stuck
      · rename_i hm
        have hm' : behindInMarks op b = false := by simpa using hm
        exact ⟨pe_cmpL C.hu (ihE a) (ihE b) hm', pt_cmpL C.hu (ihE a) (ihE b) hm'⟩
    · rename_i a op op' b d p
      split
      · exact both_stuck
      · rename_i hm
        have hm' : behindInMarks op' d = false := by
          have : (behindInMarks op b || behindInMarks op' d) = false := by simpa using hm
          exact (Bool.or_eq_false_iff.mp this).2
        exact ⟨pe_chainL C.hu (ihE a) (ihE b) (ihE d) hm', pt_chainL C.hu (ihE a) (ihE b) (ihE d) hm'⟩
    · rename_i a lo hi p2 p
      have h := pe_slL (Φ := Φ) (W := W) (a := a) (lo := lo) (hi := hi) (pos := p) (p2 := p2) (D := den G cf n c) ihE
      exact ⟨h, pt_valL h fun _ => rfl⟩
    · rename_i a k k1 p1 p2 p3 p
      split
      · rename_i e1
        subst e1
        have h := pe_revLL (Φ := Φ) (W := W) (k := k1) (p1 := p1) (p2 := p2) (p3 := p3) (pos := p) (ihE a)
        exact ⟨h, pt_valL h fun _ => rfl⟩
      · exact both_stuck
    · rename_i a b p _ _
      split
      · exact both_stuck
      · rename_i hs
        have h := pe_subL (Φ := Φ) (W := W) (pos := p) C.hu (ihE a) (ihE b) (by simpa using hs)
        exact ⟨h, pt_valL h fun _ => rfl⟩
    · rename_i es k p
      split
      · exact both_stuck
      · rename_i hs
        have h := pe_tupL (k := k) (pos := p) (paL (D := den G cf n c) (fun e _ => ihE e) (by simpa using hs : es.any isStar = false))
        exact ⟨h, pt_valL h fun _ => rfl⟩
    · rename_i es p
      split
      · exact both_stuck
      · rename_i hs
        have h := pe_lstL (pos := p) (paL (D := den G cf n c) (fun e _ => ihE e) (by simpa using hs : es.any isStar = false))
        exact ⟨h, pt_valL h fun _ => rfl⟩
    · rename_i p
      exact ⟨pe_dicL, pt_valL pe_dicL fun _ => rfl⟩
    · rename_i f p1 es p
      have he : ∀ g, PE X (.Call (.Name f p1) es [] p) (tE X Φ W g) → Both X Φ W (.Call (.Name f p1) es [] p) g := fun g h => ⟨h, pt_valL h fun _ => rfl⟩
      split
      · rename_i hc
        simp only [Bool.and_eq_true, Bool.not_eq_true'] at hc
        obtain ⟨⟨h1, h2⟩, h3⟩ := hc
        have pa := paL (D := den G cf n c) (fun e _ => ihE e) h3
        split
        · rename_i k q
          split
          · rename_i hl
            exact he _ (pe_callL C tk h2 h1 q pa h3 hl.1 hl.2 (by simp))
          · exact both_stuck
        · split
          · rename_i hf
            split
            · rename_i b q
              split
              · exact both_stuck
              · rename_i h0
                exact he _ (pe_bltL C h2 h1 hf q pa h3 (by simpa using h0))
            · exact both_stuck
          · exact both_stuck
      · exact both_stuck
    · rename_i o m ap es cp
      split
      · rename_i hc
        simp only [Bool.and_eq_true, Bool.not_eq_true', decide_eq_true_eq] at hc
        obtain ⟨⟨⟨h1, h2⟩, h3⟩, h4⟩ := hc
        split
        · rename_i k q
          have h := pe_mthL (Φ := Φ) (W := W) C.hu q (ihE o) (paL (D := den G cf n c) (fun e _ => ihE e) h3) h3 h1 h2 h4 (by simp)
          exact ⟨h, pt_valL h fun _ => rfl⟩
        · exact both_stuck
      · exact both_stuck
    · rename_i elt tg iter ifs scope p
      have h : PE X (.ListComp elt [⟨tg, iter, ifs, 0⟩] scope p) (tE X Φ W (denLc G (den G cf n) n c elt tg iter ifs scope)) := by
        rcases lc_parts C ihE (fun {X c W} tk C e => den_ok n tk C e) elt tg iter ifs scope with z | ⟨g, tt, te, h1, h2, h3, h4, h5, h6, h7⟩
        · rw [z]; exact pe_stuck
        · exact PE.imp (pe_lc C.calm (by rw [C.N]; exact C.nd) h1 h2 h3 h4 h5 h6) h7
      exact ⟨h, pt_valL h fun _ => rfl⟩
    · exact both_stuck
end
end P3


set_option maxRecDepth 100000
set_option maxHeartbeats 2000000
set_option autoImplicit false
/-! Statements. -/
namespace P3
open PySem L2
section
variable {X : Cx} {Φ : Addr → Prop} {W : WX}
variable {θ θ1 : List Addr} {H H1 : Hp} {σ : L2.St} {ls : LS} {ah ah1 : AH}
def PoS (X : Cx) (Φ : Addr → Prop) (W : WX) (θ : List Addr) (H : Hp) (r : SR) (D : Ends) : Prop :=
  match r with
  | .go fl ls' ah' => ∀ θ' σ' H', Ext θ H θ' H' → Rel X.K Φ θ' ah' H' → SL X.K Φ θ' H' σ' ls' → (match fl with
    | .nx => D.nx σ' H'
    | .rt d => ∀ v, RV X.K Φ θ' H' v d → D.rt v H'
    | .bk => D.bk σ' H'
    | .ct => D.ct σ' H')
  | .er x ls' ah' => ∀ θ' σ' H' cls dd, Ext θ H θ' H' → Rel X.K Φ θ' ah' H' → SL X.K Φ θ' H' σ' ls' → RX X.K Φ X.mg H' cls dd x → W cls dd σ' H'
def tS (X : Cx) (Φ : Addr → Prop) (W : WX) (f : SM) : TS := fun D σ H => ∃ θ ls ah r, Rel X.K Φ θ ah H ∧ SL X.K Φ θ H σ ls ∧ f ls ah = some r ∧ PoS X Φ W θ H r D
theorem PoS.trans {r : SR} {D : Ends} (h : PoS X Φ W θ H r D) (x : Ext θ H θ1 H1) (r1 : Rel X.K Φ θ1 ah1 H1) : PoS X Φ W θ1 H1 r D := by
  cases r with
  | go fl ls' ah' => exact fun θ' σ' H' e r2 s2 => h θ' σ' H' (x.trans r1 e) r2 s2
  | er y ls' ah' => exact fun θ' σ' H' c d e r2 s2 q => h θ' σ' H' c d (x.trans r1 e) r2 s2 q
theorem PS.imp {st : Stmt} {t t' : TS} (h : PS X st t) (k : ∀ D σ H, t' D σ H → t D σ H) : PS X st t' := ⟨fun pins s σ H D I q => h.run pins s σ H D I (k _ _ _ q)⟩
theorem PSs.imp {st : List Stmt} {t t' : TS} (h : PSs X st t) (k : ∀ D σ H, t' D σ H → t D σ H) : PSs X st t' := ⟨fun pins s σ H D I q => h.run pins s σ H D I (k _ _ _ q)⟩
theorem ps_stuckL {st : Stmt} : PS X st (tS X Φ W sStuck) := ⟨fun pins s σ H D I ⟨_, _, _, _, _, _, e, _⟩ => by cases e⟩
/-- an expression within a statement -/
theorem sE_step {α β : Type} {rel : RelT α β} {f : LS → AH → Option (R α)} {k : α → AH → Option SR} {r : SR} {D : Ends} (R0 : Rel X.K Φ θ ah H) (S0 : SL X.K Φ θ H σ ls) (e : sE (f ls ah) ls k = some r) (P : PoS X Φ W θ H r D) :
    tX X Φ W rel f σ H fun v H1 => ∃ θ1 ah1 d, Ext θ H θ1 H1 ∧ Rel X.K Φ θ1 ah1 H1 ∧ SL X.K Φ θ1 H1 σ ls ∧ rel θ1 H1 v d ∧ k d ah1 = some r ∧ PoS X Φ W θ1 H1 r D := by
  cases q : f ls ah with
  | none => rw [q] at e; cases e
  | some s =>
    rw [q] at e
    refine ⟨θ, ls, ah, s, R0, S0, q, ?_⟩
    cases s with
    | er x h => cases e; exact fun θ' H' cls dd x' r' rx => P θ' σ H' cls dd x' r' (S0.mono x' R0) rx
    | ok d h => exact fun θ' H' v x r' rv => ⟨θ', h, d, x, r', S0.mono x R0, rv, e, P.trans x r'⟩
theorem ps_passL {st : Stmt} (h : PS X st tNext) : PS X st (tS X Φ W sPass) := PS.imp h fun D σ H ⟨θ, ls, ah, r, R0, S0, e, P⟩ => by cases e; exact P θ σ H Ext.refl R0 S0
theorem ps_exprL {e : Expr} {f : EM} {pos : Pos} (he : PE X e (tE X Φ W f)) (hs : isComp e = false) : PS X (.Expr e pos) (tS X Φ W (sExpr f)) :=
  PS.imp (ps_expr he (by cases e <;> first | rfl | cases hs)) fun D σ H ⟨θ, ls, ah, r, R0, S0, e, P⟩ => by
    refine (sE_step R0 S0 e P).mono fun v H1 ⟨θ1, ah1, d, x1, R1, S1, rv, e1, P1⟩ => ?_
    cases e1
    exact P1 θ1 σ H1 Ext.refl R1 S1
theorem ps_retL {e : Expr} {f : EM} {pos : Pos} (he : PE X e (tE X Φ W f)) : PS X (.Return (some e) pos) (tS X Φ W (sRet f)) :=
  PS.imp (ps_ret he) fun D σ H ⟨θ, ls, ah, r, R0, S0, e, P⟩ => by
    refine (sE_step R0 S0 e P).mono fun v H1 ⟨θ1, ah1, d, x1, R1, S1, rv, e1, P1⟩ => ?_
    cases e1
    exact P1 θ1 σ H1 Ext.refl R1 S1 v rv
theorem ps_retNL {pos : Pos} : PS X (.Return none pos) (tS X Φ W sRetN) :=
  PS.imp ps_retN fun D σ H ⟨θ, ls, ah, r, R0, S0, e, P⟩ => by cases e; exact P θ σ H Ext.refl R0 S0 _ .non
theorem ps_ifSL {c : Expr} {a b : List Stmt} {k : EM} {f g : SM} {pos : Pos} (hc : PT X c (tT X Φ W k)) (ha : PSs X a (tS X Φ W f)) (hb : PSs X b (tS X Φ W g)) : PS X (.If c a b pos) (tS X Φ W (sIf k f g)) :=
  PS.imp (ps_if hc ha hb) fun D σ H ⟨θ, ls, ah, r, R0, S0, e, P⟩ => by
    refine (sE_step (rel := rB) R0 S0 e P).mono fun v H1 ⟨θ1, ah1, d, x1, R1, S1, rv, e1, P1⟩ => ?_
    cases rv
    cases v with
    | true => exact ⟨θ1, ls, ah1, r, R1, S1, e1, P1⟩
    | false => exact ⟨θ1, ls, ah1, r, R1, S1, e1, P1⟩
theorem pss_L {S : Stmt → SM} : ∀ {sts : List Stmt}, (∀ s ∈ sts, PS X s (tS X Φ W (S s))) → PSs X sts (tS X Φ W (sSeq (sts.map S)))
  | [], _ => PSs.imp pss_nil fun D σ H ⟨θ, ls, ah, r, R0, S0, e, P⟩ => by cases e; exact P θ σ H Ext.refl R0 S0
  | s :: sts, h => PSs.imp (pss_cons (h s List.mem_cons_self) (pss_L fun x hx => h x (List.mem_cons_of_mem _ hx))) fun D σ H ⟨θ, ls, ah, r, R0, S0, e, P⟩ => by
    have e1 : (match S s ls ah with | some (.go .nx ls' h') => sSeq (sts.map S) ls' h' | o => o) = some r := e
    cases q : S s ls ah with
    | none => rw [q] at e1; cases e1
    | some w =>
    rw [q] at e1
    refine ⟨θ, ls, ah, w, R0, S0, q, ?_⟩
    cases w with
    | er y ls' h' => cases e1; exact P
    | go fl ls' h' =>
      cases fl with
      | nx => exact fun θ1 σ1 H1 x1 R1 S1 => ⟨θ1, ls', h', r, R1, S1, e1, P.trans x1 R1⟩
      | rt d => cases e1; exact P
      | bk => cases e1; exact P
      | ct => cases e1; exact P
theorem ps_asgL {tg e : Expr} {f : EM} {g : GM} {sl : List Nat} {pos : Pos} (h : PS X (.Assign [tg] e pos) (tAsg (tE X Φ W f) (tG X Φ g sl))) : PS X (.Assign [tg] e pos) (tS X Φ W (sAsg f g)) :=
  PS.imp h fun D σ H ⟨θ, ls, ah, r, R0, S0, e, P⟩ => by
    refine (sE_step R0 S0 e P).mono fun v H1 ⟨θ1, ah1, d, x1, R1, S1, rv, e1, P1⟩ => ?_
    cases q : g d ls ah1 with
    | none => rw [q] at e1; cases e1
    | some w =>
    obtain ⟨ls', h2⟩ := w
    rw [q] at e1
    cases e1
    exact ⟨θ1, ls, ah1, d, ls', h2, R1, S1, rv, q, fun θ2 σ2 H2 x2 R2 S2 _ => P1 θ2 σ2 H2 x2 R2 S2⟩
theorem ps_setL (hu : X.A.units + 64 < cLine) {o i e : Expr} {f g k : EM} {p' pos : Pos} (he : PE X e (tE X Φ W f)) (ho : PE X o (tE X Φ W g)) (hi : PE X i (tE X Φ W k)) (hs : isComp e = false) (hsl : isSlice i = false) : PS X (.Assign [.Subscript o i p'] e pos) (tS X Φ W (sSet f g k)) :=
  PS.imp (ps_asg he (pg_sub ho hi (set3 (Φ := Φ) hu) (by intro v; cases i <;> first | rfl | cases hsl)) (by cases e <;> first | rfl | cases hs) (by cases e <;> rfl)) fun D σ H ⟨θ, ls, ah, r, R0, S0, e, P⟩ => by
    refine (sE_step R0 S0 e P).mono fun v H1 ⟨θ1, ah1, d, x1, R1, S1, rv, e1, P1⟩ => ?_
    refine (sE_step R1 S1 e1 P1).mono fun y H2 ⟨θ2, ah2, d2, x2, R2, S2, rv2, e2, P2⟩ => ?_
    refine (sE_step R2 S2 e2 P2).mono fun z H3 ⟨θ3, ah3, d3, x3, R3, S3, rv3, e3, P3⟩ => ?_
    cases q : setD d2 d3 d ah3 with
    | none => rw [q] at e3; cases e3
    | some h4 =>
    rw [q] at e3
    cases e3
    exact ⟨θ3, ah3, d2, d3, d, h4, R3, rv2.mono x3 R2, rv3, (rv.mono x2 R1).mono x3 R2, q, fun H4 x4 R4 => P3 θ3 σ H4 x4 R4 (S3.mono x4 R3)⟩
theorem ip3 (o : Operator) : PIp X o (r3 X Φ (ipD o)) := by
  intro pins s σ H x y v u Q I rx ry h
  obtain ⟨θ, ah, dx, dy, d, ah', R0, hx, hy, e, P⟩ := h
  unfold ipD at e
  split at e
  · cases hx; cases hy; cases e
    exact iop_add pins s σ H _ _ v u Q I rx ry ⟨_, _, rfl, rfl, P.here R0 (.int _)⟩
  · cases hx; cases hy
    split at e <;> cases e
    rename_i hl
    refine iop_add_str pins s σ H _ _ v u Q I rx ry ⟨_, _, rfl, rfl, by rw [SX.S_len, SX.S_len, ← lim_eq]; exact hl, ?_⟩
    rw [SX.S_cat]
    exact P.here R0 (.str _)
  · cases hx; cases hy; cases e
    exact iop_sub pins s σ H _ _ v u Q I rx ry ⟨_, _, rfl, rfl, P.here R0 (.int _)⟩
  · cases e
theorem ps_augL {x : Str} {i : Nat} {o : Operator} {e : Expr} {f : EM} {p' pos : Pos} (hN : X.N.Nodup) (hi : X.N[i]? = some x) (hx : L2.Loc X.env.scope x) (hf : X.fn x = true ∨ X.env.scope.names.lookup x = some .local) (he : PE X e (tE X Φ W f)) :
    PS X (.AugAssign (.Name x p') o e pos) (tS X Φ W (sAug i (ipD o) f)) :=
  PS.imp (ps_aug hN hi hx he (ip3 (Φ := Φ) o) hf) fun D σ H ⟨θ, ls, ah, r, R0, S0, e, P⟩ => by
    unfold sAug at e
    split at e
    · rename_i d0 q
      obtain ⟨v, h1, h2⟩ := S0.at_ _ _ q
      refine ⟨v, h1, (sE_step R0 S0 e P).mono fun y H1 ⟨θ1, ah1, d, x1, R1, S1, rv, e1, P1⟩ => ?_⟩
      cases q2 : ipD o d0 d ah1 with
      | none => rw [q2] at e1; cases e1
      | some w =>
      obtain ⟨z, h3⟩ := w
      rw [q2] at e1
      cases e1
      refine ⟨θ1, ah1, d0, d, z, h3, R1, h2.mono x1 R0, rv, q2, fun θ2 H2 v2 x2 R2 rv2 => P1 θ2 _ H2 x2 R2 ((S1.mono x2 R1).set rv2 ?_)⟩
      exact (List.getElem?_eq_some_iff.mp q).1
    · cases e
theorem ps_whL {c : Expr} {b : List Stmt} {k : EM} {f : SM} {pos : Pos} (hp : PassesOwn (model X.prog X.w) X.A X.env X.xe) (hc : PT X c (tT X Φ W k)) (hb : PSs X b (tS X Φ W f)) : PS X (.While c b [] pos) (tS X Φ W (sWh k f)) :=
  PS.imp (ps_while hp hc hb) fun D σ H ⟨θ, ls, ah, r, R0, S0, e, P⟩ => by
    refine ⟨fun m σ' H' => ∃ θ' ls' ah', Rel X.K Φ θ' ah' H' ∧ SL X.K Φ θ' H' σ' ls' ∧ whN k f m ls' ah' = some r ∧ PoS X Φ W θ' H' r D, ⟨WF, θ, ls, ah, R0, S0, e, P⟩, ?_⟩
    rintro m σ1 H1 ⟨θ1, ls1, ah1, R1, S1, e1, P1⟩
    cases m with
    | zero => cases e1
    | succ m =>
    refine (sE_step (rel := rB) R1 S1 e1 P1).mono fun t H2 ⟨θ2, ah2, d, x2, R2, S2, rv, e2, P2⟩ => ?_
    cases rv
    cases t with
    | false => cases e2; exact P2 θ2 σ1 H2 Ext.refl R2 S2
    | true =>
      rw [if_pos rfl]
      rw [if_pos rfl] at e2
      refine ⟨_, fun σ' H' h => ⟨m, Nat.lt_succ_self m, h⟩, ?_⟩
      cases q : f ls1 ah2 with
      | none => rw [q] at e2; cases e2
      | some w =>
      rw [q] at e2
      refine ⟨θ2, ls1, ah2, w, R2, S2, q, ?_⟩
      cases w with
      | er y ls' h' => cases e2; exact P2
      | go fl ls' h' =>
        cases fl with
        | nx => exact fun θ3 σ3 H3 x3 R3 S3 => ⟨θ3, ls', h', R3, S3, e2, P2.trans x3 R3⟩
        | ct => exact fun θ3 σ3 H3 x3 R3 S3 => ⟨θ3, ls', h', R3, S3, e2, P2.trans x3 R3⟩
        | bk => cases e2; exact P2
        | rt d => cases e2; exact P2
theorem ps_forL {tg it : Expr} {b : List Stmt} {im : IM} {g : GM} {sl : List Nat} {f : SM} {pos : Pos} (hp : PassesOwn (model X.prog X.w) X.A X.env X.xe) (hc : X.calm = true) (hi : PI X tg it (tI X Φ W im)) (hg : PG X tg (tG X Φ g sl)) (hb : PSs X b (tS X Φ W f))
    (hs : ∀ x, foldedSetIterable it X.env x = pure x) : PS X (.For tg it b [] pos) (tS X Φ W (sFor im g f)) :=
  PS.imp (ps_for hp hc hi hg hb hs) fun D σ H ⟨θ, ls, ah, r, R0, S0, e, P⟩ => by
    refine (sE_step (rel := rI X Φ) R0 S0 e P).mono fun J H1 ⟨θ1, ah1, j, x1, R1, S1, hJ, e1, P1⟩ => ?_
    refine ⟨fun i m σ' H' => ∃ θ' ls' ah', Ext θ1 H1 θ' H' ∧ Rel X.K Φ θ' ah' H' ∧ SL X.K Φ θ' H' σ' ls' ∧ loopN j.nx g f m i ls' ah' = some r ∧ PoS X Φ W θ' H' r D, ⟨j.fuel, θ1, ls, ah1, Ext.refl, R1, S1, e1, P1⟩, ?_⟩
    rintro i m σ2 H2 ⟨θ2, ls2, ah2, x2, R2, S2, e2, P2⟩
    obtain ⟨hgo, hst⟩ := hJ i θ2 ah2 H2 x2 R2
    cases m with
    | zero =>
      unfold loopN at e2
      split at e2
      · rename_i q
        cases e2
        exact .inl ⟨hst q, P2 θ2 σ2 H2 Ext.refl R2 S2⟩
      · cases e2
    | succ m =>
      unfold loopN at e2
      split at e2
      · cases e2
      · rename_i q
        cases e2
        exact .inl ⟨hst q, P2 θ2 σ2 H2 Ext.refl R2 S2⟩
      · rename_i d q
        obtain ⟨go, hy⟩ := hgo d q
        refine .inr ⟨go, _, fun σ' H' hn => ⟨m, Nat.lt_succ_self m, hn⟩, fun x H3 y3 => ?_⟩
        obtain ⟨x3, R3, rv3⟩ := hy x H3 y3
        cases qg : g d ls2 ah2 with
        | none => rw [qg] at e2; cases e2
        | some w =>
        obtain ⟨ls4, h4⟩ := w
        rw [qg] at e2
        refine ⟨θ2, ls2, ah2, d, ls4, h4, R3, S2.mono x3 R2, rv3, qg, fun θ4 σ4 H4 x4 R4 S4 _ => ?_⟩
        have x14 : Ext θ1 H1 θ4 H4 := (x2.trans R2 x3).trans R3 x4
        have P4 : PoS X Φ W θ4 H4 r D := (P2.trans x3 R3).trans x4 R4
        have e3 : (match f ls4 h4 with
          | some (.go .nx ls' h') => loopN j.nx g f m (i + 1) ls' h'
          | some (.go .ct ls' h') => loopN j.nx g f m (i + 1) ls' h'
          | some (.go .bk ls' h') => some (.go .nx ls' h')
          | o => o) = some r := e2
        cases qf : f ls4 h4 with
        | none => rw [qf] at e3; cases e3
        | some w =>
        rw [qf] at e3
        refine ⟨θ4, ls4, h4, w, R4, S4, qf, ?_⟩
        cases w with
        | er y ls' h' => cases e3; exact P4
        | go fl ls' h' =>
          cases fl with
          | nx => exact fun θ5 σ5 H5 x5 R5 S5 => ⟨θ5, ls', h', x14.trans R4 x5, R5, S5, e3, P4.trans x5 R5⟩
          | ct => exact fun θ5 σ5 H5 x5 R5 S5 => ⟨θ5, ls', h', x14.trans R4 x5, R5, S5, e3, P4.trans x5 R5⟩
          | bk => cases e3; exact P4
          | rt d => cases e3; exact P4
theorem ps_raiseL {x m : Str} {C : Addr} {p p2 pos pos' : Pos} {j : Nat} (hc : X.calm = true) (tk : Takes X W) (E : ExcOk X.K X.mg x C) (hg : Gl X x) (hd : (x == ("__debug__" : Str)) = false) :
    PS X (.Raise (some (.Call (.Name x p) [.Constant (.str m) j p2] [] pos)) none pos') (tS X Φ W (sRaise ⟨x, []⟩)) :=
  PS.imp (ps_raise hc tk (pmk_own PySem.F.excBase_ValueError E.exc E.mgx E.kp (raises_own E.sub E.ty) hg hd)) fun D σ H ⟨θ, ls, ah, r, R0, S0, e, P⟩ => by
    cases e
    exact P θ σ H (.ref C) none Ext.refl R0 S0 ⟨⟨C, E.mgx, rfl⟩, .inl ⟨rfl, rfl⟩⟩
end
end P3


set_option maxRecDepth 100000
set_option maxHeartbeats 2000000
set_option autoImplicit false
/-! try; the interpreter's statements are right. -/
namespace P3
open PySem L2
section
variable {Φ : Addr → Prop} {G : GE} {cf : Str → List DV → AH → Option (R DV)}
def sv : DV → V
  | .bl b => .bl b
  | _ => .non
def isSv : DV → Bool
  | .bl _ => true
  | .non => true
  | _ => false
theorem sv_RV {K : PySem.W.Frag} {θ : List Addr} {H : Hp} {d : DV} (h : isSv d = true) : RV K Φ θ H (sv d) d := by
  cases d <;> first | (cases h; done) | exact .bl _ | exact .non
/-- a suite's value: the error stands at a in slot i -/
def tSu (i : Option Nat) (a : Addr) (d : DV) : TE := fun σ H Q => (∀ j, i = some j → σ[j]? = some (some (.ref a))) ∧ Q (sv d) H
theorem suE_ok {X : Cx} {c : SC} (C : Cxt G cf c X) {a : Addr} {oe : Obj} {cls : Value} {pn : List (Addr × Obj)} {y : Option Str} {i : Option Nat} (hf : ∃ vs, oe.data = .fields vs) (hz : Zc cls none oe)
    (hi : ∀ v, y = some v → ∃ j, i = some j ∧ c.N[j]? = some v ∧ c.sc.names.lookup v = some .local) :
    ∀ (n : Nat) (e : Expr) (x : Exc) (d : DV), suE G c y n e x = some d → (∃ D, X.mg x.cls = some (.ref D) ∧ cls = .ref D) → PE (X.suite a ((a, oe) :: pn)) e (tSu i a d) ∧ isSv d = true
  | 0, _, _, _, h, _ => by cases h
  | n + 1, e, x, d, h, hx => by
    unfold suE at h
    split at h
    · cases h; exact ⟨PE.imp pe_bl fun σ H Q q => q.2, rfl⟩
    · cases h; exact ⟨PE.imp pe_non fun σ H Q q => q.2, rfl⟩
    · rename_i f p1 v p2 k p3 p4
      split at h
      · rename_i hc
        simp only [Bool.and_eq_true, decide_eq_true_eq] at hc
        obtain ⟨⟨⟨⟨⟨⟨e1, e2⟩, h3⟩, h4⟩, h5⟩, h6⟩, h7⟩ := hc
        subst e1
        split at h
        · rename_i bs q1
          split at h
          · rename_i cs q2
            cases h
            refine ⟨?_, rfl⟩
            obtain ⟨D, m1, e3⟩ := hx
            subst e3
            obtain ⟨D', E1⟩ := C.glob.exc _ _ q1
            rw [E1.mgx] at m1
            cases m1
            obtain ⟨D2, E2⟩ := C.glob.exc _ _ q2
            obtain ⟨_, kit⟩ := C.glob.exm _ _ _ _ _ _ q1 q2 E1.mgx E2.mgx
            obtain ⟨n1, n2, n3⟩ := okName_ h7
            obtain ⟨k1, k2, k3⟩ := okName_ h5
            obtain ⟨j, ej, i1, i2⟩ := hi v e2.symm
            have hN : X.N[j]? = some v := by rw [C.N]; exact i1
            have pv : PE (X.suite a ((a, oe) :: pn)) (.Name v p2) (tVar j) := pe_var (X := X.suite a ((a, oe) :: pn)) hN (.inl (by show X.env.scope.names.lookup v = _; rw [C.sc]; exact i2)) k1 k2
            have gk : Gl (X.suite a ((a, oe) :: pn)) k := (glo_ C h6 : Gl X k)
            have gi : Gl (X.suite a ((a, oe) :: pn)) "isinstance" := (glo_ C h3 : Gl X _)
            have pk : PE (X.suite a ((a, oe) :: pn)) (.Name k p3) (tC (.ref D2)) := pe_glob (X := X.suite a ((a, oe) :: pn)) gk E2.mgx rfl n1
            refine PE.imp (pe_callB (X := X.suite a ((a, oe) :: pn)) (call_isE E1.isE hz hf) gi (C.glob.free _ h4) (by decide +kernel) (pa_cons pv (pa_cons pk pa_nil)) (by decide) (by decide) rfl rfl) fun σ H Q ⟨q, q'⟩ => ?_
            exact ⟨_, q j ej, .ref D2, .ref D2, _, rfl, fun u r => r, kit, q'⟩
          · cases h
        · cases h
      · cases h
    · rename_i b1 b2 p
      split at h
      · rename_i q1
        obtain ⟨h1, _⟩ := suE_ok C hf hz hi n b1 x _ q1 hx
        obtain ⟨h2, s2⟩ := suE_ok C hf hz hi n b2 x _ h hx
        exact ⟨PE.imp (pe_andT h1 (pe_one h2)) fun σ H Q ⟨q, q'⟩ => ⟨q, true, rfl, by rw [if_pos rfl]; exact ⟨q, q'⟩⟩, s2⟩
      · rename_i q1
        cases h
        obtain ⟨h1, _⟩ := suE_ok C hf hz hi n b1 x _ q1 hx
        exact ⟨PE.imp (pe_andT h1 (pe_one (t := fun _ _ _ => False) ⟨fun _ _ _ _ _ _ z => z.elim⟩)) fun σ H Q ⟨q, q'⟩ => ⟨q, false, rfl, by rw [if_neg Bool.false_ne_true]; exact q'⟩, rfl⟩
      · cases h
    · rename_i b1 p
      split at h
      · rename_i b q1
        cases h
        obtain ⟨h1, _⟩ := suE_ok C hf hz hi n b1 x _ q1 hx
        exact ⟨PE.imp (pe_notT h1) fun σ H Q ⟨q, q'⟩ => ⟨q, b, rfl, q'⟩, rfl⟩
      · cases h
    · cases h
/-! ### statements -/
structure SCx (X : Cx) : Prop where
  hs : X.stack = X.env :: X.outer
  hf : X.env.frame = some X.env.locals
  po : PassesOwn (model X.prog X.w) X.A X.env X.xe
theorem Cxt.tr {X : Cx} {c : SC} (C : Cxt G cf c X) (pn : List (Addr × Obj)) (xe : Value → Shared → Prop) : Cxt G cf c (X.tr pn xe) := ⟨C.N, C.nd, C.sc, C.fn, C.calm, C.hu, ⟨C.glob.con, C.glob.free, C.glob.fns, C.glob.exc, C.glob.exm⟩⟩
/-- what a suite gives: the error is x, at class cls, of dict d -/
def tSuite (X : Cx) (i : Option Nat) (sf : Exc → Option DV) : Addr → Value → Option Addr → TS := fun a cls d D σ H =>
  ∃ x dv, sf x = some dv ∧ (∃ C, X.mg x.cls = some (.ref C) ∧ cls = .ref C) ∧ d = none ∧ (∀ j, i = some j → j < σ.length → σ[j]? = some (some (.ref a))) ∧ D.rt (sv dv) H
theorem suite_ok {X : Cx} {c : SC} (C : Cxt G cf c X) {y : Option Str} {i : Option Nat} (hi0 : y = none → i = none) (hi : ∀ v, y = some v → ∃ j, i = some j ∧ c.N[j]? = some v ∧ c.sc.names.lookup v = some .local) {n : Nat} {e : Expr} {p : Pos}
    (a : Addr) (oe : Obj) (cls : Value) (d : Option Addr) (pn : List (Addr × Obj)) (hz : Zc cls d oe) (hf : ∃ vs, oe.data = .fields vs) : PSs (X.suite a ((a, oe) :: pn)) [.Return (some e) p] (tSuite X i (suE G c y n e) a cls d) := by
  refine ⟨fun pins s σ H D I ⟨x, dv, h1, h2, h3, h4, h5⟩ => ?_⟩
  subst h3
  have pe := (suE_ok C (a := a) (pn := pn) hf hz hi n e x dv h1 h2).1
  refine (pss_one (ps_ret pe)).run pins s σ H D I ⟨fun j hj => ?_, h5⟩
  cases y with
  | none => cases hj ▸ hi0 rfl
  | some v =>
    obtain ⟨k, ek, i1, _⟩ := hi v rfl
    rw [hj] at ek
    cases ek
    refine h4 j hj ?_
    have l := I.len
    have l2 : j < c.N.length := by
      rw [List.getElem?_eq_some_iff] at i1; exact i1.1
    rw [l]
    show j < X.N.length
    rw [C.N]; exact l2
theorem suE_sv {c : SC} {y : Option Str} : ∀ {n : Nat} {e : Expr} {x : Exc} {d : DV}, suE G c y n e x = some d → isSv d = true
  | 0, _, _, _, h => by cases h
  | n + 1, e, x, d, h => by
    unfold suE at h
    split at h
    · cases h; rfl
    · cases h; rfl
    · split at h
      · split at h
        · split at h <;> cases h
          rfl
        · cases h
      · cases h
    · split at h
      · exact suE_sv h
      · cases h; rfl
      · cases h
    · split at h <;> cases h
      rfl
    · cases h
theorem try_read {X : Cx} {c : SC} {W : WX} (C : Cxt G cf c X) {x : Str} {Ca : Addr} {b : SM} {sf : Exc → Option DV} {gone : LS → LS} (hsv : ∀ y d, sf y = some d → isSv d = true) (hx : (G.exc.lookup x).isSome = true) (hC : X.mg x = some (.ref Ca))
    {D : Ends} {σ : L2.St} {H : Hp} {wc : WX}
    (hg : ∀ θ H σ' ls', SL X.K Φ θ H σ' ls' → ∃ σ'', SL X.K Φ θ H σ'' (gone ls'))
    (hw : ∀ cls d σ' H', (∃ t, PySem.W.exmOne X.K cls (.ref Ca) = some t ∧ (t = true → ∀ a, H' a = none → ∃ y dv, sf y = some dv ∧ (∃ C, X.mg y.cls = some (.ref C) ∧ cls = .ref C) ∧ d = none ∧ D.rt (sv dv) H') ∧ (t = false → W cls d σ' H')) → wc cls d σ' H')
    (h : tS X Φ W (sTry b (excIs G x) sf gone) D σ H) : tS X Φ wc b D σ H := by
  obtain ⟨θ, ls, ah, r, R0, S0, e, P⟩ := h
  have e1 : (match b ls ah with
    | some (.er y ls' h') => match excIs G x y.cls with
      | some true => if y.fs.isEmpty = true then (match sf y with
        | some d => some (SR.go (.rt d) (gone ls') h')
        | none => none) else none
      | some false => some (.er y ls' h')
      | none => none
    | o => o) = some r := e
  cases q : b ls ah with
  | none => rw [q] at e1; cases e1
  | some w =>
  rw [q] at e1
  refine ⟨θ, ls, ah, w, R0, S0, q, ?_⟩
  cases w with
  | go fl ls' h' => cases e1; exact P
  | er y ls' h' =>
    have e1 : (match excIs G x y.cls with
      | some true => if y.fs.isEmpty = true then (match sf y with
        | some d => some (SR.go (.rt d) (gone ls') h')
        | none => none) else none
      | some false => some (.er y ls' h')
      | none => none) = some r := e1
    intro θ' σ' H' cls dd x' R' S' rx
    obtain ⟨⟨Cy, m1, m2⟩, rf⟩ := rx
    subst m2
    cases q2 : G.exc.lookup y.cls with
    | none => simp [excIs, q2] at e1
    | some bs =>
    cases q3 : G.exc.lookup x with
    | none => rw [q3] at hx; cases hx
    | some cs =>
    obtain ⟨ex, _⟩ := C.glob.exm _ _ _ _ _ _ q2 q3 m1 hC
    have e2 : excIs G x y.cls = some (bs.contains x) := by simp [excIs, q2]
    rw [e2] at e1
    refine hw _ _ _ _ ⟨_, ex, fun ht a ha => ?_, fun ht => ?_⟩
    · rw [ht] at e1
      simp only at e1
      by_cases hfs : y.fs.isEmpty = true
      · rw [if_pos hfs] at e1
        cases q4 : sf y with
        | none => rw [q4] at e1; cases e1
        | some dv =>
        rw [q4] at e1
        cases e1
        obtain ⟨σ'', S''⟩ := hg _ _ _ _ S'
        refine ⟨y, dv, q4, ⟨Cy, m1, rfl⟩, ?_, P θ' σ'' H' x' R' S'' _ (sv_RV (hsv _ _ q4))⟩
        rcases rf with ⟨_, z⟩ | ⟨z, _⟩
        · exact z
        · exact absurd (List.isEmpty_iff.mp hfs) z
      · rw [if_neg hfs] at e1; cases e1
    · rw [ht] at e1
      cases e1
      exact P θ' σ' H' (.ref Cy) dd x' R' S' ⟨⟨Cy, m1, rfl⟩, rf⟩
theorem comp_no {e tg : Expr} {l : Nat} {env : Env} (h : isComp e = false) : swapsWithSole [tg] e l env = pure false := by
  cases e <;> first | rfl | cases h
theorem denS_ok : ∀ (n : Nat) {X : Cx} {c : SC} {W : WX}, Takes X W → Cxt G cf c X → SCx X → ∀ st : Stmt, PS X st (tS X Φ W (denS G cf n c st))
  | 0, _, _, _, _, _, _, _ => ps_stuckL
  | n + 1, X, c, W, tk, C, S, st => by
    have ihS := fun st => denS_ok n tk C S st
    have ihE := fun e => (den_ok (Φ := Φ) n tk C e).1
    have ihT := fun e => (den_ok (Φ := Φ) n tk C e).2
    have hN : X.N.Nodup := by rw [C.N]; exact C.nd
    unfold denS
    split
    · exact ps_passL ps_pass
    · exact PS.imp ps_break fun D σ H ⟨θ, ls, ah, r, R0, S0, e, P⟩ => by cases e; exact P θ σ H Ext.refl R0 S0
    · exact PS.imp ps_continue fun D σ H ⟨θ, ls, ah, r, R0, S0, e, P⟩ => by cases e; exact P θ σ H Ext.refl R0 S0
    · exact ps_passL ps_doc
    · rename_i e p _
      split
      · exact ps_stuckL
      · rename_i h; exact ps_exprL (ihE e) (by simpa using h)
    · exact ps_retL (ihE _)
    · exact ps_retNL
    · exact ps_ifSL (ihT _) (pss_L fun s _ => ihS s) (pss_L fun s _ => ihS s)
    · rename_i o i p' e p
      split
      · exact ps_stuckL
      · rename_i h
        have h' : (isComp e || isSlice i) = false := by simpa using h
        obtain ⟨h1, h2⟩ := Bool.or_eq_false_iff.mp h'
        exact ps_setL C.hu (ihE e) (ihE o) (ihE i) h1 h2
    · rename_i tg e p _
      split
      · rename_i y py elt gs scope pos _
        split
        · rename_i h
          simp only [Bool.and_eq_true, Bool.not_eq_true', decide_eq_true_eq] at h
          obtain ⟨⟨⟨⟨⟨h1, h2⟩, h6⟩, h3⟩, h4⟩, h5⟩ := h
          cases n with
          | zero => exact ⟨fun pins s σ H D I ⟨_, _, _, _, _, _, e, _⟩ => by cases e⟩
          | succ m =>
          have key : ∀ gs, PS X (.Assign [.Name y py] (.ListComp elt gs scope pos) p) (tAsg (tE X Φ W (den G cf (m + 1) c (.ListComp elt gs scope pos))) (tG X Φ (gOf c (m + 1) (.Name y py)) (gSl c (m + 1) (.Name y py)))) := by
            intro gs
            by_cases hgs : ∃ tg it ifs, gs = [⟨tg, it, ifs, 0⟩]
            · obtain ⟨tg, it, ifs, rfl⟩ := hgs
              have ihm := fun e => (den_ok (Φ := Φ) m tk C e).1
              show PS X _ (tAsg (tE X Φ W (denLc G (den G cf m) m c elt tg it ifs scope)) _)
              rcases lc_parts C ihm (fun {X c W} tk C e => den_ok m tk C e) elt tg it ifs scope with z | ⟨g, tt, te, g1, g2, g3, g4, g5, g6, g7⟩
              · rw [z]
                exact ⟨fun pins s σ H D I ⟨_, _, _, _, _, _, e, _⟩ => by cases e⟩
              · cases qi : c.N.idxOf? y with
                | none => rw [qi] at h6; cases h6
                | some i =>
                  have e1 : gOf c (m + 1) (.Name y py) = gNm i := by unfold gOf; simp only [h2, if_true, qi]
                  have hk : X.env.scope.kind = .function := by
                    rw [C.sc]
                    unfold SC.calm at h1
                    split at h1
                    · assumption
                    · cases h1
                  have sw := sw_true (elt := elt) (gs := [⟨tg, it, ifs, 0⟩]) (scope := scope) (pos := pos) (py := py) (y := y) (l := p.line) (env := X.env) hk (by rw [C.sc]; exact h3) h4 h5
                  refine PS.imp (ps_setLc C.calm hN (idx_ C qi) (by rw [C.sc]; exact h3) sw g1 g2 g3 g4 g5 g6) fun D σ H h => ?_
                  have e2 : gSl c (m + 1) (.Name y py) = [i] := by unfold gSl; simp only [h2, if_true, qi]
                  rw [e1, e2] at h
                  refine g7 _ _ _ (h.mono fun v H1 z => ?_)
                  obtain ⟨θ, ls, ah, d, ls', ah', R0, S0, rv, e0, P⟩ := z
                  unfold gNm at e0
                  split at e0 <;> cases e0
                  rename_i hi
                  exact P θ _ _ Ext.refl R0 (S0.set rv hi) fun vs hv => wipe_set (hv i (by simp))
            · have e3 : den G cf (m + 1) c (.ListComp elt gs scope pos) = cStuck := by
                unfold den
                split <;> first
                  | rfl
                  | (rename_i h; cases h; exact absurd ⟨_, _, _, rfl⟩ hgs)
                  | (rename_i h; cases h)
              rw [e3]
              exact ⟨fun pins s σ H D I ⟨_, _, _, _, _, _, e, _⟩ => by cases e⟩
          exact ps_asgL (key gs)
        · exact ps_stuckL
      · rename_i x px _ _
        split
        · exact ps_stuckL
        · rename_i h
          exact ps_asgL (ps_asg (ihE e) (pg3 C n (.Name x px)) (comp_no (by simpa using h)) (by cases e <;> rfl))
      · exact ps_stuckL
      · rename_i ts k pt _ _
        split
        · exact ps_stuckL
        · rename_i h
          rename_i hnt
          exact ps_asgL (ps_asg (ihE e) (pg3 C n (.Tuple ts k pt)) (comp_no (by simpa using h)) (by cases e <;> first | rfl | exact (hnt _ _ _ rfl).elim))
      · exact ps_stuckL
    · rename_i x p' op e p
      split
      · rename_i hs
        cases q : c.N.idxOf? x with
        | none => exact ps_stuckL
        | some i => exact ps_augL hN (idx_ C q) (sto_ C hs) (C.fn x hs) (ihE e)
      · exact ps_stuckL
    · exact ps_whL S.po (ihT _) (pss_L fun s _ => ihS s)
    · rename_i tg it b p
      by_cases hset : isSet it = true
      · rw [isSet_stuck hset]
        exact ⟨fun pins s σ H D I ⟨_, _, _, _, _, _, e, _⟩ => by cases e⟩
      · exact ps_forL S.po C.calm (iOf_ok C ihE tg it) (pg3 C n tg) (pss_L fun s _ => ihS s) (setI fun h => hset h)
    · rename_i x p m j p2 pos pos'
      split
      · rename_i h
        simp only [Bool.and_eq_true] at h
        obtain ⟨⟨h1, h2⟩, h3⟩ := h
        cases q : G.exc.lookup x with
        | none => rw [q] at h3; cases h3
        | some bs =>
          obtain ⟨Ca, E⟩ := C.glob.exc x bs q
          exact ps_raiseL C.calm tk E (glo_ C h1) (okName_ h2).1
      · exact ps_stuckL
    · rename_i b x px y e pe ph p
      split
      · rename_i h
        simp only [Bool.and_eq_true, decide_eq_true_eq] at h
        obtain ⟨⟨⟨h1, h2⟩, h3⟩, h4⟩ := h
        cases q : G.exc.lookup x with
        | none => rw [q] at h3; cases h3
        | some bs =>
        obtain ⟨Ca, E⟩ := C.glob.exc x bs q
        cases qi : c.N.idxOf? y with
        | none => exact ps_stuckL
        | some i =>
        have hi := idx_ C qi
        have hi' : c.N[i]? = some y := by rw [← C.N]; exact hi
        have hln : X.env.kindOf y = some .local := by unfold Env.kindOf; rw [C.sc]; exact h4
        have nm : Names X x (.ref Ca) := ⟨glo_ C h1, (okName_ h2).1, .inl E.mgx⟩
        refine PS.imp (ps_try_as (tb := fun W => tS X Φ W (sSeq (b.map (denS G cf n c)))) (ts := tSuite X (some i) (suE G c (some y) n e)) S.hs S.hf hN hi hln nm tk (fun W' pn xe tk' po => ?_) (fun a oe cls d pn hz hf => suite_ok C (fun z => by cases z) (fun v hv => ?_) a oe cls d pn hz hf)) fun D σ H h => ?_
        · exact pss_L fun s _ => denS_ok n tk' (C.tr pn xe) ⟨S.hs, S.hf, po⟩ s
        · cases hv; exact ⟨i, rfl, hi', h4⟩
        · refine try_read C (fun y d h => suE_sv h) (by rw [q]; rfl) E.mgx (fun θ H σ' ls' S' => ⟨σ'.set i none, S'.unset⟩) (fun cls d σ' H' ⟨t, t1, t2, t3⟩ => ⟨t, t1, fun ht a ha => ?_, t3⟩) h
          obtain ⟨y', dv, r1, r2, r3, r4⟩ := t2 ht a ha
          refine ⟨y', dv, r1, r2, r3, fun j hj hl => ?_, r4⟩
          cases hj
          rw [List.getElem?_set_self (by simpa using hl)]
      · exact ps_stuckL
    · rename_i b x px e pe ph p
      split
      · rename_i h
        simp only [Bool.and_eq_true, decide_eq_true_eq] at h
        obtain ⟨⟨h1, h2⟩, h3⟩ := h
        cases q : G.exc.lookup x with
        | none => rw [q] at h3; cases h3
        | some bs =>
        obtain ⟨Ca, E⟩ := C.glob.exc x bs q
        have nm : Names X x (.ref Ca) := ⟨glo_ C h1, (okName_ h2).1, .inl E.mgx⟩
        refine PS.imp (ps_try_only (tb := fun W => tS X Φ W (sSeq (b.map (denS G cf n c)))) (ts := tSuite X none (suE G c none n e)) S.hs S.hf nm tk (fun W' pn xe tk' po => ?_) (fun a oe cls d pn hz hf => suite_ok C (fun z => rfl) (fun v hv => ?_) a oe cls d pn hz hf)) fun D σ H h => ?_
        · exact pss_L fun s _ => denS_ok n tk' (C.tr pn xe) ⟨S.hs, S.hf, po⟩ s
        · cases hv
        · refine try_read C (fun y d h => suE_sv h) (by rw [q]; rfl) E.mgx (fun θ H σ' ls' S' => ⟨σ', S'⟩) (fun cls d σ' H' ⟨t, t1, t2, t3⟩ => ⟨t, t1, fun ht a ha => ?_, t3⟩) h
          obtain ⟨y', dv, r1, r2, r3, r4⟩ := t2 ht a ha
          exact ⟨y', dv, r1, r2, r3, fun j hj => by (cases hj), r4⟩
      · exact ps_stuckL
    · exact ps_stuckL
end
end P3


set_option maxRecDepth 100000
set_option maxHeartbeats 2000000
set_option autoImplicit false
/-! Functions; what a call shares with its caller. -/
namespace P3
open PySem L2
section
variable {K : PySem.W.Frag} {Φ Φ2 : Addr → Prop} {θ θ2 : List Addr} {H : Hp} {st : Bool} {dr : Nat → Option (List DV)}
mutual
theorem snap_RV (hA : ∀ a b vs, SqS K Φ θ b H a vs → (!b && st) = false → SqS K Φ2 θ2 b H a vs) (hdr : ∀ r ys a, dr r = some ys → θ[r]? = some a → ∃ vs, SqS K Φ2 θ2 st H a vs ∧ RVs K Φ2 θ2 H vs ys) :
    ∀ {v : V} {d e : DV}, RV K Φ θ H v d → snapW st dr d = some e → RV K Φ2 θ2 H v e
  | _, _, _, .non, h => by cases h; exact .non
  | _, _, _, .bl b, h => by cases h; exact .bl b
  | _, _, _, .int i, h => by cases h; exact .int i
  | _, _, _, .str y, h => by cases h; exact .str y
  | _, _, _, .ty n, h => by cases h; exact .ty n
  | _, .tup ds, _, .tup (vs := vs) q t, h => by
    have h' : (snapWs st dr ds).map DV.tup = some _ := h
    cases z : snapWs st dr ds with
    | none => rw [z] at h'; cases h'
    | some es => rw [z] at h'; cases h'; exact .tup q (snap_RVs hA hdr t z)
  | _, .lst b ds, _, .lst q t, h => by
    have h' : (if (!b && st) = true then none else (snapWs st dr ds).map (DV.lst b)) = some _ := h
    split at h'
    · cases h'
    · rename_i hb
      cases z : snapWs st dr ds with
      | none => rw [z] at h'; cases h'
      | some es => rw [z] at h'; cases h'; exact .lst (hA _ _ _ q (by simpa using hb)) (snap_RVs hA hdr t z)
  | _, .ref r, _, .ref q, h => by
    have h' : (dr r).map (DV.lst st) = some _ := h
    cases z : dr r with
    | none => rw [z] at h'; cases h'
    | some ys =>
      rw [z] at h'; cases h'
      obtain ⟨vs, h1, h2⟩ := hdr r ys _ z q
      exact .lst h1 h2
theorem snap_RVs (hA : ∀ a b vs, SqS K Φ θ b H a vs → (!b && st) = false → SqS K Φ2 θ2 b H a vs) (hdr : ∀ r ys a, dr r = some ys → θ[r]? = some a → ∃ vs, SqS K Φ2 θ2 st H a vs ∧ RVs K Φ2 θ2 H vs ys) :
    ∀ {vs : List V} {ds es : List DV}, RVs K Φ θ H vs ds → snapWs st dr ds = some es → RVs K Φ2 θ2 H vs es
  | _, _, _, .nil, h => by cases h; exact .nil
  | _, d :: ds, _, .cons r t, h => by
    have h' : (match snapW st dr d, snapWs st dr ds with
      | some y, some ys => some (y :: ys)
      | _, _ => none) = some _ := h
    cases z1 : snapW st dr d with
    | none => rw [z1] at h'; cases h'
    | some y =>
    cases z2 : snapWs st dr ds with
    | none => rw [z1, z2] at h'; cases h'
    | some ys =>
    rw [z1, z2] at h'
    cases h'
    exact .cons (snap_RV hA hdr r z1) (snap_RVs hA hdr t z2)
end
theorem sqs_of (hN : ∀ a, a ∉ θ → a ∉ θ2) (hF : st = false ∨ True) (hΦ : ∀ a, a ∉ θ → ¬ Φ a → ¬ Φ2 a) : ∀ a b vs, SqS K Φ θ b H a vs → SqS K Φ2 θ2 b H a vs := fun a b vs h => by
  rcases h with ⟨h1, h2, h3⟩ | h
  · exact .inl ⟨h1, hN a h2, fun hb => hΦ a h2 (h3 hb)⟩
  · exact .inr h
theorem drn_RV {ah : AH} {ex : List Nat} (R : Rel K Φ θ ah H) (hA : ∀ a b vs, SqS K Φ θ b H a vs → (!b && st) = false → SqS K Φ2 θ2 b H a vs) (hB : ∀ r a, θ[r]? = some a → ex.contains r = false → a ∉ θ2 ∧ (st = true → ¬ Φ2 a)) :
    ∀ (n r : Nat) (ys : List DV) (a : Addr), drN st ex ah n r = some ys → θ[r]? = some a → ∃ vs, SqS K Φ2 θ2 st H a vs ∧ RVs K Φ2 θ2 H vs ys
  | 0, _, _, _, h, _ => by cases h
  | n + 1, r, ys, a, h, q => by
    have h' : (if ex.contains r = true then none else match ah[r]? with
      | some (.lst xs) => snapWs st (drN st ex ah n) xs
      | _ => none) = some ys := h
    split at h'
    · cases h'
    · rename_i hx
      split at h'
      · rename_i xs e
        obtain ⟨vs, e2, t⟩ := R.obj r a _ q e
        obtain ⟨b1, b2⟩ := hB r a q (by simpa using hx)
        exact ⟨vs, .inl ⟨.inl e2, b1, b2⟩, snap_RVs hA (drn_RV R hA hB n) t h'⟩
      · cases h'
/-- what is borrowed -/
theorem brw_RV {ah : AH} {ex : List Nat} {vs : List V} {ds es : List DV} (R : Rel K Φ θ ah H) (hθ : ∀ a, a ∈ θ2 → a ∈ θ ∧ ∀ r, θ[r]? = some a → ex.contains r = true) (hΦ : ∀ a, a ∉ θ → ¬ Φ a → ¬ Φ2 a) (t : RVs K Φ θ H vs ds) (h : brw ex ah ds = some es) : RVs K Φ2 θ2 H vs es :=
  have hA : ∀ a b vs, SqS K Φ θ b H a vs → (!b && false) = false → SqS K Φ2 θ2 b H a vs := fun a b vs q _ => sqs_of (st := false) (fun a n m => n (hθ a m).1) (.inr trivial) hΦ a b vs q
  snap_RVs hA (drn_RV R hA (fun r a q hx => ⟨fun m => (by rw [(hθ a m).2 r q] at hx; exact nomatch hx), fun z => nomatch z⟩) 4) t h
/-- what is kept: the callee's view is (Φ, θ, ah), the caller's (Φ2, θ2) -/
theorem kpt_RV {ah : AH} {ex : List Nat} {vs : List V} {ds es : List DV} (R : Rel K Φ θ ah H) (hθ : ∀ a, a ∈ θ2 → Φ a ∨ a ∈ θ ∧ ∀ r, θ[r]? = some a → ex.contains r = true) (hΦ : ∀ a, Φ2 a → Φ a) (t : RVs K Φ θ H vs ds) (h : kpt ex ah ds = some es) : RVs K Φ2 θ2 H vs es :=
  have hA : ∀ a b vs, SqS K Φ θ b H a vs → (!b && true) = false → SqS K Φ2 θ2 b H a vs := fun a b vs q hb => by
    have hb : b = true := by simpa using hb
    subst hb
    rcases q with ⟨h1, h2, h3⟩ | q
    · refine .inl ⟨h1, fun m => ?_, fun _ z => h3 rfl (hΦ a z)⟩
      rcases hθ a m with z | z
      · exact h3 rfl z
      · exact h2 z.1
    · exact .inr q
  snap_RVs hA (drn_RV R hA (fun r a q hx => ⟨fun m => (by
    rcases hθ a m with z | z
    · exact (R.apart a z).1 (List.mem_of_getElem? q)
    · rw [z.2 r q] at hx; cases hx), fun _ z => (R.apart a (hΦ a z)).1 (List.mem_of_getElem? q)⟩) 4) t h
mutual
theorem own_RV (hN : ∀ a, a ∉ θ → ¬ Φ a → a ∉ θ2 ∧ ¬ Φ2 a) : ∀ {v : V} {d : DV}, RV K Φ θ H v d → d.own = true → RV K Φ2 θ2 H v d
  | _, _, .non, h => .non
  | _, _, .bl b, h => .bl b
  | _, _, .int i, h => .int i
  | _, _, .str y, h => .str y
  | _, _, .ty n, h => .ty n
  | _, .tup ds, .tup q t, h => .tup q (owns_RV hN t h)
  | _, .lst b ds, .lst q t, h => by
    have h' : (b && DV.owns ds) = true := h
    rw [Bool.and_eq_true] at h'
    refine .lst ?_ (owns_RV hN t h'.2)
    rcases q with ⟨h1, h2, h3⟩ | q
    · obtain ⟨n1, n2⟩ := hN _ h2 (h3 h'.1)
      exact .inl ⟨h1, n1, fun _ => n2⟩
    · exact .inr q
  | _, .ref r, .ref q, h => by cases h
theorem owns_RV (hN : ∀ a, a ∉ θ → ¬ Φ a → a ∉ θ2 ∧ ¬ Φ2 a) : ∀ {vs : List V} {ds : List DV}, RVs K Φ θ H vs ds → DV.owns ds = true → RVs K Φ2 θ2 H vs ds
  | _, _, .nil, _ => .nil
  | _, d :: ds, .cons r t, h => by
    have h' : (d.own && DV.owns ds) = true := h
    rw [Bool.and_eq_true] at h'
    exact .cons (own_RV hN r h'.1) (owns_RV hN t h'.2)
end
end
section
variable {K : PySem.W.Frag} {mg : Str → Option Value} {n : Nat} {F : List DV → AH → Option (R DV)}
theorem RX.less {Φ Φ2 : Addr → Prop} {H : Hp} {cls : Value} {dd : Option Addr} {x : Exc} (hΦ : ∀ a, Φ2 a → Φ a) (h : RX K Φ mg H cls dd x) : RX K Φ2 mg H cls dd x := by
  obtain ⟨h1, h2⟩ := h
  refine ⟨h1, ?_⟩
  rcases h2 with h2 | ⟨h2, d, fs, e1, e2, h3⟩
  · exact .inl h2
  · exact .inr ⟨h2, d, fs, e1, e2, L2.Paired.mapP h3 fun p q z => ⟨z.1, z.2.1, own_RV (fun a _ z => ⟨by simp, fun y => z (hΦ a y)⟩) z.2.2 z.2.1⟩⟩
theorem lstAt_eq {h : AH} {r : Nat} {xs : List DV} (e : lstAt h r = some xs) : h[r]? = some (.lst xs) := by
  unfold lstAt at e
  split at e
  · cases e; assumption
  · cases e
/-- a callee that reads only -/
theorem sp_apart : ∀ vs H Q E, spF K mg n (apart F) vs H Q E → spF K mg n F vs H Q E := by
  intro vs H Q E ⟨hl, Φ, θ, ah, ds, r, R0, rv, e, P⟩
  unfold apart at e
  split at e
  · cases e
  · rename_i es hb
    cases q : F es [] with
    | none => rw [q] at e; cases e
    | some r1 =>
    rw [q] at e
    replace e : apartE ah r1 = some r := e
    have R2 : Rel K (fun a => Φ a ∨ a ∈ θ) [] [] H := ⟨rfl, .nil, fun i a o h => by simp at h, fun a ha => ⟨by simp, by
      rcases ha with ha | ha
      · exact (R0.apart a ha).2
      · exact R0.live ha⟩⟩
    refine ⟨hl, _, [], [], es, r1, R2, brw_RV R0 (fun a m => by cases m) (fun a h1 h2 h3 => h3.elim h2 h1) rv hb, q, ?_⟩
    have ext : ∀ {θ' H'}, Ext [] H θ' H' → Ext θ H θ H' := fun x => ⟨⟨[], by simp, by simp⟩, fun a o h _ => x.keep a o h (by simp)⟩
    have keepΦ : ∀ {θ' H'}, Ext [] H θ' H' → ∀ a, Φ a → H' a ≠ none := fun x a ha hn => by
      cases z : H a with
      | none => exact (R0.apart a ha).2 z
      | some o => rw [x.keep a o z (by simp)] at hn; cases hn
    have rel : ∀ {θ' H'}, Ext [] H θ' H' → Rel K Φ θ ah H' := fun x => ⟨R0.len, R0.nd, fun i a o h1 h2 => (R0.obj i a o h1 h2).mono (ext x) R0 fun u z => x.keep a u z (by simp), fun a ha => ⟨(R0.apart a ha).1, keepΦ x a ha⟩⟩
    cases r1 with
    | er x ah1 =>
      intro θ' H' cls dd xt R1 rx
      have e : (if excOwn x = true then some (R.er x ah) else none) = some r := e
      split at e <;> cases e
      exact P θ H' cls dd (ext xt) (rel xt) (rx.less fun a h => .inl h)
    | ok d ah1 =>
      intro θ' H' v xt R1 rv1
      unfold apartE at e
      simp only at e
      split at e
      · rename_i j hj
        split at e
        · rename_i xs hx
          split at e <;> cases e
          rename_i ys hk
          have : d = .ref j := by cases d <;> cases hj; rfl
          subst this
          cases rv1 with
          | @ref a _ hj =>
          have hm : a ∈ θ' := List.mem_of_getElem? hj
          have hn : H a = none := by
            obtain ⟨⟨new, e1, e2⟩, _⟩ := xt
            exact e2 a (by simpa [e1] using hm)
          obtain ⟨ws, hw, tw⟩ := R1.obj j a _ hj (lstAt_eq hx)
          have xt2 : Ext θ H (θ ++ [a]) H' := ⟨⟨[a], rfl, by simpa using hn⟩, fun b o h _ => xt.keep b o h (by simp)⟩
          refine P (θ ++ [a]) H' (.ref a) xt2 ⟨by simp [R0.len], ?_, ?_, ?_⟩ (.ref (by rw [← R0.len]; simp))
          · exact List.nodup_append.mpr ⟨R0.nd, by simp, fun b hb c hc => by
              have : c = a := by simpa using hc
              subst this
              exact fun z => R0.live (z ▸ hb) hn⟩
          · intro i b o h1 h2
            by_cases hi : i < θ.length
            · rw [List.getElem?_append_left hi] at h1
              rw [List.getElem?_append_left (by rw [← R0.len]; exact hi)] at h2
              exact (R0.obj i b o h1 h2).mono xt2 R0 fun u z => xt.keep b u z (by simp)
            · have hi' : i = θ.length := by
                have := (List.getElem?_eq_some_iff.mp h1).1
                simp at this; omega
              subst hi'
              rw [List.getElem?_append_right (Nat.le_refl _)] at h1
              rw [R0.len, List.getElem?_append_right (Nat.le_refl _)] at h2
              simp at h1 h2
              subst h1 h2
              refine ⟨ws, hw, kpt_RV R1 (fun b hb => ?_) (fun b h => .inl h) tw hk⟩
              rcases List.mem_append.mp hb with z | z
              · exact .inl (.inr z)
              · have : b = a := by simpa using z
                subst this
                exact .inr ⟨hm, fun r hr => by rw [nodup_ix R1.nd hr hj]; simp⟩
          · intro b hb
            refine ⟨fun hm => ?_, keepΦ xt b hb⟩
            rcases List.mem_append.mp hm with z | z
            · exact (R0.apart b hb).1 z
            · have : b = a := by simpa using z
              subst this
              exact (R0.apart b hb).2 hn
        · cases e
      · split at e <;> cases e
        rename_i e2 hk
        have t := kpt_RV (Φ2 := Φ) (θ2 := θ) R1 (fun b hb => .inl (.inr hb)) (fun b h => .inl h) (.cons rv1 .nil) hk
        cases t with
        | cons t _ => exact P θ H' v (ext xt) (rel xt) t
/-- the caller's view behind a callee that changed the list at r -/
theorem back_rel {Φ : Addr → Prop} {θ θ' : List Addr} {ah : AH} {H H' : Hp} {r : Nat} {a : Addr} {ws : List DV} (R0 : Rel K Φ θ ah H) (hr : θ[r]? = some a) (xt : Ext [a] H θ' H') {add : List Addr} {adO : List AO} (hl : add.length = adO.length) (hnd : add.Nodup) (hn : ∀ b ∈ add, H b = none)
    (hw : RO K Φ (θ ++ add) H' a (.lst ws)) (ho : ∀ (i : Nat) (b : Addr) (o : AO), add[i]? = some b → adO[i]? = some o → RO K Φ (θ ++ add) H' b o) : Ext θ H (θ ++ add) H' ∧ Rel K Φ (θ ++ add) (ah.set r (.lst ws) ++ adO) H' := by
  have hm : a ∈ θ := List.mem_of_getElem? hr
  have xt2 : Ext θ H (θ ++ add) H' := ⟨⟨add, rfl, hn⟩, fun b o h hb => xt.keep b o h (by simp; exact fun z => hb (z ▸ hm))⟩
  refine ⟨xt2, ⟨by simp [R0.len, hl], ?_, ?_, ?_⟩⟩
  · exact List.nodup_append.mpr ⟨R0.nd, hnd, fun b hb c hc z => R0.live (z ▸ hb) (hn c hc)⟩
  · intro i b o h1 h2
    by_cases hi : i < θ.length
    · rw [List.getElem?_append_left hi] at h1
      rw [List.getElem?_append_left (by simp [← R0.len]; exact hi)] at h2
      by_cases e : i = r
      · subst e
        rw [hr] at h1; cases h1
        rw [List.getElem?_set_self (by rw [← R0.len]; exact hi)] at h2
        cases h2
        exact hw
      · rw [List.getElem?_set_ne (Ne.symm e)] at h2
        exact (R0.obj i b o h1 h2).mono xt2 R0 fun u z => xt.keep b u z (by simp; exact fun q => e (nodup_ix R0.nd h1 (q ▸ hr)))
    · rw [List.getElem?_append_right (by omega)] at h1
      rw [List.getElem?_append_right (by simp [← R0.len]; omega)] at h2
      simp only [List.length_set, ← R0.len] at h2
      exact ho _ _ _ h1 h2
  · intro b hb
    refine ⟨fun hm2 => ?_, ?_⟩
    · rcases List.mem_append.mp hm2 with z | z
      · exact (R0.apart b hb).1 z
      · exact (R0.apart b hb).2 (hn b z)
    · cases z : H b with
      | none => exact absurd z (R0.apart b hb).2
      | some o => rw [xt.keep b o z (by simp; exact fun q => (R0.apart b hb).1 (q ▸ hm))]; simp
/-- a callee that may change its first argument, a list -/
theorem sp_inout : ∀ vs H Q E, spF K mg n (inout F) vs H Q E → spF K mg n F vs H Q E := by
  intro vs H Q E ⟨hl, Φ, θ, ah, ds, res, R0, rv, e, P⟩
  unfold inout at e
  split at e
  · rename_i r ds
    split at e
    · rename_i xs es q1 q2
      split at e
      · rename_i hown
        cases rv with
        | @cons v vs' _ _ rh rt =>
        cases rh with
        | @ref a _ hr =>
        cases q : F (.ref 0 :: es) [.lst xs] with
        | none => rw [q] at e; cases e
        | some r1 =>
        rw [q] at e
        replace e : inoutE r ah r1 = some res := e
        have hm : a ∈ θ := List.mem_of_getElem? hr
        obtain ⟨ws0, hw0, tw0⟩ := R0.obj r a _ hr (lstAt_eq q1)
        have R2 : Rel K (fun b => Φ b ∨ (b ∈ θ ∧ b ≠ a)) [a] [.lst xs] H := ⟨rfl, by simp, fun i b o h1 h2 => by
            cases i with
            | zero =>
              simp at h1 h2
              subst h1 h2
              exact ⟨ws0, hw0, owns_RV (fun c h1 h2 => ⟨by simp; exact fun z => h1 (z ▸ hm), fun h3 => h3.elim h2 fun z => h1 z.1⟩) tw0 hown⟩
            | succ i => simp at h1,
          fun b hb => by
            rcases hb with hb | hb
            · exact ⟨by simp; exact fun z => (R0.apart b hb).1 (z ▸ hm), (R0.apart b hb).2⟩
            · exact ⟨by simpa using hb.2, R0.live hb.1⟩⟩
        refine ⟨hl, _, [a], [.lst xs], .ref 0 :: es, r1, R2, .cons (.ref rfl) (brw_RV R0 (fun c m => ?_) (fun c h1 h2 h3 => h3.elim h2 fun z => h1 z.1) rt q2), q, ?_⟩
        · have : c = a := by simpa using m
          subst this
          exact ⟨hm, fun r' hr' => by rw [nodup_ix R0.nd hr' hr]; simp⟩
        · have z0 : ∀ {θ' H'}, Ext [a] H θ' H' → θ'[0]? = some a := fun x => x.get rfl
          have hθ : ∀ {θ' : List Addr} {ah1 H'} {ex : List Nat} {add : List Addr}, Rel K (fun b => Φ b ∨ (b ∈ θ ∧ b ≠ a)) θ' ah1 H' → θ'[0]? = some a → ex.contains 0 = true → (∀ b ∈ add, ∃ j, θ'[j]? = some b ∧ ex.contains j = true) →
              ∀ c, c ∈ θ ++ add → (Φ c ∨ (c ∈ θ ∧ c ≠ a)) ∨ c ∈ θ' ∧ ∀ r, θ'[r]? = some c → ex.contains r = true := fun {θ' ah1 H' ex add} R1 z hz hadd c hc => by
            rcases List.mem_append.mp hc with hc | hc
            · by_cases e : c = a
              · subst e
                exact .inr ⟨List.mem_of_getElem? z, fun r' hr' => by rw [nodup_ix R1.nd hr' z]; exact hz⟩
              · exact .inl (.inr ⟨hc, e⟩)
            · obtain ⟨j, j1, j2⟩ := hadd c hc
              exact .inr ⟨List.mem_of_getElem? j1, fun r' hr' => by rw [nodup_ix R1.nd hr' j1]; exact j2⟩
          have none_add : ∀ {θ' : List Addr} {ex : List Nat}, ∀ b ∈ ([] : List Addr), ∃ j, θ'[j]? = some b ∧ ex.contains j = true := fun b hb => by cases hb
          cases r1 with
          | er x ah1 =>
            intro θ' H' cls dd xt R1 rx
            have e : (match lstAt ah1 0 with
              | some zs => (match kpt [0] ah1 zs with
                | some ws => if excOwn x = true then some (R.er x (ah.set r (.lst ws))) else none
                | none => none)
              | none => none) = some res := e
            split at e
            · rename_i zs k1
              split at e
              · rename_i ws k2
                split at e <;> cases e
                obtain ⟨us, hu, tu⟩ := R1.obj 0 a _ (z0 xt) (lstAt_eq k1)
                obtain ⟨x2, R3⟩ := back_rel (add := []) (adO := []) (ws := ws) R0 hr xt rfl .nil (fun b hb => by cases hb) ⟨us, hu, kpt_RV R1 (hθ R1 (z0 xt) rfl none_add) (fun b h => .inl h) tu k2⟩ (fun i b o h => by simp at h)
                exact P _ H' cls dd x2 (by simpa using R3) (rx.less fun b h => .inl h)
              · cases e
            · cases e
          | ok d ah1 =>
            intro θ' H' v xt R1 rv1
            unfold inoutE at e
            simp only at e
            split at e
            · rename_i j zs hj k1
              have : d = .ref j := by cases d <;> cases hj; rfl
              subst this
              split at e
              · rename_i xs' k2
                split at e
                · rename_i ys ws k3 k4
                  split at e <;> cases e
                  rename_i hj0
                  cases rv1 with
                  | @ref b _ hb =>
                  obtain ⟨us, hu, tu⟩ := R1.obj 0 a _ (z0 xt) (lstAt_eq k1)
                  obtain ⟨us2, hu2, tu2⟩ := R1.obj j b _ hb (lstAt_eq k2)
                  have hbn : H b = none := by
                    obtain ⟨⟨new, e1, e2⟩, _⟩ := xt
                    have hm2 : b ∈ θ' := List.mem_of_getElem? hb
                    rw [e1] at hm2
                    rcases List.mem_append.mp hm2 with z | z
                    · have : b = a := by simpa using z
                      subst this
                      exact absurd (nodup_ix R1.nd hb (by rw [e1]; rfl)) hj0
                    · exact e2 b z
                  have ad : ∀ c ∈ [b], ∃ k, θ'[k]? = some c ∧ ([0, j] : List Nat).contains k = true := fun c hc => by
                    have : c = b := by simpa using hc
                    subst this
                    exact ⟨j, hb, by simp⟩
                  obtain ⟨x2, R3⟩ := back_rel (add := [b]) (adO := [.lst ys]) (ws := ws) R0 hr xt rfl (by simp) (fun c hc => by
                      have : c = b := by simpa using hc
                      subst this
                      exact hbn) ⟨us, hu, kpt_RV R1 (hθ R1 (z0 xt) (by simp) ad) (fun b h => .inl h) tu k4⟩ (fun i c o h1 h2 => by
                        cases i with
                        | zero =>
                          simp at h1 h2
                          subst h1 h2
                          exact ⟨us2, hu2, kpt_RV R1 (hθ R1 (z0 xt) (by simp) ad) (fun b h => .inl h) tu2 k3⟩
                        | succ i => simp at h1)
                  exact P _ H' (.ref b) x2 (by simpa using R3) (.ref (by rw [← R0.len]; simp))
                · cases e
              · cases e
            · rename_i zs hj k1
              split at e
              · rename_i e2 ws k2 k3
                cases e
                obtain ⟨us, hu, tu⟩ := R1.obj 0 a _ (z0 xt) (lstAt_eq k1)
                obtain ⟨x2, R3⟩ := back_rel (add := []) (adO := []) (ws := ws) R0 hr xt rfl .nil (fun b hb => by cases hb) ⟨us, hu, kpt_RV R1 (hθ R1 (z0 xt) rfl none_add) (fun b h => .inl h) tu k3⟩ (fun i b o h => by simp at h)
                have t := kpt_RV (Φ2 := Φ) (θ2 := θ ++ []) R1 (hθ R1 (z0 xt) rfl none_add) (fun b h => .inl h) (.cons rv1 .nil) k2
                cases t with
                | cons t _ => exact P _ H' v x2 (by simpa using R3) t
              · cases e
            · cases e
      · cases e
    · cases e
  · cases e
end
/-! ### all functions -/
structure Defs (K : PySem.W.Frag) (mg : Str → Option Value) (G : GE) (T : List FD) : Prop where
  con : ∀ x d, G.con.lookup x = some d → ∃ v u, mg x = some u ∧ RelV v u ∧ ∀ Φ θ H, RV K Φ θ H v d
  free : ∀ x, G.free.contains x = true → mg x = none
  fns : ∀ x k, G.fns.lookup x = some k → ∃ g, findF T x = some g ∧ g.ps.length = k ∧ FnScope g.N g.ps g.sc ∧ ∃ f fd qual params, mg x = some (.ref f) ∧ PySem.W.keepIn K (.ref f) = true ∧ FunD K x qual params g.body g.sc [] [] f fd ∧ Binds K fd g.ps []
  exc : ∀ x bs, G.exc.lookup x = some bs → ∃ C, ExcOk K mg x C
  exm : ∀ x bs y cs C D, G.exc.lookup x = some bs → G.exc.lookup y = some cs → mg x = some (.ref C) → mg y = some (.ref D) → PySem.W.exmOne K (.ref C) (.ref D) = some (bs.contains y) ∧ PySem.W.kitOne K (.ref C) (.ref D) = some (bs.contains y)
theorem startL_rel {K : PySem.W.Frag} {Φ : Addr → Prop} {θ : List Addr} {H : Hp} {N : List Str} {vs : List V} {ds : List DV} (h : RVs K Φ θ H vs ds) : SL K Φ θ H (L2.start N vs) (startL N ds) := by
  unfold L2.start startL
  rw [h.length]
  refine ⟨by simp [h.length], fun i d e => ?_⟩
  by_cases hi : i < ds.length
  · rw [List.getElem?_append_left (by simpa using hi), List.getElem?_map] at e
    cases q : ds[i]? with
    | none => rw [q] at e; cases e
    | some d' =>
    rw [q] at e
    cases e
    obtain ⟨v, e1, r⟩ := h.get q
    exact ⟨v, by rw [List.getElem?_append_left (by simp [h.length, hi]), List.getElem?_map, e1]; rfl, r⟩
  · rw [List.getElem?_append_right (by simpa using hi)] at e
    rw [List.getElem?_replicate] at e
    split at e <;> cases e
theorem spF_len {K : PySem.W.Frag} {mg : Str → Option Value} {n : Nat} {F : List DV → AH → Option (R DV)} {k : Nat} (hk : n = k) : ∀ vs H Q E, spF K mg n F vs H Q E → vs.length = k := fun vs H Q E h => h.1.trans hk
/-- the promise of all functions d levels deep -/
def AllF (P : Program) (w : World) (K : PySem.W.Frag) (mg : Str → Option Value) (base : Heap) (G : GE) (T : List FD) (d : Nat) : Prop :=
  ∀ (x : Str) (k : Nat), G.fns.lookup x = some k → ∃ f fd ps, mg x = some (.ref f) ∧ PySem.W.keepIn K (.ref f) = true ∧ FnR P w K mg base d f fd ps (spF K mg k (callN G T d x)) ∧ Binds K fd ps []
/-- a body runs -/
theorem body_ok {P : Program} {w : World} {K : PySem.W.Frag} {mg : Str → Option Value} {base : Heap} {G : GE} {T : List FD} (D : Defs K mg G T) {d : Nat} (ih : AllF P w K mg base G T d) {k : Nat} {g : FD} {f : Addr} {qual : Str} (g3 : FnScope g.N g.ps g.sc) (cdv : Value) (A : Around) (outer : List Env) (s : Shared) (H : Hp) (vs : List V) (Q : VK) (E : XK)
    (rm : Rm d (A.deeper (PyProof.Rows.envOfC qual g.sc s.heap.objs.size f cdv))) (sp : spF K mg k (runF G (callN G T d) g) vs H Q E) :
    ∃ t, PSs (cxOf (L2.CX P w) P w K mg base g.N qual g.sc f cdv A outer s H E) g.body t ∧ t { nx := fun _ H' => Q .non H', rt := Q } (L2.start g.N vs) H := by
  obtain ⟨hl, Φ, θ, ah, ds, r, R0, rv, e, Po⟩ := sp
  let X := cxOf (L2.CX P w) P w K mg base g.N qual g.sc f cdv A outer s H E
  have C : Cxt G (callN G T d) ⟨g.N, g.sc, none⟩ X := {
    N := rfl
    nd := g3.nd
    sc := rfl
    fn := fun y hy => .inl rfl
    calm := rfl
    hu := by have := rm.unit; show (A.deeper _).units + 64 < _; omega
    glob := ⟨D.con, D.free, fun y j hj => by
      obtain ⟨f', fd', ps', a1, a2, a3, a4⟩ := ih y j hj
      exact ⟨f', fd', ps', d, a1, a2, a3, rm, a4⟩, D.exc, D.exm⟩ }
  have tk : Takes X (fun cls d' _ H' => E cls d' H') := takes_of (X := X) rfl rfl rfl rfl
  have S : SCx X := ⟨rfl, rfl, passes_of (X := X) rfl⟩
  refine ⟨tS X Φ _ (sSeq (g.body.map (denS G (callN G T d) DEPTH ⟨g.N, g.sc, none⟩))), pss_L fun st _ => denS_ok DEPTH tk C S st, ?_⟩
  unfold runF at e
  split at e
  · cases q : sSeq (g.body.map (denS G (callN G T d) DEPTH ⟨g.N, g.sc, none⟩)) (startL g.N ds) ah with
    | none => rw [q] at e; cases e
    | some sr =>
    rw [q] at e
    refine ⟨θ, _, ah, sr, R0, startL_rel rv, q, ?_⟩
    cases sr with
    | go fl ls' h' =>
      cases fl with
      | nx => cases e; exact fun θ' σ' H' x R1 S1 => Po θ' H' .non x R1 .non
      | rt d => cases e; exact fun θ' σ' H' x R1 S1 v rv => Po θ' H' v x R1 rv
      | bk => cases e
      | ct => cases e
    | er y ls' h' => cases e; exact fun θ' σ' H' cls dd x R1 S1 rx => Po θ' H' cls dd x R1 rx
  · cases e
theorem sp_call {K : PySem.W.Frag} {mg : Str → Option Value} {G : GE} {T : List FD} {d k : Nat} {x : Str} {g : FD} (g1 : findF T x = some g) : ∀ vs H Q E, spF K mg k (callN G T (d + 1) x) vs H Q E → spF K mg k (runF G (callN G T d) g) vs H Q E := by
  have e : callN G T (d + 1) x = fun ds h => (match g.kind with
      | 0 => apart (runF G (callN G T d) g) ds h
      | 1 => inout (runF G (callN G T d) g) ds h
      | _ => runF G (callN G T d) g ds h) := by
    funext ds h
    show (match findF T x with | some f => _ | none => none) = _
    rw [g1]; try rfl
  rw [e]
  split
  · exact sp_apart
  · exact sp_inout
  · exact fun _ _ _ _ h => h
theorem fn_all {P : Program} {w : World} {K : PySem.W.Frag} {mg : Str → Option Value} {base : Heap} {G : GE} {T : List FD} (D : Defs K mg G T) : ∀ d : Nat, AllF P w K mg base G T d
  | 0, x, k, h => by
    obtain ⟨g, g1, g2, g3, f, fd, qual, params, h1, h2, h3, h4⟩ := D.fns x k h
    exact ⟨f, fd, g.ps, h1, h2, ⟨fun vs H Q E h => h.1.trans g2.symm, fun A outer s H args us vs Q E _ _ _ _ h => by
      obtain ⟨_, _, _, _, _, _, _, _, e, _⟩ := h
      cases e⟩, h4⟩
  | d + 1, x, k, h => by
    obtain ⟨g, g1, g2, g3, f, fd, qual, params, h1, h2, h3, h4⟩ := D.fns x k h
    exact ⟨f, fd, g.ps, h1, h2, (FnR.make h3 g3 (fun vs H Q E h => h.1.trans g2.symm) fun cdv A outer s H vs Q E rm sp => body_ok D (fn_all D d) g3 cdv A outer s H vs Q E rm sp).weak (sp_call g1), h4⟩
/-- the law itself, by the kit's measure of room -/
theorem fn_top {P : Program} {w : World} {K : PySem.W.Frag} {mg : Str → Option Value} {base : Heap} {G : GE} {T : List FD} (D : Defs K mg G T) {d n : Nat} (hd : d ≤ 3 * n)
    {x : Str} {k : Nat} {g : FD} {f : Addr} {fd : FuncData} {y qual : Str} {params : Arguments} (g1 : findF T x = some g) (g2 : g.ps.length = k) (g3 : FnScope g.N g.ps g.sc) (h3 : FunD K y qual params g.body g.sc [] [] f fd) : FnOk P w K mg base (L2.CX P w) (n + 1) f fd g.ps (spF K mg k (callN G T (d + 1) x)) :=
  (h3.ok g3 (fun vs H Q E h => h.1.trans g2.symm) fun cdv A outer s H vs Q E rm sp => body_ok D (fn_all D d) g3 cdv A outer s H vs Q E (Rm.of rm hd) sp).imp (sp_call g1)
end P3


set_option maxRecDepth 100000
set_option maxHeartbeats 2000000
set_option autoImplicit false
/-! The head: what stands behind the top; the law's end. -/
namespace P3
open PySem PySem.Spec PyProof.Rows L2
mutual
def dvB (K : PySem.W.Frag) : DV → Value → Bool
  | .non, .none => true
  | .bl b, .bool c => b == c
  | .int i, .int j _ => decide (i = j)
  | .str x, .str y _ => decide (SX.S x = y)
  | .tup ds, .ref a => (match K.lookup a with
    | some ⟨.type c, _, .seq its _, _⟩ => decide (c = "tuple") && (decide (its.size ≤ sizeLine) && dvsB K ds its.toList)
    | _ => false)
  | .lst _ ds, .ref a => (match K.lookup a with
    | some ⟨.type c, none, .seq its _, _⟩ => decide (c = "list") && (decide (its.size ≤ sizeLine) && dvsB K ds its.toList)
    | _ => false)
  | _, _ => false
def dvsB (K : PySem.W.Frag) : List DV → List Value → Bool
  | [], [] => true
  | d :: ds, u :: us => dvB K d u && dvsB K ds us
  | _, _ => false
end
mutual
theorem dvB_ok {K : PySem.W.Frag} : ∀ (d : DV) (u : Value), dvB K d u = true → ∃ v, RelV v u ∧ ∀ Φ θ H, RV K Φ θ H v d
  | .non, u, h => by cases u <;> first | exact ⟨.non, rfl, fun _ _ _ => .non⟩ | (unfold dvB at h; cases h)
  | .bl b, u, h => by
    cases u <;> unfold dvB at h <;> try (cases h; done)
    rename_i c
    exact ⟨.bl b, by rw [eq_of_beq h]; rfl, fun _ _ _ => .bl b⟩
  | .int i, u, h => by
    cases u <;> unfold dvB at h <;> try (cases h; done)
    rename_i j t
    exact ⟨.int i, ⟨t, by rw [of_decide_eq_true h]⟩, fun _ _ _ => .int i⟩
  | .str x, u, h => by
    cases u <;> unfold dvB at h <;> try (cases h; done)
    rename_i y t
    exact ⟨.str (SX.S x), ⟨t, by rw [of_decide_eq_true h]⟩, fun _ _ _ => .str x⟩
  | .tup ds, u, h => by
    cases u <;> unfold dvB at h <;> try (cases h; done)
    rename_i a
    cases q : K.lookup a with
    | none => rw [q] at h; cases h
    | some o =>
      obtain ⟨oc, od, dt, osl⟩ := o
      simp only [q] at h
      cases oc with
      | type c =>
        cases dt with
        | seq its n =>
          simp only [Bool.and_eq_true, decide_eq_true_eq] at h
          obtain ⟨h1, h2, h3⟩ := h
          obtain ⟨vs, r1, r2⟩ := dvsB_ok ds its.toList h3
          exact ⟨.ref a, rfl, fun Φ θ H => .tup (.inr ⟨_, its, n, q, congrArg Value.type h1, rfl, h2, r1⟩) (r2 Φ θ H)⟩
        | _ => cases h
      | _ => cases dt <;> cases h
  | .lst b ds, u, h => by
    cases u <;> unfold dvB at h <;> try (cases h; done)
    rename_i a
    cases q : K.lookup a with
    | none => rw [q] at h; cases h
    | some o =>
      obtain ⟨oc, od, dt, osl⟩ := o
      simp only [q] at h
      cases oc with
      | type c =>
        cases od with
        | some z => cases dt <;> cases h
        | none =>
        cases dt with
        | seq its n =>
          simp only [Bool.and_eq_true, decide_eq_true_eq] at h
          obtain ⟨h1, h2, h3⟩ := h
          obtain ⟨vs, r1, r2⟩ := dvsB_ok ds its.toList h3
          exact ⟨.ref a, rfl, fun Φ θ H => .lst (.inr ⟨_, its, n, q, congrArg Value.type h1, rfl, rfl, h2, r1⟩) (r2 Φ θ H)⟩
        | _ => cases h
      | _ => cases od <;> cases dt <;> cases h
  | .ty n, u, h => by cases u <;> unfold dvB at h <;> cases h
  | .ref i, u, h => by cases u <;> unfold dvB at h <;> cases h
theorem dvsB_ok {K : PySem.W.Frag} : ∀ (ds : List DV) (us : List Value), dvsB K ds us = true → ∃ vs, Vals vs us ∧ ∀ Φ θ H, RVs K Φ θ H vs ds
  | [], [], _ => ⟨[], .nil, fun _ _ _ => .nil⟩
  | [], _ :: _, h => by cases h
  | _ :: _, [], h => by cases h
  | d :: ds, u :: us, h => by
    have h' : (dvB K d u && dvsB K ds us) = true := h
    rw [Bool.and_eq_true] at h'
    obtain ⟨v, r1, r2⟩ := dvB_ok d u h'.1
    obtain ⟨vs, r3, r4⟩ := dvsB_ok ds us h'.2
    exact ⟨v :: vs, .cons r1 r3, fun Φ θ H => .cons (r2 Φ θ H) (r4 Φ θ H)⟩
end
/-! ### what is looked at -/
def conB (K : PySem.W.Frag) (x : Str) (d : DV) : Bool := match PySem.W.nsIn K mainGlobals x with
  | some (some u) => dvB K d u
  | _ => false
def eq2 (a : Option (Option Value)) (b : Option (Option Value)) : Bool := decide (a = b)
def excCB (K : PySem.W.Frag) (C : Addr) : Bool :=
  (eq2 (PySem.W.findIn K (.ref C) "__getattribute__") (some (some (.builtin "BaseException.__getattribute__"))) && eq2 (PySem.W.findIn K (.ref C) "__getattr__") (some none)) &&
  ((decide (PySem.W.subIn K (.ref C) (.type "BaseException") = some true) && PySem.W.hasDictIn K C) &&
  ((eq2 (PySem.W.findIn K (.ref C) "__class__") (some (some (.builtin "object.__class__"))) && eq2 (PySem.W.specialIn K (.builtin "object.__class__") "__get__") (some (some (.builtin "getset_descriptor.__get__")))) &&
  (decide (PySem.W.takesIn K (.builtin "object.__class__") = some true) && decide (PySem.W.mroIn K C (.type "object") = some true))))
theorem excCB_ok {K : PySem.W.Frag} {C : Addr} (h : excCB K C = true) : ExcC K C := by
  unfold excCB at h
  simp only [Bool.and_eq_true, decide_eq_true_eq] at h
  obtain ⟨⟨h1, h2⟩, ⟨h3, h4⟩, ⟨h5, h6⟩, h7, h8⟩ := h
  exact ⟨of_decide_eq_true h1, of_decide_eq_true h2, h3, h4, of_decide_eq_true h5, of_decide_eq_true h6, h7, h8⟩
def exmB (K : PySem.W.Frag) (G : GE) : Bool := G.exc.all fun p => G.exc.all fun q =>
  decide (PySem.W.exmOne K (.ref (He.ga K p.1)) (.ref (He.ga K q.1)) = some (p.2.contains q.1)) && decide (PySem.W.kitOne K (.ref (He.ga K p.1)) (.ref (He.ga K q.1)) = some (p.2.contains q.1))
def geB (G : GE) (T : List FD) (K : PySem.W.Frag) : Bool :=
  (G.con.all fun p => conB K p.1 p.2) && ((G.free.all fun x => (He.Fa.free x).ok K) && ((G.exc.all fun p => (He.Fa.glo p.1).ok K && ((He.Fa.exc p.1).ok K && excCB K (He.ga K p.1))) && (exmB K G && T.all fun f => (He.Fa.glo f.name).ok K)))
def FD.def_ (f : FD) : He.DefD := ⟨(f.name, none), f.name, f.name, f.args, f.body, f.sc, [], []⟩
def obsP (G : GE) (T : List FD) (K : PySem.W.Frag) : He.AlD := (geB G T K && T.all fun f => f.def_.ok K, T.map fun f => He.fnW K f.def_.at_)
def valP (T : List FD) : He.AlD := (true, T.map fun f => f.def_.val)
def SaysP (G : GE) (T : List FD) (K : PySem.W.Frag) : Prop := obsP G T K = valP T
def obsPG (n : Nat) (G : GE) (T : List FD) (g : Addr → Option Obj) : He.AlD := obsP G T (He.frG g (He.asD g n))
def hookP (n : Nat) (G : GE) (T : List FD) : PySem.W.Hook where
  α := He.AlD
  obs := fun s => obsPG n G T s.heap.get?
  val := fun _ => valP T
  says := fun _ h => ∃ K : PySem.W.Frag, K.In h ∧ SaysP G T K
  of := fun _ _ e => ⟨_, He.frG_in, e⟩
  keeps := fun _ _ _ ⟨K, hK, c⟩ k => ⟨K, PySem.W.Frag.In.keeps hK k, c⟩
theorem obsPG_eq {n : Nat} {G : GE} {T : List FD} {g : Addr → Option Obj} {s : Shared} (h : ∀ a, g a = s.heap.get? a) : obsPG n G T g = (hookP n G T).obs s := by
  have e : g = s.heap.get? := funext h
  rw [e] <;> rfl
/-! ### what is decided ahead -/
def scB (f : FD) : Bool := (decide (f.sc.kind = .function) && (f.sc.isCoroutine == false && f.sc.isGenerator == false)) && ((decide f.N.Nodup && decide (f.N.take f.ps.length = f.ps)) &&
  ((f.ps.all fun x => decide (f.sc.names.lookup x = some .local) || decide (f.sc.names.lookup x = some .cell)) && f.sc.names.all fun y => decide (y.2 ≠ .free)))
theorem scB_ok {f : FD} (h : scB f = true) : FnScope f.N f.ps f.sc := by
  unfold scB at h
  simp only [Bool.and_eq_true, decide_eq_true_eq, beq_iff_eq] at h
  obtain ⟨⟨h1, h2, h3⟩, ⟨h4, h5⟩, h6, h7⟩ := h
  refine ⟨h1, h2, h3, h4, h5, fun x hx => ?_, fun y hy => by simpa using List.all_eq_true.mp h7 y hy⟩
  have := List.all_eq_true.mp h6 x hx
  simpa using this
def BindG (g : FD) : Prop := ∀ (kV doc pm : Value) (an : Option Addr) (cdv ct : Value) (us : List Value), us.length = g.ps.length → bindArgs (PySem.W.fnOf g.name g.name g.args g.body g.sc .none kV doc pm an cdv ct) ⟨us, []⟩ = pure (g.ps.zip us)
def BindAll : List FD → Prop
  | [] => True
  | g :: r => BindG g ∧ BindAll r
theorem BindAll.at : ∀ {T : List FD}, BindAll T → ∀ g ∈ T, BindG g
  | [], _, g, h => by cases h
  | t :: T, ⟨h1, h2⟩, g, h => by
    rcases List.mem_cons.mp h with e | h
    · exact e ▸ h1
    · exact BindAll.at h2 g h
def fnsB (G : GE) (T : List FD) : Bool := (G.fns.all fun p => match findF T p.1 with
  | some g => decide (g.ps.length = p.2)
  | none => false) && T.all scB
theorem lookup_mem {α : Type} {x : Str} {d : α} : ∀ {l : List (Str × α)}, l.lookup x = some d → (x, d) ∈ l
  | (y, e) :: l, h => by
    rw [List.lookup_cons] at h
    split at h
    · rename_i q
      cases h
      rw [eq_of_beq q]
      exact List.mem_cons_self
    · exact List.mem_cons_of_mem _ (lookup_mem h)
theorem findF_mem {T : List FD} {x : Str} {g : FD} (h : findF T x = some g) : g ∈ T ∧ g.name = x := by
  unfold findF at h
  exact ⟨List.mem_of_find?_eq_some h, by simpa using List.find?_some h⟩
theorem defs_of {G : GE} {T : List FD} {K : PySem.W.Frag} {h : Heap} {mg : Str → Option Value} (X : K.In h) (N : h.Ns mainGlobals mg) (c : SaysP G T K) (hT : fnsB G T = true) (hB : BindAll T) : Defs K mg G T := by
  have c1 : (geB G T K && T.all fun f => f.def_.ok K) = true := congrArg (fun z : He.AlD => z.1) c
  have c2 : (T.map fun f => He.fnW K f.def_.at_) = T.map fun f => f.def_.val := congrArg (fun z : He.AlD => z.2) c
  rw [Bool.and_eq_true] at c1
  obtain ⟨c1, c3⟩ := c1
  unfold geB at c1
  simp only [Bool.and_eq_true] at c1
  obtain ⟨k1, k2, k3, k4, k5⟩ := c1
  have ex : ∀ x bs, G.exc.lookup x = some bs → mg x = some (.ref (He.ga K x)) ∧ ExcOk K mg x (He.ga K x) := fun x bs hx => by
    have := List.all_eq_true.mp k3 _ (lookup_mem hx)
    simp only [Bool.and_eq_true] at this
    obtain ⟨e1, e2, e3⟩ := this
    have g := He.glo_ok X N e1
    obtain ⟨f1, f2, f3, f4⟩ := He.exc_ok e2
    exact ⟨g, ⟨g, f1, f2, f3, f4, excCB_ok e3⟩⟩
  refine ⟨fun x d hx => ?_, fun x hx => ?_, fun x k hx => ?_, fun x bs hx => ⟨_, (ex x bs hx).2⟩, fun x bs y cs C D hx hy hC hD => ?_⟩
  · have := List.all_eq_true.mp k1 _ (lookup_mem hx)
    unfold conB at this
    simp only at this
    split at this
    · rename_i u hu
      obtain ⟨v, r1, r2⟩ := dvB_ok d u this
      exact ⟨v, u, PySem.W.mg_of X N hu, r1, r2⟩
    · cases this
  · exact He.free_ok X N (List.all_eq_true.mp k2 x (by simpa using hx))
  · unfold fnsB at hT
    rw [Bool.and_eq_true] at hT
    have := List.all_eq_true.mp hT.1 _ (lookup_mem hx)
    simp only at this
    split at this
    · rename_i g hg
      obtain ⟨m1, m2⟩ := findF_mem hg
      have e1 := He.glo_ok X N (List.all_eq_true.mp k5 g m1)
      have e2 := List.all_eq_true.mp c3 g m1
      have e3 : He.fnW K g.def_.at_ = g.def_.val := by
        obtain ⟨i, hi⟩ := List.getElem?_of_mem m1
        have := congrArg (fun l : List He.FnW => l[i]?) c2
        simp only [List.getElem?_map, hi, Option.map_some, Option.some.injEq] at this
        exact this
      obtain ⟨fd, F⟩ := He.DefD.funD e3 e2
      have F' : FunD K x x g.args g.body g.sc [] [] (He.ga K x) fd := by rw [← m2]; exact F
      refine ⟨g, hg, by simpa using this, scB_ok (List.all_eq_true.mp hT.2 g m1), He.ga K x, fd, x, g.args, by rw [← m2]; exact e1, F'.kp, F', ?_⟩
      have bg := hB.at g m1
      unfold BindG at bg
      rw [m2] at bg
      exact FunD.bindsN F' bg
    · cases this
  · obtain ⟨m1, _⟩ := ex x bs hx
    obtain ⟨m2, _⟩ := ex y cs hy
    rw [m1] at hC
    rw [m2] at hD
    cases hC
    cases hD
    have := List.all_eq_true.mp (List.all_eq_true.mp k4 _ (lookup_mem hx)) _ (lookup_mem hy)
    simpa using this
/-! ### the end -/
theorem ints_RV {K : PySem.W.Frag} {Φ : Addr → Prop} {θ : List Addr} {H : Hp} : ∀ ns : List Int, RVs K Φ θ H (ns.map V.int) (ns.map DV.int)
  | [] => .nil
  | i :: ns => .cons (.int i) (ints_RV ns)
theorem walk_P {l : PySem.W.OpenLaw} {n k m0 : Nat} {q : Program} {loose : List Str} {XP : (Str → Option Value) → Heap → Prop} {d : DefRec} {G : GE} {T : List FD} {m : Nat} (g : FD) (x : Str) (hx : g.ps = [x]) (hn : l.most = some n) (hn2 : n ≤ sizeLine) (hdf : d.params.defaults = []) (hname : d.name = g.name) (hfn : G.fns.lookup g.name = some 1)
    (hr : Room (m0 + 1) callerA) (hk : k ≤ 3 * m0) (hT : fnsB G T = true) (hB : BindAll T) (hff : findF T g.name = some g) (law : ∀ ns : List Int, ns.length ≤ n → ∃ h, callN G T (k + 1) g.name [.lst true (ns.map DV.int)] [] = some (.ok (.bl true) h)) :
    PySem.W.WalkO q loose XP (hookP m G T).says l.row.toRowW d [] (fun f vs => PySem.call f vs) := by
  have hg : g ∈ T := (findF_mem hff).1
  refine Att.attach_call hn hdf fun w s₀ s₁ mg mb fa o pm cd doc a vs ns N Y ho hd hcd hmg hobj hints hlen hg' => ?_
  obtain ⟨K, KX, c⟩ := Y
  have D : Defs K mg G T := defs_of KX N.T.g c hT hB
  have c2 : (T.map fun f => He.fnW K f.def_.at_) = T.map fun f => f.def_.val := congrArg (fun z : He.AlD => z.2) c
  have hlN : ns.length ≤ n := hlen
  have hb2 : ∃ fd : FuncData, (∀ (s : Shared) (u : Value), BindsTo s fd ⟨[u], []⟩ [(x, u)]) ∧ ∀ base : Heap, K.In base → base.Ns mainGlobals mg → FnOk l.prog w K mg base (L2.CX l.prog w) (m0 + 1) fa fd [x] (spF K mg 1 (callN G T (k + 1) g.name)) := by
    have c1 : (geB G T K && T.all fun f => f.def_.ok K) = true := congrArg (fun z : He.AlD => z.1) c
    rw [Bool.and_eq_true] at c1
    have e2 := List.all_eq_true.mp c1.2 g hg
    have e3 : He.fnW K g.def_.at_ = g.def_.val := by
      obtain ⟨i, hi⟩ := List.getElem?_of_mem hg
      have := congrArg (fun l : List He.FnW => l[i]?) c2
      simp only [List.getElem?_map, hi, Option.map_some, Option.some.injEq] at this
      exact this
    obtain ⟨fd0, F0⟩ := He.DefD.funD e3 e2
    refine ⟨fd0, fun s u => ?_, fun base hb hn => ?_⟩
    · have bg := hB.at g hg
      have := FunD.bindsA (ps := g.ps) F0 bg s [u] (by rw [hx]; rfl)
      rw [hx] at this
      exact this
    · have e1 : fa = He.ga K g.name := by
        have k1 := c1.1
        unfold geB at k1
        simp only [Bool.and_eq_true] at k1
        have := He.glo_ok KX N.T.g (List.all_eq_true.mp k1.2.2.2.2 g hg)
        rw [hname, this] at hmg
        cases hmg; rfl
      subst e1
      have := fn_top (P := l.prog) (w := w) (base := base) D (d := k) (n := m0) hk (x := g.name) (k := 1) hff (by rw [hx]; rfl) (scB_ok (List.all_eq_true.mp (Bool.and_eq_true_iff.mp hT).2 g hg)) F0
      rw [hx] at this
      exact this
  obtain ⟨fd, hb, hF⟩ := hb2
  refine law_call KX N.T.g N.T.b N.T.builtins N.T.nolimit hg' hobj hints (Nat.le_trans hlen hn2) hr hF hb (fun H hO hS => ?_) fun H e s' z => ?_
  · obtain ⟨h, e⟩ := law ns hlN
    refine ⟨rfl, fun _ => False, [], [], _, _, ⟨rfl, .nil, fun i a o h => by simp at h, fun a h => h.elim⟩, .cons (.lst ?_ (ints_RV ns)) .nil, e, fun θ' H' v x R1 rv => by cases rv; rfl⟩
    rcases hS with h | h
    · exact .inl ⟨h, by simp, fun _ h => h⟩
    · exact .inr h
  · obtain ⟨a, B, H', cls, d', _, _, _, _, _, _, _, z⟩ := z
    exact z
end P3


set_option maxRecDepth 100000
set_option maxHeartbeats 2000000
set_option autoImplicit false
/-! What a run comes to: rules. -/
namespace P3
open PySem L2
/-- r ends, and as Q says -/
def wE {α : Type} (r : Option (R α)) (Q : R α → Prop) : Prop := ∃ x, r = some x ∧ Q x
def wS (r : Option SR) (Q : SR → Prop) : Prop := ∃ x, r = some x ∧ Q x
/-- behind a value -/
def kE {α β : Type} (k : α → AH → Option (R β)) (Q : R β → Prop) : R α → Prop
  | .ok a h => wE (k a h) Q
  | .er x h => Q (.er x h)
def kS {α : Type} (ls : LS) (k : α → AH → Option SR) (Q : SR → Prop) : R α → Prop
  | .ok a h => wS (k a h) Q
  | .er x h => Q (.er x ls h)
def kQ (r : List SM) (Q : SR → Prop) : SR → Prop
  | .go .nx ls h => wS (sSeq r ls h) Q
  | o => Q o
section
variable {α β : Type}
@[simp] theorem wE_some {x : R α} {Q : R α → Prop} : wE (some x) Q ↔ Q x := ⟨fun ⟨_, e, q⟩ => by cases e; exact q, fun q => ⟨_, rfl, q⟩⟩
@[simp] theorem wS_some {x : SR} {Q : SR → Prop} : wS (some x) Q ↔ Q x := ⟨fun ⟨_, e, q⟩ => by cases e; exact q, fun q => ⟨_, rfl, q⟩⟩
@[simp] theorem wE_none {Q : R α → Prop} : wE none Q ↔ False := ⟨fun ⟨_, e, q⟩ => (nomatch e), False.elim⟩
@[simp] theorem wS_none {Q : SR → Prop} : wS none Q ↔ False := ⟨fun ⟨_, e, q⟩ => (nomatch e), False.elim⟩
theorem wE.imp {r : Option (R α)} {Q Q' : R α → Prop} (h : wE r Q) (i : ∀ x, Q x → Q' x) : wE r Q' := let ⟨x, e, q⟩ := h; ⟨x, e, i x q⟩
theorem wS.imp {r : Option SR} {Q Q' : SR → Prop} (h : wS r Q) (i : ∀ x, Q x → Q' x) : wS r Q' := let ⟨x, e, q⟩ := h; ⟨x, e, i x q⟩
@[simp] theorem kE_ok {k : α → AH → Option (R β)} {Q : R β → Prop} {a : α} {h : AH} : kE k Q (.ok a h) ↔ wE (k a h) Q := Iff.rfl
@[simp] theorem kE_er {k : α → AH → Option (R β)} {Q : R β → Prop} {x : Exc} {h : AH} : kE k Q (.er x h) ↔ Q (.er x h) := Iff.rfl
@[simp] theorem kS_ok {ls : LS} {k : α → AH → Option SR} {Q : SR → Prop} {a : α} {h : AH} : kS ls k Q (.ok a h) ↔ wS (k a h) Q := Iff.rfl
@[simp] theorem kS_er {ls : LS} {k : α → AH → Option SR} {Q : SR → Prop} {x : Exc} {h : AH} : kS ls k Q (.er x h) ↔ Q (.er x ls h) := Iff.rfl
@[simp] theorem kQ_nx {r : List SM} {Q : SR → Prop} {ls : LS} {h : AH} : kQ r Q (.go .nx ls h) ↔ wS (sSeq r ls h) Q := Iff.rfl
@[simp] theorem kQ_rt {r : List SM} {Q : SR → Prop} {d : DV} {ls : LS} {h : AH} : kQ r Q (.go (.rt d) ls h) ↔ Q (.go (.rt d) ls h) := Iff.rfl
@[simp] theorem kQ_bk {r : List SM} {Q : SR → Prop} {ls : LS} {h : AH} : kQ r Q (.go .bk ls h) ↔ Q (.go .bk ls h) := Iff.rfl
@[simp] theorem kQ_ct {r : List SM} {Q : SR → Prop} {ls : LS} {h : AH} : kQ r Q (.go .ct ls h) ↔ Q (.go .ct ls h) := Iff.rfl
@[simp] theorem kQ_er {r : List SM} {Q : SR → Prop} {x : Exc} {ls : LS} {h : AH} : kQ r Q (.er x ls h) ↔ Q (.er x ls h) := Iff.rfl
@[simp] theorem wE_bd {r : Option (R α)} {k : α → AH → Option (R β)} {Q : R β → Prop} : wE (bd r k) Q ↔ wE r (kE k Q) := by
  cases r with
  | none => simp
  | some x => cases x <;> simp
@[simp] theorem wS_sE {r : Option (R α)} {ls : LS} {k : α → AH → Option SR} {Q : SR → Prop} : wS (sE r ls k) Q ↔ wE r (kS ls k Q) := by
  cases r with
  | none => simp
  | some x => cases x <;> simp
@[simp] theorem wE_if {p : Prop} [Decidable p] {a b : Option (R α)} {Q : R α → Prop} : wE (if p then a else b) Q ↔ (p → wE a Q) ∧ (¬ p → wE b Q) := by split <;> simp_all
@[simp] theorem wS_if {p : Prop} [Decidable p] {a b : Option SR} {Q : SR → Prop} : wS (if p then a else b) Q ↔ (p → wS a Q) ∧ (¬ p → wS b Q) := by split <;> simp_all
@[simp] theorem wE_up_if {p : Prop} [Decidable p] {a b : Option (DV × AH)} {Q : R DV → Prop} : wE (up (if p then a else b)) Q ↔ (p → wE (up a) Q) ∧ (¬ p → wE (up b) Q) := by split <;> simp_all
end
section
variable {ls : LS} {h : AH}
@[simp] theorem sSeq_nil {Q : SR → Prop} : wS (sSeq [] ls h) Q ↔ Q (.go .nx ls h) := wS_some
@[simp] theorem sSeq_cons {s : SM} {r : List SM} {Q : SR → Prop} : wS (sSeq (s :: r) ls h) Q ↔ wS (s ls h) (kQ r Q) := by
  show wS (match s ls h with
    | some (.go .nx ls' h') => sSeq r ls' h'
    | o => o) Q ↔ _
  cases q : s ls h with
  | none => simp
  | some x =>
    cases x with
    | go f ls' h' => cases f <;> simp
    | er x ls' h' => simp
theorem wS_cut {s : SM} {r : List SM} {Q : SR → Prop} (M : LS → AH → Prop) (h1 : wS (s ls h) (fun x => match x with
    | .go .nx ls' h' => M ls' h'
    | o => Q o)) (h2 : ∀ ls' h', M ls' h' → wS (sSeq r ls' h') Q) : wS (sSeq (s :: r) ls h) Q := by
  rw [sSeq_cons]
  refine h1.imp fun x hx => ?_
  cases x with
  | go f ls' h' =>
    cases f with
    | nx => exact h2 ls' h' hx
    | _ => exact hx
  | er x ls' h' => exact hx
/-! expressions -/
@[simp] theorem r_cVal {d : DV} : cVal d ls h = some (.ok d h) := rfl
@[simp] theorem r_cVar {i : Nat} : cVar i ls h = match ls[i]? with
  | some (some d) => some (.ok d h)
  | _ => none := rfl
@[simp] theorem r_cOp {op : DV → DV → AH → Option (DV × AH)} {f g : EM} : cOp op f g ls h = bd (f ls h) fun x h1 => bd (g ls h1) fun y h2 => up (op x y h2) := rfl
@[simp] theorem r_cUn {op : DV → AH → Option (DV × AH)} {f : EM} : cUn op f ls h = bd (f ls h) fun x h1 => up (op x h1) := rfl
@[simp] theorem r_cTru {f : EM} : cTru f ls h = bd (f ls h) fun x h1 => match truD h1 x with
  | some b => some (.ok b h1)
  | none => none := rfl
@[simp] theorem r_cNot {f : EM} : cNot f ls h = bd (cTru f ls h) fun b h1 => some (.ok (.bl (!b)) h1) := rfl
@[simp] theorem r_cAnd {f g : EM} : cAnd f g ls h = bd (f ls h) fun x h1 => match truD h1 x with
  | some true => g ls h1
  | some false => some (.ok x h1)
  | none => none := rfl
@[simp] theorem r_cOr {f g : EM} : cOr f g ls h = bd (f ls h) fun x h1 => match truD h1 x with
  | some true => some (.ok x h1)
  | some false => g ls h1
  | none => none := rfl
@[simp] theorem r_cIf {c f g : EM} : cIf c f g ls h = bd (cTru c ls h) fun b h1 => if b = true then f ls h1 else g ls h1 := rfl
@[simp] theorem r_args0 : cArgs [] ls h = some (.ok [] h) := rfl
@[simp] theorem r_args {f : EM} {fs : List EM} : cArgs (f :: fs) ls h = bd (f ls h) fun x h1 => bd (cArgs fs ls h1) fun xs h2 => some (.ok (x :: xs) h2) := rfl
@[simp] theorem r_cTup {fs : List EM} : cTup fs ls h = bd (cArgs fs ls h) fun xs h1 => up (newT xs h1) := rfl
@[simp] theorem r_cLst {fs : List EM} : cLst fs ls h = bd (cArgs fs ls h) fun xs h1 => up (newL xs h1) := rfl
@[simp] theorem r_cDic : cDic ls h = some (.ok (.ref h.length) (h ++ [.dic []])) := rfl
@[simp] theorem r_cPart0 : cPart none ls h = some (.ok none h) := rfl
@[simp] theorem r_cPart {f : EM} : cPart (some f) ls h = bd (f ls h) fun x h1 => match x with
    | .int i => some (.ok (some i) h1)
    | _ => none := rfl
@[simp] theorem r_cSl {f : EM} {lo hi : Option EM} : cSl f lo hi ls h = bd (f ls h) fun x h1 => bd (cPart lo ls h1) fun l h2 => bd (cPart hi ls h2) fun u h3 => up (slD x l u h3) := rfl
@[simp] theorem r_cBlt {b : Blt} {fs : List EM} : cBlt b fs ls h = bd (cArgs fs ls h) fun xs h1 => up (bltD b xs h1) := rfl
@[simp] theorem r_cMth {m : Mth} {f : EM} {fs : List EM} : cMth m f fs ls h = bd (f ls h) fun o h1 => if mtyOk m o h1 = true then bd (cArgs fs ls h1) fun xs h2 => up (mthD m o xs h2) else none := rfl
@[simp] theorem r_cCall {F : List DV → AH → Option (R DV)} {fs : List EM} : cCall F fs ls h = bd (cArgs fs ls h) fun xs h1 => F xs h1 := rfl
@[simp] theorem r_gNm {i : Nat} {d : DV} : gNm i d ls h = if i < ls.length then some (ls.set i (some d), h) else none := rfl
/-! statements -/
@[simp] theorem r_sExpr {f : EM} : sExpr f ls h = sE (f ls h) ls fun _ h1 => some (.go .nx ls h1) := rfl
@[simp] theorem r_sRet {f : EM} : sRet f ls h = sE (f ls h) ls fun d h1 => some (.go (.rt d) ls h1) := rfl
@[simp] theorem r_sRetN : sRetN ls h = some (.go (.rt .non) ls h) := rfl
@[simp] theorem r_sPass : sPass ls h = some (.go .nx ls h) := rfl
@[simp] theorem r_sBrk : sBrk ls h = some (.go .bk ls h) := rfl
@[simp] theorem r_sCont : sCont ls h = some (.go .ct ls h) := rfl
@[simp] theorem r_sRaise {x : Exc} : sRaise x ls h = some (.er x ls h) := rfl
@[simp] theorem r_sIf {c : EM} {a b : SM} : sIf c a b ls h = sE (cTru c ls h) ls fun k h1 => if k = true then a ls h1 else b ls h1 := rfl
@[simp] theorem r_sAsg {f : EM} {g : GM} : sAsg f g ls h = sE (f ls h) ls fun d h1 => match g d ls h1 with
  | some (ls', h2) => some (.go .nx ls' h2)
  | none => none := rfl
@[simp] theorem r_sSet {f o i : EM} : sSet f o i ls h = sE (f ls h) ls fun d h1 => sE (o ls h1) ls fun x h2 => sE (i ls h2) ls fun y h3 => match setD x y d h3 with
  | some h4 => some (.go .nx ls h4)
  | none => none := rfl
/-! values -/
variable {i j : Int} {a b : Bool} {x y : List Nat} {xs ys : List DV} {r : Nat}
@[simp] theorem b_add : binD .Add (.int i) (.int j) h = some (.int (i + j), h) := rfl
@[simp] theorem b_sub : binD .Sub (.int i) (.int j) h = some (.int (i - j), h) := rfl
@[simp] theorem b_mul : binD .Mult (.int i) (.int j) h = if mulOk i j = true then some (.int (i * j), h) else none := rfl
@[simp] theorem b_div : binD .FloorDiv (.int i) (.int j) h = if divOk j = true then some (.int (i / j), h) else none := rfl
@[simp] theorem b_mod : binD .Mod (.int i) (.int j) h = if 0 < j then some (.int (i % j), h) else none := rfl
@[simp] theorem b_cat : binD .Add (.str x) (.str y) h = if x.length + y.length ≤ LIM then some (.str (x ++ y), h) else none := rfl
@[simp] theorem c_up {op : CmpOp} {u v : DV} : cmpD op u v h = (cmpB op u v h).map fun b => (.bl b, h) := rfl
@[simp] theorem c_lt : cmpB .Lt (.int i) (.int j) h = some (decide (i < j)) := rfl
@[simp] theorem c_le : cmpB .LtE (.int i) (.int j) h = some (decide (i ≤ j)) := rfl
@[simp] theorem c_gt : cmpB .Gt (.int i) (.int j) h = some (decide (j < i)) := rfl
@[simp] theorem c_ge : cmpB .GtE (.int i) (.int j) h = some (decide (j ≤ i)) := rfl
@[simp] theorem c_eq {u v : DV} : cmpB .Eq u v h = eqD h u v := by cases u <;> cases v <;> rfl
@[simp] theorem c_ne {u v : DV} : cmpB .NotEq u v h = (eqD h u v).map (!·) := by cases u <;> cases v <;> rfl
@[simp] theorem e_int : eqD h (.int i) (.int j) = some (decide (i = j)) := rfl
@[simp] theorem e_str : eqD h (.str x) (.str y) = some (decide (x = y)) := rfl
@[simp] theorem e_bl : eqD h (.bl a) (.bl b) = some (decide (a = b)) := rfl
@[simp] theorem t_bl : truD h (.bl a) = some a := rfl
@[simp] theorem t_int : truD h (.int i) = some (i != 0) := rfl
@[simp] theorem l_lst {st : Bool} : bltD .len [.lst st xs] h = some (.int xs.length, h) := rfl
@[simp] theorem l_tup : bltD .len [.tup xs] h = some (.int xs.length, h) := rfl
@[simp] theorem l_str : bltD .len [.str x] h = if x.length ≤ LIM then some (.int x.length, h) else none := rfl
@[simp] theorem l_ref : bltD .len [.ref r] h = match h[r]? with
    | some (.lst xs) => some (.int xs.length, h)
    | some (.dic kvs) => some (.int kvs.length, h)
    | none => none := rfl
@[simp] theorem l_abs : bltD .abs [.int i] h = some (.int i.natAbs, h) := rfl
@[simp] theorem l_int : bltD .int [.int i] h = some (.int i, h) := rfl
@[simp] theorem s_lst {st : Bool} : subD (.lst st xs) (.int i) h = (atI xs i).map fun d => (d, h) := rfl
@[simp] theorem s_tup : subD (.tup xs) (.int i) h = (atI xs i).map fun d => (d, h) := rfl
@[simp] theorem s_str : subD (.str x) (.int i) h = if x.length ≤ LIM then (atI x i).map fun c => (.str [c], h) else none := rfl
@[simp] theorem s_ref {u : DV} : subD (.ref r) u h = match h[r]?, u with
    | some (.lst xs), .int i => (atI xs i).map fun d => (d, h)
    | some (.dic kvs), k => (keyOf k).bind fun k => (valD kvs k).map fun d => (d, h)
    | _, _ => none := rfl
@[simp] theorem st_ref {u v : DV} : setD (.ref r) u v h = match h[r]?, u with
    | some (.lst xs), .int i => (ixN xs.length i).map fun j => h.set r (.lst (xs.set j v))
    | some (.dic kvs), k => (keyOf k).bind fun k => if kvs.length < LIM then some (h.set r (.dic (putD kvs k v))) else none
    | _, _ => none := rfl
end
@[simp] theorem ixN_nat {n k : Nat} : ixN n (k : Int) = if k < n then some k else none := by unfold ixN; simp
@[simp] theorem atI_nat {α : Type} {xs : List α} {k : Nat} : atI xs (k : Int) = xs[k]? := by
  unfold atI
  rw [ixN_nat]
  split
  · rfl
  · rename_i h; exact (List.getElem?_eq_none (by omega)).symm
@[simp] theorem ixN_lit {n k : Nat} : ixN n (no_index (OfNat.ofNat k : Int)) = if k < n then some k else none := ixN_nat
@[simp] theorem atI_lit {α : Type} {xs : List α} {k : Nat} : atI xs (no_index (OfNat.ofNat k : Int)) = xs[k]? := atI_nat
theorem log2_le {n a : Nat} (h : n < 2 ^ a) : n.log2 ≤ a := by
  by_cases h0 : n = 0
  · subst h0; simp
  · exact Nat.le_of_lt ((Nat.log2_lt h0).mpr h)
theorem mulOk_of {i j : Int} (a b : Nat) (ha : i.natAbs < 2 ^ a) (hb : j.natAbs < 2 ^ b) (h : a + b < 100000000) : mulOk i j = true := by
  unfold mulOk
  have := log2_le ha
  have := log2_le hb
  exact decide_eq_true (by omega)
theorem divOk_of {j : Int} (h0 : 0 < j) (a : Nat) (ha : j.natAbs < 2 ^ a) (h : a < 9000) : divOk j = true := by
  unfold divOk
  have := log2_le ha
  simp [h0]; omega
@[simp] theorem divOk_lit {k : Nat} (h0 : 0 < k) (h : k < 18446744073709551616) : divOk (no_index (OfNat.ofNat k : Int)) = true :=
  divOk_of (j := (k : Int)) (by omega) 64 (by simpa using h) (by decide)
theorem atI_mod {α : Type} {xs : List α} {i : Int} (h : xs ≠ []) : ∃ k, k < xs.length ∧ atI xs (i % (xs.length : Int)) = xs[k]? := by
  have hl : 0 < xs.length := List.length_pos_iff.mpr h
  have h1 := Int.emod_nonneg i (b := (xs.length : Int)) (by omega)
  have h2 := Int.emod_lt_of_pos i (b := (xs.length : Int)) (by omega)
  obtain ⟨k, hk⟩ := Int.eq_ofNat_of_zero_le h1
  rw [hk, atI_nat]
  exact ⟨k, by omega, rfl⟩
/-- what a body hands back -/
def pR (P : DV → AH → Prop) : SR → Prop
  | .go (.rt d) _ h => P d h
  | .go .nx _ h => P .non h
  | _ => False
@[simp] theorem pR_rt {P : DV → AH → Prop} {d : DV} {ls : LS} {h : AH} : pR P (.go (.rt d) ls h) ↔ P d h := Iff.rfl
@[simp] theorem pR_nx {P : DV → AH → Prop} {ls : LS} {h : AH} : pR P (.go .nx ls h) ↔ P .non h := Iff.rfl
@[simp] theorem pR_er {P : DV → AH → Prop} {x : Exc} {ls : LS} {h : AH} : pR P (.er x ls h) ↔ False := Iff.rfl
@[simp] theorem pR_bk {P : DV → AH → Prop} {ls : LS} {h : AH} : pR P (.go .bk ls h) ↔ False := Iff.rfl
@[simp] theorem pR_ct {P : DV → AH → Prop} {ls : LS} {h : AH} : pR P (.go .ct ls h) ↔ False := Iff.rfl
/-! ### the drawn numbers -/
def isSt (N : Nat) (xs : List DV) : Prop := ∃ (ns : List Int) (i s2 : Int) (s3 : Nat), xs = [.lst true (ns.map .int), .int i, .int s2, .int s3] ∧ s3 ≤ N
theorem isSt.mono {M N : Nat} {xs : List DV} (h : isSt M xs) (l : M ≤ N) : isSt N xs := by
  obtain ⟨ns, i, s2, s3, e, k⟩ := h
  exact ⟨ns, i, s2, s3, e, Nat.le_trans k l⟩
def drawB : List SM := [
  sSet (cOp (binD .Add) (cOp subD (cVar 0) (cVal (.int 3))) (cVal (.int 1))) (cVar 0) (cVal (.int 3)),
  sIf (cOp (cmpD .Gt) (cOp subD (cVar 0) (cVal (.int 2))) (cVal (.int 0))) (sSeq [
    sAsg (cOp (binD .Mod) (cBlt .int [cOp subD (cVar 0) (cVal (.int 2))]) (cVar 1)) (gNm 2),
    sSet (cOp (binD .FloorDiv) (cOp subD (cVar 0) (cVal (.int 2))) (cVar 1)) (cVar 0) (cVal (.int 2)),
    sRet (cVar 2)]) (sSeq []),
  sAsg (cVal (.int 0)) (gNm 3),
  sIf (cOp (cmpD .Gt) (cBlt .len [cOp subD (cVar 0) (cVal (.int 0))]) (cVal (.int 0))) (sSeq [
    sAsg (cBlt .abs [cOp subD (cOp subD (cVar 0) (cVal (.int 0))) (cOp (binD .Mod) (cBlt .int [cOp subD (cVar 0) (cVal (.int 1))]) (cBlt .len [cOp subD (cVar 0) (cVal (.int 0))]))]) (gNm 3)]) (sSeq []),
  sSet (cOp (binD .Add) (cOp subD (cVar 0) (cVal (.int 1))) (cVal (.int 1))) (cVar 0) (cVal (.int 1)),
  sIf (cOp (cmpD .GtE) (cVar 3) (cOp (binD .Pow) (cVal (.int 10)) (cVal (.int 18)))) (sSeq [
    sSet (cOp (binD .FloorDiv) (cVar 3) (cVar 1)) (cVar 0) (cVal (.int 2)),
    sRet (cOp (binD .Mod) (cBlt .int [cVar 3]) (cVar 1))]) (sSeq []),
  sAsg (cOp (binD .Mod) (cBlt .int [cOp (binD .Add) (cOp (binD .Mult) (cOp (binD .Add) (cVar 3) (cVal (.int 1))) (cVal (.int 48271))) (cOp (binD .Mult) (cOp subD (cVar 0) (cVal (.int 3))) (cVal (.int 69621)))]) (cVal (.int 2147483647))) (gNm 4),
  sAsg (cOp (binD .Mod) (cBlt .int [cOp (binD .Add) (cOp (binD .Add) (cOp (binD .Mult) (cVar 4) (cVal (.int 16807))) (cOp (binD .FloorDiv) (cVar 3) (cVal (.int 97)))) (cOp subD (cVar 0) (cVal (.int 3)))]) (cVal (.int 2147483629))) (gNm 4),
  sRet (cOp (binD .Mod) (cOp (binD .FloorDiv) (cVar 4) (cVal (.int 11))) (cVar 1))]
theorem draw_run {N : Nat} {xs : List DV} {most : Int} (hs : isSt N xs) (hN : N < 10 ^ 12) (hm : 0 < most) (hd : divOk most = true) :
    wS (sSeq drawB [some (.ref 0), some (.int most), none, none, none] [.lst xs]) (pR fun d h => ∃ v, d = .int v ∧ (0 ≤ v ∧ v < most) ∧ ∃ xs', h = [.lst xs'] ∧ isSt (N + 1) xs') := by
  obtain ⟨ns, i, s2, s3, rfl, hk⟩ := hs
  have st : ∀ i2 t2 : Int, isSt (N + 1) [DV.lst true (ns.map .int), .int i2, .int t2, .int ((s3 : Int) + 1)] := fun i2 t2 => ⟨ns, i2, t2, s3 + 1, by simp, by omega⟩
  have m1 : ∀ v : Int, 0 ≤ v % most := fun v => Int.emod_nonneg _ (by omega)
  have m2 : ∀ v : Int, v % most < most := fun v => Int.emod_lt_of_pos _ hm
  unfold drawB
  refine wS_cut (M := fun ls h => ls = [some (.ref 0), some (.int most), none, none, none] ∧ h = [.lst [.lst true (ns.map .int), .int i, .int s2, .int ((s3 : Int) + 1)]]) (by simp) ?_
  rintro _ _ ⟨rfl, rfl⟩
  by_cases h2 : 0 < s2
  · simp [h2, hm, hd, m1, m2, st, Int.not_le.mpr h2]
  · refine wS_cut (M := fun ls h => ls = [some (.ref 0), some (.int most), none, none, none] ∧ h = [.lst [.lst true (ns.map .int), .int i, .int s2, .int ((s3 : Int) + 1)]]) (by simp [h2]) ?_
    rintro _ _ ⟨rfl, rfl⟩
    refine wS_cut (M := fun ls h => ls = [some (.ref 0), some (.int most), none, some (.int 0), none] ∧ h = [.lst [.lst true (ns.map .int), .int i, .int s2, .int ((s3 : Int) + 1)]]) (by simp) ?_
    rintro _ _ ⟨rfl, rfl⟩
    refine wS_cut (M := fun ls h => ∃ c : Nat, ls = [some (.ref 0), some (.int most), none, some (.int c), none] ∧ h = [.lst [.lst true (ns.map .int), .int i, .int s2, .int ((s3 : Int) + 1)]]) ?_ ?_
    · by_cases hn : ns = []
      · subst hn; simp; exact ⟨0, rfl⟩
      · obtain ⟨k, k1, k2⟩ := atI_mod (xs := ns.map DV.int) (i := i) (by simpa using hn)
        have hl : 0 < ns.length := List.length_pos_iff.mpr hn
        simp only [List.length_map] at k1 k2
        rw [List.getElem?_map, List.getElem?_eq_getElem k1] at k2
        simp [hl, k2, hn]
        exact ⟨_, rfl⟩
    · rintro _ _ ⟨c, rfl, rfl⟩
      refine wS_cut (M := fun ls h => ls = [some (.ref 0), some (.int most), none, some (.int c), none] ∧ h = [.lst [.lst true (ns.map .int), .int (i + 1), .int s2, .int ((s3 : Int) + 1)]]) (by simp) ?_
      rintro _ _ ⟨rfl, rfl⟩
      by_cases hc : (1000000000000000000 : Int) ≤ c
      · simp [binD, powOk, hc, hm, hd, m1, m2, st, Int.not_lt.mpr hc]
      · have hc' : (c : Int) < 1000000000000000000 := by omega
        refine wS_cut (M := fun ls h => ls = [some (.ref 0), some (.int most), none, some (.int c), none] ∧ h = [.lst [.lst true (ns.map .int), .int (i + 1), .int s2, .int ((s3 : Int) + 1)]]) (by simp [binD, powOk, hc]) ?_
        rintro _ _ ⟨rfl, rfl⟩
        have q1 : mulOk ((c : Int) + 1) 48271 = true := mulOk_of 64 16 (by omega) (by decide) (by decide)
        have q2 : mulOk ((s3 : Int) + 1) 69621 = true := mulOk_of 64 17 (by omega) (by decide) (by decide)
        refine wS_cut (M := fun ls h => ∃ m : Int, 0 ≤ m ∧ m < 2147483647 ∧ ls = [some (.ref 0), some (.int most), none, some (.int c), some (.int m)] ∧ h = [.lst [.lst true (ns.map .int), .int (i + 1), .int s2, .int ((s3 : Int) + 1)]]) (by simp [q1, q2]; omega) ?_
        rintro _ _ ⟨m, h1, h2, rfl, rfl⟩
        have q3 : mulOk m 16807 = true := mulOk_of 64 17 (by omega) (by decide) (by decide)
        simp [q3, hm, hd, m1, m2, st]
end P3


set_option maxRecDepth 100000
set_option maxHeartbeats 2000000
set_option autoImplicit false
/-! Calls, loops; the laws' common helpers. -/
namespace P3
open PySem L2
/-! ### own values -/
mutual
theorem snap_own {st : Bool} {dr : Nat → Option (List DV)} : ∀ {d : DV}, d.own = true → snapW st dr d = some d
  | .non, _ | .bl _, _ | .int _, _ | .str _, _ | .ty _, _ => rfl
  | .tup xs, h => by
    show (snapWs st dr xs).map DV.tup = _
    rw [snaps_own (show DV.owns xs = true from h)]; rfl
  | .lst b xs, h => by
    have h' : (b && DV.owns xs) = true := h
    rw [Bool.and_eq_true] at h'
    obtain ⟨rfl, h2⟩ := h'
    show (if (!true && st) = true then none else (snapWs st dr xs).map (DV.lst true)) = _
    rw [snaps_own h2]; simp
  | .ref _, h => by cases h
theorem snaps_own {st : Bool} {dr : Nat → Option (List DV)} : ∀ {ds : List DV}, DV.owns ds = true → snapWs st dr ds = some ds
  | [], _ => rfl
  | d :: ds, h => by
    have h' : (d.own && DV.owns ds) = true := h
    rw [Bool.and_eq_true] at h'
    show (match snapW st dr d, snapWs st dr ds with
      | some y, some ys => some (y :: ys)
      | _, _ => none) = _
    rw [snap_own h'.1, snaps_own h'.2]
end
@[simp] theorem own_non : DV.own .non = true := rfl
@[simp] theorem own_bl {b : Bool} : DV.own (.bl b) = true := rfl
@[simp] theorem own_int {i : Int} : DV.own (.int i) = true := rfl
@[simp] theorem own_str {x : List Nat} : DV.own (.str x) = true := rfl
@[simp] theorem own_tup {xs : List DV} : DV.own (.tup xs) = DV.owns xs := rfl
@[simp] theorem own_lst {b : Bool} {xs : List DV} : DV.own (.lst b xs) = (b && DV.owns xs) := rfl
@[simp] theorem owns_nil : DV.owns [] = true := rfl
@[simp] theorem owns_cons {d : DV} {ds : List DV} : DV.owns (d :: ds) = (d.own && DV.owns ds) := rfl
theorem owns_iff {ds : List DV} : DV.owns ds = true ↔ ∀ d ∈ ds, d.own = true := by
  induction ds with
  | nil => simp
  | cons d ds ih => simp [ih]
@[simp] theorem owns_ints {ns : List Int} : DV.owns (ns.map DV.int) = true := owns_iff.mpr fun d hd => by
  obtain ⟨i, _, rfl⟩ := List.mem_map.mp hd; rfl
@[simp] theorem owns_strs {ns : List (List Nat)} : DV.owns (ns.map DV.str) = true := owns_iff.mpr fun d hd => by
  obtain ⟨i, _, rfl⟩ := List.mem_map.mp hd; rfl
theorem brw_own {ex : List Nat} {h : AH} {ds : List DV} (o : DV.owns ds = true) : brw ex h ds = some ds := snaps_own o
theorem kpt_own {ex : List Nat} {h : AH} {ds : List DV} (o : DV.owns ds = true) : kpt ex h ds = some ds := snaps_own o
/-! ### calls -/
def runB (n m : Nat) (B : List SM) (ds : List DV) (h : AH) : Option (R DV) := if ds.length = n then retOf (sSeq B (ds.map some ++ List.replicate (m - ds.length) none) h) else none
theorem call_eq {G : GE} {T : List FD} {d : Nat} {x : Str} {f : FD} {B : List SM} (n m : Nat) (hf : findF T x = some f) (hn : f.ps.length = n) (hm : f.N.length = m) (hB : f.body.map (denS G (callN G T d) DEPTH ⟨f.N, f.sc, none⟩) = B) :
    ∀ ds h, callN G T (d + 1) x ds h = match f.kind with
      | 0 => apart (runB n m B) ds h
      | 1 => inout (runB n m B) ds h
      | _ => runB n m B ds h := by
  intro ds h
  subst hn hm hB
  show (match findF T x with | some f => _ | none => none) = _
  rw [hf]; try rfl
theorem wS_ret {B : List SM} {n m : Nat} {ds : List DV} {h : AH} {P : DV → AH → Prop} (hn : ds.length = n) (w : wS (sSeq B (ds.map some ++ List.replicate (m - ds.length) none) h) (pR P)) : ∃ d h', runB n m B ds h = some (.ok d h') ∧ P d h' := by
  obtain ⟨x, e, q⟩ := w
  unfold runB
  rw [if_pos hn, e]
  cases x with
  | go fl ls' h' =>
    cases fl with
    | nx => exact ⟨_, _, rfl, q⟩
    | rt d => exact ⟨_, _, rfl, q⟩
    | bk => exact q.elim
    | ct => exact q.elim
  | er x ls' h' => exact q.elim
def isEr (y : Exc) : SR → Prop
  | .er x _ _ => x = y
  | _ => False
@[simp] theorem isEr_er {x y : Exc} {ls : LS} {h : AH} : isEr y (.er x ls h) ↔ x = y := Iff.rfl
@[simp] theorem isEr_go {y : Exc} {f : Fl} {ls : LS} {h : AH} : isEr y (.go f ls h) ↔ False := Iff.rfl
theorem wS_err {B : List SM} {n m : Nat} {ds : List DV} {h : AH} {y : Exc} (hn : ds.length = n) (w : wS (sSeq B (ds.map some ++ List.replicate (m - ds.length) none) h) (isEr y)) : ∃ h', runB n m B ds h = some (.er y h') := by
  obtain ⟨x, e, q⟩ := w
  unfold runB
  rw [if_pos hn, e]
  cases x with
  | go fl ls' h' => exact q.elim
  | er x ls' h' => exact ⟨h', by rw [show x = y from q]; rfl⟩
/-- a read-only callee hands back a value of its own -/
theorem apart_val {B : List SM} {n m : Nat} {ds es : List DV} {h : AH} {D : DV} (hb : brw [] h ds = some es) (hn : es.length = n) (hD : D.own = true) (w : wS (sSeq B (es.map some ++ List.replicate (m - es.length) none) []) (pR fun d _ => d = D)) :
    apart (runB n m B) ds h = some (.ok D h) := by
  obtain ⟨d, h', e, rfl⟩ := wS_ret hn w
  unfold apart
  rw [hb]
  show (runB n m B es []).bind (apartE h) = _
  rw [e]
  show apartE h (.ok d h') = _
  unfold apartE
  have k : kpt [] h' [d] = some [d] := kpt_own (by simp [hD])
  cases d <;> first | (cases hD; done) | simp [isRef, k]
theorem apart_er {B : List SM} {n m : Nat} {ds es : List DV} {h : AH} {c : Str} (hb : brw [] h ds = some es) (hn : es.length = n) (w : wS (sSeq B (es.map some ++ List.replicate (m - es.length) none) []) (isEr ⟨c, []⟩)) :
    apart (runB n m B) ds h = some (.er ⟨c, []⟩ h) := by
  obtain ⟨h', e⟩ := wS_err hn w
  unfold apart
  rw [hb]
  show (runB n m B es []).bind (apartE h) = _
  rw [e]
  rfl
/-- .. a new list -/
theorem apart_list {B : List SM} {n m : Nat} {ds es : List DV} {h : AH} {P : List DV → Prop} (hb : brw [] h ds = some es) (hn : es.length = n)
    (w : wS (sSeq B (es.map some ++ List.replicate (m - es.length) none) []) (pR fun d h' => ∃ j xs ys, d = .ref j ∧ h'[j]? = some (.lst xs) ∧ kpt [j] h' xs = some ys ∧ P ys)) :
    ∃ ys, apart (runB n m B) ds h = some (.ok (.ref h.length) (h ++ [.lst ys])) ∧ P ys := by
  obtain ⟨d, h', e, j, xs, ys, rfl, e1, e2, p⟩ := wS_ret hn w
  refine ⟨ys, ?_, p⟩
  unfold apart
  rw [hb]
  show (runB n m B es []).bind (apartE h) = _
  rw [e]
  show apartE h (.ok (.ref j) h') = _
  unfold apartE
  have : lstAt h' j = some xs := by unfold lstAt; rw [e1]
  simp [isRef, this, e2]
/-- a callee that changes its first argument -/
theorem inout_val {B : List SM} {n m r : Nat} {xs ds es : List DV} {h : AH} {P : DV → List DV → Prop} (hr : h[r]? = some (.lst xs)) (ho : DV.owns xs = true) (hb : brw [r] h ds = some es) (hn : es.length + 1 = n)
    (w : wS (sSeq B ((.ref 0 :: es).map some ++ List.replicate (m - (es.length + 1)) none) [.lst xs]) (pR fun d h' => d.own = true ∧ ∃ ys, h'[0]? = some (.lst ys) ∧ DV.owns ys = true ∧ P d ys)) :
    ∃ d ys, inout (runB n m B) (.ref r :: ds) h = some (.ok d (h.set r (.lst ys))) ∧ P d ys := by
  obtain ⟨d, h', e, hd, ys, e1, e2, p⟩ := wS_ret (ds := .ref 0 :: es) (by simpa using hn) w
  refine ⟨d, ys, ?_, p⟩
  unfold inout
  have : lstAt h r = some xs := by unfold lstAt; rw [hr]
  simp only [this, hb, ho, if_true]
  rw [e]
  show inoutE r h (.ok d h') = _
  have k0 : lstAt h' 0 = some ys := by unfold lstAt; rw [e1]
  have k1 : kpt [0] h' [d] = some [d] := kpt_own (by simp [hd])
  have k2 : kpt [0] h' ys = some ys := kpt_own e2
  unfold inoutE
  cases d <;> first | (cases hd; done) | simp [isRef, k0, k1, k2]
theorem inout_list {B : List SM} {n m r : Nat} {xs ds es : List DV} {h : AH} {P : List DV → List DV → Prop} (hr : h[r]? = some (.lst xs)) (ho : DV.owns xs = true) (hb : brw [r] h ds = some es) (hn : es.length + 1 = n)
    (w : wS (sSeq B ((.ref 0 :: es).map some ++ List.replicate (m - (es.length + 1)) none) [.lst xs]) (pR fun d h' => ∃ j us zs ys, d = .ref j ∧ j ≠ 0 ∧ h'[j]? = some (.lst us) ∧ kpt [0, j] h' us = some zs ∧ h'[0]? = some (.lst ys) ∧ DV.owns ys = true ∧ P zs ys)) :
    ∃ zs ys, inout (runB n m B) (.ref r :: ds) h = some (.ok (.ref h.length) (h.set r (.lst ys) ++ [.lst zs])) ∧ P zs ys := by
  obtain ⟨d, h', e, j, us, zs, ys, rfl, hj, e1, e2, e3, e4, p⟩ := wS_ret (ds := .ref 0 :: es) (by simpa using hn) w
  refine ⟨zs, ys, ?_, p⟩
  unfold inout
  have : lstAt h r = some xs := by unfold lstAt; rw [hr]
  simp only [this, hb, ho, if_true]
  rw [e]
  show inoutE r h (.ok (.ref j) h') = _
  have k0 : lstAt h' 0 = some ys := by unfold lstAt; rw [e3]
  have k1 : lstAt h' j = some us := by unfold lstAt; rw [e1]
  have k2 : kpt [0, j] h' ys = some ys := kpt_own e4
  unfold inoutE
  simp [isRef, k0, k1, k2, e2, hj]
/-! ### loops -/
/-- a turn's end -/
def kL (I : LS → AH → Prop) (Q : SR → Prop) : SR → Prop
  | .go .nx ls h => I ls h
  | .go .ct ls h => I ls h
  | .go .bk ls h => Q (.go .nx ls h)
  | o => Q o
section
variable {I : LS → AH → Prop} {Q : SR → Prop} {ls : LS} {h : AH}
@[simp] theorem kL_nx : kL I Q (.go .nx ls h) ↔ I ls h := Iff.rfl
@[simp] theorem kL_ct : kL I Q (.go .ct ls h) ↔ I ls h := Iff.rfl
@[simp] theorem kL_bk : kL I Q (.go .bk ls h) ↔ Q (.go .nx ls h) := Iff.rfl
@[simp] theorem kL_rt {d : DV} : kL I Q (.go (.rt d) ls h) ↔ Q (.go (.rt d) ls h) := Iff.rfl
@[simp] theorem kL_er {x : Exc} : kL I Q (.er x ls h) ↔ Q (.er x ls h) := Iff.rfl
end
theorem w_loop {nx : Nat → AH → Option (Option DV)} {g : GM} {b : SM} {n : Nat} {it : Nat → DV} {Q : SR → Prop} (I : Nat → LS → AH → Prop) (hnx : ∀ i ls h, i < n → I i ls h → nx i h = some (some (it i))) (hend : ∀ ls h, I n ls h → nx n h = some none)
    (step : ∀ i ls h, i < n → I i ls h → ∃ ls1 h1, g (it i) ls h = some (ls1, h1) ∧ wS (b ls1 h1) (kL (I (i + 1)) Q)) (fin : ∀ ls h, I n ls h → Q (.go .nx ls h)) :
    ∀ (k i : Nat) (ls : LS) (h : AH), i + k = n → I i ls h → wS (loopN nx g b k i ls h) Q
  | 0, i, ls, h, e, hi => by
    simp only [Nat.add_zero] at e
    subst e
    unfold loopN
    rw [hend ls h hi]
    exact wS_some.mpr (fin ls h hi)
  | k + 1, i, ls, h, e, hi => by
    have hlt : i < n := by omega
    obtain ⟨ls1, h1, eg, x, ex, q⟩ := step i ls h hlt hi
    unfold loopN
    simp only [hnx i ls h hlt hi, eg, ex]
    cases x with
    | go f ls' h' =>
      cases f with
      | nx => exact w_loop I hnx hend step fin k (i + 1) ls' h' (by omega) q
      | ct => exact w_loop I hnx hend step fin k (i + 1) ls' h' (by omega) q
      | bk => exact wS_some.mpr q
      | rt d => exact wS_some.mpr q
    | er y ls' h' => exact wS_some.mpr q
/-- for over the items of a value that stays -/
theorem w_forV {xs : List DV} {g : GM} {b : SM} {Q : SR → Prop} {ls : LS} {h : AH} (I : Nat → LS → AH → Prop) (h0 : I 0 ls h)
    (step : ∀ (i : Nat) (d : DV) (ls : LS) (h : AH), xs[i]? = some d → I i ls h → ∃ ls1 h1, g d ls h = some (ls1, h1) ∧ wS (b ls1 h1) (kL (I (i + 1)) Q)) (fin : ∀ ls h, I xs.length ls h → Q (.go .nx ls h)) :
    wS (loopN (itV xs).nx g b (itV xs).fuel 0 ls h) Q := by
  refine w_loop (n := xs.length) (it := fun i => xs.getD i .non) I (fun i ls h hi _ => ?_) (fun ls h _ => ?_) (fun i ls h hi q => step i _ ls h (by simp [List.getD, List.getElem?_eq_getElem hi]) q) fin _ 0 ls h (by simp [itV]) h0
  · show some xs[i]? = _
    simp [List.getD, List.getElem?_eq_getElem hi]
  · show some xs[xs.length]? = _
    simp
/-- for over range -/
theorem w_forR {lo st : Int} {n : Nat} {g : GM} {b : SM} {Q : SR → Prop} {ls : LS} {h : AH} (I : Nat → LS → AH → Prop) (h0 : I 0 ls h)
    (step : ∀ (i : Nat) (ls : LS) (h : AH), i < n → I i ls h → ∃ ls1 h1, g (.int (lo + (i : Int) * st)) ls h = some (ls1, h1) ∧ wS (b ls1 h1) (kL (I (i + 1)) Q)) (fin : ∀ ls h, I n ls h → Q (.go .nx ls h)) :
    wS (loopN (itR lo st n).nx g b (itR lo st n).fuel 0 ls h) Q := by
  refine w_loop (n := n) (it := fun i => .int (lo + (i : Int) * st)) I (fun i ls h hi _ => ?_) (fun ls h _ => ?_) (fun i ls h hi q => step i ls h hi q) fin _ 0 ls h (by simp [itR]) h0
  · show (if i < n then _ else _) = _
    rw [if_pos hi]
  · show (if n < n then _ else _) = _
    rw [if_neg (Nat.lt_irrefl n)]
/-- while: each turn makes the measure smaller -/
theorem w_while {c : EM} {b : SM} {Q : SR → Prop} (I : Nat → LS → AH → Prop)
    (step : ∀ m ls h, I m ls h → wE (cTru c ls h) (fun x => match x with
      | .ok true h1 => 0 < m ∧ wS (b ls h1) (kL (fun ls' h' => ∃ m', m' < m ∧ I m' ls' h') Q)
      | .ok false h1 => Q (.go .nx ls h1)
      | .er x h1 => Q (.er x ls h1))) :
    ∀ (k m : Nat) (ls : LS) (h : AH), m < k → I m ls h → wS (whN c b k ls h) Q
  | 0, m, ls, h, e, hi => by omega
  | k + 1, m, ls, h, e, hi => by
    obtain ⟨x, ex, q⟩ := step m ls h hi
    unfold whN
    rw [ex]
    cases x with
    | er x h1 => exact wS_some.mpr q
    | ok t h1 =>
      cases t with
      | false => exact wS_some.mpr q
      | true =>
        obtain ⟨h0, y, ey, q⟩ := q
        simp only [sE_ok, if_true, ey]
        cases y with
        | go f ls' h' =>
          cases f with
          | nx => obtain ⟨m', hm, hI⟩ := q; exact w_while I step k m' ls' h' (by omega) hI
          | ct => obtain ⟨m', hm, hI⟩ := q; exact w_while I step k m' ls' h' (by omega) hI
          | bk => exact wS_some.mpr q
          | rt d => exact wS_some.mpr q
        | er y ls' h' => exact wS_some.mpr q
@[simp] theorem w_sFor {it : IM} {g : GM} {b : SM} {Q : SR → Prop} {ls : LS} {h : AH} : wS (sFor it g b ls h) Q ↔ wE (it ls h) (kS ls (fun j h1 => loopN j.nx g b j.fuel 0 ls h1) Q) := wS_sE
theorem w_sWh {c : EM} {b : SM} {Q : SR → Prop} {ls : LS} {h : AH} (I : Nat → LS → AH → Prop) (m : Nat) (hm : m < 10000000) (h0 : I m ls h)
    (step : ∀ m ls h, I m ls h → wE (cTru c ls h) (fun x => match x with
      | .ok true h1 => 0 < m ∧ wS (b ls h1) (kL (fun ls' h' => ∃ m', m' < m ∧ I m' ls' h') Q)
      | .ok false h1 => Q (.go .nx ls h1)
      | .er x h1 => Q (.er x ls h1))) : wS (sWh c b ls h) Q := w_while I step WF m ls h hm h0
section
variable {ls : LS} {h : AH}
@[simp] theorem r_iVal {f : EM} : iVal f ls h = bd (f ls h) fun x h1 => match itOf h1 x with
  | some it => some (.ok it h1)
  | none => none := rfl
@[simp] theorem io_lst {st : Bool} {xs : List DV} : itOf h (.lst st xs) = some (itV xs) := rfl
@[simp] theorem io_tup {xs : List DV} : itOf h (.tup xs) = some (itV xs) := rfl
@[simp] theorem io_str {x : List Nat} : itOf h (.str x) = some (itV (x.map fun c => .str [c])) := rfl
@[simp] theorem r_rng1 {f : EM} : iRng1 f ls h = bd (cArgs [f] ls h) fun xs h1 => match xs with
  | [.int j] => if -(2 ^ 62) ≤ j ∧ j < 2 ^ 62 then some (.ok (itR 0 1 j.toNat) h1) else none
  | _ => none := rfl
@[simp] theorem r_rng2 {f g : EM} : iRng2 f g ls h = bd (cArgs [f, g] ls h) fun xs h1 => match xs with
  | [.int i, .int j] => if -(2 ^ 62) ≤ i ∧ i < 2 ^ 62 ∧ -(2 ^ 62) ≤ j ∧ j < 2 ^ 62 then some (.ok (itR i 1 (j - i).toNat) h1) else none
  | _ => none := rfl
@[simp] theorem r_rng3 {f g k : EM} : iRng3 f g k ls h = bd (cArgs [f, g, k] ls h) fun xs h1 => match xs with
  | [.int i, .int j, .int c] => if rngOk i j c = true then some (.ok (itR i c (rngN i j c)) h1) else none
  | _ => none := rfl
end
/-! ### draws -/
def IsDraw (cf : Str → List DV → AH → Option (R DV)) : Prop := ∀ ds h, cf "_law_draw" ds h = inout (runB 2 5 drawB) ds h
theorem isSt.own {N : Nat} {xs : List DV} (h : isSt N xs) : DV.owns xs = true := by
  obtain ⟨ns, i, s2, s3, rfl, _⟩ := h
  simp
theorem w_draw {cf : Str → List DV → AH → Option (R DV)} (D : IsDraw cf) {N r : Nat} {xs : List DV} {most : Int} {h : AH} {Q : R DV → Prop} (hr : h[r]? = some (.lst xs)) (hs : isSt N xs) (hN : N < 10 ^ 12) (hm : 0 < most) (hm2 : most < 2 ^ 64)
    (K : ∀ v xs', 0 ≤ v → v < most → isSt (N + 1) xs' → Q (.ok (.int v) (h.set r (.lst xs')))) : wE (cf "_law_draw" [.ref r, .int most] h) Q := by
  rw [D]
  obtain ⟨d, ys, e, p⟩ := inout_val (B := drawB) (n := 2) (m := 5) (r := r) (ds := [.int most]) (P := fun d ys => ∃ v, d = .int v ∧ (0 ≤ v ∧ v < most) ∧ isSt (N + 1) ys) hr hs.own (brw_own (by simp)) rfl
    ((draw_run hs hN hm (divOk_of hm 64 (by omega) (by decide))).imp fun x hx => by
      cases x with
      | er x ls h => exact hx
      | go f ls h =>
        cases f with
        | rt d => obtain ⟨v, rfl, hv, xs', rfl, p⟩ := hx; exact ⟨rfl, xs', rfl, p.own, v, rfl, hv, p⟩
        | nx => obtain ⟨v, e, _⟩ := hx; cases e
        | bk => exact hx
        | ct => exact hx)
  obtain ⟨v, rfl, hv, p⟩ := p
  rw [e]
  exact wE_some.mpr (K v ys hv.1 hv.2 p)
end P3


set_option maxRecDepth 100000
set_option maxHeartbeats 2000000
set_option autoImplicit false
/-! start, shuffled, is_int, same. -/
namespace P3
open PySem L2
def startB : List SM := [sRet (cLst [cBlt .list [cVar 0], cVal (.int 0), cVal (.int 0), cVal (.int 0)])]
def IsStart (cf : Str → List DV → AH → Option (R DV)) : Prop := ∀ ds h, cf "_law_start" ds h = apart (runB 1 1 startB) ds h
theorem w_start {cf : Str → List DV → AH → Option (R DV)} (D : IsStart cf) {ns : List Int} {h : AH} : ∃ xs, cf "_law_start" [.lst true (ns.map .int)] h = some (.ok (.ref h.length) (h ++ [.lst xs])) ∧ isSt 0 xs := by
  rw [D]
  refine apart_list (es := [.lst true (ns.map .int)]) (P := isSt 0) (brw_own (by simp)) rfl ?_
  simp [startB, bltD, seqOf, newL, LIM]
  refine ⟨[.lst true (ns.map .int), .int 0, .int 0, .int 0], ?_, ns, 0, 0, 0, rfl, Nat.le_refl _⟩
  show (match snapW true _ (.ref 0), snapWs true _ [.int 0, .int 0, .int 0] with
    | some y, some ys => some (y :: ys)
    | _, _ => none) = _
  have : snapW true (drN true [1] [.lst (ns.map DV.int), .lst [.ref 0, .int 0, .int 0, .int 0]] 4) (.ref 0) = some (.lst true (ns.map .int)) := by
    show ((if ([1] : List Nat).contains 0 = true then none else snapWs true _ (ns.map DV.int)).map (DV.lst true)) = _
    rw [snaps_own (by simp)]; rfl
  rw [this]; rfl
def shufB (cf : Str → List DV → AH → Option (R DV)) : List SM := [
  sAsg (cLst []) (gNm 2),
  sFor (iVal (cVar 1)) (gNm 3) (sSeq [sExpr (cMth .insert (cVar 2) [cCall (cf "_law_draw") [cVar 0, cOp (binD .Add) (cBlt .len [cVar 2]) (cVal (.int 1))], cVar 3])]),
  sRet (cVar 2)]
theorem w_shuf {cf : Str → List DV → AH → Option (R DV)} (D : IsDraw cf) {N r : Nat} {xs items : List DV} {h : AH} {it : DV} (hr : h[r]? = some (.lst xs)) (hs : isSt N xs) (hN : N + items.length < 10 ^ 12) (hl : items.length < 10 ^ 6) (ho : DV.owns items = true) (hb : brw [r] h [it] = some [.lst false items]) :
    ∃ zs ys, inout (runB 2 4 (shufB cf)) [.ref r, it] h = some (.ok (.ref h.length) (h.set r (.lst ys) ++ [.lst zs])) ∧ zs.Perm items ∧ isSt (N + items.length) ys := by
  refine inout_list (es := [.lst false items]) (P := fun zs ys => zs.Perm items ∧ isSt (N + items.length) ys) hr hs.own hb rfl ?_
  refine wS_cut (M := fun ls h' => ls = [some (.ref 0), some (.lst false items), some (.ref 1), none] ∧ h' = [.lst xs, .lst []]) (by simp [newL]) ?_
  rintro _ _ ⟨rfl, rfl⟩
  refine wS_cut (M := fun ls h' => ∃ o ys zs, ls = [some (.ref 0), some (.lst false items), some (.ref 1), o] ∧ h' = [.lst ys, .lst zs] ∧ zs.Perm items ∧ isSt (N + items.length) ys) ?_ ?_
  · simp
    refine w_forV (I := fun i ls h' => ∃ o ys zs, ls = [some (.ref 0), some (.lst false items), some (.ref 1), o] ∧ h' = [.lst ys, .lst zs] ∧ zs.Perm (items.take i) ∧ isSt (N + i) ys) ⟨none, xs, [], rfl, rfl, by simp, by simpa using hs⟩ ?_ ?_
    · rintro i d ls h' hi ⟨o, ys, zs, rfl, rfl, hp, hst⟩
      have hlt : i < items.length := (List.getElem?_eq_some_iff.mp hi).1
      have hzl : zs.length = i := by rw [hp.length_eq, List.length_take]; omega
      refine ⟨[some (.ref 0), some (.lst false items), some (.ref 1), some d], [.lst ys, .lst zs], rfl, ?_⟩
      simp [mtyOk]
      refine w_draw D (by rfl) hst (by omega) (by omega) (by omega) fun v ys' h0 h1 h2 => ?_
      have c1 : zs.length < LIM := by unfold LIM; omega
      simp [mthD, h0, c1]
      refine ⟨fun _ => ⟨ys', _, ⟨rfl, rfl⟩, ?_, h2⟩, by omega⟩
      · have e : items.take (i + 1) = items.take i ++ [d] := by rw [List.take_add_one, hi]; rfl
        rw [e]
        exact List.perm_middle.trans ((List.Perm.cons d (by rw [List.take_append_drop]; exact hp)).trans (List.perm_append_singleton d _).symm)
    · rintro ls h' ⟨o, ys, zs, rfl, rfl, hp, hst⟩
      exact ⟨⟨o, rfl⟩, ys, zs, rfl, by simpa using hp, hst⟩
  · rintro _ _ ⟨o, ys, zs, rfl, rfl, hp, hst⟩
    have oz : DV.owns zs = true := owns_iff.mpr fun d hd => owns_iff.mp ho d (hp.mem_iff.mp hd)
    simp
    exact ⟨zs, kpt_own oz, hst.own, hp, hst⟩
/-! texts of numbers -/
def AllD (x : List Nat) : Prop := ∀ c ∈ x, 48 ≤ c ∧ c ≤ 57
/-- r with k digits -/
def padk : Nat → Nat → List Nat
  | 0, _ => []
  | k + 1, r => padk k (r / 10) ++ [48 + r % 10]
theorem padk_len : ∀ (k r : Nat), (padk k r).length = k
  | 0, _ => rfl
  | k + 1, r => by simp [padk, padk_len k]
theorem padk_zero : ∀ k : Nat, padk k 0 = List.replicate k 48
  | 0 => rfl
  | k + 1 => by simp [padk, padk_zero k, List.replicate_succ']
theorem numL_len1 (n : Nat) : 0 < (TL.numL n).length := List.length_pos_iff.mpr (TL.numL_ne n)
theorem pad_num : ∀ (k r : Nat), r < 10 ^ (k + 1) → List.replicate (k + 1 - (TL.numL r).length) 48 ++ TL.numL r = padk (k + 1) r
  | 0, r, h => by
    have h : r < 10 := by simpa using h
    rw [TL.numL_lt h]
    simp [padk, Nat.mod_eq_of_lt h]
  | k + 1, r, h => by
    by_cases hr : r < 10
    · rw [TL.numL_lt hr]
      show _ = padk (k + 1) (r / 10) ++ [48 + r % 10]
      rw [Nat.div_eq_of_lt hr, padk_zero, Nat.mod_eq_of_lt hr]
      simp
    · have h10 : 10 ≤ r := by omega
      have hd : r / 10 < 10 ^ (k + 1) := by
        rw [Nat.div_lt_iff_lt_mul (by decide)]
        simpa [Nat.pow_succ] using h
      have ih := pad_num k (r / 10) hd
      rw [TL.numL_step h10]
      show _ = padk (k + 1) (r / 10) ++ [48 + r % 10]
      rw [← ih, ← List.append_assoc]
      congr 2
      simp
theorem num_split {q : Nat} (hq : 0 < q) : ∀ (k r : Nat), r < 10 ^ k → TL.numL (q * 10 ^ k + r) = TL.numL q ++ padk k r
  | 0, r, h => by
    have : r = 0 := by simpa using h
    subst this
    simp [padk]
  | k + 1, r, h => by
    have e10 : 10 ^ (k + 1) = 10 ^ k * 10 := Nat.pow_succ ..
    have hp : 0 < 10 ^ k := Nat.pow_pos (by decide)
    have big : 10 ≤ q * 10 ^ (k + 1) + r := by
      have : 1 * 1 ≤ q * 10 ^ k := Nat.mul_le_mul hq hp
      rw [e10, ← Nat.mul_assoc]; omega
    have hd : (q * 10 ^ (k + 1) + r) / 10 = q * 10 ^ k + r / 10 := by
      rw [e10, ← Nat.mul_assoc]; omega
    have hm : (q * 10 ^ (k + 1) + r) % 10 = r % 10 := by
      rw [e10, ← Nat.mul_assoc]; omega
    rw [TL.numL_step big, hd, hm, num_split hq k (r / 10) (by rw [e10] at h; omega)]
    show _ = _ ++ (padk k (r / 10) ++ [48 + r % 10])
    rw [List.append_assoc]
theorem numL_AllD (n : Nat) : AllD (TL.numL n) := fun c hc => TL.numL_digits n c hc
theorem numL_head (n : Nat) (hn : n ≠ 0) : (TL.numL n)[0]? ≠ some 48 := by
  induction n using Nat.strongRecOn with
  | ind n ih =>
    by_cases h : n < 10
    · rw [TL.numL_lt h]; simp; omega
    · rw [TL.numL_step (by omega), List.getElem?_append_left (numL_len1 _)]
      exact ih (n / 10) (by omega) (by omega)
theorem dval_app (a : List Nat) : ∀ b : List Nat, NumText.digitsVal (a ++ b) = NumText.digitsVal a * 10 ^ b.length + NumText.digitsVal b := by
  have key : ∀ (b : List Nat) (t : Nat), b.foldl (fun acc c => acc * 10 + (c - 48)) t = t * 10 ^ b.length + b.foldl (fun acc c => acc * 10 + (c - 48)) 0 := by
    intro b
    induction b with
    | nil => intro t; simp
    | cons c b ih =>
      intro t
      rw [List.foldl_cons, List.foldl_cons, ih, ih (0 * 10 + (c - 48)), List.length_cons, Nat.pow_succ]
      simp only [Nat.add_mul, Nat.zero_mul, Nat.zero_add]
      rw [Nat.mul_assoc, Nat.mul_comm 10 (10 ^ b.length), Nat.add_assoc]
  intro b
  unfold NumText.digitsVal
  rw [List.foldl_append]
  exact key b _
/-! an except suite's value -/
def suC (d : DV) (_ : Exc) : Option DV := some d
def suIs (G : GE) (k : Str) (y : Exc) : Option DV := match G.exc.lookup y.cls with
  | some bs => (match G.exc.lookup k with
    | some _ => some (.bl (bs.contains k))
    | none => none)
  | none => none
def suAnd (f g : Exc → Option DV) (y : Exc) : Option DV := match f y with
  | some (.bl true) => g y
  | some (.bl false) => some (.bl false)
  | _ => none
def suNot (f : Exc → Option DV) (y : Exc) : Option DV := match f y with
  | some (.bl b) => some (.bl (!b))
  | _ => none
end P3


set_option maxRecDepth 100000
set_option maxHeartbeats 2000000
set_option autoImplicit false
/-! write_integer and read_integer. -/
namespace P3
open PySem L2
section
variable {h : AH} {i j : Int} {x y : List Nat} {xs : List DV} {r : Nat}
@[simp] theorem b_neg : negD (.int i) h = some (.int (-i), h) := rfl
@[simp] theorem b_str0 : bltD .str [.int i] h = if i.natAbs.log2 < 1920 then some (.str (decI i), h) else none := rfl
@[simp] theorem decI_nat {n : Nat} : decI (n : Int) = TL.numL n := by unfold decI; rw [if_neg (by omega), Int.natAbs_natCast]
@[simp] theorem b_strS : bltD .str [.str x] h = some (.str x, h) := rfl
@[simp] theorem b_intS : bltD .int [.str x] h = if x.length ≤ 640 then (intText? (SX.S x)).map fun n => (.int n, h) else none := rfl
@[simp] theorem b_rev {u : DV} : revD u h = match seqOf h u with
  | some xs => some (.ref h.length, h ++ [.lst xs.reverse])
  | none => none := rfl
@[simp] theorem q_ref : seqOf h (.ref r) = match h[r]? with
    | some (.lst xs) => some xs
    | _ => none := rfl
@[simp] theorem q_lst {b : Bool} : seqOf h (.lst b xs) = some xs := rfl
@[simp] theorem m_app {u : DV} : mthD .append (.ref r) [u] h = match h[r]? with
    | some (.lst ys) => if ys.length < LIM then some (.non, h.set r (.lst (ys ++ [u]))) else none
    | _ => none := rfl
@[simp] theorem k_app : mtyOk .append (.ref r) h = (match h[r]? with
    | some (.lst _) => true
    | _ => false) := rfl
@[simp] theorem k_join : mtyOk .join (.str x) h = true := rfl
@[simp] theorem k_zf : mtyOk .zfill (.str x) h = true := rfl
@[simp] theorem g_tp {gs : List GM} {ls : LS} : gTp gs (.tup xs) ls h = gAll gs xs ls h := rfl
@[simp] theorem g_all0 {ls : LS} : gAll [] [] ls h = some (ls, h) := rfl
@[simp] theorem g_all {g : GM} {gs : List GM} {d : DV} {ls : LS} : gAll (g :: gs) (d :: xs) ls h = match g d ls h with
    | some (ls', h') => gAll gs xs ls' h'
    | none => none := rfl
@[simp] theorem sl_str {lo hi : Option Int} : slD (.str x) lo hi h = if x.length ≤ LIM then some (.str (cut x lo hi), h) else none := rfl
theorem cut_to {α : Type} {x : List α} (h : 0 ≤ i) : cut x none (some i) = x.take i.toNat := by
  unfold cut HT.sIx
  simp only
  rw [if_neg (by omega)]
  simp
theorem cut_from {α : Type} {x : List α} (h : 0 ≤ i) : cut x (some i) none = x.drop i.toNat := by
  unfold cut HT.sIx
  simp only
  rw [if_neg (by omega)]
  by_cases q : i.toNat ≤ x.length
  · rw [Nat.min_eq_left q]
    exact List.take_of_length_le (by simp)
  · rw [Nat.min_eq_right (by omega), List.drop_eq_nil_of_le (Nat.le_refl _), List.drop_eq_nil_of_le (by omega)]
    simp
theorem cut_mid {α : Type} {x : List α} (h : 0 ≤ i) (h' : 0 ≤ j) : cut x (some i) (some j) = (x.drop i.toNat).take (j.toNat - i.toNat) := by
  unfold cut HT.sIx
  simp only
  rw [if_neg (by omega), if_neg (by omega)]
  by_cases q : i.toNat ≤ x.length
  · rw [Nat.min_eq_left q]
    by_cases q2 : j.toNat ≤ x.length
    · rw [Nat.min_eq_left q2]
    · rw [Nat.min_eq_right (by omega), List.take_of_length_le (l := x.drop i.toNat) (i := j.toNat - i.toNat) (by simp; omega)]
      exact List.take_of_length_le (by simp)
  · rw [Nat.min_eq_right (a := i.toNat) (by omega), List.drop_eq_nil_of_le (Nat.le_refl _), List.drop_eq_nil_of_le (i := i.toNat) (by omega)]
    simp
theorem cut_of {α : Type} {x : List α} {lo hi : Option Int} {a b : Nat} (h : lo = none ∧ a = 0 ∨ lo = some (a : Int)) (h' : hi = none ∧ b = x.length ∨ hi = some (b : Int)) : cut x lo hi = (x.drop a).take (b - a) := by
  rcases h with ⟨rfl, rfl⟩ | rfl <;> rcases h' with ⟨rfl, rfl⟩ | rfl
  · simp [cut, HT.sIx]
  · rw [cut_to (by omega)]; simp
  · rw [cut_from (by omega)]
    exact (List.take_of_length_le (by simp)).symm
  · rw [cut_mid (by omega) (by omega)]; simp
end
theorem strsD_map : ∀ l : List (List Nat), strsD (l.map DV.str) = some l
  | [] => rfl
  | x :: l => by
    show (strsD (l.map DV.str)).map (x :: ·) = _
    rw [strsD_map l]; rfl
theorem glu_nil : ∀ l : List (List Nat), gluN [] l = l.flatten
  | [] => rfl
  | [x] => by simp [gluN]
  | x :: y :: l => by
    show x ++ [] ++ gluN [] (y :: l) = _
    rw [glu_nil (y :: l)]; simp
def B64 : Int := 10000000000000000000000000000000000000000000000000000000000000000
theorem B64_eq : B64 = ((10 ^ 64 : Nat) : Int) := by decide +kernel
theorem pyl64 (q : Int) : PySem.Builtin.divisionGoesByPylong q B64 = false := by
  unfold PySem.Builtin.divisionGoesByPylong
  have : decide ((if (B64 == 0) = true then 0 else B64.natAbs.log2 / 30 + 1) > 300) = false := by decide +kernel
  simp only [this, Bool.false_and]
theorem zf64 {r : Nat} (h : r < 10 ^ 64) : (Txt.zfill (SX.S (TL.numL r)) 64).cps.toList = padk 64 r := by
  have hl : (TL.numL r).length ≤ 64 := TL.numL_len (by decide) h
  have e := pad_num 63 r h
  unfold Txt.zfill
  rw [SX.S_len]
  split
  · rename_i q
    have : (TL.numL r).length = 64 := by omega
    rw [← e, this]
    show TL.numL r = _
    simp
  · unfold zfilled
    have hc : (SX.S (TL.numL r)).cps[0]? = (TL.numL r)[0]? := by simp [SX.S]
    rw [hc]
    have hne := numL_len1 r
    have hd := numL_AllD r (TL.numL r)[0] (List.getElem_mem hne)
    rw [List.getElem?_eq_getElem hne]
    have e2 : (PySem.Builtin.Str.padded (SX.S (TL.numL r)) ((64 : Int).toNat - (SX.S (TL.numL r)).length) 0 48).cps.toList = padk 64 r := by
      rw [← e, SX.S_len]
      simp [PySem.Builtin.Str.padded, SX.S]
    split
    · rename_i q; have q := Option.some.inj q; omega
    · rename_i q; have q := Option.some.inj q; omega
    · exact e2
def writeB (cf : Str → List DV → AH → Option (R DV)) : List SM := [
  sIf (cOp (cmpD .Lt) (cVar 0) (cVal (.int 0))) (sSeq [
    sRet (cOp (binD .Add) (cVal (.str [45])) (cCall (cf "write_integer") [cUn negD (cVar 0)]))]) (sSeq []),
  sAsg (cLst []) (gNm 1),
  sWh (cOp (cmpD .GtE) (cVar 0) (cVal (.int B64))) (sSeq [
    sAsg (cBlt .divmod [cVar 0, cVal (.int B64)]) (gTp [gNm 0, gNm 2]),
    sExpr (cMth .append (cVar 1) [cMth .zfill (cBlt .str [cVar 2]) [cVal (.int 64)]])]),
  sExpr (cMth .append (cVar 1) [cBlt .str [cVar 0]]),
  sRet (cMth .join (cVal (.str [])) [cUn revD (cVar 1)])]
theorem b_div64 {h : AH} {q : Int} : bltD .divmod [.int q, .int B64] h = some (.tup [.int (q / B64), .int (q % B64)], h) := by
  show (if (decide (0 < B64) && !PySem.Builtin.divisionGoesByPylong q B64) = true then some (DV.tup [.int (q / B64), .int (q % B64)], h) else none) = _
  rw [pyl64, if_pos (by decide +kernel)]
theorem pad64 : PadOk 64 = true := by decide +kernel
theorem join_ok {l : List (List Nat)} {r : Nat} {h : AH} {Q : R DV → Prop} (e : h[r]? = some (.lst (l.map DV.str))) (hL : (l.map (·.length)).sum ≤ LIM) (q : Q (.ok (.str l.flatten) h)) : wE (up (mthD .join (.str []) [.ref r] h)) Q := by
  have : mthD .join (.str []) [.ref r] h = some (.str l.flatten, h) := by
    have e2 : seqOf h (.ref r) = some (l.map DV.str) := by simp [e]
    have e3 : (seqT h (.ref r)).bind strsD = some l := by
      show (seqOf h (.ref r)).bind strsD = _
      rw [e2]
      exact strsD_map l
    unfold mthD
    simp [e3, hL, glu_nil]
  rw [this]
  exact wE_some.mpr q
theorem write_nn {cf : Str → List DV → AH → Option (R DV)} {n : Nat} (hn : n < 10 ^ 6400) : wS (sSeq (writeB cf) [some (.int n), none, none] []) (pR fun d _ => d = .str (TL.numL n)) := by
  refine wS_cut (M := fun ls h => ls = [some (.int n), none, none] ∧ h = []) (by simp [show ¬ ((n : Int) < 0) by omega]) ?_
  rintro _ _ ⟨rfl, rfl⟩
  refine wS_cut (M := fun ls h => ls = [some (.int n), some (.ref 0), none] ∧ h = [.lst []]) (by simp [newL]) ?_
  rintro _ _ ⟨rfl, rfl⟩
  refine wS_cut (M := fun ls h => ∃ (q : Nat) (o : Option DV) (cs : List (List Nat)), ls = [some (.int q), some (.ref 0), o] ∧ h = [.lst (cs.map .str)] ∧ q < 10 ^ 64 ∧ TL.numL n = TL.numL q ++ cs.reverse.flatten ∧ cs.length ≤ 100 ∧ (cs.map (·.length)).sum ≤ 64 * cs.length) ?_ ?_
  · refine w_sWh (I := fun m ls h => ∃ (q : Nat) (o : Option DV) (cs : List (List Nat)), ls = [some (.int q), some (.ref 0), o] ∧ h = [.lst (cs.map .str)] ∧ q < 10 ^ (64 * (m + 1)) ∧ TL.numL n = TL.numL q ++ cs.reverse.flatten ∧ cs.length + m ≤ 100 ∧ (cs.map (·.length)).sum ≤ 64 * cs.length)
      99 (by decide) ⟨n, none, [], rfl, rfl, hn, by simp, by simp, by simp⟩ ?_
    rintro m _ _ ⟨q, o, cs, rfl, rfl, hq, hnum, hl, hsum⟩
    simp
    by_cases hB : B64 ≤ (q : Int)
    · have hB' : 10 ^ 64 ≤ q := by rw [B64_eq] at hB; omega
      have hm : 0 < m := by
        rcases Nat.eq_zero_or_pos m with rfl | h
        · have : q < 10 ^ 64 := by simpa using hq
          omega
        · exact h
      obtain ⟨q', r, e1, e2, hr, hpos, hqr, hlt⟩ : ∃ q' r : Nat, (q : Int) / B64 = q' ∧ (q : Int) % B64 = r ∧ r < 10 ^ 64 ∧ 0 < q' ∧ q = q' * 10 ^ 64 + r ∧ q' < 10 ^ (64 * (m - 1 + 1)) := by
        refine ⟨q / 10 ^ 64, q % 10 ^ 64, by rw [B64_eq]; rfl, by rw [B64_eq]; rfl, Nat.mod_lt _ (by decide), Nat.div_pos hB' (by decide), by rw [Nat.mul_comm, Nat.div_add_mod], ?_⟩
        rw [Nat.div_lt_iff_lt_mul (by decide), ← Nat.pow_add]
        have : 64 * (m - 1 + 1) + 64 = 64 * (m + 1) := by omega
        rw [this]; exact hq
      have hlog : r.log2 < 1920 := by
        have := log2_le (a := 213) (show r < 2 ^ 213 from Nat.lt_trans hr (by decide))
        omega
      have hcl : cs.length < LIM := by unfold LIM; omega
      have hz := zf64 hr
      simp [hB, hm, b_div64, e1, e2, hlog, mthD, pad64, hcl]
      refine ⟨m - 1, by omega, q', rfl, cs ++ [padk 64 r], by simp [hz], hlt, ?_, by simp; omega, by simp [padk_len]; omega⟩
      rw [hnum, hqr, num_split hpos 64 r hr]
      simp
    · have hB' : q < 10 ^ 64 := by rw [B64_eq] at hB; omega
      simp [hB]
      exact ⟨q, rfl, cs, rfl, hB', hnum, by omega, hsum⟩
  · rintro _ _ ⟨q, o, cs, rfl, rfl, hq, hnum, hl, hsum⟩
    have hlog : q.log2 < 1920 := by
      have := log2_le (a := 213) (show q < 2 ^ 213 from Nat.lt_trans hq (by decide))
      omega
    have hcl : cs.length < LIM := by unfold LIM; omega
    have hql : (TL.numL q).length ≤ 64 := TL.numL_len (by decide) hq
    have e1 : (cs.map DV.str ++ [DV.str (TL.numL q)]).reverse = ((cs ++ [TL.numL q]).reverse).map DV.str := by simp
    have hL : ((cs ++ [TL.numL q]).reverse.map (·.length)).sum ≤ LIM := by
      rw [List.map_reverse, List.sum_reverse]
      unfold LIM
      simp; omega
    simp only [List.map_reverse] at hL
    simp [hlog, hcl]
    have e2 : DV.str (TL.numL q) :: (cs.map DV.str).reverse = ((cs ++ [TL.numL q]).reverse).map DV.str := by simp
    refine join_ok (l := (cs ++ [TL.numL q]).reverse) (r := 1) (by simp) (by simpa using hL) ?_
    simp [hnum]
theorem write_neg {cf : Str → List DV → AH → Option (R DV)} {n : Nat} (h0 : 0 < n) (hn : n < 10 ^ 6400) (hcf : cf "write_integer" [.int n] [] = some (.ok (.str (TL.numL n)) [])) : wS (sSeq (writeB cf) [some (.int (-n)), none, none] []) (pR fun d _ => d = .str (45 :: TL.numL n)) := by
  have hl : (TL.numL n).length ≤ 6400 := TL.numL_len (by decide) hn
  have hl2 : 1 + (TL.numL n).length ≤ LIM := by unfold LIM; omega
  unfold writeB
  simp [h0]
  rw [hcf]
  simp [Nat.add_comm, hl2]
def IsWrite (cf cf' : Str → List DV → AH → Option (R DV)) : Prop := ∀ ds h, cf "write_integer" ds h = apart (runB 1 3 (writeB cf')) ds h
theorem c_write {cf cf1 cf2 : Str → List DV → AH → Option (R DV)} (D : IsWrite cf cf1) (D1 : IsWrite cf1 cf2) {i : Int} (hi : i.natAbs < 10 ^ 6400) (h : AH) : cf "write_integer" [.int i] h = some (.ok (.str (decI i)) h) := by
  have nn : ∀ {cf cf1} (D : IsWrite cf cf1) (n : Nat) (hn : n < 10 ^ 6400) (h : AH), cf "write_integer" [.int n] h = some (.ok (.str (TL.numL n)) h) := fun {cf cf1} D n hn h => by
    rw [D]
    exact apart_val (es := [.int n]) (brw_own (by simp)) rfl rfl (write_nn hn)
  unfold decI
  by_cases hi0 : i < 0
  · rw [if_pos hi0]
    have e : i = -(i.natAbs : Int) := by omega
    rw [D]
    refine apart_val (es := [.int i]) (brw_own (by simp)) rfl rfl ?_
    have := write_neg (cf := cf1) (n := i.natAbs) (by omega) hi (nn D1 _ hi _)
    rw [← e] at this
    exact this
  · rw [if_neg hi0]
    have e : i = (i.natAbs : Int) := by omega
    have := nn D i.natAbs hi h
    rw [← e] at this
    exact this
/-! reading -/
def DIG : List Nat := [48, 49, 50, 51, 52, 53, 54, 55, 56, 57]
theorem mem_DIG {c : Nat} : c ∈ DIG ↔ 48 ≤ c ∧ c ≤ 57 := by unfold DIG; simp; omega
def readB : List SM := [
  sAsg (cVar 0) (gNm 1),
  sIf (cOp (cmpD .Eq) (cSl (cVar 0) none (some (cVal (.int 1)))) (cVal (.str [45]))) (sSeq [
    sAsg (cSl (cVar 0) (some (cVal (.int 1))) none) (gNm 1)]) (sSeq []),
  sIf (cOr (cOp (cmpD .Eq) (cVar 1) (cVal (.str []))) (cAnd (cOp (cmpD .Eq) (cOp subD (cVar 1) (cVal (.int 0))) (cVal (.str [48]))) (cOp (cmpD .NotEq) (cVar 0) (cVal (.str [48]))))) (sSeq [
    sRaise ⟨"BadText", []⟩]) (sSeq []),
  sFor (iVal (cVar 1)) (gNm 2) (sSeq [
    sIf (cOp (cmpD .NotIn) (cVar 2) (cVal (.str DIG))) (sSeq [
      sRaise ⟨"BadText", []⟩]) (sSeq [])]),
  sAsg (cOp (binD .Mod) (cBlt .len [cVar 1]) (cVal (.int 64))) (gNm 3),
  sAsg (cVal (.int 0)) (gNm 4),
  sIf (cOp (cmpD .Gt) (cVar 3) (cVal (.int 0))) (sSeq [
    sAsg (cBlt .int [cSl (cVar 1) none (some (cVar 3))]) (gNm 4)]) (sSeq []),
  sFor (iRng3 (cVar 3) (cBlt .len [cVar 1]) (cVal (.int 64))) (gNm 5) (sSeq [
    sAsg (cOp (binD .Add) (cOp (binD .Mult) (cVar 4) (cVal (.int B64))) (cBlt .int [cSl (cVar 1) (some (cVar 5)) (some (cOp (binD .Add) (cVar 5) (cVal (.int 64))))])) (gNm 4)]),
  sIf (cOp (cmpD .Eq) (cOp subD (cVar 0) (cVal (.int 0))) (cVal (.str [45]))) (sSeq [
    sRet (cUn negD (cVar 4))]) (sSeq []),
  sRet (cVar 4)]
/-- the digits of a text -/
def digs (t : List Nat) : List Nat := if t.take 1 = [45] then t.tail else t
@[simp] theorem c_notin {c : Nat} {b : List Nat} {h : AH} : cmpB .NotIn (.str [c]) (.str b) h = some (!decide (c ∈ b)) := rfl
@[simp] theorem c_in {c : Nat} {b : List Nat} {h : AH} : cmpB .In (.str [c]) (.str b) h = some (decide (c ∈ b)) := rfl
theorem read_head {t : List Nat} {r : List SM} {Q : SR → Prop} (hl : t.length ≤ LIM) (w : wS (sSeq r [some (.str t), some (.str (digs t)), none, none, none, none] []) Q) :
    wS (sSeq (sAsg (cVar 0) (gNm 1) :: sIf (cOp (cmpD .Eq) (cSl (cVar 0) none (some (cVal (.int 1)))) (cVal (.str [45]))) (sSeq [
    sAsg (cSl (cVar 0) (some (cVal (.int 1))) none) (gNm 1)]) (sSeq []) :: r) [some (.str t), none, none, none, none, none] []) Q := by
  unfold digs at w
  simp [hl, cut_to, cut_from]
  constructor
  · intro e
    rw [if_pos e] at w
    exact w
  · intro e
    rw [if_neg e] at w
    exact w
theorem atI0 {x : List Nat} : atI x 0 = x[0]? := atI_nat (k := 0)
theorem read_bad {t : List Nat} (hl : t.length ≤ LIM) (hb : digs t = [] ∨ ((digs t)[0]? = some 48 ∧ t ≠ [48]) ∨ ∃ c ∈ digs t, c < 48 ∨ 57 < c) :
    wS (sSeq readB [some (.str t), none, none, none, none, none] []) (isEr ⟨"BadText", []⟩) := by
  refine read_head hl ?_
  have hl2 : (digs t).length ≤ LIM := by
    unfold digs
    split
    · simp; omega
    · exact hl
  by_cases h1 : digs t = []
  · simp [h1]
  by_cases h2 : (digs t)[0]? = some 48 ∧ t ≠ [48]
  · simp [h1, hl2, h2.1, h2.2]
  · have h3 : ∃ c ∈ digs t, c < 48 ∨ 57 < c := by
      rcases hb with h | h | h
      · exact absurd h h1
      · exact absurd h h2
      · exact h
    refine wS_cut (M := fun ls h => ls = [some (.str t), some (.str (digs t)), none, none, none, none] ∧ h = []) ?_ ?_
    · have hx : 0 < (digs t).length := List.length_pos_iff.mpr h1
      have : (digs t)[0]? = some (digs t)[0] := List.getElem?_eq_getElem hx
      by_cases h4 : (digs t)[0] = 48
      · have h5 : t = [48] := by
          by_cases h5 : t = [48]
          · exact h5
          · exact absurd ⟨by rw [this, h4], h5⟩ h2
        subst h5
        have e : digs [48] = [48] := rfl
        simp [e, LIM]
      · simp [h1, hl2, this, h4]
    · rintro _ _ ⟨rfl, rfl⟩
      have kx : ∀ Q : SR → Prop, Q (.er ⟨"BadText", []⟩ [] []) → True := fun _ _ => trivial
      simp
      refine w_forV (I := fun i ls h => h = [] ∧ (∃ o, ls = [some (.str t), some (.str (digs t)), o, none, none, none]) ∧ ∀ j, j < i → ∀ c, (digs t)[j]? = some c → 48 ≤ c ∧ c ≤ 57) ⟨rfl, ⟨none, rfl⟩, fun j hj => by omega⟩ ?_ ?_
      · rintro i d ls h hd ⟨rfl, ⟨o, rfl⟩, hI⟩
        rw [List.getElem?_map] at hd
        cases q : (digs t)[i]? with
        | none => rw [q] at hd; cases hd
        | some c =>
        rw [q] at hd
        cases hd
        refine ⟨_, _, rfl, ?_⟩
        by_cases hc : c ∈ DIG
        · simp [hc]
          intro j hj c' hc'
          by_cases e : j = i
          · subst e
            rw [q] at hc'
            cases hc'
            exact mem_DIG.mp hc
          · exact hI j (by omega) c' hc'
        · simp [hc]
      · rintro ls h ⟨rfl, ⟨o, rfl⟩, hI⟩
        obtain ⟨c, hc, hb⟩ := h3
        obtain ⟨j, hj, e⟩ := List.getElem_of_mem hc
        have := hI j (by simpa using hj) c (by rw [List.getElem?_eq_getElem hj, e])
        omega
theorem dval_lt : ∀ (k : Nat) (x : List Nat), x.length = k → NumText.AllDigits x → NumText.digitsVal x < 10 ^ k
  | 0, x, hk, _ => by
    have : x = [] := List.length_eq_zero_iff.mp hk
    subst this
    simp [NumText.digitsVal]
  | k + 1, x, hk, h => by
    have hne : x ≠ [] := fun z => by subst z; cases hk
    obtain ⟨y, c, rfl⟩ : ∃ y c, x = y ++ [c] := ⟨x.dropLast, x.getLast hne, (List.dropLast_concat_getLast hne).symm⟩
    have hc := h c (by simp)
    have ih := dval_lt k y (by simpa using hk) fun d hd => h d (List.mem_append_left _ hd)
    rw [NumText.digitsVal_snoc, Nat.pow_succ]
    omega
theorem dval_lt2 {x : List Nat} (h : NumText.AllDigits x) : NumText.digitsVal x < 2 ^ (4 * x.length) := by
  refine Nat.lt_of_lt_of_le (dval_lt x.length x rfl h) ?_
  rw [Nat.pow_mul]
  exact Nat.pow_le_pow_left (by decide) _
theorem w_rng3 {f g k : EM} {ls : LS} {h : AH} {i j c : Int} {Q : R Itr → Prop} (e1 : f ls h = some (.ok (.int i) h)) (e2 : g ls h = some (.ok (.int j) h)) (e3 : k ls h = some (.ok (.int c) h)) (ok : rngOk i j c = true) (q : Q (.ok (itR i c (rngN i j c)) h)) : wE (iRng3 f g k ls h) Q := by
  have : iRng3 f g k ls h = some (.ok (itR i c (rngN i j c)) h) := by
    unfold iRng3 cArgs
    rw [e1]
    unfold cArgs
    simp only [bd_ok]
    rw [e2]
    unfold cArgs
    simp only [bd_ok]
    rw [e3]
    unfold cArgs
    simp only [bd_ok, ok, if_true]
  rw [this]
  exact wE_some.mpr q
theorem read_ok {t : List Nat} (hl : t.length ≤ 6400) (hd : NumText.AllDigits (digs t)) (h0 : digs t ≠ []) (h1 : (digs t)[0]? ≠ some 48 ∨ t = [48]) :
    wS (sSeq readB [some (.str t), none, none, none, none, none] []) (pR fun d _ => d = .int (if t.take 1 = [45] then -((NumText.digitsVal (digs t) : Nat) : Int) else ((NumText.digitsVal (digs t) : Nat) : Int))) := by
  have hlL : t.length ≤ LIM := by unfold LIM; omega
  refine read_head hlL ?_
  have hl2 : (digs t).length ≤ 6400 := by
    unfold digs
    split
    · simp; omega
    · exact hl
  have hl3 : (digs t).length ≤ LIM := by unfold LIM; omega
  have ht : t ≠ [] := fun e => by subst e; exact h0 rfl
  refine wS_cut (M := fun ls h => ls = [some (.str t), some (.str (digs t)), none, none, none, none] ∧ h = []) ?_ ?_
  · have hx : 0 < (digs t).length := List.length_pos_iff.mpr h0
    have e : (digs t)[0]? = some (digs t)[0] := List.getElem?_eq_getElem hx
    rcases h1 with h1 | h1
    · rw [e] at h1
      have h4 : (digs t)[0] ≠ 48 := fun z => h1 (by rw [z])
      simp [h0, hl3, e, h4]
    · subst h1
      have e : digs [48] = [48] := rfl
      simp [e, LIM]
  rintro _ _ ⟨rfl, rfl⟩
  refine wS_cut (M := fun ls h => (∃ o, ls = [some (.str t), some (.str (digs t)), o, none, none, none]) ∧ h = []) ?_ ?_
  · simp
    refine w_forV (I := fun i ls h => h = [] ∧ ∃ o, ls = [some (.str t), some (.str (digs t)), o, none, none, none]) ⟨rfl, none, rfl⟩ ?_ ?_
    · rintro i d ls h hd' ⟨rfl, o, rfl⟩
      rw [List.getElem?_map] at hd'
      cases q : (digs t)[i]? with
      | none => rw [q] at hd'; cases hd'
      | some c =>
      rw [q] at hd'
      cases hd'
      have hc : c ∈ DIG := mem_DIG.mpr (hd c (List.mem_of_getElem? q))
      refine ⟨_, _, rfl, ?_⟩
      simp [hc]
    · rintro ls h ⟨rfl, o, rfl⟩
      exact ⟨⟨o, rfl⟩, rfl⟩
  rintro _ _ ⟨⟨o, rfl⟩, rfl⟩
  refine wS_cut (M := fun ls h => ls = [some (.str t), some (.str (digs t)), o, some (.int (((digs t).length % 64 : Nat))), none, none] ∧ h = []) (by simp [hl3]) ?_
  rintro _ _ ⟨rfl, rfl⟩
  refine wS_cut (M := fun ls h => ls = [some (.str t), some (.str (digs t)), o, some (.int (((digs t).length % 64 : Nat))), some (.int 0), none] ∧ h = []) (by simp) ?_
  rintro _ _ ⟨rfl, rfl⟩
  generalize hm : (digs t).length % 64 = m
  have hm64 : m < 64 := by omega
  have hml : m ≤ (digs t).length := by rw [← hm]; exact Nat.mod_le _ _
  have ad : ∀ x : List Nat, (∀ c ∈ x, c ∈ digs t) → x.all (fun c => decide (48 ≤ c) && decide (c ≤ 57)) = true := fun x hx => List.all_eq_true.mpr fun c hc => by
    have := hd c (hx c hc)
    simp [this.1, this.2]
  refine wS_cut (M := fun ls h => ls = [some (.str t), some (.str (digs t)), o, some (.int (m : Nat)), some (.int ((NumText.digitsVal ((digs t).take m) : Nat) : Int)), none] ∧ h = []) ?_ ?_
  · by_cases h0 : m = 0
    · subst h0
      simp [NumText.digitsVal]
    · have hp : (0 : Int) < (m : Int) := by omega
      have hlen : ((digs t).take m).length = m := by simp; omega
      have e := SX.int_S (a := (digs t).take m) (ad _ fun c hc => List.mem_of_mem_take hc) (fun z => by rw [z] at hlen; simp at hlen; omega) (by omega)
      simp [hp, hl3, cut_to, e]
      omega
  rintro _ _ ⟨rfl, rfl⟩
  obtain ⟨q, hq⟩ : ∃ q, (digs t).length = m + 64 * q := ⟨(digs t).length / 64, by omega⟩
  have rs : PySem.Builtin.Range.rangeSize (m : Int) ((digs t).length : Int) 64 = (q : Int) := by
    unfold PySem.Builtin.Range.rangeSize
    rw [if_pos (by decide), hq]
    by_cases z : q = 0
    · subst z; rw [if_neg (by omega)]; rfl
    · rw [if_pos (by omega)]; omega
  have rn : rngN (m : Int) ((digs t).length : Int) 64 = q := by unfold rngN; rw [rs]; rfl
  have rok : rngOk (m : Int) ((digs t).length : Int) 64 = true := by
    unfold rngOk PySem.Builtin.Range.small
    rw [rs]
    simp [PySem.Builtin.Range.rangeFitsLong]
    omega
  refine wS_cut (M := fun ls h => (∃ u, ls = [some (.str t), some (.str (digs t)), o, some (.int (m : Nat)), some (.int ((NumText.digitsVal (digs t) : Nat) : Int)), u]) ∧ h = []) ?_ ?_
  · rw [w_sFor]
    refine w_rng3 (i := (m : Int)) (j := ((digs t).length : Int)) (c := 64) rfl (by simp [hl3]) rfl rok ?_
    rw [rn, kS_ok]
    refine w_forR (I := fun i ls h => h = [] ∧ ∃ u, ls = [some (.str t), some (.str (digs t)), o, some (.int (m : Nat)), some (.int ((NumText.digitsVal ((digs t).take (m + 64 * i)) : Nat) : Int)), u]) ⟨rfl, none, by simp⟩ ?_ ?_
    · rintro i ls h hi ⟨rfl, u, rfl⟩
      refine ⟨_, _, rfl, ?_⟩
      have hlen : (((digs t).drop (m + 64 * i)).take 64).length = 64 := by simp; omega
      have e := SX.int_S (a := ((digs t).drop (m + 64 * i)).take 64) (ad _ fun c hc => List.mem_of_mem_drop (List.mem_of_mem_take hc)) (fun z => by rw [z] at hlen; simp at hlen) (by omega)
      have hle : (digs t).length - (m + 64 * i) ≥ 64 := by omega
      have ec : cut (digs t) (some ((m : Int) + (i : Int) * 64)) (some ((m : Int) + (i : Int) * 64 + 64)) = ((digs t).drop (m + 64 * i)).take 64 := by
        rw [cut_mid (by omega) (by omega)]
        have e1 : ((m : Int) + (i : Int) * 64).toNat = m + 64 * i := by omega
        have e2 : ((m : Int) + (i : Int) * 64 + 64).toNat - (m + 64 * i) = 64 := by omega
        rw [e1, e2]
      have hv : NumText.digitsVal ((digs t).take (m + 64 * (i + 1))) = NumText.digitsVal ((digs t).take (m + 64 * i)) * 10 ^ 64 + NumText.digitsVal (((digs t).drop (m + 64 * i)).take 64) := by
        have : (digs t).take (m + 64 * (i + 1)) = (digs t).take (m + 64 * i) ++ ((digs t).drop (m + 64 * i)).take 64 := by
          rw [show m + 64 * (i + 1) = m + 64 * i + 64 by omega, List.take_add]
        rw [this, dval_app, hlen]
      have hmul : mulOk ((NumText.digitsVal ((digs t).take (m + 64 * i)) : Nat) : Int) B64 = true := by
        refine mulOk_of (4 * ((digs t).take (m + 64 * i)).length) 213 ?_ (by decide +kernel) ?_
        · rw [Int.natAbs_natCast]
          exact dval_lt2 fun c hc => hd c (List.mem_of_mem_take hc)
        · have : ((digs t).take (m + 64 * i)).length ≤ 6400 := by rw [List.length_take]; omega
          omega
      have hv2 : ((NumText.digitsVal ((digs t).take (m + 64 * (i + 1))) : Nat) : Int) = ((NumText.digitsVal ((digs t).take (m + 64 * i)) : Nat) : Int) * B64 + ((NumText.digitsVal (((digs t).drop (m + 64 * i)).take 64) : Nat) : Int) := by
        rw [hv, B64_eq, Int.natCast_add, Int.natCast_mul]
      clear hv hle
      generalize ((digs t).drop (m + 64 * i)).take 64 = y at ec e hv2 hlen
      simp [hl3, hmul, ec, hlen, e, hv2]
    · rintro ls h ⟨rfl, u, rfl⟩
      rw [← hq]
      simp
  rintro _ _ ⟨⟨u, rfl⟩, rfl⟩
  obtain ⟨c, t', rfl⟩ : ∃ c t', t = c :: t' := by
    cases t with
    | nil => exact absurd rfl ht
    | cons c t' => exact ⟨c, t', rfl⟩
  have hlL' : t'.length + 1 ≤ LIM := by simpa using hlL
  by_cases hc : c = 45
  · subst hc
    simp [hlL']
  · simp [hlL', hc]
end P3


set_option maxRecDepth 100000
set_option maxHeartbeats 2000000
set_option autoImplicit false
/-! isinstance, same, try. -/
namespace P3
open PySem L2
section
variable {h : AH} {i : Int} {b : Bool} {x : List Nat} {xs : List DV} {c : String}
@[simp] theorem i_int : bltD .isinstance [.int i, .ty c] h = (isiD "int" c).map fun b => (.bl b, h) := rfl
@[simp] theorem i_str : bltD .isinstance [.str x, .ty c] h = (isiD "str" c).map fun b => (.bl b, h) := rfl
@[simp] theorem i_tup : bltD .isinstance [.tup xs, .ty c] h = (isiD "tuple" c).map fun b => (.bl b, h) := rfl
@[simp] theorem i_bl : bltD .isinstance [.bl b, .ty c] h = (isiD "bool" c).map fun b => (.bl b, h) := rfl
@[simp] theorem i_non : bltD .isinstance [.non, .ty c] h = (isiD "NoneType" c).map fun b => (.bl b, h) := rfl
@[simp] theorem ii1 : isiD "int" "int" = some true := by decide +kernel
@[simp] theorem ii2 : isiD "int" "bool" = some false := by decide +kernel
@[simp] theorem ii3 : isiD "int" "str" = some false := by decide +kernel
@[simp] theorem ii4 : isiD "int" "tuple" = some false := by decide +kernel
@[simp] theorem ii5 : isiD "str" "int" = some false := by decide +kernel
@[simp] theorem ii6 : isiD "str" "str" = some true := by decide +kernel
@[simp] theorem ii7 : isiD "str" "tuple" = some false := by decide +kernel
@[simp] theorem ii8 : isiD "tuple" "tuple" = some true := by decide +kernel
@[simp] theorem ii9 : isiD "tuple" "str" = some false := by decide +kernel
@[simp] theorem ii10 : isiD "tuple" "int" = some false := by decide +kernel
@[simp] theorem ii11 : isiD "bool" "int" = some true := by decide +kernel
@[simp] theorem ii12 : isiD "bool" "bool" = some true := by decide +kernel
@[simp] theorem ii13 : isiD "bool" "str" = some false := by decide +kernel
@[simp] theorem ii14 : isiD "bool" "tuple" = some false := by decide +kernel
end
def kT (is : Str → Option Bool) (su : Exc → Option DV) (gone : LS → LS) (Q : SR → Prop) : SR → Prop
  | .er x ls h => (match is x.cls with
    | some true => x.fs = [] ∧ (match su x with
      | some d => Q (.go (.rt d) (gone ls) h)
      | none => False)
    | some false => Q (.er x ls h)
    | none => False)
  | .go f ls h => Q (.go f ls h)
theorem w_try {b : SM} {is : Str → Option Bool} {su : Exc → Option DV} {gone : LS → LS} {ls : LS} {h : AH} {Q : SR → Prop} (w : wS (b ls h) (kT is su gone Q)) : wS (sTry b is su gone ls h) Q := by
  obtain ⟨x, e, q⟩ := w
  unfold sTry
  rw [e]
  cases x with
  | go f ls' h' => exact wS_some.mpr q
  | er y ls' h' =>
    unfold kT at q
    simp only at q ⊢
    cases e1 : is y.cls with
    | none => rw [e1] at q; exact q.elim
    | some t =>
      rw [e1] at q
      cases t with
      | false => exact wS_some.mpr q
      | true =>
        obtain ⟨q1, q2⟩ := q
        simp only [q1, List.isEmpty_nil, if_true]
        cases e2 : su y with
        | none => rw [e2] at q2; exact q2.elim
        | some d => rw [e2] at q2; exact wS_some.mpr q2
def isIntB : List SM := [sRet (cAnd (cBlt .isinstance [cVar 0, cVal (.ty "int")]) (cNot (cBlt .isinstance [cVar 0, cVal (.ty "bool")])))]
def IsIsInt (cf : Str → List DV → AH → Option (R DV)) : Prop := ∀ ds h, cf "_law_is_int" ds h = apart (runB 1 1 isIntB) ds h
theorem c_isint {cf : Str → List DV → AH → Option (R DV)} (D : IsIsInt cf) (i : Int) (h : AH) : cf "_law_is_int" [.int i] h = some (.ok (.bl true) h) := by
  rw [D]
  refine apart_val (es := [.int i]) (brw_own (by simp)) rfl rfl ?_
  simp [isIntB]
def sameB (cf : Str → List DV → AH → Option (R DV)) : List SM := [
  sIf (cBlt .isinstance [cVar 1, cVal (.ty "tuple")]) (sSeq [
    sIf (cOr (cNot (cBlt .isinstance [cVar 0, cVal (.ty "tuple")])) (cOp (cmpD .NotEq) (cBlt .len [cVar 0]) (cBlt .len [cVar 1]))) (sSeq [
      sRet (cVal (.bl false))]) (sSeq []),
    sRet (cBlt .all [cCmp [2] (iRng1 (cBlt .len [cVar 1])) (gNm 2) none (cCall (cf "_law_same") [cOp subD (cVar 0) (cVar 2), cOp subD (cVar 1) (cVar 2)])])]) (sSeq []),
  sIf (cBlt .isinstance [cVar 1, cVal (.ty "str")]) (sSeq [
    sRet (cAnd (cBlt .isinstance [cVar 0, cVal (.ty "str")]) (cOp (cmpD .Eq) (cVar 0) (cVar 1)))]) (sSeq []),
  sRet (cAnd (cCall (cf "_law_is_int") [cVar 0]) (cOp (cmpD .Eq) (cVar 0) (cVar 1)))]
def IsSame (cf cf' : Str → List DV → AH → Option (R DV)) : Prop := ∀ ds h, cf "_law_same" ds h = apart (runB 2 3 (sameB cf')) ds h
theorem c_sameS {cf cf' : Str → List DV → AH → Option (R DV)} (D : IsSame cf cf') (x : List Nat) (h : AH) : cf "_law_same" [.str x, .str x] h = some (.ok (.bl true) h) := by
  rw [D]
  refine apart_val (es := [.str x, .str x]) (brw_own (by simp)) rfl rfl ?_
  simp [sameB]
theorem c_sameI {cf cf' : Str → List DV → AH → Option (R DV)} (D : IsSame cf cf') (D1 : IsIsInt cf') (i : Int) (h : AH) : cf "_law_same" [.int i, .int i] h = some (.ok (.bl true) h) := by
  rw [D]
  refine apart_val (es := [.int i, .int i]) (brw_own (by simp)) rfl rfl ?_
  simp [sameB, c_isint D1]
def IsRead (cf : Str → List DV → AH → Option (R DV)) : Prop := ∀ ds h, cf "read_integer" ds h = apart (runB 1 6 readB) ds h
theorem c_readbad {cf : Str → List DV → AH → Option (R DV)} (D : IsRead cf) {t : List Nat} (hl : t.length ≤ LIM) (hb : digs t = [] ∨ ((digs t)[0]? = some 48 ∧ t ≠ [48]) ∨ ∃ c ∈ digs t, c < 48 ∨ 57 < c) (h : AH) : cf "read_integer" [.str t] h = some (.er ⟨"BadText", []⟩ h) := by
  rw [D]
  exact apart_er (es := [.str t]) (brw_own (by simp)) rfl (read_bad hl hb)
theorem dec_digs (i : Int) : digs (decI i) = TL.numL i.natAbs := by
  unfold decI digs
  split
  · simp
  · rename_i h0
    have : (TL.numL i.natAbs).take 1 ≠ [45] := fun z => by
      have hm : 45 ∈ TL.numL i.natAbs := List.mem_of_mem_take (z ▸ (by simp) : 45 ∈ (TL.numL i.natAbs).take 1)
      have := numL_AllD _ 45 hm
      omega
    rw [if_neg this]
theorem c_read {cf : Str → List DV → AH → Option (R DV)} (D : IsRead cf) {i : Int} (hi : i.natAbs < 10 ^ 6399) (h : AH) : cf "read_integer" [.str (decI i)] h = some (.ok (.int i) h) := by
  rw [D]
  refine apart_val (es := [.str (decI i)]) (brw_own (by simp)) rfl rfl ?_
  show wS (sSeq readB [some (.str (decI i)), none, none, none, none, none] []) _
  have hl : (TL.numL i.natAbs).length ≤ 6399 := TL.numL_len (by decide) hi
  have hv := TL.numL_val i.natAbs
  have hr := read_ok (t := decI i) (by unfold decI; split <;> first | omega | (rw [List.length_cons]; omega)) (by rw [dec_digs]; exact numL_AllD _) (by rw [dec_digs]; exact TL.numL_ne _) (by
    rw [dec_digs]
    by_cases h0 : i = 0
    · subst h0; exact .inr (by decide +kernel)
    · exact .inl (numL_head _ (by omega)))
  rw [dec_digs, hv] at hr
  refine hr.imp fun x hx => ?_
  have e : (if (decI i).take 1 = [45] then -((i.natAbs : Nat) : Int) else ((i.natAbs : Nat) : Int)) = i := by
    by_cases hn : i < 0
    · have : (decI i).take 1 = [45] := by unfold decI; rw [if_pos hn]; rfl
      rw [if_pos this]; omega
    · have : (decI i).take 1 ≠ [45] := fun z => by
        have z2 : (TL.numL i.natAbs).take 1 = [45] := by unfold decI at z; rwa [if_neg hn] at z
        have hm : 45 ∈ TL.numL i.natAbs := List.mem_of_mem_take (z2 ▸ (by simp) : 45 ∈ (TL.numL i.natAbs).take 1)
        have := numL_AllD _ 45 hm
        omega
      rw [if_neg this]; omega
  rw [e] at hx
  exact hx
/-- for over the items of a list that the turns leave alone -/
theorem w_forL {xs : List DV} {r n : Nat} {g : GM} {b : SM} {Q : SR → Prop} {ls : LS} {h : AH} (I : Nat → LS → AH → Prop) (hn : n = xs.length) (h0 : I 0 ls h) (hr : ∀ i ls h, I i ls h → h[r]? = some (.lst xs))
    (step : ∀ (i : Nat) (d : DV) (ls : LS) (h : AH), xs[i]? = some d → I i ls h → ∃ ls1 h1, g d ls h = some (ls1, h1) ∧ wS (b ls1 h1) (kL (I (i + 1)) Q)) (fin : ∀ ls h, I xs.length ls h → Q (.go .nx ls h)) :
    wS (loopN (itL r n).nx g b (itL r n).fuel 0 ls h) Q := by
  subst hn
  refine w_loop (n := xs.length) (it := fun i => xs.getD i .non) I (fun i ls h hi q => ?_) (fun ls h q => ?_) (fun i ls h hi q => step i _ ls h (by simp [List.getD, List.getElem?_eq_getElem hi]) q) fin _ 0 ls h (by simp [itL]) h0
  · show (match h[r]? with | some (.lst ys) => some ys[i]? | _ => none) = _
    rw [hr i ls h q]
    simp [List.getD, List.getElem?_eq_getElem hi]
  · show (match h[r]? with | some (.lst ys) => some ys[xs.length]? | _ => none) = _
    rw [hr _ ls h q]
    simp
theorem brw_ref {ex : List Nat} {h : AH} {q : Nat} {xs : List DV} (e : h[q]? = some (.lst xs)) (o : DV.owns xs = true) (hx : ex.contains q = false) : brw ex h [.ref q] = some [.lst false xs] := by
  have e1 : drN false ex h 4 q = some xs := by
    show (if ex.contains q = true then none else match h[q]? with
      | some (.lst xs) => snapWs false (drN false ex h 3) xs
      | _ => none) = _
    rw [hx, e]
    simp only [Bool.false_eq_true, if_false]
    exact snaps_own o
  show (match (drN false ex h 4 q).map (DV.lst false), some [] with
    | some y, some ys => some (y :: ys)
    | _, _ => none) = _
  rw [e1]; rfl
@[simp] theorem io_ref {h : AH} {r : Nat} : itOf h (.ref r) = match h[r]? with
    | some (.lst xs) => some (itL r xs.length)
    | _ => none := rfl
@[simp] theorem sl_ref {h : AH} {r : Nat} {lo hi : Option Int} : slD (.ref r) lo hi h = match h[r]? with
    | some (.lst xs) => some (.ref h.length, h ++ [.lst (cut xs lo hi)])
    | _ => none := rfl
end P3


set_option maxRecDepth 100000
set_option maxHeartbeats 2000000
set_option autoImplicit false
/-! Comprehensions; find. -/
namespace P3
open PySem L2
def kC (r : Nat) (acc : List DV) (K : List DV → AH → Prop) : R (Option DV) → Prop
  | .ok (some y) h => h[r]? = some (.lst acc) ∧ K (acc ++ [y]) (h.set r (.lst (acc ++ [y])))
  | .ok none h => h[r]? = some (.lst acc) ∧ K acc h
  | .er _ _ => False
@[simp] theorem kC_some {r : Nat} {acc : List DV} {K : List DV → AH → Prop} {y : DV} {h : AH} : kC r acc K (.ok (some y) h) ↔ h[r]? = some (.lst acc) ∧ K (acc ++ [y]) (h.set r (.lst (acc ++ [y]))) := Iff.rfl
@[simp] theorem kC_none {r : Nat} {acc : List DV} {K : List DV → AH → Prop} {h : AH} : kC r acc K (.ok none h) ↔ h[r]? = some (.lst acc) ∧ K acc h := Iff.rfl
theorem w_compN {r n : Nat} {nx : Nat → AH → Option (Option DV)} {turn : DV → AH → Option (R (Option DV))} {it : Nat → DV} {Q : R DV → Prop} (I : Nat → List DV → AH → Prop) (hn : n ≤ LIM) (hnx : ∀ i acc h, i < n → I i acc h → nx i h = some (some (it i))) (hend : ∀ acc h, I n acc h → nx n h = some none)
    (step : ∀ i acc h, i < n → I i acc h → h[r]? = some (.lst acc) → wE (turn (it i) h) (kC r acc (I (i + 1)))) (fin : ∀ acc h, I n acc h → h[r]? = some (.lst acc) → Q (.ok (.ref r) h)) :
    ∀ (k i : Nat) (acc : List DV) (h : AH), i + k = n → acc.length ≤ i → I i acc h → h[r]? = some (.lst acc) → wE (compN r nx turn k i h) Q
  | 0, i, acc, h, e, hl, hi, hr => by
    simp only [Nat.add_zero] at e
    subst e
    unfold compN
    rw [hend acc h hi]
    exact wE_some.mpr (fin acc h hi hr)
  | k + 1, i, acc, h, e, hl, hi, hr => by
    have hlt : i < n := by omega
    obtain ⟨x, ex, q⟩ := step i acc h hlt hi hr
    unfold compN
    simp only [hnx i acc h hlt hi, ex]
    cases x with
    | er y h' => exact q.elim
    | ok o h' =>
      cases o with
      | none => exact w_compN I hn hnx hend step fin k (i + 1) acc h' (by omega) (by omega) q.2 q.1
      | some y =>
        obtain ⟨q1, q2⟩ := q
        have hl2 : acc.length < LIM := by omega
        simp only [q1, hl2, if_true]
        refine w_compN I hn hnx hend step fin k (i + 1) (acc ++ [y]) _ (by omega) (by simp; omega) q2 ?_
        rw [List.getElem?_set_self (List.getElem?_eq_some_iff.mp q1).1]
/-- over a value that stays; ls: the frame's names with the comprehension's own wiped -/
theorem w_cmpV {own : List Nat} {itm : IM} {g : GM} {c : Option EM} {f : EM} {ls : LS} {h h0 : AH} {xs : List DV} {Q : R DV → Prop} (hit : itm ls h0 = some (.ok (itV xs) h)) (I : Nat → List DV → AH → Prop) (hn : xs.length ≤ LIM) (hI : I 0 [] (h ++ [.lst []]))
    (step : ∀ (i : Nat) (d : DV) (acc : List DV) (h' : AH), xs[i]? = some d → I i acc h' → h'[h.length]? = some (.lst acc) → wE (compT g c f (wipeL ls own) d h') (kC h.length acc (I (i + 1)))) (fin : ∀ acc h', I xs.length acc h' → h'[h.length]? = some (.lst acc) → Q (.ok (.ref h.length) h')) :
    wE (cCmp own itm g c f ls h0) Q := by
  unfold cCmp
  rw [hit]
  simp only [bd_ok]
  refine w_compN (n := xs.length) (it := fun i => xs.getD i .non) I hn (fun i acc h' hi _ => ?_) (fun acc h' _ => ?_) (fun i acc h' hi q hr => step i _ acc h' (by simp [List.getD, List.getElem?_eq_getElem hi]) q hr) fin _ 0 [] _ (by simp [itV]) (Nat.le_refl _) hI (by simp)
  · show some xs[i]? = _
    simp [List.getD, List.getElem?_eq_getElem hi]
  · show some xs[xs.length]? = _
    simp
theorem w_cmpR {own : List Nat} {itm : IM} {g : GM} {c : Option EM} {f : EM} {ls : LS} {h h0 : AH} {n : Nat} {Q : R DV → Prop} (hit : itm ls h0 = some (.ok (itR 0 1 n) h)) (I : Nat → List DV → AH → Prop) (hn : n ≤ LIM) (hI : I 0 [] (h ++ [.lst []]))
    (step : ∀ (i : Nat) (acc : List DV) (h' : AH), i < n → I i acc h' → h'[h.length]? = some (.lst acc) → wE (compT g c f (wipeL ls own) (.int i) h') (kC h.length acc (I (i + 1)))) (fin : ∀ acc h', I n acc h' → h'[h.length]? = some (.lst acc) → Q (.ok (.ref h.length) h')) :
    wE (cCmp own itm g c f ls h0) Q := by
  unfold cCmp
  rw [hit]
  simp only [bd_ok]
  refine w_compN (n := n) (it := fun i => .int i) I hn (fun i acc h' hi _ => ?_) (fun acc h' _ => ?_) (fun i acc h' hi q hr => step i acc h' hi q hr) fin _ 0 [] _ (by simp [itR]) (Nat.le_refl _) hI (by simp)
  · show (if i < n then some (some (DV.int (0 + (i : Int) * 1))) else some none) = _
    rw [if_pos hi]; simp
  · show (if n < n then some (some (DV.int (0 + (n : Int) * 1))) else some none) = _
    rw [if_neg (Nat.lt_irrefl n)]
@[simp] theorem r_compT {g : GM} {f : EM} {ls : LS} {d : DV} {h : AH} : compT g none f ls d h = match g d ls h with
  | none => none
  | some (ls2, h2) => bd (f ls2 h2) fun y h3 => some (.ok (some y) h3) := rfl
@[simp] theorem r_wipe0 {ls : LS} : wipeL ls [] = ls := rfl
@[simp] theorem r_wipe {ls : LS} {v : Nat} {vs : List Nat} : wipeL ls (v :: vs) = (wipeL ls vs).set v none := rfl
theorem e_rng {f : EM} {ls : LS} {h h' : AH} {n : Int} (e : f ls h = some (.ok (.int n) h')) (hp : -(2 ^ 62) ≤ n ∧ n < 2 ^ 62) : iRng1 f ls h = some (.ok (itR 0 1 n.toNat) h') := by
  have ea : cArgs [f] ls h = some (.ok [.int n] h') := by
    unfold cArgs
    rw [e]
    rfl
  unfold iRng1
  rw [ea]
  exact if_pos hp
theorem e_rng1 {f : EM} {ls : LS} {h h' : AH} {n : Nat} (e : f ls h = some (.ok (.int n) h')) (hn : n < 1000000000) : iRng1 f ls h = some (.ok (itR 0 1 n) h') :=
  e_rng (n := (n : Int)) e ⟨Int.le_trans (by decide) (Int.natCast_nonneg n), Int.lt_of_lt_of_le (Int.ofNat_lt.mpr hn) (by decide)⟩
/-! find of one sign -/
theorem sub_one (a : List Nat) (c i : Nat) : PySem.Builtin.Str.subAt (SX.S a) (SX.S [c]) i = true ↔ a[i]? = some c := by
  unfold PySem.Builtin.Str.subAt
  have e : ((SX.S a).cps.extract i (i + (SX.S [c]).length)).toList = (a.drop i).take 1 := by
    rw [SX.S_len]
    simp [SX.S, List.extract_eq_drop_take]
  rw [beq_iff_eq, ← Array.toList_inj, e]
  show (a.drop i).take 1 = [c] ↔ _
  cases q : a.drop i with
  | nil =>
    have : a.length ≤ i := List.drop_eq_nil_iff.mp q
    simp [List.getElem?_eq_none this]
  | cons x r =>
    have : a[i]? = some x := by
      rw [← List.head?_drop, q]; rfl
    simp [this]
theorem occ_scan {a : List Nat} {c : Nat} (hi : Nat) : ∀ (l : List Nat) (free : Nat), (∀ i ∈ l, free ≤ i) → ∀ (w : List Nat) (k : Nat) (r : List Nat), l = w ++ k :: r → (∀ i ∈ w, a[i]? ≠ some c) → a[k]? = some c → (∀ i ∈ l, i + 1 ≤ hi ∨ a[i]? ≠ some c) →
    (forIn l ((#[] : Array Nat), free) (PySem.StrLaws.occBody (SX.S a) (SX.S [c]) hi 1)).run.fst = #[k]
  | [], free, _, w, k, r, e, _, _, _ => by cases w <;> cases e
  | x :: l, free, hf, w, k, r, e, hw, hk, hb => by
    rw [List.forIn_cons]
    have hfx := hf x List.mem_cons_self
    cases w with
    | nil =>
      cases e
      have hs := (sub_one a c x).mpr hk
      have hh : x + 1 ≤ hi := by
        rcases hb x List.mem_cons_self with h | h
        · exact h
        · exact absurd hk h
      unfold PySem.StrLaws.occBody
      rw [if_pos ⟨⟨⟨by simp, hfx⟩, by rw [SX.S_len]; exact hh⟩, hs⟩]
      have : ∀ (l : List Nat) (f : Nat), (forIn l ((#[x] : Array Nat), f) (PySem.StrLaws.occBody (SX.S a) (SX.S [c]) hi 1)).run.fst = #[x] := by
        intro l
        induction l with
        | nil => intro f; rfl
        | cons y l ih =>
          intro f
          rw [List.forIn_cons]
          unfold PySem.StrLaws.occBody
          rw [if_neg (by intro h; simp at h)]
          exact ih f
      exact this l _
    | cons y w =>
      cases e
      have hs : ¬ PySem.Builtin.Str.subAt (SX.S a) (SX.S [c]) x = true := fun h => hw x List.mem_cons_self ((sub_one a c x).mp h)
      unfold PySem.StrLaws.occBody
      rw [if_neg (fun h => hs h.2)]
      exact occ_scan hi (w ++ k :: r) free (fun i h => hf i (List.mem_cons_of_mem _ h)) w k r rfl (fun i h => hw i (List.mem_cons_of_mem _ h)) hk (fun i h => hb i (List.mem_cons_of_mem _ h))
theorem find_hit {pre w post : List Nat} {c : Nat} (hw : c ∉ w) : Txt.find3 (SX.S (pre ++ w ++ c :: post)) (SX.S [c]) (pre.length : Int) = ((pre.length + w.length : Nat) : Int) := by
  unfold Txt.find3
  have hf : fromIndex (SX.S (pre ++ w ++ c :: post)).length (pre.length : Int) = pre.length := by
    unfold fromIndex
    rw [if_neg (by omega)]
    omega
  rw [hf, PySem.StrLaws.occ_eq, SX.S_len]
  have el : (pre ++ w ++ c :: post).length + 1 - pre.length = w.length + (1 + (post.length + 1)) := by simp; omega
  have e2 : List.range' pre.length ((pre ++ w ++ c :: post).length + 1 - pre.length) = List.range' pre.length w.length ++ (pre.length + w.length) :: List.range' (pre.length + w.length + 1) (post.length + 1) := by
    rw [el, ← List.range'_append_1, ← List.range'_append_1]
    rfl
  rw [e2]
  have key := occ_scan (a := pre ++ w ++ c :: post) (c := c) (pre ++ w ++ c :: post).length (List.range' pre.length w.length ++ (pre.length + w.length) :: List.range' (pre.length + w.length + 1) (post.length + 1)) pre.length (fun i hi => by
      rw [← e2] at hi
      exact (List.mem_range'_1.mp hi).1) (List.range' pre.length w.length) (pre.length + w.length) (List.range' (pre.length + w.length + 1) (post.length + 1)) rfl (fun i hi z => by
      obtain ⟨h1, h2⟩ := List.mem_range'_1.mp hi
      rw [List.getElem?_append_left (by simp; omega), List.getElem?_append_right h1] at z
      exact hw (List.mem_of_getElem? z)) (by
      rw [List.getElem?_append_right (by simp)]
      simp) (fun i hi => by
      rw [← e2] at hi
      obtain ⟨h1, h2⟩ := List.mem_range'_1.mp hi
      by_cases h : i < (pre ++ w ++ c :: post).length
      · exact .inl h
      · exact .inr (by rw [List.getElem?_eq_none (by omega)]; simp))
  rw [key]
theorem find_miss {pre w : List Nat} {c : Nat} (hw : c ∉ w) : Txt.find3 (SX.S (pre ++ w)) (SX.S [c]) (pre.length : Int) = -1 := by
  unfold Txt.find3
  have hf : fromIndex (SX.S (pre ++ w)).length (pre.length : Int) = pre.length := by
    unfold fromIndex
    rw [if_neg (by omega)]
    omega
  rw [hf, PySem.StrLaws.occ_eq]
  have key := (PySem.StrLaws.occ_none (SX.S (pre ++ w)) (SX.S [c]) (SX.S (pre ++ w)).length (List.range' pre.length ((SX.S (pre ++ w)).length + 1 - pre.length)) pre.length (fun i hi => (List.mem_range'_1.mp hi).1)).mpr (fun i hi z => by
    have z2 := (sub_one (pre ++ w) c i).mp z.2
    have h1 := (List.mem_range'_1.mp hi).1
    rw [List.getElem?_append_right h1] at z2
    exact hw (List.mem_of_getElem? z2))
  rw [key]
end P3


set_option maxRecDepth 100000
set_option maxHeartbeats 0
namespace K01
open PySem L2 P3
def topS (i : Nat) : Stmt := PySem.Challenge.pw_howoften_k01_data.main.body.getD i (.Pass ⟨0, 0, 0, 0⟩)
def f_write_integer : FD := ⟨"write_integer", ["n"], ["n", "chunks", "low"], defBody (topS 6), defScope (topS 6), 0, defArgs (topS 6)⟩
def f_read_integer : FD := ⟨"read_integer", ["text"], ["text", "digits", "char", "head", "n", "start"], defBody (topS 7), defScope (topS 7), 0, defArgs (topS 7)⟩
def f_write_data : FD := ⟨"write_data", ["datum"], ["datum", "item"], defBody (topS 11), defScope (topS 11), 0, defArgs (topS 11)⟩
def f_plain_text : FD := ⟨"plain_text", ["text"], ["text", "char"], defBody (topS 12), defScope (topS 12), 0, defArgs (topS 12)⟩
def f_read_plain : FD := ⟨"read_plain", ["text", "start"], ["text", "start", "end"], defBody (topS 13), defScope (topS 13), 0, defArgs (topS 13)⟩
def f_read_data : FD := ⟨"read_data", ["text"], ["text", "stack", "index", "fresh", "done", "item"], defBody (topS 14), defScope (topS 14), 0, defArgs (topS 14)⟩
def f__law_start : FD := ⟨"_law_start", ["script"], ["script"], defBody (topS 16), defScope (topS 16), 0, defArgs (topS 16)⟩
def f__law_draw : FD := ⟨"_law_draw", ["state", "most"], ["state", "most", "found", "cell", "mixed"], defBody (topS 17), defScope (topS 17), 1, defArgs (topS 17)⟩
def f__law_shuffled : FD := ⟨"_law_shuffled", ["state", "items"], ["state", "items", "found", "item"], defBody (topS 18), defScope (topS 18), 1, defArgs (topS 18)⟩
def f__law_is_int : FD := ⟨"_law_is_int", ["x"], ["x"], defBody (topS 19), defScope (topS 19), 0, defArgs (topS 19)⟩
def f__law_same : FD := ⟨"_law_same", ["x", "y"], ["x", "y", "k"], defBody (topS 20), defScope (topS 20), 0, defArgs (topS 20)⟩
def f__law_datum : FD := ⟨"_law_datum", ["state", "depth"], ["state", "depth", "pick", "k", "signs", "text"], defBody (topS 21), defScope (topS 21), 1, defArgs (topS 21)⟩
def f__law_written : FD := ⟨"_law_written", ["datum"], ["datum", "item"], defBody (topS 22), defScope (topS 22), 0, defArgs (topS 22)⟩
def f__law_refused : FD := ⟨"_law_refused", ["text"], ["text"], defBody (topS 23), defScope (topS 23), 0, defArgs (topS 23)⟩
def f_law : FD := ⟨"law", ["script"], ["script", "state", "turn", "datum", "text", "odd", "one", "deep", "found"], defBody (topS 24), defScope (topS 24), 0, defArgs (topS 24)⟩
def tab : List FD := [f_write_integer, f_read_integer, f_write_data, f_plain_text, f_read_plain, f_read_data, f__law_start, f__law_draw, f__law_shuffled, f__law_is_int, f__law_same, f__law_datum, f__law_written, f__law_refused, f_law]
def G : GE := ⟨[("write_integer", 1), ("read_integer", 1), ("write_data", 1), ("plain_text", 1), ("read_plain", 2), ("read_data", 1), ("_law_start", 1), ("_law_draw", 2), ("_law_shuffled", 2), ("_law_is_int", 1), ("_law_same", 2), ("_law_datum", 2), ("_law_written", 1), ("_law_refused", 1), ("law", 1)],
  [("BASE", .int (10000000000000000000000000000000000000000000000000000000000000000)), ("DIGITS", .str [48, 49, 50, 51, 52, 53, 54, 55, 56, 57]), ("DEPTH", .int (240)), ("SIGNS", .str [45, 48, 49, 50, 51, 52, 53, 54, 55, 56, 57])],
  [("HowoftenError", ["HowoftenError"]), ("BadText", ["BadText", "HowoftenError"])],
  ["int", "str", "tuple", "bool", "list", "len", "abs", "divmod", "isinstance", "all", "ord", "range"]⟩
theorem fnsOk : fnsB G tab = true := by decide +kernel
theorem bindOk : BindAll tab := ⟨(fun _ _ _ _ _ _ us hl => match us, hl with | [_], _ => rfl), (fun _ _ _ _ _ _ us hl => match us, hl with | [_], _ => rfl), (fun _ _ _ _ _ _ us hl => match us, hl with | [_], _ => rfl), (fun _ _ _ _ _ _ us hl => match us, hl with | [_], _ => rfl), (fun _ _ _ _ _ _ us hl => match us, hl with | [_, _], _ => rfl), (fun _ _ _ _ _ _ us hl => match us, hl with | [_], _ => rfl), (fun _ _ _ _ _ _ us hl => match us, hl with | [_], _ => rfl), (fun _ _ _ _ _ _ us hl => match us, hl with | [_, _], _ => rfl), (fun _ _ _ _ _ _ us hl => match us, hl with | [_, _], _ => rfl), (fun _ _ _ _ _ _ us hl => match us, hl with | [_], _ => rfl), (fun _ _ _ _ _ _ us hl => match us, hl with | [_, _], _ => rfl), (fun _ _ _ _ _ _ us hl => match us, hl with | [_, _], _ => rfl), (fun _ _ _ _ _ _ us hl => match us, hl with | [_], _ => rfl), (fun _ _ _ _ _ _ us hl => match us, hl with | [_], _ => rfl), (fun _ _ _ _ _ _ us hl => match us, hl with | [_], _ => rfl), trivial⟩
end K01
namespace K01
open PySem L2 P3
def b_write_data (cf : Str → List DV → AH → Option (R DV)) : List SM := [
  sIf (cBlt .isinstance [cVar 0, cVal (.ty "tuple")]) (sSeq [
    sRet (cOp (binD .Add) (cOp (binD .Add) (cVal (.str [40])) (cMth .join (cVal (.str [44, 32])) [cCmp [1] (iVal (cVar 0)) (gNm 1) none (cCall (cf "write_data") [cVar 1])])) (cVal (.str [41])))]) (sSeq []),
  sIf (cBlt .isinstance [cVar 0, cVal (.ty "str")]) (sSeq [
    sRet (cOp (binD .Add) (cOp (binD .Add) (cVal (.str [39])) (cVar 0)) (cVal (.str [39])))]) (sSeq []),
  sRet (cCall (cf "write_integer") [cVar 0])]
def b_plain_text (cf : Str → List DV → AH → Option (R DV)) : List SM := [
  sFor (iVal (cVar 0)) (gNm 1) (sSeq [
    sIf (cOr (cOp (cmpD .Lt) (cVar 1) (cVal (.str [32]))) (cOr (cOp (cmpD .Gt) (cVar 1) (cVal (.str [126]))) (cOr (cOp (cmpD .Eq) (cVar 1) (cVal (.str [39]))) (cOp (cmpD .Eq) (cBlt .ord [cVar 1]) (cVal (.int 37)))))) (sSeq [
      sRet (cVal (.bl false))]) (sSeq [])]),
  sRet (cVal (.bl true))]
def b_read_plain (cf : Str → List DV → AH → Option (R DV)) : List SM := [
  sIf (cOp (cmpD .Eq) (cOp subD (cVar 0) (cVar 1)) (cVal (.str [39]))) (sSeq [
    sAsg (cMth .find (cVar 0) [cVal (.str [39]), cOp (binD .Add) (cVar 1) (cVal (.int 1))]) (gNm 2),
    sIf (cOr (cOp (cmpD .Lt) (cVar 2) (cVal (.int 0))) (cNot (cCall (cf "plain_text") [cSl (cVar 0) (some (cOp (binD .Add) (cVar 1) (cVal (.int 1)))) (some (cVar 2))]))) (sSeq [
      sRaise ⟨"BadText", []⟩]) (sSeq []),
    sRet (cTup [cSl (cVar 0) (some (cOp (binD .Add) (cVar 1) (cVal (.int 1)))) (some (cVar 2)), cOp (binD .Add) (cVar 2) (cVal (.int 1))])]) (sSeq []),
  sAsg (cVar 1) (gNm 2),
  sWh (cAnd (cOp (cmpD .Lt) (cVar 2) (cBlt .len [cVar 0])) (cOp (cmpD .In) (cOp subD (cVar 0) (cVar 2)) (cVal (.str [45, 48, 49, 50, 51, 52, 53, 54, 55, 56, 57])))) (sSeq [
    sAug 2 (ipD .Add) (cVal (.int 1))]),
  sRet (cTup [cCall (cf "read_integer") [cSl (cVar 0) (some (cVar 1)) (some (cVar 2))], cVar 2])]
def b_read_data (cf : Str → List DV → AH → Option (R DV)) : List SM := [
  sAsg (cLst [cLst []]) (gNm 1),
  sAsg (cVal (.int 0)) (gNm 2),
  sAsg (cVal (.bl true)) (gNm 3),
  sWh (cOp (cmpD .Lt) (cVar 2) (cBlt .len [cVar 0])) (sSeq [
    sIf (cAnd (cVar 3) (cAnd (cOp (cmpD .Eq) (cOp subD (cVar 0) (cVar 2)) (cVal (.str [40]))) (cOp (cmpD .LtE) (cBlt .len [cVar 1]) (cVal (.int 240))))) (sSeq [
      sExpr (cMth .append (cVar 1) [cLst []]),
      sAug 2 (ipD .Add) (cVal (.int 1))]) (sSeq [
      sIf (cAnd (cOp (cmpD .Eq) (cOp subD (cVar 0) (cVar 2)) (cVal (.str [41]))) (cAnd (cOp (cmpD .Gt) (cBlt .len [cVar 1]) (cVal (.int 1))) (cOr (cNot (cVar 3)) (cOp (cmpD .Eq) (cOp subD (cVar 0) (cOp (binD .Sub) (cVar 2) (cVal (.int 1)))) (cVal (.str [40])))))) (sSeq [
        sAsg (cBlt .tuple [cMth .pop (cVar 1) []]) (gNm 4),
        sExpr (cMth .append (cOp subD (cVar 1) (cUn negD (cVal (.int 1)))) [cVar 4]),
        sAug 2 (ipD .Add) (cVal (.int 1)),
        sAsg (cVal (.bl false)) (gNm 3)]) (sSeq [
        sIf (cAnd (cNot (cVar 3)) (cAnd (cOp (cmpD .Gt) (cBlt .len [cVar 1]) (cVal (.int 1))) (cOp (cmpD .Eq) (cSl (cVar 0) (some (cVar 2)) (some (cOp (binD .Add) (cVar 2) (cVal (.int 2))))) (cVal (.str [44, 32]))))) (sSeq [
          sAug 2 (ipD .Add) (cVal (.int 2)),
          sAsg (cVal (.bl true)) (gNm 3)]) (sSeq [
          sIf (cAnd (cVar 3) (cOp (cmpD .NotEq) (cOp subD (cVar 0) (cVar 2)) (cVal (.str [40])))) (sSeq [
            sAsg (cCall (cf "read_plain") [cVar 0, cVar 2]) (gTp [gNm 5, gNm 2]),
            sExpr (cMth .append (cOp subD (cVar 1) (cUn negD (cVal (.int 1)))) [cVar 5]),
            sAsg (cVal (.bl false)) (gNm 3)]) (sSeq [
            sRaise ⟨"BadText", []⟩])])])])]),
  sIf (cOr (cOp (cmpD .NotEq) (cBlt .len [cVar 1]) (cVal (.int 1))) (cOp (cmpD .NotEq) (cBlt .len [cOp subD (cVar 1) (cVal (.int 0))]) (cVal (.int 1)))) (sSeq [
    sRaise ⟨"BadText", []⟩]) (sSeq []),
  sRet (cOp subD (cOp subD (cVar 1) (cVal (.int 0))) (cVal (.int 0)))]
def b__law_datum (cf : Str → List DV → AH → Option (R DV)) : List SM := [
  sAsg (cCall (cf "_law_draw") [cVar 0, cVal (.int 4)]) (gNm 2),
  sIf (cAnd (cOp (cmpD .Gt) (cVar 1) (cVal (.int 0))) (cOp (cmpD .Lt) (cVar 2) (cVal (.int 2)))) (sSeq [
    sRet (cBlt .tuple [cCmp [3] (iRng1 (cCall (cf "_law_draw") [cVar 0, cVal (.int 4)])) (gNm 3) none (cCall (cf "_law_datum") [cVar 0, cOp (binD .Sub) (cVar 1) (cVal (.int 1))])])]) (sSeq []),
  sIf (cOp (cmpD .Eq) (cVar 2) (cVal (.int 2))) (sSeq [
    sRet (cOp subD (cLst [cCall (cf "_law_draw") [cVar 0, cVal (.int 10)], cOp (binD .Sub) (cCall (cf "_law_draw") [cVar 0, cVal (.int 1000000)]) (cVal (.int 500000))]) (cCall (cf "_law_draw") [cVar 0, cVal (.int 2)]))]) (sSeq []),
  sAsg (cVal (.str [97, 98, 122, 48, 57, 32, 44, 40, 41, 45, 95, 46, 126, 34, 60, 62])) (gNm 4),
  sAsg (cVal (.str [])) (gNm 5),
  sFor (iRng1 (cCall (cf "_law_draw") [cVar 0, cVal (.int 6)])) (gNm 3) (sSeq [
    sAsg (cOp (binD .Add) (cVar 5) (cOp subD (cVar 4) (cCall (cf "_law_draw") [cVar 0, cBlt .len [cVar 4]]))) (gNm 5)]),
  sRet (cVar 5)]
def b__law_written (cf : Str → List DV → AH → Option (R DV)) : List SM := [
  sIf (cBlt .isinstance [cVar 0, cVal (.ty "tuple")]) (sSeq [
    sRet (cOp (binD .Add) (cOp (binD .Add) (cVal (.str [40])) (cMth .join (cVal (.str [44, 32])) [cCmp [1] (iVal (cVar 0)) (gNm 1) none (cCall (cf "_law_written") [cVar 1])])) (cVal (.str [41])))]) (sSeq []),
  sIf (cBlt .isinstance [cVar 0, cVal (.ty "str")]) (sSeq [
    sRet (cOp (binD .Add) (cOp (binD .Add) (cVal (.str [39])) (cVar 0)) (cVal (.str [39])))]) (sSeq []),
  sRet (cBlt .str [cVar 0])]
def b__law_refused (cf : Str → List DV → AH → Option (R DV)) : List SM := [
  sTry (sSeq [
    sExpr (cCall (cf "read_data") [cVar 0])]) (excIs G "BadText") (suC (.bl true)) id,
  sRet (cVal (.bl false))]
def b_law (cf : Str → List DV → AH → Option (R DV)) : List SM := [
  sAsg (cCall (cf "_law_start") [cVar 0]) (gNm 1),
  sFor (iRng1 (cVal (.int 4))) (gNm 2) (sSeq [
    sAsg (cCall (cf "_law_datum") [cVar 1, cVal (.int 4)]) (gNm 3),
    sAsg (cCall (cf "_law_written") [cVar 3]) (gNm 4),
    sIf (cOr (cNot (cCall (cf "_law_same") [cCall (cf "write_data") [cVar 3], cVar 4])) (cNot (cCall (cf "_law_same") [cCall (cf "read_data") [cVar 4], cVar 3]))) (sSeq [
      sRet (cVal (.bl false))]) (sSeq []),
    sAsg (cLst [cVal (.str []), cOp (binD .Add) (cVal (.str [40])) (cVar 4), cOp (binD .Add) (cVar 4) (cVal (.str [41])), cOp (binD .Add) (cVar 4) (cVal (.str [32])), cOp (binD .Add) (cVal (.str [32])) (cVar 4), cOp (binD .Add) (cVar 4) (cVal (.str [44, 32])), cOp (binD .Add) (cOp (binD .Add) (cVal (.str [40])) (cVar 4)) (cVal (.str [44, 41])), cOp (binD .Add) (cOp (binD .Add) (cVal (.str [40, 32])) (cVar 4)) (cVal (.str [41]))]) (gNm 5),
    sAsg (cOp (binD .Add) (cVar 5) (cLst [cOp (binD .Add) (cOp (binD .Add) (cVal (.str [40])) (cVar 4)) (cVal (.str [32, 41])), cOp (binD .Add) (cOp (binD .Add) (cOp (binD .Add) (cOp (binD .Add) (cVal (.str [40])) (cVar 4)) (cVal (.str [44]))) (cVar 4)) (cVal (.str [41])), cOp (binD .Add) (cOp (binD .Add) (cOp (binD .Add) (cOp (binD .Add) (cVal (.str [40])) (cVar 4)) (cVal (.str [44, 32, 32]))) (cVar 4)) (cVal (.str [41])), cVal (.str [40, 48, 48, 55, 41]), cVal (.str [40, 45, 48, 41])])) (gNm 5),
    sAsg (cOp (binD .Add) (cVar 5) (cLst [cOp (binD .Add) (cOp (binD .Add) (cVal (.str [40])) (cVar 4)) (cVal (.str [44, 32, 41])), cOp (binD .Add) (cOp (binD .Add) (cVal (.str [40, 44, 32])) (cVar 4)) (cVal (.str [41])), cVal (.str [40, 39, 97, 41]), cVal (.str [39, 97, 39, 98, 39]), cOp (binD .Add) (cOp (binD .Add) (cVar 4) (cVar 4)) (cVal (.str [40])), cVal (.str [40, 41, 40, 41])])) (gNm 5),
    sFor (iVal (cSl (cCall (cf "_law_shuffled") [cVar 1, cVar 5]) none (some (cVal (.int 8))))) (gNm 6) (sSeq [
      sIf (cNot (cCall (cf "_law_refused") [cVar 6])) (sSeq [
        sRet (cVal (.bl false))]) (sSeq [])])]),
  sAsg (cOp (binD .Add) (cVal (.int 239)) (cCall (cf "_law_draw") [cVar 1, cVal (.int 3)])) (gNm 7),
  sAsg (cTup []) (gNm 3),
  sFor (iRng1 (cOp (binD .Sub) (cVar 7) (cVal (.int 1)))) (gNm 2) (sSeq [
    sAsg (cTup [cVar 3]) (gNm 3)]),
  sAsg (cOp (binD .Add) (cOp (binD .Mult) (cVal (.str [40])) (cVar 7)) (cOp (binD .Mult) (cVal (.str [41])) (cVar 7))) (gNm 4),
  sIf (cOp (cmpD .Eq) (cVar 7) (cVal (.int 241))) (sSeq [
    sRet (cCall (cf "_law_refused") [cVar 4])]) (sSeq []),
  sAsg (cCall (cf "read_data") [cVar 4]) (gNm 8),
  sFor (iRng1 (cOp (binD .Sub) (cVar 7) (cVal (.int 1)))) (gNm 2) (sSeq [
    sIf (cOr (cNot (cBlt .isinstance [cVar 8, cVal (.ty "tuple")])) (cOp (cmpD .NotEq) (cBlt .len [cVar 8]) (cVal (.int 1)))) (sSeq [
      sRet (cVal (.bl false))]) (sSeq []),
    sAsg (cOp subD (cVar 8) (cVal (.int 0))) (gNm 8)]),
  sRet (cAnd (cOp (cmpD .Eq) (cVar 8) (cTup [])) (cAnd (cBlt .isinstance [cVar 8, cVal (.ty "tuple")]) (cCall (cf "_law_same") [cCall (cf "write_data") [cVar 3], cVar 4])))]

abbrev cf (d : Nat) := callN G tab d
theorem c_write_integer (d : Nat) : IsWrite (cf (d + 1)) (cf d) := call_eq 1 3 (f := f_write_integer) (B := writeB (cf d)) rfl rfl rfl rfl
theorem c_read_integer (d : Nat) : IsRead (cf (d + 1)) := call_eq 1 6 (f := f_read_integer) (B := readB) rfl rfl rfl rfl
theorem c_write_data (d : Nat) : ∀ ds h, cf (d + 1) "write_data" ds h = apart (runB 1 2 (b_write_data (cf d))) ds h := call_eq 1 2 (f := f_write_data) (B := b_write_data (cf d)) rfl rfl rfl rfl
theorem c_plain_text (d : Nat) : ∀ ds h, cf (d + 1) "plain_text" ds h = apart (runB 1 2 (b_plain_text (cf d))) ds h := call_eq 1 2 (f := f_plain_text) (B := b_plain_text (cf d)) rfl rfl rfl rfl
theorem c_read_plain (d : Nat) : ∀ ds h, cf (d + 1) "read_plain" ds h = apart (runB 2 3 (b_read_plain (cf d))) ds h := call_eq 2 3 (f := f_read_plain) (B := b_read_plain (cf d)) rfl rfl rfl rfl
theorem c_read_data (d : Nat) : ∀ ds h, cf (d + 1) "read_data" ds h = apart (runB 1 6 (b_read_data (cf d))) ds h := call_eq 1 6 (f := f_read_data) (B := b_read_data (cf d)) rfl rfl rfl rfl
theorem c__law_start (d : Nat) : IsStart (cf (d + 1)) := call_eq 1 1 (f := f__law_start) (B := startB) rfl rfl rfl rfl
theorem c__law_draw (d : Nat) : IsDraw (cf (d + 1)) := call_eq 2 5 (f := f__law_draw) (B := drawB) rfl rfl rfl rfl
theorem c__law_shuffled (d : Nat) : ∀ ds h, cf (d + 1) "_law_shuffled" ds h = inout (runB 2 4 (shufB (cf d))) ds h := call_eq 2 4 (f := f__law_shuffled) (B := shufB (cf d)) rfl rfl rfl rfl
theorem c__law_is_int (d : Nat) : IsIsInt (cf (d + 1)) := call_eq 1 1 (f := f__law_is_int) (B := isIntB) rfl rfl rfl rfl
theorem c__law_same (d : Nat) : IsSame (cf (d + 1)) (cf d) := call_eq 2 3 (f := f__law_same) (B := sameB (cf d)) rfl rfl rfl rfl
theorem c__law_datum (d : Nat) : ∀ ds h, cf (d + 1) "_law_datum" ds h = inout (runB 2 6 (b__law_datum (cf d))) ds h := call_eq 2 6 (f := f__law_datum) (B := b__law_datum (cf d)) rfl rfl rfl rfl
theorem c__law_written (d : Nat) : ∀ ds h, cf (d + 1) "_law_written" ds h = apart (runB 1 2 (b__law_written (cf d))) ds h := call_eq 1 2 (f := f__law_written) (B := b__law_written (cf d)) rfl rfl rfl rfl
theorem c__law_refused (d : Nat) : ∀ ds h, cf (d + 1) "_law_refused" ds h = apart (runB 1 1 (b__law_refused (cf d))) ds h := call_eq 1 1 (f := f__law_refused) (B := b__law_refused (cf d)) rfl rfl rfl rfl
theorem c_law (d : Nat) : ∀ ds h, cf (d + 1) "law" ds h = apart (runB 1 9 (b_law (cf d))) ds h := call_eq 1 9 (f := f_law) (B := b_law (cf d)) rfl rfl rfl rfl
end K01


set_option maxRecDepth 100000
set_option maxHeartbeats 4000000
set_option autoImplicit false
namespace K01
open PySem L2 P3
inductive Dat : Nat → DV → Prop
  | int {k : Nat} {i : Int} : i.natAbs < 10 ^ 400 → Dat k (.int i)
  | str {k : Nat} {x : List Nat} : (∀ c ∈ x, 32 ≤ c ∧ c ≤ 126 ∧ c ≠ 39 ∧ c ≠ 37) → Dat k (.str x)
  | tup {k : Nat} {xs : List DV} : (∀ d ∈ xs, Dat k d) → xs.length ≤ 1000 → Dat (k + 1) (.tup xs)
def txt : Nat → DV → List Nat
  | _, .int i => decI i
  | _, .str x => 39 :: (x ++ [39])
  | k + 1, .tup xs => 40 :: (gluN [44, 32] (xs.map (txt k)) ++ [41])
  | _, _ => []
@[simp] theorem txt_int {k : Nat} {i : Int} : txt k (.int i) = decI i := by cases k <;> rfl
@[simp] theorem txt_str {k : Nat} {x : List Nat} : txt k (.str x) = 39 :: (x ++ [39]) := by cases k <;> rfl
@[simp] theorem txt_tup {k : Nat} {xs : List DV} : txt (k + 1) (.tup xs) = 40 :: (gluN [44, 32] (xs.map (txt k)) ++ [41]) := rfl
theorem Dat.own {k : Nat} {d : DV} (h : Dat k d) : d.own = true := by
  induction h with
  | int _ => rfl
  | str _ => rfl
  | tup _ _ ih => exact owns_iff.mpr ih
theorem glu_sum : ∀ ts : List (List Nat), (ts.map (·.length)).sum + ts.length * 2 ≤ (gluN [44, 32] ts).length + 2
  | [] => by simp
  | [x] => by simp [gluN]
  | x :: y :: r => by
    have ih := glu_sum (y :: r)
    show _ ≤ (x ++ [44, 32] ++ gluN [44, 32] (y :: r)).length + 2
    simp only [List.map_cons, List.sum_cons, List.length_cons, List.length_append] at ih ⊢
    omega
theorem glu_mem {ts : List (List Nat)} {x : List Nat} (h : x ∈ ts) : x.length ≤ (gluN [44, 32] ts).length := by
  have h1 := glu_sum ts
  have h2 : x.length + 2 * ts.length ≤ (ts.map (·.length)).sum + ts.length * 2 := by
    have : x.length ≤ (ts.map (·.length)).sum := by
      clear h1
      induction ts with
      | nil => cases h
      | cons y ts ih =>
        rw [List.map_cons, List.sum_cons]
        rcases List.mem_cons.mp h with rfl | h
        · omega
        · have := ih h; omega
    omega
  have h3 : 0 < ts.length := List.length_pos_of_mem h
  omega
theorem join2 {ts : List (List Nat)} {r : Nat} {h : AH} {Q : R DV → Prop} (e : h[r]? = some (.lst (ts.map DV.str))) (hL : (gluN [44, 32] ts).length + 2 ≤ LIM) (q : Q (.ok (.str (gluN [44, 32] ts)) h)) : wE (up (mthD .join (.str [44, 32]) [.ref r] h)) Q := by
  have e2 : seqOf h (.ref r) = some (ts.map DV.str) := by simp [e]
  have e3 : (seqT h (.ref r)).bind strsD = some ts := by
    show (seqOf h (.ref r)).bind strsD = _
    rw [e2]
    exact strsD_map ts
  have hl := glu_sum ts
  have hL2 : (ts.map (·.length)).sum + ts.length * 2 ≤ LIM := by omega
  have : mthD .join (.str [44, 32]) [.ref r] h = some (.str (gluN [44, 32] ts), h) := by
    unfold mthD
    simp only [e3]
    exact if_pos hL2
  rw [this]
  exact wE_some.mpr q
theorem take_snoc {α : Type} {xs : List α} {i : Nat} {d : α} (h : xs[i]? = some d) : xs.take (i + 1) = xs.take i ++ [d] := by
  rw [List.take_add_one, h]; rfl
/-- the two writers -/
theorem writer {F : Str} {cf1 : Str → List DV → AH → Option (R DV)} {k : Nat} {xs : List DV} (hx : ∀ d ∈ xs, Dat k d) (hn : xs.length ≤ 1000) (hl : (gluN [44, 32] (xs.map (txt k))).length ≤ 1000000)
    (ih : ∀ d ∈ xs, ∀ h, cf1 F [d] h = some (.ok (.str (txt k d)) h)) :
    wE (cCmp [1] (iVal (cVar 0)) (gNm 1) none (cCall (cf1 F) [cVar 1]) [some (.tup xs), none] []) (fun x => x = .ok (.ref 0) [.lst ((xs.map (txt k)).map .str)]) := by
  refine w_cmpV (h := []) (xs := xs) (by simp) (fun i acc h => acc = ((xs.take i).map (txt k)).map DV.str ∧ h = [.lst acc]) (by unfold LIM; omega) ⟨by simp, rfl⟩ ?_ ?_
  · rintro i d _ _ hd ⟨rfl, rfl⟩ hr
    have := ih d (List.mem_of_getElem? hd)
    simp only [r_compT, gNm, wipeL, List.length_set]
    rw [take_snoc hd]
    simp [this]
  · rintro acc h ⟨rfl, rfl⟩ _
    simp
def wB (F : Str) (cf1 : Str → List DV → AH → Option (R DV)) (last : EM) : List SM := [
  sIf (cBlt .isinstance [cVar 0, cVal (.ty "tuple")]) (sSeq [
    sRet (cOp (binD .Add) (cOp (binD .Add) (cVal (.str [40])) (cMth .join (cVal (.str [44, 32])) [cCmp [1] (iVal (cVar 0)) (gNm 1) none (cCall (cf1 F) [cVar 1])])) (cVal (.str [41])))]) (sSeq []),
  sIf (cBlt .isinstance [cVar 0, cVal (.ty "str")]) (sSeq [
    sRet (cOp (binD .Add) (cOp (binD .Add) (cVal (.str [39])) (cVar 0)) (cVal (.str [39])))]) (sSeq []),
  sRet last]
theorem wB_ok {F : Str} {cf1 : Str → List DV → AH → Option (R DV)} {last : EM} {k : Nat} {d : DV} (hd : Dat k d) (hl : (txt k d).length ≤ 1000000) (hlast : ∀ i : Int, i.natAbs < 10 ^ 400 → last [some (.int i), none] [] = some (.ok (.str (decI i)) []))
    (ih : ∀ j, k = j + 1 → ∀ d, Dat j d → (txt j d).length ≤ 1000000 → ∀ h, cf1 F [d] h = some (.ok (.str (txt j d)) h)) : wS (sSeq (wB F cf1 last) [some d, none] []) (pR fun x _ => x = .str (txt k d)) := by
  unfold wB
  cases hd with
  | int hi =>
    have := hlast _ hi
    simp [this]
  | str hx =>
    rename_i x
    simp only [txt_str, List.length_cons, List.length_append, List.length_nil] at hl
    have l1 : x.length + 1 ≤ LIM := by unfold LIM; omega
    have l2 : x.length + 1 + 1 ≤ LIM := by unfold LIM; omega
    have l3 : 1 + (x.length + 1) ≤ LIM := by unfold LIM; omega
    simp [Nat.add_comm, l1, l2, l3]
  | tup hx hn =>
    rename_i j xs
    simp only [txt_tup, List.length_cons, List.length_append, List.length_nil] at hl
    have hl' : (gluN [44, 32] (xs.map (txt j))).length ≤ 1000000 := by omega
    have w := writer (F := F) (cf1 := cf1) hx hn hl' fun d hd h => ih j rfl d (hx d hd) (Nat.le_trans (glu_mem (List.mem_map.mpr ⟨d, hd, rfl⟩)) hl') h
    have l1 : 1 + (gluN [44, 32] (xs.map (txt j))).length ≤ LIM := by unfold LIM; omega
    have l2 : 1 + (gluN [44, 32] (xs.map (txt j))).length + 1 ≤ LIM := by unfold LIM; omega
    have l3 : (gluN [44, 32] (xs.map (txt j))).length + 2 ≤ LIM := by unfold LIM; omega
    simp
    refine w.imp fun x hx => ?_
    subst hx
    simp
    refine join2 (ts := xs.map (txt j)) (by simp) l3 ?_
    have l4 : (gluN [44, 32] (xs.map (txt j))).length + 1 ≤ LIM := by omega
    have l5 : (gluN [44, 32] (xs.map (txt j))).length + 1 + 1 ≤ LIM := by omega
    have l6 : 1 + (1 + (gluN [44, 32] (xs.map (txt j))).length) ≤ LIM := by omega
    simp [l1, l2, l4, l5, l6, Nat.add_comm]
theorem w_data (e : Nat) : ∀ (k : Nat) (d : DV), Dat k d → (txt k d).length ≤ 1000000 → ∀ h, cf (e + k + 3) "write_data" [d] h = some (.ok (.str (txt k d)) h) := by
  intro k
  induction k with
  | zero =>
    intro d hd hl h
    rw [show e + 0 + 3 = (e + 2) + 1 by omega, c_write_data (e + 2)]
    refine apart_val (es := [d]) (brw_own (by simp [hd.own])) rfl rfl (wB_ok (F := "write_data") (cf1 := cf (e + 2)) (last := cCall (cf (e + 2) "write_integer") [cVar 0]) hd hl (fun i hi => ?_) fun j hj => by cases hj)
    have := c_write (c_write_integer (e + 1)) (c_write_integer e) (Nat.lt_of_lt_of_le hi (Nat.pow_le_pow_right (by decide) (by decide))) []
    simp [this]
  | succ k ih =>
    intro d hd hl h
    rw [show e + (k + 1) + 3 = (e + k + 3) + 1 by omega, c_write_data (e + k + 3)]
    refine apart_val (es := [d]) (brw_own (by simp [hd.own])) rfl rfl (wB_ok (F := "write_data") (cf1 := cf (e + k + 3)) (last := cCall (cf (e + k + 3) "write_integer") [cVar 0]) hd hl (fun i hi => ?_) fun j hj => by cases hj; exact ih)
    have := c_write (c_write_integer (e + k + 2)) (c_write_integer (e + k + 1)) (Nat.lt_of_lt_of_le hi (Nat.pow_le_pow_right (by decide) (by decide))) []
    simp [this]
theorem int_log {i : Int} (hi : i.natAbs < 10 ^ 400) : i.natAbs.log2 < 1920 := by
  have := log2_le (a := 1600) (Nat.lt_of_lt_of_le hi (show 10 ^ 400 ≤ 2 ^ 1600 by decide +kernel))
  omega
theorem w_writ (e : Nat) : ∀ (k : Nat) (d : DV), Dat k d → (txt k d).length ≤ 1000000 → ∀ h, cf (e + k + 1) "_law_written" [d] h = some (.ok (.str (txt k d)) h) := by
  intro k
  induction k with
  | zero =>
    intro d hd hl h
    rw [c__law_written]
    refine apart_val (es := [d]) (brw_own (by simp [hd.own])) rfl rfl (wB_ok (F := "_law_written") (cf1 := cf (e + 0)) (last := cBlt .str [cVar 0]) hd hl (fun i hi => ?_) fun j hj => by cases hj)
    simp [int_log hi]
  | succ k ih =>
    intro d hd hl h
    rw [c__law_written]
    refine apart_val (es := [d]) (brw_own (by simp [hd.own])) rfl rfl (wB_ok (F := "_law_written") (cf1 := cf (e + (k + 1))) (last := cBlt .str [cVar 0]) hd hl (fun i hi => ?_) fun j hj => by cases hj; exact ih)
    simp [int_log hi]
theorem boolsD_true : ∀ n : Nat, boolsD (List.replicate n (.bl true)) = some (List.replicate n true)
  | 0 => rfl
  | n + 1 => by
    show (boolsD (List.replicate n (.bl true))).map (true :: ·) = _
    rw [boolsD_true n]; rfl
theorem w_same (e : Nat) : ∀ (k : Nat) (d : DV), Dat k d → ∀ h, cf (e + k + 2) "_law_same" [d, d] h = some (.ok (.bl true) h) := by
  intro k
  induction k with
  | zero =>
    intro d hd h
    cases hd with
    | int hi => exact c_sameI (c__law_same (e + 1)) (c__law_is_int e) _ h
    | str hx => exact c_sameS (c__law_same (e + 1)) _ h
  | succ k ih =>
    intro d hd h
    cases hd with
    | int hi => exact c_sameI (c__law_same (e + (k + 1) + 1)) (c__law_is_int (e + (k + 1))) _ h
    | str hx => exact c_sameS (c__law_same (e + (k + 1) + 1)) _ h
    | tup hx hn =>
      rename_i xs
      rw [show e + (k + 1) + 2 = (e + k + 2) + 1 by omega, c__law_same (e + k + 2)]
      have ho : DV.owns xs = true := owns_iff.mpr fun d hd => (hx d hd).own
      refine apart_val (es := [.tup xs, .tup xs]) (brw_own (by simp [ho])) rfl rfl ?_
      unfold sameB
      have hn2 : (xs.length : Int) < 4611686018427387904 := by omega
      simp
      refine w_cmpR (h := []) (n := xs.length) (e_rng1 (by simp) (by omega)) (fun i acc h => acc = List.replicate i (.bl true) ∧ h = [.lst acc]) (by unfold LIM; omega) ⟨rfl, rfl⟩ ?_ ?_
      · rintro i _ _ hi ⟨rfl, rfl⟩ hr
        have e1 : xs[i]? = some xs[i] := List.getElem?_eq_getElem hi
        have := ih xs[i] (hx _ (List.getElem_mem hi)) [.lst (List.replicate i (.bl true))]
        simp [e1, this, List.replicate_succ']
      · rintro _ _ ⟨rfl, rfl⟩ hr
        simp [bltD, boolsD_true]
end K01


set_option maxRecDepth 100000
set_option maxHeartbeats 4000000
set_option autoImplicit false
namespace K01
open PySem L2 P3
def Plain (x : List Nat) : Prop := ∀ c ∈ x, 32 ≤ c ∧ c ≤ 126 ∧ c ≠ 39 ∧ c ≠ 37
@[simp] theorem lt1 {a b : Nat} : ltS [a] [b] = decide (a < b) := by
  unfold ltS
  refine decide_eq_decide.mpr ?_
  rw [List.cons_lt_cons_iff]
  simp
@[simp] theorem c_ltS {x y : List Nat} {h : AH} : cmpB .Lt (.str x) (.str y) h = some (ltS x y) := rfl
@[simp] theorem c_gtS {x y : List Nat} {h : AH} : cmpB .Gt (.str x) (.str y) h = some (ltS y x) := rfl
@[simp] theorem b_ord {c : Nat} {h : AH} : bltD .ord [.str [c]] h = some (.int c, h) := rfl
theorem c_plain (e : Nat) {x : List Nat} (hx : Plain x) (h : AH) : cf (e + 1) "plain_text" [.str x] h = some (.ok (.bl true) h) := by
  rw [c_plain_text]
  refine apart_val (es := [.str x]) (brw_own (by simp)) rfl rfl ?_
  unfold b_plain_text
  refine wS_cut (M := fun ls h => True) ?_ (fun ls h _ => by simp)
  simp
  refine w_forV (I := fun i ls h => ∃ o, ls = [some (.str x), o]) ⟨none, rfl⟩ ?_ (fun ls h _ => trivial)
  rintro i d ls h hd ⟨o, rfl⟩
  rw [List.getElem?_map] at hd
  cases q : x[i]? with
  | none => rw [q] at hd; cases hd
  | some c =>
  rw [q] at hd
  cases hd
  obtain ⟨h1, h2, h3, h4⟩ := hx c (List.mem_of_getElem? q)
  refine ⟨_, _, rfl, ?_⟩
  have a1 : ¬ c < 32 := by omega
  have a2 : ¬ 126 < c := by omega
  have a4 : ¬ (c : Int) = 37 := by omega
  simp [a1, a2, h3, a4]
def SG : List Nat := [45, 48, 49, 50, 51, 52, 53, 54, 55, 56, 57]
theorem mem_SG {c : Nat} : c ∈ SG ↔ c = 45 ∨ (48 ≤ c ∧ c ≤ 57) := by unfold SG; simp; omega
theorem rp_str (e : Nat) {pre x post : List Nat} (hx : Plain x) (hl : (pre ++ 39 :: (x ++ 39 :: post)).length ≤ LIM) (h : AH) :
    cf (e + 2) "read_plain" [.str (pre ++ 39 :: (x ++ 39 :: post)), .int pre.length] h = some (.ok (.tup [.str x, .int ((pre.length + x.length + 2 : Nat) : Int)]) h) := by
  rw [c_read_plain (e + 1)]
  refine apart_val (es := [.str (pre ++ 39 :: (x ++ 39 :: post)), .int pre.length]) (brw_own (by simp)) rfl (by simp) ?_
  have e1 : (pre ++ 39 :: (x ++ 39 :: post))[pre.length]? = some 39 := by simp
  have e2 : Txt.find3 (SX.S (pre ++ 39 :: (x ++ 39 :: post))) (SX.S [39]) ((pre.length : Int) + 1) = ((pre.length + 1 + x.length : Nat) : Int) := by
    have := find_hit (pre := pre ++ [39]) (w := x) (post := post) (c := 39) (fun z => (hx 39 z).2.2.1 rfl)
    simpa using this
  have e3 : cut (pre ++ 39 :: (x ++ 39 :: post)) (some ((pre.length : Int) + 1)) (some ((pre.length + 1 + x.length : Nat) : Int)) = x := by
    rw [cut_mid (by omega) (by omega)]
    have a1 : ((pre.length : Int) + 1).toNat = pre.length + 1 := by omega
    have a2 : ((pre.length + 1 + x.length : Nat) : Int).toNat - (pre.length + 1) = x.length := by omega
    rw [a1, a2]
    have : pre ++ 39 :: (x ++ 39 :: post) = (pre ++ [39]) ++ (x ++ 39 :: post) := by simp
    rw [this, List.drop_left' (by simp)]
    simp
  have e4 := c_plain e hx
  generalize pre ++ 39 :: (x ++ 39 :: post) = t at *
  generalize hj : pre.length + 1 + x.length = j at *
  have e5 : ¬ ((j : Int) < 0) := by omega
  have e6 : ((j : Int) + 1) = ((pre.length + x.length + 2 : Nat) : Int) := by omega
  unfold b_read_plain
  rw [sSeq_cons]
  have e7 : (2 : Nat) ≤ LIM := by decide
  simp [hl, e1, mtyOk, mthD, e2, e3, e4, e5, newT, e7]
  omega
@[simp] theorem r_sAug {i : Nat} {op : DV → DV → AH → Option (DV × AH)} {f : EM} {ls : LS} {h : AH} : sAug i op f ls h = match ls[i]? with
  | some (some x) => sE (f ls h) ls fun y h1 => match op x y h1 with
    | some (z, h2) => some (.go .nx (ls.set i (some z)) h2)
    | none => none
  | _ => none := rfl
@[simp] theorem ip_add {i j : Int} {h : AH} : ipD .Add (.int i) (.int j) h = some (.int (i + j), h) := rfl
theorem rp_scan {pre w post : List Nat} {cf1 : Str → List DV → AH → Option (R DV)} {Q : SR → Prop} (hl0 : (pre ++ (w ++ post)).length ≤ 1000000) (h0 : 0 < (w ++ post).length) (h39 : (w ++ post)[0]? ≠ some 39) (hw : ∀ c ∈ w, c ∈ SG) (hp : ∀ c, post[0]? = some c → c ∉ SG)
    (fin : wE (cf1 "read_integer" [.str w] []) (kE (fun x h1 => some (.ok [x, .int ((pre.length + w.length : Nat) : Int)] h1)) (kE (fun xs h1 => up (newT xs h1)) (kS [some (.str (pre ++ (w ++ post))), some (.int pre.length), some (.int ((pre.length + w.length : Nat) : Int))] (fun d h1 => some (.go (.rt d) [some (.str (pre ++ (w ++ post))), some (.int pre.length), some (.int ((pre.length + w.length : Nat) : Int))] h1)) (kQ [] Q))))) :
    wS (sSeq (b_read_plain cf1) [some (.str (pre ++ (w ++ post))), some (.int pre.length), none] []) Q := by
  have hl : (pre ++ (w ++ post)).length ≤ LIM := by unfold LIM; omega
  obtain ⟨c0, hc0⟩ : ∃ c0, (w ++ post)[0]? = some c0 := ⟨_, List.getElem?_eq_getElem h0⟩
  have e1 : (pre ++ (w ++ post))[pre.length]? = some c0 := by rw [List.getElem?_append_right (Nat.le_refl _), Nat.sub_self]; exact hc0
  have e2 : c0 ≠ 39 := fun z => h39 (by rw [hc0, z])
  have e3 : cut (pre ++ (w ++ post)) (some (pre.length : Int)) (some ((pre.length + w.length : Nat) : Int)) = w := by
    rw [cut_mid (by omega) (by omega)]
    have a2 : ((pre.length + w.length : Nat) : Int).toNat - (pre.length : Int).toNat = w.length := by omega
    rw [a2, Int.toNat_natCast, List.drop_left' rfl]
    simp
  have e4 : ∀ j, j < w.length → ∃ c, c ∈ SG ∧ (pre ++ (w ++ post))[pre.length + j]? = some c := fun j hj => by
    refine ⟨w[j], hw _ (List.getElem_mem hj), ?_⟩
    rw [List.getElem?_append_right (by omega), List.getElem?_append_left (by omega)]
    have : pre.length + j - pre.length = j := by omega
    rw [this]
    exact List.getElem?_eq_getElem hj
  have e5 : ∀ c, (pre ++ (w ++ post))[pre.length + w.length]? = some c → c ∉ SG := fun c hc => by
    rw [List.getElem?_append_right (by omega), List.getElem?_append_right (by omega)] at hc
    have : pre.length + w.length - pre.length - w.length = 0 := by omega
    rw [this] at hc
    exact hp c hc
  have e6 : (pre ++ (w ++ post)).length = pre.length + (w.length + post.length) := by simp
  generalize pre ++ (w ++ post) = t at *
  unfold b_read_plain
  refine wS_cut (M := fun ls h => ls = [some (.str t), some (.int pre.length), none] ∧ h = []) (by simp [hl, e1, e2]) ?_
  rintro _ _ ⟨rfl, rfl⟩
  refine wS_cut (M := fun ls h => ls = [some (.str t), some (.int pre.length), some (.int pre.length)] ∧ h = []) (by simp) ?_
  rintro _ _ ⟨rfl, rfl⟩
  refine wS_cut (M := fun ls h => ls = [some (.str t), some (.int pre.length), some (.int ((pre.length + w.length : Nat) : Int))] ∧ h = []) ?_ ?_
  · have hw10 : w.length < 9999999 := by omega
    refine w_sWh (I := fun m ls h => ∃ j, j + m = w.length ∧ ls = [some (.str t), some (.int pre.length), some (.int ((pre.length + j : Nat) : Int))] ∧ h = []) w.length (by omega) ⟨0, by omega, by simp, rfl⟩ ?_
    rintro m _ _ ⟨j, hj, rfl, rfl⟩
    by_cases hm : 0 < m
    · obtain ⟨c, c1, c2⟩ := e4 j (by omega)
      have l1 : ((pre.length + j : Nat) : Int) < (t.length : Int) := by omega
      have c1' : c ∈ [45, 48, 49, 50, 51, 52, 53, 54, 55, 56, 57] := c1
      generalize hx : pre.length + j = x at *
      simp [hl, l1, c2, c1', hm]
      exact ⟨m - 1, by omega, j + 1, by omega, by omega⟩
    · have ej : j = w.length := by omega
      subst ej
      by_cases l1 : ((pre.length + w.length : Nat) : Int) < (t.length : Int)
      · obtain ⟨c, c2⟩ : ∃ c, t[pre.length + w.length]? = some c := ⟨_, List.getElem?_eq_getElem (by omega)⟩
        have c1' : ¬ c ∈ [45, 48, 49, 50, 51, 52, 53, 54, 55, 56, 57] := e5 c c2
        generalize hx : pre.length + w.length = x at *
        simp [hl, l1, c2, c1']
      · generalize hx : pre.length + w.length = x at *
        simp [hl, l1]
  rintro _ _ ⟨rfl, rfl⟩
  generalize hx : pre.length + w.length = x at *
  simp [hl, e3]
  exact fin
theorem decI_SG (n : Int) : ∀ c ∈ decI n, c ∈ SG := by
  intro c hc
  rw [mem_SG]
  unfold decI at hc
  split at hc
  · rcases List.mem_cons.mp hc with h | h
    · exact .inl h
    · exact .inr (numL_AllD _ c h)
  · exact .inr (numL_AllD _ c hc)
theorem decI_pos (n : Int) : 0 < (decI n).length := by
  unfold decI
  split
  · simp
  · exact numL_len1 _
theorem SG_39 {w post : List Nat} (hw : ∀ c ∈ w, c ∈ SG) (h : w ≠ []) : (w ++ post)[0]? ≠ some 39 := by
  obtain ⟨a, r, rfl⟩ : ∃ a r, w = a :: r := by
    cases w with
    | nil => exact absurd rfl h
    | cons a r => exact ⟨a, r, rfl⟩
  have := mem_SG.mp (hw a List.mem_cons_self)
  simp
  omega
theorem rp_num (e : Nat) {pre post : List Nat} {n : Int} (hn : n.natAbs < 10 ^ 400) (hl0 : (pre ++ (decI n ++ post)).length ≤ 1000000) (hp : ∀ c, post[0]? = some c → c ∉ SG) (h : AH) :
    cf (e + 2) "read_plain" [.str (pre ++ (decI n ++ post)), .int pre.length] h = some (.ok (.tup [.int n, .int ((pre.length + (decI n).length : Nat) : Int)]) h) := by
  rw [c_read_plain (e + 1)]
  have hd := decI_pos n
  refine apart_val (es := [.str (pre ++ (decI n ++ post)), .int pre.length]) (brw_own (by simp)) rfl (by simp) (rp_scan hl0 (by simp; omega) (SG_39 (decI_SG n) (List.length_pos_iff.mp hd)) (decI_SG n) hp ?_)
  rw [c_read (c_read_integer e) (Nat.lt_of_lt_of_le hn (Nat.pow_le_pow_right (by decide) (by decide)))]
  have e7 : (2 : Nat) ≤ LIM := by decide
  generalize pre.length + (decI n).length = x
  simp [newT, e7]
def badN (t : List Nat) : Prop := digs t = [] ∨ ((digs t)[0]? = some 48 ∧ t ≠ [48]) ∨ ∃ c ∈ digs t, c < 48 ∨ 57 < c
theorem rp_bad (e : Nat) {pre w post : List Nat} (hb : badN w) (hl0 : (pre ++ (w ++ post)).length ≤ 1000000) (h0 : 0 < (w ++ post).length) (h39 : (w ++ post)[0]? ≠ some 39) (hw : ∀ c ∈ w, c ∈ SG) (hp : ∀ c, post[0]? = some c → c ∉ SG) (h : AH) :
    cf (e + 2) "read_plain" [.str (pre ++ (w ++ post)), .int pre.length] h = some (.er ⟨"BadText", []⟩ h) := by
  rw [c_read_plain (e + 1)]
  refine apart_er (es := [.str (pre ++ (w ++ post)), .int pre.length]) (brw_own (by simp)) rfl (rp_scan hl0 h0 h39 hw hp ?_)
  rw [c_readbad (c_read_integer e) (by
    have : w.length ≤ 1000000 := by simp at hl0; omega
    unfold LIM; omega) hb]
  simp
theorem rp_miss (e : Nat) {pre x : List Nat} (hx : 39 ∉ x) (hl : (pre ++ 39 :: x).length ≤ LIM) (h : AH) :
    cf (e + 2) "read_plain" [.str (pre ++ 39 :: x), .int pre.length] h = some (.er ⟨"BadText", []⟩ h) := by
  rw [c_read_plain (e + 1)]
  refine apart_er (es := [.str (pre ++ 39 :: x), .int pre.length]) (brw_own (by simp)) rfl ?_
  have e1 : (pre ++ 39 :: x)[pre.length]? = some 39 := by simp
  have e2 : Txt.find3 (SX.S (pre ++ 39 :: x)) (SX.S [39]) ((pre.length : Int) + 1) = -1 := by
    have := find_miss (pre := pre ++ [39]) (w := x) (c := 39) hx
    simpa using this
  generalize pre ++ 39 :: x = t at *
  unfold b_read_plain
  rw [sSeq_cons]
  simp [hl, e1, mtyOk, mthD, e2]
/-! ### the parser's stack -/
theorem atI_last {α : Type} {l : List α} {x : α} : atI (l ++ [x]) (-1) = some x := by
  have e : ixN (l ++ [x]).length (-1) = some l.length := by
    unfold ixN
    rw [if_neg (by decide), if_pos (by simp; omega)]
    congr 1
    simp
    omega
  unfold atI
  rw [e]
  simp
structure Frames (h : AH) (refs : List Nat) (F : List (List DV)) : Prop where
  len : refs.length = F.length
  nd : refs.Nodup
  out : 1 ∉ refs
  top : h[1]? = some (.lst (refs.map .ref))
  obj : ∀ (j r : Nat) (f : List DV), refs[j]? = some r → F[j]? = some f → h[r]? = some (.lst f)
theorem Frames.lt {h : AH} {refs : List Nat} {F : List (List DV)} (z : Frames h refs F) : ∀ r ∈ refs, r < h.length := fun r hr => by
  obtain ⟨j, hj, e⟩ := List.getElem_of_mem hr
  have h1 : refs[j]? = some r := by rw [List.getElem?_eq_getElem hj, e]
  obtain ⟨f, h2⟩ : ∃ f, F[j]? = some f := ⟨_, List.getElem?_eq_getElem (by rw [← z.len]; exact hj)⟩
  exact (List.getElem?_eq_some_iff.mp (z.obj j r _ h1 h2)).1
theorem Frames.lt1 {h : AH} {refs : List Nat} {F : List (List DV)} (z : Frames h refs F) : 1 < h.length := (List.getElem?_eq_some_iff.mp z.top).1
theorem Frames.push {h : AH} {refs : List Nat} {F : List (List DV)} (z : Frames h refs F) : Frames (List.set (h ++ [AO.lst []]) 1 (AO.lst (refs.map DV.ref ++ [DV.ref h.length]))) (refs ++ [h.length]) (F ++ [[]]) := by
  have h1 := z.lt1
  refine ⟨by simp [z.len], ?_, ?_, ?_, ?_⟩
  · refine List.nodup_append.mpr ⟨z.nd, by simp, fun a ha b hb e => ?_⟩
    have := z.lt a ha
    have : b = h.length := by simpa using hb
    omega
  · intro hm
    rcases List.mem_append.mp hm with hm | hm
    · exact z.out hm
    · have : 1 = h.length := by simpa using hm
      omega
  · rw [List.getElem?_set_self (by simp; omega)]; simp
  · intro j r f hj hf
    by_cases hlt : j < refs.length
    · rw [List.getElem?_append_left hlt] at hj
      rw [List.getElem?_append_left (by rw [← z.len]; exact hlt)] at hf
      have hr := z.lt r (List.mem_of_getElem? hj)
      have hne : 1 ≠ r := fun q => z.out (q ▸ List.mem_of_getElem? hj)
      rw [List.getElem?_set_ne hne, List.getElem?_append_left hr]
      exact z.obj j r f hj hf
    · rw [List.getElem?_append_right (by omega)] at hj
      rw [List.getElem?_append_right (by rw [← z.len]; omega)] at hf
      rw [← z.len] at hf
      generalize j - refs.length = q at hj hf
      cases q with
      | zero =>
        simp at hj hf
        subst hj hf
        rw [List.getElem?_set_ne (by omega)]
        simp
      | succ q => simp at hj
theorem Frames.app {h : AH} {refs : List Nat} {r : Nat} {F : List (List DV)} {f g : List DV} (z : Frames h (refs ++ [r]) (F ++ [f])) : Frames (h.set r (.lst g)) (refs ++ [r]) (F ++ [g]) := by
  have hl : refs.length = F.length := by simpa using z.len
  have hne : r ≠ 1 := fun e => z.out (by simp [e])
  have hr := z.lt r (by simp)
  refine ⟨by simp [hl], z.nd, z.out, by rw [List.getElem?_set_ne hne]; exact z.top, ?_⟩
  intro j r' f' hj hf
  by_cases hlt : j < refs.length
  · have hj' := hj
    rw [List.getElem?_append_left hlt] at hj
    rw [List.getElem?_append_left (by omega)] at hf
    have hne2 : r ≠ r' := fun e => by
      subst e
      have := (List.nodup_append.mp z.nd).2.2 r (List.mem_of_getElem? hj) r (by simp)
      exact this rfl
    rw [List.getElem?_set_ne hne2]
    exact z.obj j r' f' hj' (by rw [List.getElem?_append_left (by omega)]; exact hf)
  · rw [List.getElem?_append_right (by omega)] at hj
    rw [List.getElem?_append_right (by omega)] at hf
    rw [← hl] at hf
    generalize j - refs.length = q at hj hf
    cases q with
    | zero =>
      simp at hj hf
      subst hj hf
      rw [List.getElem?_set_self hr]
    | succ q => simp at hj
theorem Frames.pop {h : AH} {refs : List Nat} {r : Nat} {F : List (List DV)} {f : List DV} (z : Frames h (refs ++ [r]) (F ++ [f])) : h[r]? = some (.lst f) ∧ Frames (h.set 1 (.lst (refs.map .ref))) refs F := by
  have hl : refs.length = F.length := by simpa using z.len
  have h1 := z.lt1
  refine ⟨z.obj refs.length r f (by simp) (by rw [hl]; simp), ⟨hl, (List.nodup_append.mp z.nd).1, fun hm => z.out (List.mem_append_left _ hm), by rw [List.getElem?_set_self h1], ?_⟩⟩
  intro j r' f' hj hf
  have hne : 1 ≠ r' := fun e => z.out (List.mem_append_left _ (e ▸ List.mem_of_getElem? hj))
  rw [List.getElem?_set_ne hne]
  exact z.obj j r' f' (by rw [List.getElem?_append_left (List.getElem?_eq_some_iff.mp hj).1]; exact hj) (by rw [List.getElem?_append_left (List.getElem?_eq_some_iff.mp hf).1]; exact hf)
end K01


set_option maxRecDepth 100000
set_option maxHeartbeats 4000000
set_option autoImplicit false
namespace K01
open PySem L2 P3
def rC : EM := cOp (cmpD .Lt) (cVar 2) (cBlt .len [cVar 0])
def rB (cf : Str → List DV → AH → Option (R DV)) : SM := (sSeq [
    sIf (cAnd (cVar 3) (cAnd (cOp (cmpD .Eq) (cOp subD (cVar 0) (cVar 2)) (cVal (.str [40]))) (cOp (cmpD .LtE) (cBlt .len [cVar 1]) (cVal (.int 240))))) (sSeq [
      sExpr (cMth .append (cVar 1) [cLst []]),
      sAug 2 (ipD .Add) (cVal (.int 1))]) (sSeq [
      sIf (cAnd (cOp (cmpD .Eq) (cOp subD (cVar 0) (cVar 2)) (cVal (.str [41]))) (cAnd (cOp (cmpD .Gt) (cBlt .len [cVar 1]) (cVal (.int 1))) (cOr (cNot (cVar 3)) (cOp (cmpD .Eq) (cOp subD (cVar 0) (cOp (binD .Sub) (cVar 2) (cVal (.int 1)))) (cVal (.str [40])))))) (sSeq [
        sAsg (cBlt .tuple [cMth .pop (cVar 1) []]) (gNm 4),
        sExpr (cMth .append (cOp subD (cVar 1) (cUn negD (cVal (.int 1)))) [cVar 4]),
        sAug 2 (ipD .Add) (cVal (.int 1)),
        sAsg (cVal (.bl false)) (gNm 3)]) (sSeq [
        sIf (cAnd (cNot (cVar 3)) (cAnd (cOp (cmpD .Gt) (cBlt .len [cVar 1]) (cVal (.int 1))) (cOp (cmpD .Eq) (cSl (cVar 0) (some (cVar 2)) (some (cOp (binD .Add) (cVar 2) (cVal (.int 2))))) (cVal (.str [44, 32]))))) (sSeq [
          sAug 2 (ipD .Add) (cVal (.int 2)),
          sAsg (cVal (.bl true)) (gNm 3)]) (sSeq [
          sIf (cAnd (cVar 3) (cOp (cmpD .NotEq) (cOp subD (cVar 0) (cVar 2)) (cVal (.str [40])))) (sSeq [
            sAsg (cCall (cf "read_plain") [cVar 0, cVar 2]) (gTp [gNm 5, gNm 2]),
            sExpr (cMth .append (cOp subD (cVar 1) (cUn negD (cVal (.int 1)))) [cVar 5]),
            sAsg (cVal (.bl false)) (gNm 3)]) (sSeq [
            sRaise ⟨"BadText", []⟩])])])])])
def rEnd : List SM := [
  sIf (cOr (cOp (cmpD .NotEq) (cBlt .len [cVar 1]) (cVal (.int 1))) (cOp (cmpD .NotEq) (cBlt .len [cOp subD (cVar 1) (cVal (.int 0))]) (cVal (.int 1)))) (sSeq [
    sRaise ⟨"BadText", []⟩]) (sSeq []),
  sRet (cOp subD (cOp subD (cVar 1) (cVal (.int 0))) (cVal (.int 0)))]
theorem b_read_eq (cf : Str → List DV → AH → Option (R DV)) : b_read_data cf = sAsg (cLst [cLst []]) (gNm 1) :: sAsg (cVal (.int 0)) (gNm 2) :: sAsg (cVal (.bl true)) (gNm 3) :: sWh rC (rB cf) :: rEnd := rfl
def St (t : List Nat) (i : Nat) (fr : Bool) (F : List (List DV)) (ls : LS) (h : AH) : Prop := ∃ (o4 o5 : Option DV) (refs : List Nat), ls = [some (.str t), some (.ref 1), some (.int i), some (.bl fr), o4, o5] ∧ Frames h refs F
def nxP (P : LS → AH → Prop) : SR → Prop
  | .go .nx ls h => P ls h
  | _ => False
@[simp] theorem nxP_nx {P : LS → AH → Prop} {ls : LS} {h : AH} : nxP P (.go .nx ls h) ↔ P ls h := Iff.rfl
variable {cf1 : Str → List DV → AH → Option (R DV)} {t : List Nat} {i : Nat} {fr : Bool} {F : List (List DV)} {ls : LS} {h : AH}
@[simp] theorem b_tupR {r : Nat} {h : AH} : bltD .tuple [.ref r] h = (seqOf h (.ref r)).map fun xs => (.tup xs, h) := rfl
theorem st_open (s : St t i true F ls h) (hl : t.length ≤ LIM) (hc : t[i]? = some 40) (hF : F.length ≤ 240) : wS (rB cf1 ls h) (nxP (St t (i + 1) true (F ++ [[]]))) := by
  obtain ⟨o4, o5, refs, rfl, fr⟩ := s
  have e1 : (h ++ [AO.lst []])[1]? = some (.lst (refs.map .ref)) := by rw [List.getElem?_append_left fr.lt1]; exact fr.top
  have e2 := fr.top
  have e3 : refs.length ≤ 240 := by rw [fr.len]; exact hF
  have e4 : (refs.length : Int) ≤ 240 := by omega
  have e5 : refs.length < LIM := by unfold LIM; omega
  have fp := fr.push
  unfold rB
  simp [hl, hc, e2, e4, newL, e1, e5]
  exact ⟨o4, o5, _, rfl, by simpa using fp⟩
theorem st_close {F0 : List (List DV)} {f0 f1 : List DV} (s : St t i fr (F0 ++ [f0] ++ [f1]) ls h) (hl : t.length ≤ LIM) (hc : t[i]? = some 41) (hfr : fr = false ∨ ∃ j, i = j + 1 ∧ t[j]? = some 40) (hn : f0.length < LIM) :
    wS (rB cf1 ls h) (nxP (St t (i + 1) false (F0 ++ [f0 ++ [.tup f1]]))) := by
  obtain ⟨o4, o5, refs, rfl, fm⟩ := s
  obtain ⟨rs, r0, r1, rfl⟩ : ∃ rs r0 r1, refs = rs ++ [r0] ++ [r1] := by
    have hlen := fm.len
    simp at hlen
    have h1 : refs ≠ [] := fun z => by subst z; simp at hlen
    have e1 := (List.dropLast_concat_getLast h1).symm
    have h2 : refs.dropLast ≠ [] := fun z => by
      have := congrArg List.length z
      simp at this
      omega
    exact ⟨_, _, _, by rw [List.dropLast_concat_getLast h2, List.dropLast_concat_getLast h1]⟩
  obtain ⟨p1, p2⟩ := fm.pop
  have e2 := fm.top
  have p3 := p2.top
  have hne : 1 ≠ r1 := fun z => fm.out (by simp [z])
  have p4 : (h.set 1 (AO.lst ((rs ++ [r0]).map DV.ref)))[r1]? = some (.lst f1) := by rw [List.getElem?_set_ne hne]; exact p1
  have p5 := p2.obj rs.length r0 f0 (by simp) (by
    have : rs.length = F0.length := by simpa using p2.len
    rw [this]; simp)
  have p6 := p2.app (g := f0 ++ [.tup f1])
  simp only [List.map_append, List.map_cons, List.map_nil] at e2 p3 p4 p5 p6
  have hk : fr = true → ∃ j, i = j + 1 ∧ t[j]? = some 40 := fun z => by
    rcases hfr with q | q
    · rw [q] at z; cases z
    · exact q
  have e7 : (1 : Int) < (rs.length : Int) + 2 := by omega
  unfold rB
  cases fr with
  | false =>
    simp [hl, hc, e2, mtyOk, mthD, p3, p4, p5, atI_last, hn, e7]
    exact ⟨_, o5, _, rfl, by simpa using p6⟩
  | true =>
    obtain ⟨j, hij, hj⟩ := hk rfl
    have e8 : ((i : Int) - 1) = (j : Int) := by omega
    simp [hl, hc, e2, mtyOk, mthD, p3, p4, p5, atI_last, hn, e7, e8, hj]
    exact ⟨_, o5, _, rfl, by simpa using p6⟩
theorem st_comma (s : St t i false F ls h) (hl : t.length ≤ LIM) (hc : t[i]? = some 44) (hc2 : (t.drop i).take 2 = [44, 32]) (hF : 1 < F.length) : wS (rB cf1 ls h) (nxP (St t (i + 2) true F)) := by
  obtain ⟨o4, o5, refs, rfl, fm⟩ := s
  have e2 := fm.top
  have e3 : (1 : Int) < (refs.length : Int) := by have := fm.len; omega
  have e4 : cut t (some (i : Int)) (some ((i : Int) + 2)) = [44, 32] := by
    rw [cut_mid (by omega) (by omega)]
    have a2 : ((i : Int) + 2).toNat - (i : Int).toNat = 2 := by omega
    rw [a2, Int.toNat_natCast]
    exact hc2
  unfold rB
  simp [hl, hc, e2, e3, e4]
  exact ⟨o4, o5, refs, rfl, fm⟩
theorem st_item {F0 : List (List DV)} {f : List DV} {c : Nat} {d : DV} {j : Nat} (s : St t i true (F0 ++ [f]) ls h) (hl : t.length ≤ LIM) (hc : t[i]? = some c) (h40 : c ≠ 40) (h41 : c ≠ 41) (hn : f.length < LIM) (hr : ∀ h, cf1 "read_plain" [.str t, .int i] h = some (.ok (.tup [d, .int j]) h)) :
    wS (rB cf1 ls h) (nxP (St t j false (F0 ++ [f ++ [d]]))) := by
  obtain ⟨o4, o5, refs, rfl, fm⟩ := s
  obtain ⟨rs, r0, rfl⟩ : ∃ rs r0, refs = rs ++ [r0] := by
    have hlen := fm.len
    simp at hlen
    have h1 : refs ≠ [] := fun z => by subst z; simp at hlen
    exact ⟨_, _, (List.dropLast_concat_getLast h1).symm⟩
  have e2 := fm.top
  have p5 := fm.obj rs.length r0 f (by simp) (by
    have : rs.length = F0.length := by simpa using fm.len
    rw [this]; simp)
  have p6 := fm.app (g := f ++ [d])
  simp only [List.map_append, List.map_cons, List.map_nil] at e2
  unfold rB
  simp [hl, hc, h40, h41, e2, hr, mtyOk, mthD, p5, atI_last, hn]
  exact ⟨o4, _, _, rfl, by simpa using p6⟩
/-! where it raises -/
theorem st_itemBad {c : Nat} (s : St t i true F ls h) (hl : t.length ≤ LIM) (hc : t[i]? = some c) (h40 : c ≠ 40) (h41 : c = 41 → F.length ≤ 1 ∨ ∃ j c', i = j + 1 ∧ t[j]? = some c' ∧ c' ≠ 40) (hr : ∀ h, cf1 "read_plain" [.str t, .int i] h = some (.er ⟨"BadText", []⟩ h)) :
    wS (rB cf1 ls h) (isEr ⟨"BadText", []⟩) := by
  obtain ⟨o4, o5, refs, rfl, fm⟩ := s
  have e2 := fm.top
  unfold rB
  by_cases q : c = 41
  · subst q
    rcases h41 rfl with z | ⟨j, c', hij, hj, hne⟩
    · have e3 : ¬ (1 : Int) < (refs.length : Int) := by have := fm.len; omega
      simp [hl, hc, e2, e3, hr]
    · have e8 : ((i : Int) - 1) = (j : Int) := by omega
      by_cases e3 : (1 : Int) < (refs.length : Int)
      · simp [hl, hc, e2, e3, e8, hj, hne, hr]
      · simp [hl, hc, e2, e3, hr]
  · simp [hl, hc, h40, q, e2, hr]
theorem st_flat {F0 : List DV} {c : Nat} (s : St t i false [F0] ls h) (hl : t.length ≤ LIM) (hc : t[i]? = some c) : wS (rB cf1 ls h) (isEr ⟨"BadText", []⟩) := by
  obtain ⟨o4, o5, refs, rfl, fm⟩ := s
  have e2 := fm.top
  have e3 : ¬ (1 : Int) < (refs.length : Int) := by have := fm.len; simp at this; omega
  unfold rB
  by_cases q : c = 41
  · subst q
    simp [hl, hc, e2, e3]
  · simp [hl, hc, q, e2, e3]
theorem st_deep {c : Nat} (s : St t i false F ls h) (hl : t.length ≤ LIM) (hc : t[i]? = some c) (h41 : c ≠ 41) (hc2 : (t.drop i).take 2 ≠ [44, 32]) : wS (rB cf1 ls h) (isEr ⟨"BadText", []⟩) := by
  obtain ⟨o4, o5, refs, rfl, fm⟩ := s
  have e2 := fm.top
  have e4 : cut t (some (i : Int)) (some ((i : Int) + 2)) ≠ [44, 32] := by
    rw [cut_mid (by omega) (by omega)]
    have a2 : ((i : Int) + 2).toNat - (i : Int).toNat = 2 := by omega
    rw [a2, Int.toNat_natCast]
    exact hc2
  unfold rB
  by_cases e3 : (1 : Int) < (refs.length : Int)
  · simp [hl, hc, h41, e2, e3, e4]
  · simp [hl, hc, h41, e2, e3, e4]
theorem st_over (s : St t i true F ls h) (hl : t.length ≤ LIM) (hc : t[i]? = some 40) (hF : 240 < F.length) : wS (rB cf1 ls h) (isEr ⟨"BadText", []⟩) := by
  obtain ⟨o4, o5, refs, rfl, fm⟩ := s
  have e2 := fm.top
  have e3 : ¬ (refs.length : Int) ≤ 240 := by have := fm.len; omega
  unfold rB
  simp [hl, hc, e2, e3]
/-! ### runs -/
def Reach (cf1 : Str → List DV → AH → Option (R DV)) (n : Nat) (ls : LS) (h : AH) (P : LS → AH → Prop) : Prop := ∃ ls' h', P ls' h' ∧ ∀ k, whN rC (rB cf1) (k + n) ls h = whN rC (rB cf1) k ls' h'
theorem cond_ok (s : St t i fr F ls h) (hl : t.length ≤ LIM) : cTru rC ls h = some (.ok (decide (i < t.length)) h) := by
  obtain ⟨o4, o5, refs, rfl, fm⟩ := s
  unfold rC
  simp [hl]
theorem Reach.refl {P : LS → AH → Prop} (p : P ls h) : Reach cf1 0 ls h P := ⟨ls, h, p, fun _ => rfl⟩
theorem Reach.step {P : LS → AH → Prop} (s : St t i fr F ls h) (hl : t.length ≤ LIM) (hi : i < t.length) (w : wS (rB cf1 ls h) (nxP P)) : Reach cf1 1 ls h P := by
  obtain ⟨x, e, q⟩ := w
  cases x with
  | er y ls' h' => exact q.elim
  | go f ls' h' =>
    cases f with
    | nx =>
      refine ⟨ls', h', q, fun k => ?_⟩
      show sE (cTru rC ls h) ls _ = _
      rw [cond_ok s hl]
      simp only [hi, decide_true, sE_ok, if_true, e]
    | rt d => exact q.elim
    | bk => exact q.elim
    | ct => exact q.elim
theorem Reach.trans {n m : Nat} {P P' : LS → AH → Prop} (a : Reach cf1 n ls h P) (b : ∀ ls h, P ls h → Reach cf1 m ls h P') : Reach cf1 (n + m) ls h P' := by
  obtain ⟨ls1, h1, p1, e1⟩ := a
  obtain ⟨ls2, h2, p2, e2⟩ := b ls1 h1 p1
  exact ⟨ls2, h2, p2, fun k => by rw [Nat.add_comm n m, ← Nat.add_assoc, e1, e2]⟩
end K01


set_option maxRecDepth 100000
set_option maxHeartbeats 4000000
set_option autoImplicit false
namespace K01
open PySem L2 P3
theorem glu_cons (x : List Nat) : ∀ r : List (List Nat), gluN [44, 32] (x :: r) = x ++ r.flatMap (fun y => 44 :: 32 :: y)
  | [] => by simp [gluN]
  | y :: r => by
    show x ++ [44, 32] ++ gluN [44, 32] (y :: r) = _
    rw [glu_cons y r]
    simp
def RD (e : Nat) (k : Nat) (d : DV) : Prop := ∀ (t pre post : List Nat) (F0 : List (List DV)) (f : List DV) (ls : LS) (h : AH), t = pre ++ (txt k d ++ post) → t.length ≤ 1000000 → (∀ c, post[0]? = some c → c ∉ SG) → F0.length + k ≤ 240 → f.length ≤ 2000 → St t pre.length true (F0 ++ [f]) ls h →
  ∃ n, n ≤ (txt k d).length ∧ Reach (cf (e + 2)) n ls h (St t (pre.length + (txt k d).length) false (F0 ++ [f ++ [d]]))
theorem at_mid {pre post : List Nat} {c : Nat} : (pre ++ c :: post)[pre.length]? = some c := by simp
theorem lim_le {t : List Nat} (h : t.length ≤ 1000000) : t.length ≤ LIM := by unfold LIM; omega
theorem rd_int (e : Nat) {k : Nat} {n : Int} (hn : n.natAbs < 10 ^ 400) : RD e k (.int n) := by
  intro t pre post F0 f ls h et hl hp hF hf s
  rw [txt_int] at et ⊢
  have hd := decI_pos n
  obtain ⟨c, hc⟩ : ∃ c, (decI n)[0]? = some c := ⟨_, List.getElem?_eq_getElem hd⟩
  have hcs := mem_SG.mp (decI_SG n c (List.mem_of_getElem? hc))
  have hct : t[pre.length]? = some c := by
    rw [et, List.getElem?_append_right (Nat.le_refl _), Nat.sub_self, List.getElem?_append_left hd]
    exact hc
  have hi : pre.length < t.length := (List.getElem?_eq_some_iff.mp hct).1
  refine ⟨1, by omega, Reach.step s (lim_le hl) hi (st_item s (lim_le hl) hct (by omega) (by omega) (by unfold LIM; omega) fun h => ?_)⟩
  rw [et]
  exact rp_num e hn (by rw [← et]; exact hl) hp h
theorem rd_str (e : Nat) {k : Nat} {x : List Nat} (hx : Plain x) : RD e k (.str x) := by
  intro t pre post F0 f ls h et hl hp hF hf s
  rw [txt_str] at et ⊢
  have et2 : t = pre ++ 39 :: (x ++ 39 :: post) := by rw [et]; simp
  have hct : t[pre.length]? = some 39 := by rw [et2]; exact at_mid
  have hi : pre.length < t.length := (List.getElem?_eq_some_iff.mp hct).1
  have e1 : pre.length + (39 :: (x ++ [39])).length = pre.length + x.length + 2 := by simp; omega
  rw [e1]
  refine ⟨1, by simp, Reach.step s (lim_le hl) hi (st_item s (lim_le hl) hct (by omega) (by omega) (by unfold LIM; omega) fun h => ?_)⟩
  rw [et2]
  exact rp_str e hx (by rw [← et2]; exact lim_le hl) h
theorem rd_items (e : Nat) {k : Nat} {t post : List Nat} {F0 : List (List DV)} {f : List DV} (hl : t.length ≤ 1000000) (hF : F0.length + 1 + k ≤ 240) (hf : f.length ≤ 2000) : ∀ (r : List DV), (∀ d ∈ r, RD e k d) → ∀ (g : List DV) (pre : List Nat) (ls : LS) (h : AH), g.length + r.length ≤ 1000 →
    t = pre ++ ((r.map (txt k)).flatMap (fun y => 44 :: 32 :: y) ++ 41 :: post) → St t pre.length false (F0 ++ [f] ++ [g]) ls h →
    ∃ n, n ≤ ((r.map (txt k)).flatMap (fun y => 44 :: 32 :: y)).length + 1 ∧ Reach (cf (e + 2)) n ls h (St t (pre.length + ((r.map (txt k)).flatMap (fun y => 44 :: 32 :: y)).length + 1) false (F0 ++ [f ++ [.tup (g ++ r)]]))
  | [], _, g, pre, ls, h, hg, et, s => by
    have et : t = pre ++ 41 :: post := by simpa using et
    have hct : t[pre.length]? = some 41 := by rw [et]; exact at_mid
    have hi : pre.length < t.length := (List.getElem?_eq_some_iff.mp hct).1
    refine ⟨1, by simp, ?_⟩
    have := Reach.step s (lim_le hl) hi (st_close s (lim_le hl) hct (.inl rfl) (by unfold LIM; omega)) (cf1 := cf (e + 2))
    simpa using this
  | d :: r, hr, g, pre, ls, h, hg, et, s => by
    have et1 : t = pre ++ 44 :: 32 :: (txt k d ++ ((r.map (txt k)).flatMap (fun y => 44 :: 32 :: y) ++ 41 :: post)) := by rw [et]; simp
    have hct : t[pre.length]? = some 44 := by rw [et1]; exact at_mid
    have hi : pre.length < t.length := (List.getElem?_eq_some_iff.mp hct).1
    have hc2 : (t.drop pre.length).take 2 = [44, 32] := by rw [et1, List.drop_left' rfl]; simp
    have a := Reach.step s (lim_le hl) hi (st_comma s (lim_le hl) hct hc2 (by simp)) (cf1 := cf (e + 2))
    have et2 : t = (pre ++ [44, 32]) ++ (txt k d ++ ((r.map (txt k)).flatMap (fun y => 44 :: 32 :: y) ++ 41 :: post)) := by rw [et1]; simp
    have hpost : ∀ c, ((r.map (txt k)).flatMap (fun y => 44 :: 32 :: y) ++ 41 :: post)[0]? = some c → c ∉ SG := fun c hc => by
      rw [mem_SG]
      cases r with
      | nil => simp at hc; omega
      | cons y r => simp at hc; omega
    have hlen : (pre ++ [44, 32]).length = pre.length + 2 := by simp
    simp only [List.length_cons] at hg
    obtain ⟨n1, hn1, b⟩ : ∃ n1, n1 ≤ (txt k d).length + 1 ∧ Reach (cf (e + 2)) n1 ls h (St t (pre.length + 2 + (txt k d).length) false (F0 ++ [f] ++ [g ++ [d]])) := by
      obtain ⟨ls1, h1, s1, ew⟩ := a
      obtain ⟨n, hn, b⟩ := hr d List.mem_cons_self t (pre ++ [44, 32]) _ (F0 ++ [f]) g ls1 h1 et2 hl hpost (by simp; omega) (by omega) (by rw [hlen]; exact s1)
      rw [hlen] at b
      exact ⟨1 + n, by omega, Reach.trans ⟨ls1, h1, (rfl : (ls1, h1) = (ls1, h1)), ew⟩ (P := fun l k => (l, k) = (ls1, h1)) fun l k q => by cases q; exact b⟩
    have et3 : t = (pre ++ 44 :: 32 :: txt k d) ++ ((r.map (txt k)).flatMap (fun y => 44 :: 32 :: y) ++ 41 :: post) := by rw [et1]; simp
    have hlen3 : (pre ++ 44 :: 32 :: txt k d).length = pre.length + 2 + (txt k d).length := by simp; omega
    obtain ⟨ls2, h2, s2, ew2⟩ := b
    obtain ⟨n2, hn2, c2⟩ := rd_items e hl hF hf r (fun x hx => hr x (List.mem_cons_of_mem _ hx)) (g ++ [d]) (pre ++ 44 :: 32 :: txt k d) ls2 h2 (by simp; omega) et3 (by rw [hlen3]; exact s2)
    rw [hlen3] at c2
    have z : pre.length + 2 + (txt k d).length + ((r.map (txt k)).flatMap (fun y => 44 :: 32 :: y)).length + 1 = pre.length + (((d :: r).map (txt k)).flatMap (fun y => 44 :: 32 :: y)).length + 1 := by
      rw [List.map_cons, List.flatMap_cons, List.length_append]
      simp only [List.length_cons]
      omega
    refine ⟨n1 + n2, by omega, ?_⟩
    rw [z, List.append_assoc, List.singleton_append] at c2
    exact Reach.trans (P := fun l k => (l, k) = (ls2, h2)) ⟨ls2, h2, rfl, ew2⟩ fun l k q => by cases q; exact c2
theorem rd_all (e : Nat) : ∀ (k : Nat) (d : DV), Dat k d → RD e k d := by
  intro k
  induction k with
  | zero =>
    intro d hd
    cases hd with
    | int hi => exact rd_int e hi
    | str hx => exact rd_str e hx
  | succ k ih =>
    intro d hd
    cases hd with
    | int hi => exact rd_int e hi
    | str hx => exact rd_str e hx
    | tup hx hn =>
      rename_i xs
      intro t pre post F0 f ls h et hl hp hF hf s
      rw [txt_tup] at et ⊢
      have et1 : t = pre ++ 40 :: (gluN [44, 32] (xs.map (txt k)) ++ 41 :: post) := by rw [et]; simp
      have hct : t[pre.length]? = some 40 := by rw [et1]; exact at_mid
      have hi : pre.length < t.length := (List.getElem?_eq_some_iff.mp hct).1
      have a := Reach.step s (lim_le hl) hi (st_open s (lim_le hl) hct (by simp; omega)) (cf1 := cf (e + 2))
      obtain ⟨ls1, h1, s1, ew1⟩ := a
      have hlen : (pre ++ [40]).length = pre.length + 1 := by simp
      cases xs with
      | nil =>
        have et2 : t = (pre ++ [40]) ++ 41 :: post := by rw [et1]; simp [gluN]
        have hct2 : t[pre.length + 1]? = some 41 := by rw [et2, ← hlen]; exact at_mid
        have hi2 : pre.length + 1 < t.length := (List.getElem?_eq_some_iff.mp hct2).1
        have b := Reach.step s1 (lim_le hl) hi2 (st_close (F0 := F0) (f0 := f) (f1 := []) s1 (lim_le hl) hct2 (.inr ⟨pre.length, rfl, hct⟩) (by unfold LIM; omega)) (cf1 := cf (e + 2))
        refine ⟨1 + 1, by simp, ?_⟩
        exact Reach.trans (P := fun l k => (l, k) = (ls1, h1)) ⟨ls1, h1, rfl, ew1⟩ fun l k q => by cases q; exact b
      | cons d r =>
        have eg : gluN [44, 32] ((d :: r).map (txt k)) = txt k d ++ (r.map (txt k)).flatMap (fun y => 44 :: 32 :: y) := by rw [List.map_cons, glu_cons]
        rw [eg] at et1 ⊢
        have et2 : t = (pre ++ [40]) ++ (txt k d ++ ((r.map (txt k)).flatMap (fun y => 44 :: 32 :: y) ++ 41 :: post)) := by rw [et1]; simp
        have hpost : ∀ c, ((r.map (txt k)).flatMap (fun y => 44 :: 32 :: y) ++ 41 :: post)[0]? = some c → c ∉ SG := fun c hc => by
          rw [mem_SG]
          cases r with
          | nil => simp at hc; omega
          | cons y r => simp at hc; omega
        obtain ⟨n, hn1, b⟩ := ih d (hx d List.mem_cons_self) t (pre ++ [40]) _ (F0 ++ [f]) [] ls1 h1 et2 hl hpost (by simp; omega) (by simp) (by rw [hlen]; exact s1)
        rw [hlen] at b
        obtain ⟨ls2, h2, s2, ew2⟩ := b
        have et3 : t = (pre ++ 40 :: txt k d) ++ ((r.map (txt k)).flatMap (fun y => 44 :: 32 :: y) ++ 41 :: post) := by rw [et1]; simp
        have hlen3 : (pre ++ 40 :: txt k d).length = pre.length + 1 + (txt k d).length := by simp; omega
        simp only [List.length_cons] at hn
        obtain ⟨m, hm, c⟩ := rd_items e hl (F0 := F0) (f := f) (by omega) hf r (fun x hx' => ih x (hx x (List.mem_cons_of_mem _ hx'))) [d] (pre ++ 40 :: txt k d) ls2 h2 (by simp; omega) et3 (by rw [hlen3]; exact s2)
        rw [hlen3] at c
        have z : pre.length + 1 + (txt k d).length + ((r.map (txt k)).flatMap (fun y => 44 :: 32 :: y)).length + 1 = pre.length + (40 :: (txt k d ++ (r.map (txt k)).flatMap (fun y => 44 :: 32 :: y) ++ [41])).length := by
          simp only [List.length_cons, List.length_append, List.length_nil]
          omega
        refine ⟨1 + n + m, by omega, ?_⟩
        rw [z] at c
        refine Reach.trans (P := fun l k => (l, k) = (ls2, h2)) (Reach.trans (P := fun l k => (l, k) = (ls1, h1)) ⟨ls1, h1, rfl, ew1⟩ fun l k q => ?_) fun l k q => by cases q; exact c
        cases q
        exact ⟨ls2, h2, rfl, ew2⟩
end K01


set_option maxRecDepth 100000
set_option maxHeartbeats 4000000
set_option autoImplicit false
namespace K01
open PySem L2 P3
section
variable {cf1 : Str → List DV → AH → Option (R DV)} {t : List Nat} {i : Nat} {fr : Bool} {F : List (List DV)} {ls : LS} {h : AH}
theorem w_raise {y : Exc} {k : Nat} (s : St t i fr F ls h) (hl : t.length ≤ LIM) (hi : i < t.length) (w : wS (rB cf1 ls h) (isEr y)) : wS (whN rC (rB cf1) (k + 1) ls h) (kQ rEnd (isEr y)) := by
  obtain ⟨x, e, q⟩ := w
  cases x with
  | go f ls' h' => exact q.elim
  | er z ls' h' =>
    refine ⟨.er z ls' h', ?_, q⟩
    show sE (cTru rC ls h) ls _ = _
    rw [cond_ok s hl]
    simp only [hi, decide_true, sE_ok, if_true, e]
theorem w_stop {Q : SR → Prop} {k : Nat} (s : St t t.length fr F ls h) (hl : t.length ≤ LIM) (w : wS (sSeq rEnd ls h) Q) : wS (whN rC (rB cf1) (k + 1) ls h) (kQ rEnd Q) := by
  refine ⟨.go .nx ls h, ?_, w⟩
  show sE (cTru rC ls h) ls _ = _
  rw [cond_ok s hl]
  have : decide (t.length < t.length) = false := by simp
  simp only [this, sE_ok]
  rfl
theorem end_ok {d : DV} (s : St t i false [[d]] ls h) : wS (sSeq rEnd ls h) (pR fun x _ => x = d) := by
  obtain ⟨o4, o5, refs, rfl, fm⟩ := s
  obtain ⟨r, rfl⟩ : ∃ r, refs = [r] := List.length_eq_one_iff.mp fm.len
  have e2 : h[1]? = some (.lst [.ref r]) := fm.top
  have e3 : h[r]? = some (.lst [d]) := fm.obj 0 r _ rfl rfl
  unfold rEnd
  simp [e2, e3]
theorem end_none (s : St t i fr [[]] ls h) : wS (sSeq rEnd ls h) (isEr ⟨"BadText", []⟩) := by
  obtain ⟨o4, o5, refs, rfl, fm⟩ := s
  obtain ⟨r, rfl⟩ : ∃ r, refs = [r] := List.length_eq_one_iff.mp fm.len
  have e2 : h[1]? = some (.lst [.ref r]) := fm.top
  have e3 : h[r]? = some (.lst []) := fm.obj 0 r _ rfl rfl
  unfold rEnd
  simp [e2, e3]
theorem end_open (s : St t i fr F ls h) (hF : 1 < F.length) : wS (sSeq rEnd ls h) (isEr ⟨"BadText", []⟩) := by
  obtain ⟨o4, o5, refs, rfl, fm⟩ := s
  have e2 := fm.top
  have e3 : ¬ (refs.length : Int) = 1 := by have := fm.len; omega
  unfold rEnd
  simp [e2, e3]
theorem rd_run {P : LS → AH → Prop} {Q : SR → Prop} (R0 : ∀ ls h, St t 0 true [[]] ls h → ∃ n, n ≤ 2000000 ∧ Reach cf1 n ls h P) (w : ∀ ls h k, P ls h → wS (whN rC (rB cf1) (k + 1) ls h) (kQ rEnd Q)) : wS (sSeq (b_read_data cf1) [some (.str t), none, none, none, none, none] []) Q := by
  rw [b_read_eq]
  have h0 : St t 0 true [[]] [some (.str t), some (.ref 1), some (.int 0), some (.bl true), none, none] [.lst [], .lst [.ref 0]] := by
    refine ⟨none, none, [0], rfl, ⟨rfl, by simp, by simp, rfl, ?_⟩⟩
    intro j r f hj hf
    cases j with
    | zero => simp at hj hf; subst hj hf; rfl
    | succ j => simp at hj
  refine wS_cut (M := fun ls h => ls = [some (.str t), some (.ref 1), none, none, none, none] ∧ h = [.lst [], .lst [.ref 0]]) (by simp [newL, show ¬ LIM = 0 by decide]) ?_
  rintro _ _ ⟨rfl, rfl⟩
  refine wS_cut (M := fun ls h => ls = [some (.str t), some (.ref 1), some (.int 0), none, none, none] ∧ h = [.lst [], .lst [.ref 0]]) (by simp) ?_
  rintro _ _ ⟨rfl, rfl⟩
  refine wS_cut (M := fun ls h => ls = [some (.str t), some (.ref 1), some (.int 0), some (.bl true), none, none] ∧ h = [.lst [], .lst [.ref 0]]) (by simp) ?_
  rintro _ _ ⟨rfl, rfl⟩
  obtain ⟨n, hn, ls', h', p, e⟩ := R0 _ _ h0
  rw [sSeq_cons]
  show wS (whN rC (rB cf1) 10000000 _ _) _
  have e10 : 10000000 = (10000000 - n - 1) + 1 + n := by omega
  rw [e10, e]
  exact w ls' h' _ p
end
theorem read_good (e : Nat) {k : Nat} {d : DV} (hd : Dat k d) (hk : k ≤ 240) (hl : (txt k d).length ≤ 1000000) (h : AH) : cf (e + 3) "read_data" [.str (txt k d)] h = some (.ok d h) := by
  rw [c_read_data (e + 2)]
  refine apart_val (es := [.str (txt k d)]) (brw_own (by simp)) rfl hd.own ?_
  refine rd_run (t := txt k d) (P := St (txt k d) (txt k d).length false [[d]]) (fun ls h s => ?_) (fun ls h j s => w_stop s (lim_le hl) (end_ok s))
  obtain ⟨n, hn, r⟩ := rd_all e k d hd (txt k d) [] [] [] [] ls h (by simp) hl (by simp) (by simp; omega) (by simp) s
  exact ⟨n, by omega, by simpa using r⟩
/-- the text is refused -/
def RefD (e : Nat) (t : List Nat) : Prop := ∀ h, cf (e + 3) "read_data" [.str t] h = some (.er ⟨"BadText", []⟩ h)
theorem ref_of {e : Nat} {t : List Nat} {P : LS → AH → Prop} (R0 : ∀ ls h, St t 0 true [[]] ls h → ∃ n, n ≤ 2000000 ∧ Reach (cf (e + 2)) n ls h P) (w : ∀ ls h k, P ls h → wS (whN rC (rB (cf (e + 2))) (k + 1) ls h) (kQ rEnd (isEr ⟨"BadText", []⟩))) : RefD e t := fun h => by
  rw [c_read_data (e + 2)]
  exact apart_er (es := [.str t]) (brw_own (by simp)) rfl (rd_run R0 w)
/-! ### the odd texts -/
/-- behind a datum at the top: any further sign is refused -/
theorem ref_more {e k : Nat} {d : DV} (hd : Dat k d) (hk : k ≤ 200) {c : Nat} {u : List Nat} (hl : (txt k d ++ c :: u).length ≤ 1000000) (hc : c ∉ SG) : RefD e (txt k d ++ c :: u) := by
  refine ref_of (P := St (txt k d ++ c :: u) (txt k d).length false [[d]]) (fun ls h s => ?_) (fun ls h j s => w_raise s (lim_le hl) (by simp) (st_flat s (lim_le hl) (c := c) (by simp)))
  obtain ⟨n, hn, r⟩ := rd_all e k d hd _ [] (c :: u) [] [] ls h rfl hl (by intro c' h'; simp at h'; subst h'; exact hc) (by simp; omega) (by simp) s
  simp at hl
  exact ⟨n, by omega, by simpa using r⟩
/-- an open bracket, a datum, then: -/
theorem go_in {e k : Nat} {d : DV} (hd : Dat k d) (hk : k ≤ 200) {u : List Nat} (hl : (40 :: (txt k d ++ u)).length ≤ 1000000) (hu : ∀ c, u[0]? = some c → c ∉ SG) {ls : LS} {h : AH} (s : St (40 :: (txt k d ++ u)) 0 true [[]] ls h) :
    ∃ n, n ≤ 1000000 ∧ Reach (cf (e + 2)) n ls h (St (40 :: (txt k d ++ u)) (1 + (txt k d).length) false [[], [d]]) := by
  obtain ⟨ls1, h1, s1, e1⟩ := Reach.step (cf1 := cf (e + 2)) s (lim_le hl) (by simp) (st_open s (lim_le hl) rfl (by simp))
  obtain ⟨n, hn, r⟩ := rd_all e k d hd (40 :: (txt k d ++ u)) [40] u [[]] [] ls1 h1 rfl hl hu (by simp; omega) (by simp) s1
  simp at hl
  refine ⟨1 + n, by omega, Reach.trans (P := fun l k => (l, k) = (ls1, h1)) ⟨ls1, h1, rfl, e1⟩ fun l k q => by cases q; simpa using r⟩
theorem ref_in {e k : Nat} {d : DV} (hd : Dat k d) (hk : k ≤ 200) : (txt k d).length ≤ 900000 → RefD e (40 :: txt k d) := fun hl0 => by
  have hl : (40 :: (txt k d ++ [])).length ≤ 1000000 := by simp; omega
  have := ref_of (e := e) (t := 40 :: (txt k d ++ [])) (P := St (40 :: (txt k d ++ [])) (1 + (txt k d).length) false [[], [d]]) (fun ls h s => by
    obtain ⟨n, hn, r⟩ := go_in (e := e) hd hk hl (by simp) s
    exact ⟨n, by omega, r⟩) (fun ls h j s => w_stop (by
      have : (40 :: (txt k d ++ [])).length = 1 + (txt k d).length := by simp; omega
      rw [this]; exact s) (lim_le hl) (end_open s (by simp)))
  simpa using this
theorem ref_in2 {e k : Nat} {d : DV} (hd : Dat k d) (hk : k ≤ 200) {c : Nat} {u : List Nat} (hl : (40 :: (txt k d ++ c :: u)).length ≤ 1000000) (hc : c ∉ SG) (h41 : c ≠ 41) (h2 : (c :: u).take 2 ≠ [44, 32]) : RefD e (40 :: (txt k d ++ c :: u)) := by
  have hi : (40 :: (txt k d ++ c :: u))[1 + (txt k d).length]? = some c := by rw [Nat.add_comm]; simp
  refine ref_of (P := St (40 :: (txt k d ++ c :: u)) (1 + (txt k d).length) false [[], [d]]) (fun ls h s => ?_) (fun ls h j s => w_raise s (lim_le hl) (List.getElem?_eq_some_iff.mp hi).1 (st_deep s (lim_le hl) hi h41 (by
      have : (40 :: (txt k d ++ c :: u)).drop (1 + (txt k d).length) = c :: u := by
        rw [Nat.add_comm]; simp
      rw [this]; exact h2)))
  obtain ⟨n, hn, r⟩ := go_in (e := e) hd hk hl (by intro c' h'; simp at h'; subst h'; exact hc) s
  exact ⟨n, by omega, r⟩
end K01


set_option maxRecDepth 100000
set_option maxHeartbeats 4000000
set_option autoImplicit false
namespace K01
open PySem L2 P3
theorem bad_nil : badN [] := .inl rfl
theorem ref_start {e : Nat} {c : Nat} {u : List Nat} (hl : (c :: u).length ≤ 1000000) (hc : c ∉ SG) (h39 : c ≠ 39) (h40 : c ≠ 40) : RefD e (c :: u) := by
  refine ref_of (P := St (c :: u) 0 true [[]]) (fun ls h s => ⟨0, by omega, Reach.refl s⟩) (fun ls h j s => w_raise s (lim_le hl) (by simp) (st_itemBad s (lim_le hl) (c := c) rfl h40 (fun _ => .inl (by simp)) fun h => ?_))
  exact rp_bad e (pre := []) (w := []) (post := c :: u) bad_nil hl (by simp) (by simpa using h39) (by simp) (by intro c' h'; simp at h'; subst h'; exact hc) h
theorem go_open {e : Nat} {u : List Nat} (hl : (40 :: u).length ≤ 1000000) {ls : LS} {h : AH} (s : St (40 :: u) 0 true [[]] ls h) : Reach (cf (e + 2)) 1 ls h (St (40 :: u) 1 true [[], []]) :=
  Reach.step s (lim_le hl) (by simp) (st_open s (lim_le hl) rfl (by simp))
theorem ref_in_num {e : Nat} {w post : List Nat} {c : Nat} (hc : (w ++ post)[0]? = some c) (h40 : c ≠ 40) (h41 : c ≠ 41) (hb : badN w) (hl : (40 :: (w ++ post)).length ≤ 1000000) (h39 : (w ++ post)[0]? ≠ some 39) (hw : ∀ c ∈ w, c ∈ SG) (hp : ∀ c, post[0]? = some c → c ∉ SG) : RefD e (40 :: (w ++ post)) := by
  have hlt : 0 < (w ++ post).length := (List.getElem?_eq_some_iff.mp hc).1
  refine ref_of (P := St (40 :: (w ++ post)) 1 true [[], []]) (fun ls h s => ⟨1, by omega, go_open hl s⟩) (fun ls h j s => w_raise s (lim_le hl) (by simp at hlt ⊢; omega) (st_itemBad s (lim_le hl) (c := c) (by simpa using hc) h40 (fun q => absurd q h41) fun h => ?_))
  exact rp_bad e (pre := [40]) (w := w) (post := post) hb hl hlt h39 hw hp h
theorem ref_in_quote {e : Nat} {x : List Nat} (hx : 39 ∉ x) (hl : (40 :: 39 :: x).length ≤ 1000000) : RefD e (40 :: 39 :: x) := by
  refine ref_of (P := St (40 :: 39 :: x) 1 true [[], []]) (fun ls h s => ⟨1, by omega, go_open hl s⟩) (fun ls h j s => w_raise s (lim_le hl) (by simp) (st_itemBad s (lim_le hl) (c := 39) rfl (by omega) (by omega) fun h => ?_))
  exact rp_miss e (pre := [40]) hx (lim_le hl) h
theorem ref_comma {e k : Nat} {d : DV} (hd : Dat k d) (hk : k ≤ 200) {c : Nat} {u : List Nat} (hl : (40 :: (txt k d ++ 44 :: 32 :: c :: u)).length ≤ 1000000) (hc : c ∉ SG) (h39 : c ≠ 39) (h40 : c ≠ 40) : RefD e (40 :: (txt k d ++ 44 :: 32 :: c :: u)) := by
  have et : 40 :: (txt k d ++ 44 :: 32 :: c :: u) = (40 :: (txt k d ++ [44, 32])) ++ ([] ++ c :: u) := by simp
  have hlen : (40 :: (txt k d ++ [44, 32])).length = 1 + (txt k d).length + 2 := by simp; omega
  have hi : (40 :: (txt k d ++ 44 :: 32 :: c :: u))[1 + (txt k d).length]? = some 44 := by rw [Nat.add_comm]; simp
  have hi1 : (40 :: (txt k d ++ 44 :: 32 :: c :: u))[1 + (txt k d).length + 1]? = some 32 := by
    have : 1 + (txt k d).length + 1 = ((txt k d).length + 1) + 1 := by omega
    rw [this, List.getElem?_cons_succ, List.getElem?_append_right (by omega)]
    simp
  have hi2 : (40 :: (txt k d ++ 44 :: 32 :: c :: u))[1 + (txt k d).length + 2]? = some c := by
    rw [et, ← hlen]; simp
  refine ref_of (P := St (40 :: (txt k d ++ 44 :: 32 :: c :: u)) (1 + (txt k d).length + 2) true [[], [d]]) (fun ls h s => ?_) (fun ls h j s => w_raise s (lim_le hl) (List.getElem?_eq_some_iff.mp hi2).1 (st_itemBad s (lim_le hl) hi2 h40 (fun _ => .inr ⟨1 + (txt k d).length + 1, 32, rfl, hi1, by omega⟩) fun h => ?_))
  · obtain ⟨n, hn, ls1, h1, s1, ew⟩ := go_in (e := e) hd hk hl (by intro c' h'; simp at h'; subst h'; rw [mem_SG]; omega) s
    have b := Reach.step (cf1 := cf (e + 2)) s1 (lim_le hl) (List.getElem?_eq_some_iff.mp hi).1 (st_comma s1 (lim_le hl) hi (by
      have : (40 :: (txt k d ++ 44 :: 32 :: c :: u)).drop (1 + (txt k d).length) = 44 :: 32 :: c :: u := by
        rw [Nat.add_comm]; simp
      rw [this]; rfl) (by simp))
    exact ⟨n + 1, by omega, Reach.trans (P := fun l k => (l, k) = (ls1, h1)) ⟨ls1, h1, rfl, ew⟩ fun l k q => by cases q; exact b⟩
  · have := rp_bad e (pre := 40 :: (txt k d ++ [44, 32])) (w := []) (post := c :: u) bad_nil (by rw [← et]; exact hl) (by simp) (by simpa using h39) (by simp) (by intro c' h'; simp at h'; subst h'; exact hc) h
    rw [← et, hlen] at this
    exact this
theorem ref_nil {e : Nat} : RefD e [] := by
  refine ref_of (P := St [] 0 true [[]]) (fun ls h s => ⟨0, by omega, Reach.refl s⟩) (fun ls h j s => w_stop (t := []) s (by simp) (end_none s))
/-- the datum twice, and a bracket -/
theorem ref_twice {e k : Nat} {d : DV} (hd : Dat k d) (hk : k ≤ 200) (hl : (txt k d).length ≤ 100000) (hsm : ∀ n, d = .int n → n.natAbs < 10 ^ 30) : RefD e (txt k d ++ (txt k d ++ [40])) := by
  cases hd with
  | str hx =>
    rename_i x
    have := ref_more (e := e) (k := k) (d := .str x) (.str hx) hk (c := 39) (u := x ++ [39] ++ [40]) (by simp at hl ⊢; omega) (by rw [mem_SG]; omega)
    simpa using this
  | tup hx hn =>
    rename_i j xs
    have := ref_more (e := e) (k := j + 1) (d := .tup xs) (.tup hx hn) hk (c := 40) (u := gluN [44, 32] (xs.map (txt j)) ++ [41] ++ [40]) (by simp at hl ⊢; omega) (by rw [mem_SG]; omega)
    simpa using this
  | int hi =>
    rename_i n
    simp only [txt_int]
    have hsm := hsm n rfl
    have hl30 : (TL.numL n.natAbs).length ≤ 30 := TL.numL_len (by decide) hsm
    by_cases hpos : 0 < n
    · obtain ⟨m, rfl⟩ := Int.eq_ofNat_of_zero_le (Int.le_of_lt hpos)
      have hm0 : 0 < m := by omega
      have hml : m < 10 ^ 30 := hsm
      have e1 : TL.numL (m * 10 ^ (TL.numL m).length + m) = TL.numL m ++ TL.numL m := by
        have hlt : m < 10 ^ (TL.numL m).length := by
          have := dval_lt _ (TL.numL m) rfl (numL_AllD m)
          rwa [TL.numL_val] at this
        rw [num_split hm0 _ _ hlt]
        have hpos := numL_len1 m
        obtain ⟨q, hq⟩ : ∃ q, (TL.numL m).length = q + 1 := ⟨(TL.numL m).length - 1, by omega⟩
        have := pad_num q m (by rw [← hq]; exact hlt)
        rw [hq, ← this, hq]
        simp
      have hb : m * 10 ^ (TL.numL m).length + m < 10 ^ 400 := by
        have h1 : 10 ^ (TL.numL m).length ≤ 10 ^ 30 := Nat.pow_le_pow_right (by decide) (by simpa using hl30)
        have h2 : m * 10 ^ (TL.numL m).length ≤ 10 ^ 30 * 10 ^ 30 := Nat.mul_le_mul (Nat.le_of_lt hml) h1
        have h3 : 10 ^ 30 * 10 ^ 30 + 10 ^ 30 < 10 ^ 400 := by decide +kernel
        omega
      have := ref_more (e := e) (k := k) (d := .int ((m * 10 ^ (TL.numL m).length + m : Nat) : Int)) (.int (by rw [Int.natAbs_natCast]; exact hb)) hk (c := 40) (u := []) (by rw [txt_int, decI_nat, e1]; simp at hl30 ⊢; omega) (by rw [mem_SG]; omega)
      rw [txt_int, decI_nat, e1] at this
      simpa using this
    · have hbad : badN (decI n ++ decI n) := by
        by_cases h0 : n = 0
        · subst h0; exact .inr (.inl (by decide +kernel))
        · have hneg : n < 0 := by omega
          have : decI n = 45 :: TL.numL n.natAbs := by unfold decI; rw [if_pos hneg]
          refine .inr (.inr ⟨45, ?_, by omega⟩)
          rw [this]
          unfold digs
          simp
      have hdp := decI_pos n
      obtain ⟨c, hc⟩ : ∃ c, (decI n)[0]? = some c := ⟨_, List.getElem?_eq_getElem hdp⟩
      have hcs := mem_SG.mp (decI_SG n c (List.mem_of_getElem? hc))
      have hll : (decI n).length ≤ 31 := by
        unfold decI
        split
        · rw [List.length_cons]; omega
        · omega
      have hL : ((decI n ++ decI n) ++ [40]).length ≤ 1000000 := by simp; omega
      have key : RefD e ((decI n ++ decI n) ++ [40]) := by
        refine ref_of (P := St ((decI n ++ decI n) ++ [40]) 0 true [[]]) (fun ls h s => ⟨0, by omega, Reach.refl s⟩) (fun ls h j s => w_raise s (lim_le hL) (by simp; omega) (st_itemBad s (lim_le hL) (c := c) (by
          rw [List.append_assoc, List.getElem?_append_left hdp]; exact hc) (by omega) (fun _ => .inl (by simp)) fun h => ?_))
        exact rp_bad e (pre := []) (w := decI n ++ decI n) (post := [40]) hbad hL (by simp; omega) (SG_39 (fun c hc => by
          rcases List.mem_append.mp hc with h | h <;> exact decI_SG n c h) (by intro z; simp at z; rw [z] at hdp; simp at hdp)) (fun c hc => by
          rcases List.mem_append.mp hc with h | h <;> exact decI_SG n c h) (by intro c' h'; simp at h'; subst h'; rw [mem_SG]; omega) h
      simpa using key
end K01


set_option maxRecDepth 100000
set_option maxHeartbeats 4000000
set_option autoImplicit false
namespace K01
open PySem L2 P3
theorem ex_draw {cf : Str → List DV → AH → Option (R DV)} (D : IsDraw cf) {N r : Nat} {xs : List DV} {most : Int} {h : AH} (hr : h[r]? = some (.lst xs)) (hs : isSt N xs) (hN : N < 10 ^ 12) (hm : 0 < most) (hm2 : most < 2 ^ 64) :
    ∃ v ys, cf "_law_draw" [.ref r, .int most] h = some (.ok (.int v) (h.set r (.lst ys))) ∧ 0 ≤ v ∧ v < most ∧ isSt (N + 1) ys := by
  obtain ⟨x, e, v, ys, rfl, q⟩ := w_draw (Q := fun x => ∃ v ys, x = .ok (.int v) (h.set r (.lst ys)) ∧ 0 ≤ v ∧ v < most ∧ isSt (N + 1) ys) D hr hs hN hm hm2 fun v ys h0 h1 h2 => ⟨v, ys, rfl, h0, h1, h2⟩
  exact ⟨v, ys, e, q⟩
/-- a drawn datum -/
def DD (k : Nat) (d : DV) : Prop := Dat k d ∧ (txt k d).length ≤ 10 * 5 ^ k ∧ ∀ n, d = .int n → n.natAbs < 10 ^ 30
def SIGN : List Nat := [97, 98, 122, 48, 57, 32, 44, 40, 41, 45, 95, 46, 126, 34, 60, 62]
theorem sign_ok : ∀ c ∈ SIGN, 32 ≤ c ∧ c ≤ 126 ∧ c ≠ 39 ∧ c ≠ 37 := by decide
theorem dd_int {k : Nat} {n : Int} (h : n.natAbs < 10 ^ 6) : DD k (.int n) := by
  refine ⟨.int (Nat.lt_of_lt_of_le h (Nat.pow_le_pow_right (by decide) (by decide))), ?_, fun m hm => by cases hm; exact Nat.lt_of_lt_of_le h (Nat.pow_le_pow_right (by decide) (by decide))⟩
  have h1 : (TL.numL n.natAbs).length ≤ 6 := TL.numL_len (by decide) h
  have h2 : 10 * 1 ≤ 10 * 5 ^ k := Nat.mul_le_mul_left 10 (Nat.pow_pos (by decide))
  rw [txt_int]
  unfold decI
  split
  · rw [List.length_cons]; omega
  · omega
theorem dd_str {k : Nat} {x : List Nat} (h : ∀ c ∈ x, c ∈ SIGN) (hl : x.length ≤ 6) : DD k (.str x) := by
  refine ⟨.str fun c hc => sign_ok c (h c hc), ?_, fun m hm => by cases hm⟩
  have h2 : 10 * 1 ≤ 10 * 5 ^ k := Nat.mul_le_mul_left 10 (Nat.pow_pos (by decide))
  rw [txt_str]
  simp
  omega
theorem dd_tup {k : Nat} {xs : List DV} (h : ∀ d ∈ xs, DD k d) (hl : xs.length ≤ 3) : DD (k + 1) (.tup xs) := by
  refine ⟨.tup (fun d hd => (h d hd).1) (by omega), ?_, fun m hm => by cases hm⟩
  rw [txt_tup]
  have hp : 0 < 5 ^ k := Nat.pow_pos (by decide)
  have e5 : 10 * 5 ^ (k + 1) = 10 * 5 ^ k * 5 := by rw [Nat.pow_succ]; omega
  have hg : (gluN [44, 32] (xs.map (txt k))).length ≤ 3 * (10 * 5 ^ k) + 4 := by
    match xs, hl with
    | [], _ => simp [gluN]
    | [a], _ => have := (h a (by simp)).2.1; simp [gluN]; omega
    | [a, b], _ => have h1 := (h a (by simp)).2.1; have h2 := (h b (by simp)).2.1; simp [gluN]; omega
    | [a, b, c], _ => have h1 := (h a (by simp)).2.1; have h2 := (h b (by simp)).2.1; have h3 := (h c (by simp)).2.1; simp [gluN]; omega
    | a :: b :: c :: d :: r, hl => simp at hl
  rw [e5]
  simp
  omega
theorem le_step (N i B : Nat) : N + 2 + i * B + B ≤ N + 2 + (i + 1) * B := by rw [Nat.succ_mul]; omega
theorem leaf {cf1 : Str → List DV → AH → Option (R DV)} (D : IsDraw cf1) {N k : Nat} {K pk : Int} {ys : List DV} {c1 : EM} {s1 : SM} (hs : isSt (N + 1) ys) (hN : N + 20 < 10 ^ 12) (hc : cTru c1 [some (.ref 0), some (.int K), some (.int pk), none, none, none] [.lst ys] = some (.ok false [.lst ys])) :
    wS (sSeq (sIf c1 s1 (sSeq []) :: (b__law_datum cf1).drop 2) [some (.ref 0), some (.int K), some (.int pk), none, none, none] [.lst ys]) (pR fun d h => d.own = true ∧ ∃ ys, h[0]? = some (.lst ys) ∧ DV.owns ys = true ∧ DD k d ∧ isSt (N + 20) ys) := by
  refine wS_cut (M := fun ls h => ls = [some (.ref 0), some (.int K), some (.int pk), none, none, none] ∧ h = [.lst ys]) (by rw [r_sIf, wS_sE, hc]; simp) ?_
  rintro _ _ ⟨rfl, rfl⟩
  show wS (sSeq (sIf _ _ _ :: _) _ _) _
  by_cases h2 : pk = 2
  · subst h2
    simp
    refine w_draw D rfl hs (by omega) (by omega) (by omega) fun a zs a0 a1 hs2 => ?_
    simp
    refine w_draw D rfl hs2 (by omega) (by omega) (by omega) fun b us b0 b1 hs3 => ?_
    have l2 : (2 : Nat) ≤ LIM := by decide
    simp [newL, l2]
    refine w_draw D rfl hs3 (by omega) (by omega) (by omega) fun v ws v0 v1 hs4 => ?_
    obtain rfl | rfl : v = 0 ∨ v = 1 := by omega
    · simp
      exact ⟨hs4.own, dd_int (by omega), hs4.mono (by omega)⟩
    · simp
      exact ⟨hs4.own, dd_int (by omega), hs4.mono (by omega)⟩
  · refine wS_cut (M := fun ls h => ls = [some (.ref 0), some (.int K), some (.int pk), none, none, none] ∧ h = [.lst ys]) (by simp [h2]) ?_
    rintro _ _ ⟨rfl, rfl⟩
    refine wS_cut (M := fun ls h => ls = [some (.ref 0), some (.int K), some (.int pk), none, some (.str SIGN), none] ∧ h = [.lst ys]) (by simp; rfl) ?_
    rintro _ _ ⟨rfl, rfl⟩
    refine wS_cut (M := fun ls h => ls = [some (.ref 0), some (.int K), some (.int pk), none, some (.str SIGN), some (.str [])] ∧ h = [.lst ys]) (by simp) ?_
    rintro _ _ ⟨rfl, rfl⟩
    refine wS_cut (M := fun ls h => ∃ (o : Option DV) (x : List Nat) (us : List DV), (∀ c ∈ x, c ∈ SIGN) ∧ x.length ≤ 6 ∧ ls = [some (.ref 0), some (.int K), some (.int pk), o, some (.str SIGN), some (.str x)] ∧ h = [.lst us] ∧ isSt (N + 20) us) ?_ ?_
    · rw [w_sFor]
      obtain ⟨v, zs, ev, v0, v1, hst2⟩ := ex_draw D (h := [.lst ys]) (r := 0) (most := 6) rfl hs (by omega) (by omega) (by omega)
      obtain ⟨n, rfl⟩ := Int.eq_ofNat_of_zero_le v0
      rw [e_rng1 (n := n) (h' := [.lst zs]) (by simp [ev]) (by omega), wE_some, kS_ok]
      refine w_forR (I := fun i ls h => ∃ (o : Option DV) (x : List Nat) (us : List DV), (∀ c ∈ x, c ∈ SIGN) ∧ x.length = i ∧ ls = [some (.ref 0), some (.int K), some (.int pk), o, some (.str SIGN), some (.str x)] ∧ h = [.lst us] ∧ isSt (N + 2 + i) us)
        ⟨none, [], zs, by simp, rfl, rfl, rfl, by simpa using hst2⟩ ?_ ?_
      · rintro i _ _ hi ⟨o, x, us, hx, hxl, rfl, rfl, hst3⟩
        refine ⟨_, _, rfl, ?_⟩
        have lS : SIGN.length ≤ LIM := by decide
        have lS2 : SIGN.length = 16 := rfl
        simp [lS]
        rw [lS2]
        refine w_draw D rfl hst3 (by omega) (by omega) (by omega) fun b ws b0 b1 hs4 => ?_
        obtain ⟨q, rfl⟩ := Int.eq_ofNat_of_zero_le b0
        obtain ⟨c, hc⟩ : ∃ c, SIGN[q]? = some c := ⟨_, List.getElem?_eq_getElem (by rw [lS2]; omega)⟩
        have hcm := List.mem_of_getElem? hc
        have l1 : x.length + 1 ≤ LIM := by unfold LIM; omega
        simp [lS, hc, l1]
        refine ⟨_, x ++ [c], fun y hy => ?_, by simp; omega, ⟨rfl, rfl⟩, hs4⟩
        rcases List.mem_append.mp hy with hy | hy
        · exact hx y hy
        · rw [List.mem_singleton.mp hy]; exact hcm
      · rintro _ _ ⟨o, x, us, hx, hxl, rfl, rfl, hst3⟩
        exact ⟨o, x, us, hx, by omega, rfl, rfl, hst3.mono (by omega)⟩
    · rintro _ _ ⟨o, x, us, hx, hxl, rfl, rfl, hst3⟩
      simp
      exact ⟨hst3.own, dd_str hx hxl, hst3⟩
theorem datum_ok (e : Nat) : ∀ (k : Nat) (N r : Nat) (xs : List DV) (h : AH), h[r]? = some (.lst xs) → isSt N xs → N + 20 * 5 ^ k < 10 ^ 12 →
    ∃ d ys, cf (e + k + 2) "_law_datum" [.ref r, .int k] h = some (.ok d (h.set r (.lst ys))) ∧ DD k d ∧ isSt (N + 20 * 5 ^ k) ys := by
  intro k
  induction k with
  | zero =>
    intro N r xs h hr hs hN
    have D := c__law_draw (e + 0)
    rw [c__law_datum (e + 0 + 1)]
    refine inout_val (es := [.int ((0 : Nat) : Int)]) (P := fun d ys => DD 0 d ∧ isSt (N + 20 * 5 ^ 0) ys) hr hs.own (brw_own (by simp)) rfl ?_
    show wS (sSeq (b__law_datum (cf (e + 0 + 1))) [some (.ref 0), some (.int ((0 : Nat) : Int)), none, none, none, none] [.lst xs]) _
    refine wS_cut (M := fun ls h => ∃ (ys : List DV) (pk : Int), 0 ≤ pk ∧ isSt (N + 1) ys ∧ ls = [some (.ref 0), some (.int 0), some (.int pk), none, none, none] ∧ h = [.lst ys]) ?_ ?_
    · simp
      refine w_draw D rfl hs (by omega) (by omega) (by omega) fun v ys h0 h1 h2 => ?_
      simp
      exact ⟨ys, v, h0, h2, rfl, rfl⟩
    rintro _ _ ⟨ys, pk, hpk, hst, rfl, rfl⟩
    exact leaf D hst (by simpa using hN) (by simp)
  | succ k ih =>
    intro N r xs h hr hs hN
    have hp : 0 < 5 ^ k := Nat.pow_pos (by decide)
    have e5 : 5 ^ (k + 1) = 5 ^ k * 5 := Nat.pow_succ ..
    have D := c__law_draw (e + k + 1)
    rw [show e + (k + 1) + 2 = (e + k + 2) + 1 by omega, c__law_datum (e + k + 2)]
    refine inout_val (es := [.int ((k + 1 : Nat) : Int)]) (P := fun d ys => DD (k + 1) d ∧ isSt (N + 20 * 5 ^ (k + 1)) ys) hr hs.own (brw_own (by simp)) rfl ?_
    generalize hK : ((k + 1 : Nat) : Int) = K
    have hK0 : 0 < K := by omega
    have hK1 : K - 1 = (k : Int) := by omega
    show wS (sSeq (b__law_datum (cf (e + k + 2))) [some (.ref 0), some (.int K), none, none, none, none] [.lst xs]) _
    unfold b__law_datum
    refine wS_cut (M := fun ls h => ∃ (ys : List DV) (pk : Int), 0 ≤ pk ∧ isSt (N + 1) ys ∧ ls = [some (.ref 0), some (.int K), some (.int pk), none, none, none] ∧ h = [.lst ys]) ?_ ?_
    · simp
      refine w_draw D rfl hs (by omega) (by omega) (by omega) fun v ys h0 h1 h2 => ?_
      simp
      exact ⟨ys, v, h0, h2, rfl, rfl⟩
    rintro _ _ ⟨ys, pk, hpk, hst, rfl, rfl⟩
    by_cases hlt : pk < 2
    · simp [hlt, hK0]
      obtain ⟨v, zs, ev, v0, v1, hst2⟩ := ex_draw D (h := [.lst ys]) (r := 0) (most := 4) rfl hst (by omega) (by omega) (by omega)
      obtain ⟨n, rfl⟩ := Int.eq_ofNat_of_zero_le v0
      refine w_cmpR (n := n) (h := [.lst zs]) (e_rng1 (by simp [ev]) (by omega)) (fun i acc h => ∃ us, h = [.lst us, .lst acc] ∧ acc.length = i ∧ (∀ d ∈ acc, DD k d) ∧ isSt (N + 2 + i * (20 * 5 ^ k)) us) (by unfold LIM; omega) ⟨zs, rfl, rfl, by simp, by simpa using hst2⟩ ?_ ?_
      · rintro i acc _ hi ⟨us, rfl, ha, hd, hst3⟩ hr2
        have hi3 : i * (20 * 5 ^ k) ≤ 3 * (20 * 5 ^ k) := Nat.mul_le_mul_right _ (by omega)
        obtain ⟨d, ws, ed, hdd, hst4⟩ := ih (N + 2 + i * (20 * 5 ^ k)) 0 us [.lst us, .lst acc] rfl hst3 (by rw [e5] at hN; omega)
        simp [hK1, ed]
        refine ⟨ha, fun x hx => ?_, hst4.mono (le_step N i _)⟩
        rcases hx with hx | rfl
        · exact hd x hx
        · exact hdd
      · rintro acc _ ⟨us, rfl, ha, hd, hst3⟩ hr2
        have hn3 : n * (20 * 5 ^ k) ≤ 3 * (20 * 5 ^ k) := Nat.mul_le_mul_right _ (by omega)
        have hdd := dd_tup hd (by omega)
        simp
        exact ⟨hdd.1.own, hst3.own, hdd, hst3.mono (by rw [e5]; omega)⟩
    · exact (leaf (k := k + 1) D hst (by rw [e5] at hN; omega) (by simp [hK0, hlt])).imp fun x hx => by
        cases x with
        | er y ls h => exact hx
        | go f ls h =>
          cases f with
          | rt d => obtain ⟨h1, us, h2, h3, h4, h5⟩ := hx; exact ⟨h1, us, h2, h3, h4, h5.mono (by rw [e5]; omega)⟩
          | nx => obtain ⟨h1, us, h2, h3, h4, h5⟩ := hx; exact ⟨h1, us, h2, h3, h4, h5.mono (by rw [e5]; omega)⟩
          | bk => exact hx
          | ct => exact hx
end K01


set_option maxRecDepth 100000
set_option maxHeartbeats 4000000
set_option autoImplicit false
namespace K01
open PySem L2 P3
@[simp] theorem b_catR {a b : Nat} {h : AH} : binD .Add (.ref a) (.ref b) h = match h[a]?, h[b]? with
  | some (.lst xs), some (.lst ys) => newL (xs ++ ys) h
  | _, _ => none := rfl
@[simp] theorem b_rep {x : List Nat} {n : Int} {h : AH} : binD .Mult (.str x) (.int n) h = if 1 < n ∧ x ≠ [] ∧ x.length * n.toNat ≤ LIM then some (.str (List.replicate n.toNat x).flatten, h) else none := rfl
theorem e_tup0 {h : AH} : eqD h (.tup []) (.tup []) = some true := by
  unfold eqD flat
  simp [DV.pd, DV.pds]
  decide +kernel
theorem c_ref (e : Nat) {t : List Nat} (hb : RefD e t) (h : AH) : cf (e + 4) "_law_refused" [.str t] h = some (.ok (.bl true) h) := by
  rw [c__law_refused (e + 3)]
  refine apart_val (es := [.str t]) (brw_own (by simp)) rfl rfl ?_
  unfold b__law_refused
  rw [sSeq_cons]
  refine w_try ?_
  have e1 : excIs G "BadText" "BadText" = some true := rfl
  simp
  rw [hb]
  simp [kT, e1, suC]
def oddL (t : List Nat) : List (List Nat) := [[], 40 :: t, t ++ [41], t ++ [32], 32 :: t, t ++ [44, 32], 40 :: (t ++ [44, 41]), 40 :: 32 :: (t ++ [41])] ++ [40 :: (t ++ [32, 41]), 40 :: (t ++ 44 :: (t ++ [41])), 40 :: (t ++ 44 :: 32 :: 32 :: (t ++ [41])), [40, 48, 48, 55, 41], [40, 45, 48, 41]] ++
  [40 :: (t ++ [44, 32, 41]), 40 :: 44 :: 32 :: (t ++ [41]), [40, 39, 97, 41], [39, 97, 39, 98, 39], t ++ (t ++ [40]), [40, 41, 40, 41]]
theorem nSG {c : Nat} (h : c ≠ 45 ∧ (c < 48 ∨ 57 < c)) : c ∉ SG := by rw [mem_SG]; omega
theorem txt_head {k : Nat} {d : DV} (hd : Dat k d) : ∃ c r, txt k d = c :: r ∧ c ≠ 32 := by
  cases hd with
  | int hi =>
    have hp := decI_pos
    rename_i n
    rw [txt_int]
    cases q : decI n with
    | nil => have := decI_pos n; rw [q] at this; simp at this
    | cons c r =>
      have := mem_SG.mp (decI_SG n c (by rw [q]; simp))
      exact ⟨c, r, rfl, by omega⟩
  | str hx => exact ⟨39, _, by rw [txt_str], by omega⟩
  | tup hx hn => exact ⟨40, _, by rw [txt_tup], by omega⟩
theorem odd_ref {e k : Nat} {d : DV} (h : DD k d) (hk : k ≤ 4) : ∀ y ∈ oddL (txt k d), RefD e y := by
  obtain ⟨hd, hl0, hsm⟩ := h
  have hl : (txt k d).length ≤ 100000 := by
    have : 5 ^ k ≤ 5 ^ 4 := Nat.pow_le_pow_right (by decide) hk
    omega
  have hk2 : k ≤ 200 := by omega
  intro y hy
  simp only [oddL, List.mem_append, List.mem_cons, List.not_mem_nil, or_false] at hy
  rcases hy with (((rfl | rfl | rfl | rfl | rfl | rfl | rfl | rfl) | (rfl | rfl | rfl | rfl | rfl)) | (rfl | rfl | rfl | rfl | rfl | rfl))
  · exact ref_nil
  · exact ref_in hd hk2 (by omega)
  · exact ref_more hd hk2 (by simp; omega) (nSG (by omega))
  · exact ref_more hd hk2 (by simp; omega) (nSG (by omega))
  · exact ref_start (by simp; omega) (nSG (by omega)) (by omega) (by omega)
  · exact ref_more hd hk2 (by simp; omega) (nSG (by omega))
  · exact ref_in2 hd hk2 (by simp; omega) (nSG (by omega)) (by omega) (by simp)
  · exact ref_in_num (w := []) (post := 32 :: (txt k d ++ [41])) (c := 32) rfl (by omega) (by omega) bad_nil (by simp; omega) (by simp) (by simp) (by intro c hc; simp at hc; subst hc; exact nSG (by omega))
  · exact ref_in2 hd hk2 (by simp; omega) (nSG (by omega)) (by omega) (by simp)
  · obtain ⟨c, r, ec, hc⟩ := txt_head hd
    refine ref_in2 hd hk2 (by simp; omega) (nSG (by omega)) (by omega) ?_
    rw [ec]
    simp
    exact hc
  · exact ref_comma hd hk2 (by simp; omega) (nSG (by omega)) (by omega) (by omega)
  · exact ref_in_num (w := [48, 48, 55]) (post := [41]) (c := 48) rfl (by omega) (by omega) (.inr (.inl (by decide +kernel))) (by simp) (by simp) (by simp [mem_SG]) (by intro c hc; simp at hc; subst hc; exact nSG (by omega))
  · exact ref_in_num (w := [45, 48]) (post := [41]) (c := 45) rfl (by omega) (by omega) (.inr (.inl (by decide +kernel))) (by simp) (by simp) (by simp [mem_SG]) (by intro c hc; simp at hc; subst hc; exact nSG (by omega))
  · exact ref_comma hd hk2 (by simp; omega) (nSG (by omega)) (by omega) (by omega)
  · exact ref_in_num (w := []) (post := 44 :: 32 :: (txt k d ++ [41])) (c := 44) rfl (by omega) (by omega) bad_nil (by simp; omega) (by simp) (by simp) (by intro c hc; simp at hc; subst hc; exact nSG (by omega))
  · exact ref_in_quote (by simp) (by simp)
  · exact ref_more (k := 0) (d := .str [97]) (.str (by simp)) (by omega) (c := 98) (u := [39]) (by simp) (nSG (by omega))
  · exact ref_twice hd hk2 hl hsm
  · exact ref_more (k := 1) (d := .tup []) (.tup (by simp) (by simp)) (by omega) (c := 40) (u := [41]) (by simp [gluN]) (nSG (by omega))
/-! deep -/
def nest : Nat → DV
  | 0 => .tup []
  | i + 1 => .tup [nest i]
theorem nest_dat : ∀ i, Dat (i + 1) (nest i)
  | 0 => .tup (by simp) (by simp)
  | i + 1 => .tup (by simp; exact nest_dat i) (by simp)
theorem nest_txt : ∀ i, txt (i + 1) (nest i) = List.replicate (i + 1) 40 ++ List.replicate (i + 1) 41
  | 0 => rfl
  | i + 1 => by
    show 40 :: (gluN [44, 32] ([nest i].map (txt (i + 1))) ++ [41]) = _
    have : gluN [44, 32] ([nest i].map (txt (i + 1))) = txt (i + 1) (nest i) := rfl
    rw [this, nest_txt i, List.replicate_succ (n := i + 1), List.replicate_succ' (n := i + 1) (a := 41)]
    simp
theorem deep_ref (e : Nat) : RefD e (List.replicate 241 40 ++ List.replicate 241 41) := by
  have hl : (List.replicate 241 40 ++ List.replicate 241 41).length ≤ 1000000 := by simp
  have go : ∀ i, i ≤ 240 → ∀ ls h, St (List.replicate 241 40 ++ List.replicate 241 41) 0 true [[]] ls h → Reach (cf (e + 2)) i ls h (St (List.replicate 241 40 ++ List.replicate 241 41) i true (List.replicate (i + 1) [])) := by
    intro i
    induction i with
    | zero => intro _ ls h s; exact Reach.refl s
    | succ i ih =>
      intro hi ls h s
      refine Reach.trans (ih (by omega) ls h s) fun ls h s => ?_
      have hc : (List.replicate 241 40 ++ List.replicate 241 41)[i]? = some 40 := by
        rw [List.getElem?_append_left (by simp; omega), List.getElem?_replicate]
        simp; omega
      have := Reach.step (cf1 := cf (e + 2)) s (lim_le hl) (List.getElem?_eq_some_iff.mp hc).1 (st_open s (lim_le hl) hc (by simp; omega))
      rw [List.replicate_succ' (n := i + 1)]
      exact this
  refine ref_of (fun ls h s => ⟨240, by omega, go 240 (Nat.le_refl _) ls h s⟩) (fun ls h j s => w_raise s (lim_le hl) (by simp) (st_over s (lim_le hl) ?_ (by simp)))
  rw [List.getElem?_append_left (by simp), List.getElem?_replicate]
  simp
end K01


set_option maxRecDepth 100000
set_option maxHeartbeats 4000000
set_option autoImplicit false
namespace K01
open PySem L2 P3
def Inv0 (N : Nat) (sc : DV) (ls : LS) (h : AH) : Prop := ∃ (xs : List DV) (rest : AH) (o2 o3 o4 o5 o6 o7 o8 : Option DV), ls = [some sc, some (.ref 0), o2, o3, o4, o5, o6, o7, o8] ∧ h = .lst xs :: rest ∧ isSt N xs
theorem ex3 {rest : AH} {a b c c' : AO} (h : c = c') : ∃ r : AH, List.length rest + 2 = List.length r ∧ rest ++ [a, b, c] = r ++ [c'] := ⟨rest ++ [a, b], by simp, by rw [h]; simp⟩
theorem law_run (e : Nat) (he : 240 ≤ e) (ns : List Int) : wS (sSeq (b_law (cf (e + 6))) (some (.lst true (ns.map .int)) :: List.replicate 8 none) []) (pR fun d _ => d = .bl true) := by
  have D := c__law_draw (e + 5)
  unfold b_law
  obtain ⟨xs, es, hs⟩ := w_start (c__law_start (e + 5)) (ns := ns) (h := [])
  refine wS_cut (M := fun ls h => ls = [some (.lst true (ns.map .int)), some (.ref 0), none, none, none, none, none, none, none] ∧ h = [.lst xs]) (by simp; rw [es]; simp) ?_
  rintro _ _ ⟨rfl, rfl⟩
  generalize DV.lst true (ns.map .int) = sc
  refine wS_cut (M := fun ls h => Inv0 100000 sc ls h) ?_ ?_
  · simp
    refine w_forR (I := fun i ls h => Inv0 (20000 * i) sc ls h) ⟨xs, [], _, _, _, _, _, _, _, rfl, rfl, by simpa using hs⟩ ?_ (fun ls h ⟨xs, rest, o2, o3, o4, o5, o6, o7, o8, e1, e2, e3⟩ => ⟨xs, rest, o2, o3, o4, o5, o6, o7, o8, e1, e2, e3.mono (by simp)⟩)
    rintro i _ _ hi ⟨xs, rest, o2, o3, o4, o5, o6, o7, o8, rfl, rfl, hst⟩
    refine ⟨_, _, rfl, ?_⟩
    generalize (0 : Int) + (i : Int) * 1 = tn
    obtain ⟨d, ys, ed, hd, hst2⟩ := datum_ok e 4 (20000 * i) 0 xs (.lst xs :: rest) rfl hst (by omega)
    have ed : cf (e + 6) "_law_datum" [.ref 0, .int 4] (.lst xs :: rest) = some (.ok d (.lst ys :: rest)) := ed
    have hlen : (txt 4 d).length ≤ 6250 := hd.2.1
    refine wS_cut (M := fun ls h => ls = [some sc, some (.ref 0), some (.int tn), some d, o4, o5, o6, o7, o8] ∧ h = .lst ys :: rest) (by simp [ed]) ?_
    rintro _ _ ⟨rfl, rfl⟩
    have et := w_writ (e + 1) 4 d hd.1 (by omega)
    generalize ht : txt 4 d = t at *
    refine wS_cut (M := fun ls h => ls = [some sc, some (.ref 0), some (.int tn), some d, some (.str t), o5, o6, o7, o8] ∧ h = .lst ys :: rest) (by simp [et]) ?_
    rintro _ _ ⟨rfl, rfl⟩
    refine wS_cut (M := fun ls h => ls = [some sc, some (.ref 0), some (.int tn), some d, some (.str t), o5, o6, o7, o8] ∧ h = .lst ys :: rest) ?_ ?_
    · have h1 := w_data (e - 1) 4 d hd.1 (by rw [ht]; omega)
      have h2 := read_good (e + 3) (k := 4) (d := d) hd.1 (by omega) (by rw [ht]; omega)
      have h3 := w_same e 4 d hd.1
      have h4 := c_sameS (c__law_same (e + 5)) t
      rw [ht] at h1 h2
      rw [show e - 1 + 4 + 3 = e + 6 by omega] at h1
      simp [h1, h2, h3, h4]
    rintro _ _ ⟨rfl, rfl⟩
    have hod := odd_ref (e := e + 2) hd (Nat.le_refl 4)
    rw [ht] at hod
    refine wS_cut (M := fun ls h => ∃ (rest : AH), ls = [some sc, some (.ref 0), some (.int tn), some d, some (.str t), some (.ref (rest.length + 1)), o6, o7, o8] ∧ h = .lst ys :: (rest ++ [.lst ((oddL t).take 8 |>.map .str)])) ?_ ?_
    · have l1 : ∀ a : Nat, a ≤ 10000 → a ≤ LIM := fun a h => by unfold LIM; omega
      have b1 : 1 + t.length ≤ LIM := l1 _ (by omega)
      have b2 : t.length + 1 ≤ LIM := l1 _ (by omega)
      have b3 : t.length + 2 ≤ LIM := l1 _ (by omega)
      have b4 : t.length + 1 + 2 ≤ LIM := l1 _ (by omega)
      have b5 : 2 + t.length ≤ LIM := l1 _ (by omega)
      have b6 : t.length + 1 + 1 + 1 ≤ LIM := l1 _ (by omega)
      have b7 : (8 : Nat) ≤ LIM := by decide
      have b8 : 1 + t.length + 2 ≤ LIM := l1 _ (by omega)
      have b9 : 2 + t.length + 1 ≤ LIM := l1 _ (by omega)
      simp [b1, b2, b3, b4, b5, b6, b7, b8, b9, newL]
      refine ⟨rest, rfl, rfl, ?_⟩
      simp [oddL]
    rintro _ _ ⟨rest, rfl, rfl⟩
    have l1 : ∀ a : Nat, a ≤ 100000 → a ≤ LIM := fun a h => by unfold LIM; omega
    refine wS_cut (M := fun ls h => ∃ (rest : AH), ls = [some sc, some (.ref 0), some (.int tn), some d, some (.str t), some (.ref (rest.length + 1)), o6, o7, o8] ∧ h = .lst ys :: (rest ++ [.lst ((oddL t).take 13 |>.map .str)])) ?_ ?_
    · have b1 : 1 + t.length ≤ LIM := l1 _ (by omega)
      have b2 : t.length + 1 ≤ LIM := l1 _ (by omega)
      have b3 : 1 + t.length + 1 ≤ LIM := l1 _ (by omega)
      have b4 : t.length + 1 + 2 ≤ LIM := l1 _ (by omega)
      have b5 : t.length + 1 + 1 ≤ LIM := l1 _ (by omega)
      have b6 : t.length + 1 + 1 + t.length ≤ LIM := l1 _ (by omega)
      have b7 : (5 : Nat) ≤ LIM := by decide
      have b8 : t.length + 1 + 1 + t.length + 1 ≤ LIM := l1 _ (by omega)
      have b9 : t.length + 1 + 3 ≤ LIM := l1 _ (by omega)
      have b10 : t.length + 1 + 3 + t.length ≤ LIM := l1 _ (by omega)
      have b11 : t.length + 1 + 3 + t.length + 1 ≤ LIM := l1 _ (by omega)
      have b12 : (13 : Nat) ≤ LIM := by decide
      have c1 : t.length + (t.length + 1) + 1 + 1 ≤ LIM := l1 _ (by omega)
      have c2 : t.length + (t.length + 1 + 1 + 1) + 1 + 1 ≤ LIM := l1 _ (by omega)
      have c3 : min 8 (oddL t).length + 5 ≤ LIM := l1 _ (by omega)
      simp [b1, b2, b3, b4, b5, b6, b7, b8, b9, b10, b11, b12, newL, c1, c2, c3]
      exact ex3 (by simp [oddL])
    rintro _ _ ⟨rest, rfl, rfl⟩
    refine wS_cut (M := fun ls h => ∃ (rest : AH), ls = [some sc, some (.ref 0), some (.int tn), some d, some (.str t), some (.ref (rest.length + 1)), o6, o7, o8] ∧ h = .lst ys :: (rest ++ [.lst ((oddL t).map .str)])) ?_ ?_
    · have b1 : 1 + t.length ≤ LIM := l1 _ (by omega)
      have b4 : t.length + 1 + 3 ≤ LIM := l1 _ (by omega)
      have b5 : 3 + t.length ≤ LIM := l1 _ (by omega)
      have b6 : 3 + t.length + 1 ≤ LIM := l1 _ (by omega)
      have b7 : (6 : Nat) ≤ LIM := by decide
      have b8 : t.length + t.length ≤ LIM := l1 _ (by omega)
      have b9 : t.length + t.length + 1 ≤ LIM := l1 _ (by omega)
      have b12 : (19 : Nat) ≤ LIM := by decide
      have c3 : min 13 (oddL t).length + 6 ≤ LIM := l1 _ (by omega)
      simp [b1, b4, b5, b6, b7, b8, b9, b12, newL, c3]
      exact ex3 (by simp [oddL])
    rintro _ _ ⟨rest, rfl, rfl⟩
    obtain ⟨zs, us, e2, hp, hst3⟩ := w_shuf (cf := cf (e + 5)) (c__law_draw (e + 4)) (N := 20000 * i + 12500) (r := 0) (xs := ys) (items := (oddL t).map .str) (h := .lst ys :: (rest ++ [.lst ((oddL t).map .str)])) (it := .ref (rest.length + 1)) rfl (hst2.mono (by omega)) (by simp [oddL]; omega) (by simp [oddL]) (by simp) (brw_ref (by simp) (by simp) (by simp))
    have e3 := c__law_shuffled (e + 5) [.ref 0, .ref (rest.length + 1)] (.lst ys :: (rest ++ [.lst ((oddL t).map .str)]))
    rw [e2] at e3
    simp
    rw [e3]
    simp
    rw [cut_to (by omega)]
    have hz : ∀ y ∈ zs.take 8, ∃ u, y = .str u ∧ RefD (e + 2) u := fun y hy => by
      obtain ⟨u, hu, rfl⟩ := List.mem_map.mp (hp.mem_iff.mp (List.mem_of_mem_take hy))
      exact ⟨u, rfl, hod u hu⟩
    refine w_forL (xs := zs.take 8) (I := fun j ls h => ∃ o6, ls = [some sc, some (.ref 0), some (.int tn), some d, some (.str t), some (.ref (rest.length + 1)), o6, o7, o8] ∧ h = .lst us :: (rest ++ [.lst ((oddL t).map .str), .lst zs, .lst (zs.take 8)]))
      (by simp) ⟨o6, rfl, by simp⟩ ?_ ?_ ?_
    · rintro j _ _ ⟨o6, rfl, rfl⟩
      simp
    · rintro j dv _ _ hd' ⟨o6, rfl, rfl⟩
      obtain ⟨y, rfl, hy⟩ := hz dv (List.mem_of_getElem? hd')
      refine ⟨_, _, rfl, ?_⟩
      simp
      rw [c_ref (e + 2) hy]
      simp
    · rintro _ _ ⟨o6, rfl, rfl⟩
      rw [kQ_nx, sSeq_nil, kL_nx]
      exact ⟨us, _, _, _, _, _, _, _, _, rfl, rfl, hst3.mono (by simp [oddL]; omega)⟩
  · rintro _ _ ⟨xs, rest, o2, o3, o4, o5, o6, o7, o8, rfl, rfl, hst⟩
    refine wS_cut (M := fun ls h => ∃ (ys : List DV) (m : Nat), 238 ≤ m ∧ m ≤ 240 ∧ ls = [some sc, some (.ref 0), o2, o3, o4, o5, o6, some (.int ((m : Int) + 1)), o8] ∧ h = .lst ys :: rest) ?_ ?_
    · simp
      refine w_draw D rfl hst (by omega) (by omega) (by omega) fun v ys h0 h1 h2 => ?_
      obtain ⟨q, rfl⟩ := Int.eq_ofNat_of_zero_le h0
      simp
      refine ⟨ys, 238 + q, by omega, by omega, by omega, rfl⟩
    rintro _ _ ⟨ys, m, m1, m2, rfl, rfl⟩
    refine wS_cut (M := fun ls h => ls = [some sc, some (.ref 0), o2, some (nest 0), o4, o5, o6, some (.int ((m : Int) + 1)), o8] ∧ h = .lst ys :: rest) (by simp [newT]; rfl) ?_
    rintro _ _ ⟨rfl, rfl⟩
    have e1 : ((m : Int) + 1 - 1) = (m : Int) := by omega
    refine wS_cut (M := fun ls h => (∃ o2, ls = [some sc, some (.ref 0), o2, some (nest m), o4, o5, o6, some (.int ((m : Int) + 1)), o8]) ∧ h = .lst ys :: rest) ?_ ?_
    · rw [w_sFor, e_rng1 (n := m) (h' := .lst ys :: rest) (by simp [e1]) (by omega), wE_some, kS_ok]
      refine w_forR (I := fun i ls h => (∃ o2, ls = [some sc, some (.ref 0), o2, some (nest i), o4, o5, o6, some (.int ((m : Int) + 1)), o8]) ∧ h = .lst ys :: rest) ⟨⟨o2, rfl⟩, rfl⟩ ?_ (fun ls h q => q)
      rintro i _ _ hi ⟨⟨o2, rfl⟩, rfl⟩
      refine ⟨_, _, rfl, ?_⟩
      simp [newT]
      exact ⟨fun _ => rfl, by decide⟩
    rintro _ _ ⟨⟨o2, rfl⟩, rfl⟩
    generalize hT : List.replicate (m + 1) 40 ++ List.replicate (m + 1) 41 = T
    have hTl : T.length = 2 * (m + 1) := by rw [← hT]; simp; omega
    refine wS_cut (M := fun ls h => ls = [some sc, some (.ref 0), o2, some (nest m), some (.str T), o5, o6, some (.int ((m : Int) + 1)), o8] ∧ h = .lst ys :: rest) ?_ ?_
    · have a1 : (1 : Int) < (m : Int) + 1 := by omega
      have a2 : ((m : Int) + 1).toNat = m + 1 := by omega
      have a3 : m + 1 ≤ LIM := by unfold LIM; omega
      have a4 : m + 1 + (m + 1) ≤ LIM := by unfold LIM; omega
      simp [a1, a2, a3, a4]
      exact hT
    rintro _ _ ⟨rfl, rfl⟩
    by_cases hm : m = 240
    · subst hm
      have := c_ref (e + 2) (deep_ref (e + 2))
      rw [hT] at this
      simp [this]
    · have hm3 : ¬ (m : Int) + 1 = 241 := by omega
      refine wS_cut (M := fun ls h => ls = [some sc, some (.ref 0), o2, some (nest m), some (.str T), o5, o6, some (.int ((m : Int) + 1)), o8] ∧ h = .lst ys :: rest) (by simp [hm3]) ?_
      rintro _ _ ⟨rfl, rfl⟩
      have hx := nest_txt m
      rw [hT] at hx
      have r1 := read_good (e + 3) (nest_dat m) (by omega) (by rw [hx, hTl]; omega)
      rw [hx] at r1
      refine wS_cut (M := fun ls h => ls = [some sc, some (.ref 0), o2, some (nest m), some (.str T), o5, o6, some (.int ((m : Int) + 1)), some (nest m)] ∧ h = .lst ys :: rest) (by simp [r1]) ?_
      rintro _ _ ⟨rfl, rfl⟩
      refine wS_cut (M := fun ls h => (∃ o2, ls = [some sc, some (.ref 0), o2, some (nest m), some (.str T), o5, o6, some (.int ((m : Int) + 1)), some (nest 0)]) ∧ h = .lst ys :: rest) ?_ ?_
      · rw [w_sFor, e_rng1 (n := m) (h' := .lst ys :: rest) (by simp [e1]) (by omega), wE_some, kS_ok]
        refine w_forR (I := fun i ls h => (∃ o2 j, j + i = m ∧ ls = [some sc, some (.ref 0), o2, some (nest m), some (.str T), o5, o6, some (.int ((m : Int) + 1)), some (nest j)]) ∧ h = .lst ys :: rest) ⟨⟨o2, m, rfl, rfl⟩, rfl⟩ ?_ ?_
        · rintro i _ _ hi ⟨⟨o2, j, hj, rfl⟩, rfl⟩
          obtain ⟨q, rfl⟩ : ∃ q, j = q + 1 := ⟨j - 1, by omega⟩
          refine ⟨_, _, rfl, ?_⟩
          have en : nest (q + 1) = .tup [nest q] := rfl
          simp [en]
          exact ⟨_, q, by omega, rfl, rfl⟩
        · rintro _ _ ⟨⟨o2, j, hj, rfl⟩, rfl⟩
          have : j = 0 := by omega
          subst this
          exact ⟨⟨o2, rfl⟩, rfl⟩
      rintro _ _ ⟨⟨o2, rfl⟩, rfl⟩
      have w1 := w_data (e + 2 - m) (m + 1) (nest m) (nest_dat m) (by rw [hx, hTl]; omega)
      rw [hx, show e + 2 - m + (m + 1) + 3 = e + 6 by omega] at w1
      have w2 := c_sameS (c__law_same (e + 5)) T
      have en : nest 0 = .tup [] := rfl
      simp [en, newT, e_tup0, w1, w2]
theorem law_ok (ns : List Int) (h : ns.length ≤ 63) : ∃ h, callN G tab (246 + 1) f_law.name [.lst true (ns.map DV.int)] [] = some (.ok (.bl true) h) := by
  refine ⟨[], ?_⟩
  have e := c_law 246 [.lst true (ns.map DV.int)] []
  refine e.trans (apart_val (es := [.lst true (ns.map .int)]) (brw_own (by simp)) rfl rfl ?_)
  exact law_run 240 (by omega) ns
end K01


set_option maxRecDepth 100000
set_option maxHeartbeats 0
namespace K01
open PySem L2 P3
abbrev RR : PySem.W.OpenRow := PySem.W.OpenLaw.row PySem.Challenge.rw_howoften_k01_data
abbrev hk : PySem.W.Hook := hookP 4 G tab
def ob (s : PySem.W.SharedT) : He.AlD := obsPG 4 G tab (HandSHeadRun.getT s)
theorem ob_eq (s : PySem.W.SharedT) : ob s = hk.obs s.abs := obsPG_eq (HandSHeadRun.getT_eq s)
def loose0 : List Str := ["BASE", "BadText", "DEPTH", "DIGITS", "HowoftenError", "SIGNS", "__name__", "_law_datum", "_law_draw", "_law_is_int", "_law_refused", "_law_same", "_law_shuffled", "_law_start", "_law_written", "plain_text", "read_data", "read_integer", "read_plain", "write_data", "write_integer"]
def loose : List Str := loose0
theorem run (w : World) : HandSHeadRun.RunEq RR (PySem.W.view RR.prog [24]) hk ob 4000 loose w := by
  intro os
  kernel_rfl
end K01
open PySem PySem.W PySem.Calls PyProof.Rows
theorem PySem.Challenge.cw_howoften_k01_data_holds : PySem.Challenge.rw_howoften_k01_data.Holds := by
  w_on; o_law
  refine HandSHeadRun.head_any (r := OpenLaw.row PySem.Challenge.rw_howoften_k01_data) (q := view (OpenLaw.row PySem.Challenge.rw_howoften_k01_data).prog [24]) (H := K01.hk) (ob := K01.ob) (M := 4000) (loose := K01.loose) (d := HandSHeadRun.topDef (OpenLaw.row PySem.Challenge.rw_howoften_k01_data).prog 24) (kwd := []) K01.ob_eq
    (by kernel_rfl) (fun s => by kernel_rfl) K01.run (by kernel_rfl) (by kernel_rfl) (by kernel_rfl) (by rfl) (by first | assumption | decide +kernel) (by decide +kernel) ⟨rfl, rfl, rfl, rfl, rfl, by decide +kernel⟩ ?hw ?hc
  case hw => w_witness2
  case hc =>
    exact P3.walk_P (l := PySem.Challenge.rw_howoften_k01_data) (n := 63) (k := 246) (m0 := 220) K01.f_law "script" rfl rfl (by decide) (by kernel_rfl) (by kernel_rfl) (by rfl) ⟨rfl, by decide, by decide⟩ (by decide) K01.fnsOk K01.bindOk (by rfl) K01.law_ok

