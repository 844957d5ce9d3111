import PyProof.Rows.All
import HandS.ForMost
import HandS.Deep
import HandS.Style
import HandS.TupAny
import HandS.TupMul
import HandS.SortInts
import HandS.Defaults
import HandS.Codes
import HandS.More
import HandS.HeadHook1
import HandS.IsInst
import HandS.HeadWalk
import KE.KDictPairs
import HandS.TryOnly
import HandS.Iter
import HandS.List
import HandS.Comp
import KE.GoesEnum
import HandS.HeadHook2
import HandS.HeadHook3
import HandS.HeadHook4
import HandS.Words
import PyProof.P3Eq
import HandS.HeadEnd
import HandS.Head0
import HandS.Head1
import HandS.Head2
import PySem.Challenge.RW_stealbeats_k10_whole_what_is_moved_arriv
set_option Elab.async false
set_option linter.all false
set_option maxRecDepth 100000
set_option maxHeartbeats 0
/-! Abstract semantics: values, heap, combinators. -/
namespace SB
open PySem
open L2 (Key)

/-- abstract values; tuples by value; scr: the script (read only); tab: a table of the module's top (read only); ref: an object of the abstract heap -/
inductive AV where
  | non | bl (b : Bool) | int (i : Int) | str (x : Str) | tup (xs : List AV) | scr (ns : List Int) | tab (x : Str) (kvs : List (Str × Key)) | ref (n : Nat)
instance : Inhabited AV := ⟨.non⟩

inductive AO where
  | lst (xs : List AV) | dic (kvs : List (Key × AV)) | ins (C : Str) (fs : List (Str × AV))

abbrev AH := List AO
abbrev Rs (α : Type) := Option (α × AH)
abbrev En := List (Option AV)
abbrev Dn := Str × Option Str
/-- what a call of a def answers -/
abbrev Ora := Dn → List AV → AH → Rs AV
abbrev FE := Ora → En → AH → Rs AV
abbrev FA := Ora → En → AH → Rs (List AV)
inductive Ct where
  | next (σ : En) | ret (v : AV)
abbrev FS := Ora → En → AH → Rs Ct
/-- a target: stores a value -/
abbrev FG := Ora → AV → En → AH → Rs En

@[reducible] def lim : Nat := 16777216

def bnd {α β : Type} (r : Rs α) (k : α → AH → Rs β) : Rs β := match r with
  | none => none
  | some (a, h) => k a h
@[simp] theorem bnd_some {α β : Type} (a : α) (h : AH) (k : α → AH → Rs β) : bnd (some (a, h)) k = k a h := rfl
@[simp] theorem bnd_none {α β : Type} (k : α → AH → Rs β) : bnd (none : Rs α) k = none := rfl

/-! ### the heap -/
def alloc (o : AO) (h : AH) : Rs AV := some (.ref h.length, h ++ [o])
def keyV : Key → AV
  | .inl i => .int i
  | .inr x => .str x
def keyOf : AV → Option Key
  | .int i => some (.inl i)
  | .str x => some (.inr x)
  | _ => none
def dval (kvs : List (Key × AV)) (k : Key) : Option AV := (kvs.find? fun kv => decide (kv.1 = k)).map (·.2)
def dput (kvs : List (Key × AV)) (k : Key) (v : AV) : List (Key × AV) :=
  if kvs.any (fun kv => decide (kv.1 = k)) then kvs.map fun kv => if kv.1 = k then (kv.1, v) else kv else kvs ++ [(k, v)]
def ddrop (kvs : List (Key × AV)) (k : Key) : List (Key × AV) := kvs.filter fun kv => decide (kv.1 ≠ k)
def fput (f : Str) (v : AV) : List (Str × AV) → List (Str × AV)
  | [] => [(f, v)]
  | (g, x) :: r => if g = f then (g, v) :: r else (g, x) :: fput f v r

/-! ### data, equality -/
mutual
def toD : AV → Option PyData
  | .non => some .none
  | .bl b => some (.bool b)
  | .int i => some (.int i)
  | .str x => some (.str x)
  | .tup xs => (toDs xs).map .tuple
  | .scr _ => none
  | .tab _ _ => none
  | .ref _ => none
def toDs : List AV → Option (List PyData)
  | [] => some []
  | x :: xs => match toD x, toDs xs with
    | some d, some ds => some (d :: ds)
    | _, _ => none
end
def mapO {α β : Type} (f : α → Option β) : List α → Option (List β)
  | [] => some []
  | x :: xs => match f x, mapO f xs with
    | some y, some ys => some (y :: ys)
    | _, _ => none
/-- with lists, to a depth -/
def toH (h : AH) : Nat → AV → Option PyData
  | 0, v => toD v
  | n + 1, .tup xs => (mapO (toH h n) xs).map .tuple
  | n + 1, .ref a => (match h[a]? with
    | some (.lst xs) => (mapO (toH h n) xs).map .list
    | _ => none)
  | _ + 1, v => toD v
def eqD (d e : Option PyData) : Option Bool := match d, e with
  | some d, some e => if SeqAt.shaped d = true ∧ SeqAt.shaped e = true then some (PyData.eqv d e) else none
  | _, _ => none
def eqA (h : AH) (x y : AV) : Option Bool := eqD (toH h 6 x) (toH h 6 y)
def inD (d e : Option PyData) : Option Bool := match d, e with
  | some d, some (.list ds) => if SeqAt.shaped d = true ∧ SeqAt.shaped (.list ds) = true then some (ds.any fun z => PyData.eqv z d) else none
  | some d, some (.tuple ds) => if SeqAt.shaped d = true ∧ SeqAt.shaped (.tuple ds) = true then some (ds.any fun z => PyData.eqv z d) else none
  | _, _ => none

/-! ### operators -/
def addA : AV → AV → AH → Rs AV
  | .int i, .int j, h => some (.int (i + j), h)
  | .str x, .str y, h => if x.length + y.length ≤ lim then some (.str (x ++ y), h) else none
  | .tup xs, .tup ys, h => if xs.length + ys.length ≤ lim then some (.tup (xs ++ ys), h) else none
  | .ref a, .ref b, h => (match h[a]?, h[b]? with
    | some (.lst xs), some (.lst ys) => if xs.length + ys.length ≤ lim then alloc (.lst (xs ++ ys)) h else none
    | _, _ => none)
  | _, _, _ => none
def subA : AV → AV → AH → Rs AV
  | .int i, .int j, h => some (.int (i - j), h)
  | _, _, _ => none
def mulA : AV → AV → AH → Rs AV
  | .int i, .int j, h => if (-(2 ^ 64) < i ∧ i < 2 ^ 64) ∨ (-(2 ^ 64) < j ∧ j < 2 ^ 64) then some (.int (i * j), h) else none
  | .tup xs, .int k, h => if 0 ≤ k ∧ k < 2 ^ 63 ∧ xs.length * k.toNat ≤ lim then some (.tup (List.replicate k.toNat xs).flatten, h) else none
  | .ref a, .int k, h => (match h[a]? with
    | some (.lst xs) => if 0 ≤ k ∧ k < 2 ^ 63 ∧ xs.length * k.toNat ≤ lim then alloc (.lst (List.replicate k.toNat xs).flatten) h else none
    | _ => none)
  | _, _, _ => none
def modA : AV → AV → AH → Rs AV
  | .int i, .int j, h => if 0 < j then some (.int (i % j), h) else none
  | _, _, _ => none
def fdivA : AV → AV → AH → Rs AV
  | .int i, .int j, h => if 0 < j ∧ j < 1073741824 then some (.int (i / j), h) else none
  | _, _, _ => none
def powA : AV → AV → AH → Rs AV
  | .int i, .int j, h => if 0 ≤ j ∧ j ≤ 1000000 ∧ i.natAbs < 2 ^ 64 then some (.int (i ^ j.toNat), h) else none
  | _, _, _ => none
def opA : Operator → AV → AV → AH → Rs AV
  | .Add => addA
  | .Sub => subA
  | .Mult => mulA
  | .Mod => modA
  | .FloorDiv => fdivA
  | .Pow => powA
  | _ => fun _ _ _ => none
def ltA : AV → AV → AH → Rs AV
  | .int i, .int j, h => some (.bl (decide (i < j)), h)
  | _, _, _ => none
def leA : AV → AV → AH → Rs AV
  | .int i, .int j, h => some (.bl (decide (i ≤ j)), h)
  | _, _, _ => none
def gtA : AV → AV → AH → Rs AV
  | .int i, .int j, h => some (.bl (decide (j < i)), h)
  | _, _, _ => none
def geA : AV → AV → AH → Rs AV
  | .int i, .int j, h => some (.bl (decide (j ≤ i)), h)
  | _, _, _ => none
def eqO (x y : AV) (h : AH) : Rs AV := (eqA h x y).map fun b => (.bl b, h)
def neO (x y : AV) (h : AH) : Rs AV := (eqA h x y).map fun b => (.bl (!b), h)
def isNonA : AV → Bool
  | .non => true
  | _ => false
def isA : AV → AV → AH → Rs AV
  | x, .non, h => some (.bl (isNonA x), h)
  | _, _, _ => none
def isNotA : AV → AV → AH → Rs AV
  | x, .non, h => some (.bl (!isNonA x), h)
  | _, _, _ => none
/-- x in y -/
def inA (h : AH) : AV → AV → Option Bool
  | x, .tup ys => inD (toH h 6 x) (toH h 6 (.tup ys))
  | .str z, .tab _ kvs => some (kvs.lookup z).isSome
  | .str x, .str y => some (!(Builtin.Str.occurrences y x 0 y.length 1).isEmpty)
  | x, .ref a => (match h[a]? with
    | some (.lst ys) => inD (toH h 6 x) (toH h 6 (.ref a))
    | some (.dic kvs) => (keyOf x).map fun k => (dval kvs k).isSome
    | _ => none)
  | _, _ => none
def inO (x y : AV) (h : AH) : Rs AV := (inA h x y).map fun b => (.bl b, h)
def ninO (x y : AV) (h : AH) : Rs AV := (inA h x y).map fun b => (.bl (!b), h)
def cmpA : CmpOp → AV → AV → AH → Rs AV
  | .Eq => eqO
  | .NotEq => neO
  | .Lt => ltA
  | .LtE => leA
  | .Gt => gtA
  | .GtE => geA
  | .Is => isA
  | .IsNot => isNotA
  | .In => inO
  | .NotIn => ninO
def negA : AV → AH → Rs AV
  | .int i, h => some (.int (-i), h)
  | _, _ => none
def notA : AV → AH → Rs AV
  | .bl b, h => some (.bl (!b), h)
  | _, _ => none
/-! ### items, slices, fields -/
def ixA : AV → AV → AH → Rs AV
  | .tup xs, .int i, h => (L2.atI xs i).map fun v => (v, h)
  | .str z, .int i, h => if z.length ≤ lim then (L2.atI z.cps.toList i).map fun c => (.str ⟨#[c]⟩, h) else none
  | .tab _ kvs, .str z, h => (kvs.lookup z).map fun k => (keyV k, h)
  | .ref a, y, h => (match h[a]?, y with
    | some (.lst xs), .int i => (L2.atI xs i).map fun v => (v, h)
    | some (.dic kvs), y => (keyOf y).bind fun k => (dval kvs k).map fun v => (v, h)
    | _, _ => none)
  | _, _, _ => none
def cutA {α : Type} (xs : List α) (lo hi : Option Int) : List α := (xs.drop (HT.sIx xs.length 0 lo)).take (HT.sIx xs.length xs.length hi - HT.sIx xs.length 0 lo)
def sliceA (lo hi : Option Int) : AV → AH → Rs AV
  | .tup xs, h => some (.tup (cutA xs lo hi), h)
  | .ref a, h => (match h[a]? with
    | some (.lst xs) => alloc (.lst (cutA xs lo hi)) h
    | _ => none)
  | _, _ => none
def fldA (f : Str) : AV → AH → Rs AV
  | .ref a, h => (match h[a]? with
    | some (.ins _ fs) => (fs.lookup f).map fun v => (v, h)
    | _ => none)
  | _, _ => none
/-- which own classes have a field of that name -/
def UF : List (Str × List Str) := [("ahead", ["Watch"]), ("asks", ["Hall", "Reader"]), ("begun", ["Device"]), ("cells", ["Hall"]), ("device", ["Hall"]), ("dones", ["Hall"]), ("firsts", ["Look"]), ("goings", ["Watch"]), ("got", ["Sight"]), ("hall", ["Sight", "Watch"]), ("hand", ["Going"]), ("is_over", ["Hall"]), ("laid", ["Watch"]), ("last", ["Sight"]), ("marks", ["Hall"]), ("memory", ["Hall", "Reader"]), ("mine", ["Going"]), ("moved", ["Going"]), ("number", ["Going"]), ("on", ["Device", "Look"]), ("program", ["Hall"]), ("puts", ["Look", "Sight"]), ("row", ["Hall"]), ("rows", ["Reader"]), ("step", ["Hall"]), ("time", ["Hall"]), ("took", ["Device"]), ("torn", ["Watch"]), ("watch", ["Look"]), ("work", ["Going"]), ("works", ["Device", "Reader"])]
def setFldA (cs : List Str) (f : Str) (o v : AV) (h : AH) : Option AH := match o with
  | .ref a => (match h[a]? with
    | some (.ins C fs) => if C ∈ cs ∧ fs.length < 1000 then some (h.set a (.ins C (fput f v fs))) else none
    | _ => none)
  | _ => none
def setIxA (o i v : AV) (h : AH) : Option AH := match o with
  | .ref a => (match h[a]?, i with
    | some (.lst xs), .int k => (L2.ixN xs.length k).map fun j => h.set a (.lst (xs.set j v))
    | some (.dic kvs), i => if kvs.length < lim then (keyOf i).map fun k => h.set a (.dic (dput kvs k v)) else none
    | _, _ => none)
  | _ => none

/-! ### built-ins -/
def lenA : AV → AH → Rs AV
  | .tup xs, h => some (.int xs.length, h)
  | .str x, h => if x.length ≤ lim then some (.int x.length, h) else none
  | .ref a, h => (match h[a]? with
    | some (.lst xs) => some (.int xs.length, h)
    | _ => none)
  | .scr ns, h => some (.int ns.length, h)
  | _, _ => none
/-- the type of a value, where isinstance asks for a built-in one -/
def tyA (h : AH) : AV → Option String
  | .non => some "NoneType"
  | .bl _ => some "bool"
  | .int _ => some "int"
  | .str _ => some "str"
  | .tup _ => some "tuple"
  | .ref a => (match h[a]? with
    | some (.lst _) => some "list"
    | some (.dic _) => some "dict"
    | _ => none)
  | _ => none
def isTy (a t : String) : Bool := a == t || (a == "bool" && t == "int")
def isinstA (t : String) (x : AV) (h : AH) : Rs AV := (tyA h x).map fun a => (.bl (isTy a t), h)
def intA : AV → AH → Rs AV
  | .int i, h => some (.int i, h)
  | .bl k, h => some (.int (if k then 1 else 0), h)
  | _, _ => none
def absA : AV → AH → Rs AV
  | .int i, h => some (.int (if i < 0 then -i else i), h)
  | _, _ => none
def max2A : AV → AV → AH → Rs AV
  | .int i, .int j, h => some (.int (if j > i then j else i), h)
  | _, _, _ => none
def min2A : AV → AV → AH → Rs AV
  | .int i, .int j, h => some (.int (if j < i then j else i), h)
  | _, _, _ => none
def intsOf : List AV → Option (List Int)
  | [] => some []
  | .int i :: r => (intsOf r).map (i :: ·)
  | _ :: _ => none
def blsOf : List AV → Option (List Bool)
  | [] => some []
  | .bl b :: r => (blsOf r).map (b :: ·)
  | _ :: _ => none
def isort (ns : List Int) : List Int := ns.mergeSort fun a b => decide (a ≤ b)
def sortedA : AV → AH → Rs AV
  | .ref a, h => (match h[a]? with
    | some (.lst xs) => (intsOf xs).bind fun ns => alloc (.lst ((isort ns).map .int)) h
    | some (.dic kvs) => if kvs.length < 64 then (intsOf (kvs.map fun kv => keyV kv.1)).bind fun ns => alloc (.lst ((isort ns).map .int)) h else none
    | _ => none)
  | _, _ => none
def listA : AV → AH → Rs AV
  | .tup xs, h => alloc (.lst xs) h
  | .scr ns, h => alloc (.lst (ns.map .int)) h
  | .ref a, h => (match h[a]? with
    | some (.lst xs) => alloc (.lst xs) h
    | _ => none)
  | _, _ => none
def tupleA : AV → AH → Rs AV
  | .tup xs, h => some (.tup xs, h)
  | .ref a, h => (match h[a]? with
    | some (.lst xs) => some (.tup xs, h)
    | _ => none)
  | _, _ => none
def allA : AV → AH → Rs AV
  | .ref a, h => (match h[a]? with
    | some (.lst xs) => (blsOf xs).map fun bs => (.bl (bs.all id), h)
    | _ => none)
  | _, _ => none
def sumA : AV → AH → Rs AV
  | .ref a, h => (match h[a]? with
    | some (.lst xs) => (intsOf xs).map fun ns => (.int ns.sum, h)
    | _ => none)
  | _, _ => none
def maxLA : AV → AH → Rs AV
  | .ref a, h => (match h[a]? with
    | some (.lst xs) => (intsOf xs).bind fun ns => ns.max?.map fun m => (.int m, h)
    | _ => none)
  | _, _ => none
def minLA : AV → AH → Rs AV
  | .ref a, h => (match h[a]? with
    | some (.lst xs) => (intsOf xs).bind fun ns => ns.min?.map fun m => (.int m, h)
    | _ => none)
  | _, _ => none

/-! ### methods of lists, dicts -/
def appendA (o v : AV) (h : AH) : Rs AV := match o with
  | .ref a => (match h[a]? with
    | some (.lst xs) => if xs.length < lim then some (.non, h.set a (.lst (xs ++ [v]))) else none
    | _ => none)
  | _ => none
def clearA (o : AV) (h : AH) : Rs AV := match o with
  | .ref a => (match h[a]? with
    | some (.lst _) => some (.non, h.set a (.lst []))
    | _ => none)
  | _ => none
def popAtA (o i : AV) (h : AH) : Rs AV := match o, i with
  | .ref a, .int k => (match h[a]? with
    | some (.lst xs) => if 0 ≤ k ∧ k < xs.length ∧ xs.length ≤ lim then xs[k.toNat]?.map fun v => (v, h.set a (.lst (xs.eraseIdx k.toNat))) else none
    | _ => none)
  | _, _ => none
def dpopA (o i : AV) (h : AH) : Rs AV := match o with
  | .ref a => (match h[a]? with
    | some (.dic kvs) => (keyOf i).bind fun k => (dval kvs k).map fun v => (v, h.set a (.dic (ddrop kvs k)))
    | _ => none)
  | _ => none
/-- (k, v) of a tuple -/
def pairOf : AV → Option (Key × AV)
  | .tup [k, v] => (keyOf k).map fun k => (k, v)
  | _ => none
def dmerge (kvs : List (Key × AV)) (ps : List (Key × AV)) : List (Key × AV) := ps.foldl (fun acc kv => dput acc kv.1 kv.2) kvs
def updA (o y : AV) (h : AH) : Rs AV := match o, y with
  | .ref a, .ref b => (match h[a]?, h[b]? with
    | some (.dic kvs), some (.lst xs) => if kvs.length + xs.length ≤ 1000 then (mapO pairOf xs).map fun ps => (.non, h.set a (.dic (dmerge kvs ps))) else none
    | some (.dic kvs), some (.dic ps) => if a ≠ b ∧ kvs ≠ [] ∧ kvs.length + ps.length ≤ 1000 then some (.non, h.set a (.dic (dmerge kvs ps))) else none
    | _, _ => none)
  | _, _ => none
def getDA (o i d : AV) (h : AH) : Rs AV := match o with
  | .tab _ kvs => (match i with
    | .str z => some (((kvs.lookup z).map keyV).getD d, h)
    | _ => none)
  | .ref a => (match h[a]? with
    | some (.dic kvs) => (keyOf i).map fun k => ((dval kvs k).getD d, h)
    | _ => none)
  | _ => none

/-! ### expressions -/
def fNone : FE := fun _ _ _ => none
def fVar (i : Nat) : FE := fun _ σ h => match σ[i]? with
  | some (some v) => some (v, h)
  | _ => none
def fC (v : AV) : FE := fun _ _ h => some (v, h)
def fOp (op : Operator) (a b : FE) : FE := fun O σ h => bnd (a O σ h) fun x h => bnd (b O σ h) fun y h => opA op x y h
def fCmp (op : CmpOp) (a b : FE) : FE := fun O σ h => bnd (a O σ h) fun x h => bnd (b O σ h) fun y h => cmpA op x y h
def ifB {α : Type} (v : AV) (t e : Rs α) : Rs α := match v with
  | .bl true => t
  | .bl false => e
  | _ => none
@[simp] theorem ifB_bl {α : Type} (b : Bool) (t e : Rs α) : ifB (.bl b) t e = if b = true then t else e := by cases b <;> rfl
def fChain (op op' : CmpOp) (a b c : FE) : FE := fun O σ h => bnd (a O σ h) fun x h => bnd (b O σ h) fun y h => bnd (cmpA op x y h) fun z h =>
  ifB z (bnd (c O σ h) fun w h => cmpA op' y w h) (some (.bl false, h))
def fUn (g : AV → AH → Rs AV) (a : FE) : FE := fun O σ h => bnd (a O σ h) fun x h => g x h
def fBin (g : AV → AV → AH → Rs AV) (a b : FE) : FE := fun O σ h => bnd (a O σ h) fun x h => bnd (b O σ h) fun y h => g x y h
def fTri (g : AV → AV → AV → AH → Rs AV) (a b c : FE) : FE := fun O σ h => bnd (a O σ h) fun x h => bnd (b O σ h) fun y h => bnd (c O σ h) fun z h => g x y z h
def fAnd (a b : FE) : FE := fun O σ h => bnd (a O σ h) fun x h => ifB x (b O σ h) (some (.bl false, h))
def fOr (a b : FE) : FE := fun O σ h => bnd (a O σ h) fun x h => ifB x (some (.bl true, h)) (b O σ h)
def fIf (c a b : FE) : FE := fun O σ h => bnd (c O σ h) fun x h => ifB x (a O σ h) (b O σ h)
def aNil : FA := fun _ _ h => some ([], h)
def aCons (a : FE) (r : FA) : FA := fun O σ h => bnd (a O σ h) fun x h => bnd (r O σ h) fun xs h => some (x :: xs, h)
def aAll : List FE → FA
  | [] => aNil
  | a :: r => aCons a (aAll r)
def fTup (as : List FE) : FE := fun O σ h => bnd (aAll as O σ h) fun xs h => if xs.length ≤ lim then some (.tup xs, h) else none
def fLst (as : List FE) : FE := fun O σ h => bnd (aAll as O σ h) fun xs h => if xs.length ≤ lim then alloc (.lst xs) h else none
/-- a display of at most 15 pairs, keys and values in turn -/
def fDicGo (d : Nat) : List (FE × FE) → Ora → En → AH → Rs (List (Key × AV))
  | [], _, _, h => some ([], h)
  | (k, v) :: r, O, σ, h => bnd (k O σ h) fun x h => bnd (v O σ h) fun y h => (keyOf x).bind fun k => bnd (fDicGo d r O σ h) fun ps h => some ((k, y) :: ps, h)
def fDic (ps : List (FE × FE)) : FE := fun O σ h => bnd (fDicGo h.length ps O σ (h ++ [.dic []])) fun kvs h' =>
  match h'[h.length]? with
  | some (.dic []) => if kvs.length ≤ 15 then some (.ref h.length, h'.set h.length (.dic (dmerge [] kvs))) else none
  | _ => none
def fCall (n : Dn) (as : List FE) : FE := fun O σ h => bnd (aAll as O σ h) fun vs h => O n vs h
/-- o.m(..): the class of the object tells the def -/
def callM (O : Ora) (m : Str) (o : AV) (vs : List AV) (h0 h : AH) : Rs AV := match o with
  | .ref a => (match h0[a]? with
    | some (.ins C fs) => (match fs.lookup m with
      | none => O (C, some m) (o :: vs) h
      | some _ => none)
    | _ => none)
  | _ => none
def fMeth (m : Str) (o : FE) (as : List FE) : FE := fun O σ h => bnd (o O σ h) fun x h0 => bnd (aAll as O σ h0) fun vs h => callM O m x vs h0 h
/-- C(..) -/
def fMake (C : Str) (as : List FE) : FE := fun O σ h => bnd (aAll as O σ h) fun vs h =>
  bnd (O (C, some "__init__") (.ref h.length :: vs) (h ++ [.ins C []])) fun v h' => match v with
    | .non => some (.ref h.length, h')
    | _ => none
def pOpt (a : Option FE) (O : Ora) (σ : En) (h : AH) : Rs (Option Int) := match a with
  | none => some (none, h)
  | some a => bnd (a O σ h) fun x h => match x with
    | .int i => some (some i, h)
    | _ => none
def fSlice (a : FE) (lo hi : Option FE) : FE := fun O σ h => bnd (a O σ h) fun x h => bnd (pOpt lo O σ h) fun l h => bnd (pOpt hi O σ h) fun u h => sliceA l u x h

/-! ### targets -/
def gVar (i : Nat) : FG := fun _ v σ h => some (σ.set i (some v), h)
def gAll : List FG → Ora → List AV → En → AH → Rs En
  | [], _, [], σ, h => some (σ, h)
  | g :: gs, O, v :: vs, σ, h => bnd (g O v σ h) fun σ h => gAll gs O vs σ h
  | _, _, _, _, _ => none
def itemsOf (h : AH) : AV → Option (List AV)
  | .tup xs => some xs
  | .ref a => (match h[a]? with
    | some (.lst xs) => some xs
    | _ => none)
  | _ => none
def gTup (gs : List FG) : FG := fun O v σ h => match v with
  | .tup xs => if xs.length = gs.length then gAll gs O xs σ h else none
  | .ref a => (match h[a]? with
    | some (.lst xs) => if xs.length = gs.length then gAll gs O xs σ h else none
    | _ => none)
  | _ => none
def gFld (cs : List Str) (o : FE) (f : Str) : FG := fun O v σ h => bnd (o O σ h) fun x h => (setFldA cs f x v h).map fun h => (σ, h)
def gIx (o i : FE) : FG := fun O v σ h => bnd (o O σ h) fun x h => bnd (i O σ h) fun y h => (setIxA x y v h).map fun h => (σ, h)

/-! ### iterables -/
/-- what is walked: the items, and what must stay while it is walked -/
structure It where
  its : List AV
  ok : AH → Prop
abbrev FI := Ora → En → AH → Rs It
def iVal (a : FE) : FI := fun O σ h => bnd (a O σ h) fun x h => match x with
  | .tup xs => some (⟨xs, fun _ => True⟩, h)
  | .scr ns => some (⟨ns.map .int, fun _ => True⟩, h)
  | .str x => some (⟨x.cps.toList.map fun c => .str ⟨#[c]⟩, fun _ => True⟩, h)
  | .ref a => (match h[a]? with
    | some (.lst xs) => some (⟨xs, fun h => h[a]? = some (.lst xs)⟩, h)
    | _ => none)
  | _ => none
def irange (lo hi : Int) : List AV := (List.range (hi - lo).toNat).map fun (k : Nat) => .int (lo + (k : Int))
def irangeC (lo c : Int) (n : Nat) : List AV := (List.range n).map fun (k : Nat) => .int (lo + (k : Int) * c)
@[reducible] def mid (i : Int) : Prop := -(2 ^ 62) ≤ i ∧ i < 2 ^ 62
def iRange1 (a : FE) : FI := fun O σ h => bnd (a O σ h) fun x h => match x with
  | .int j => if mid j then some (⟨irange 0 j, fun _ => True⟩, h) else none
  | _ => none
def iRange2 (a b : FE) : FI := fun O σ h => bnd (a O σ h) fun x h => bnd (b O σ h) fun y h => match x, y with
  | .int i, .int j => if mid i ∧ mid j then some (⟨irange i j, fun _ => True⟩, h) else none
  | _, _ => none
/-- range(i, j, -1) -/
def iRangeD (a b c : FE) : FI := fun O σ h => bnd (a O σ h) fun x h => bnd (b O σ h) fun y h => bnd (c O σ h) fun z h => match x, y, z with
  | .int i, .int j, .int (-1) => if mid i ∧ mid j then some (⟨irangeC i (-1) (i - j).toNat, fun _ => True⟩, h) else none
  | _, _, _ => none
/-- range(i, j, 2) and its like -/
def enumAV (xs : List AV) : List AV := (List.range xs.length).map fun (k : Nat) => .tup [.int (k : Int), xs.getD k .non]
def iEnum (a : FE) : FI := fun O σ h => bnd (a O σ h) fun x h => match x with
  | .tup xs => if xs.length ≤ lim then some (⟨enumAV xs, fun _ => True⟩, h) else none
  | .ref a => (match h[a]? with
    | some (.lst xs) => some (⟨enumAV xs, fun h => h[a]? = some (.lst xs)⟩, h)
    | _ => none)
  | _ => none

/-! ### statements -/
open Classical in
noncomputable def loopF (ok : AH → Prop) (g : FG) (body : FS) (O : Ora) : List AV → En → AH → Rs Ct
  | [], σ, h => if ok h then some (.next σ, h) else none
  | x :: xs, σ, h => if ok h then bnd (g O x σ h) fun σ h => bnd (body O σ h) fun c h => match c with
      | .next σ => loopF ok g body O xs σ h
      | .ret v => some (.ret v, h)
    else none
def sNext : FS := fun _ σ h => some (.next σ, h)
def sNone : FS := fun _ _ _ => none
def sSeq (a b : FS) : FS := fun O σ h => bnd (a O σ h) fun c h => match c with
  | .next σ => b O σ h
  | .ret v => some (.ret v, h)
def sAll : List FS → FS
  | [] => sNext
  | [a] => a
  | a :: r => sSeq a (sAll r)
def sExpr (a : FE) : FS := fun O σ h => bnd (a O σ h) fun _ h => some (.next σ, h)
def sRet (a : FE) : FS := fun O σ h => bnd (a O σ h) fun v h => some (.ret v, h)
def sAsg (g : FG) (a : FE) : FS := fun O σ h => bnd (a O σ h) fun v h => bnd (g O v σ h) fun σ h => some (.next σ, h)
def sIf (c : FE) (a b : FS) : FS := fun O σ h => bnd (c O σ h) fun x h => ifB x (a O σ h) (b O σ h)
noncomputable def sFor (i : FI) (g : FG) (body : FS) : FS := fun O σ h => bnd (i O σ h) fun I h => loopF I.ok g body O I.its σ h
def loopW (c : FE) (body : FS) (O : Ora) : Nat → En → AH → Rs Ct
  | 0, _, _ => none
  | n + 1, σ, h => bnd (c O σ h) fun x h => ifB x (bnd (body O σ h) fun k h => match k with
      | .next σ => loopW c body O n σ h
      | .ret v => some (.ret v, h)) (some (.next σ, h))
def sWhile (c : FE) (body : FS) : FS := fun O σ h => loopW c body O 100000 σ h

/-! ### list comprehensions -/
def wipeA (σ : En) : List Nat → En
  | [] => σ
  | v :: vs => (wipeA σ vs).set v none
open Classical in
noncomputable def loopC (d : Nat) (ok : AH → Prop) (g : FG) (t : Option FE) (elt : FE) (O : Ora) (σ : En) : List AV → AH → Rs AV
  | [], h => if ok h then some (.ref d, h) else none
  | x :: xs, h => if ok h then bnd (g O x σ h) fun σ1 h => bnd (match t with
          | none => some (.bl true, h)
          | some t => t O σ1 h) fun b h => ifB b (bnd (elt O σ1 h) fun y h => match h[d]? with
            | some (.lst acc) => if acc.length < lim then loopC d ok g t elt O σ xs (h.set d (.lst (acc ++ [y]))) else none
            | _ => none) (loopC d ok g t elt O σ xs h)
    else none
noncomputable def fLC (vs : List Nat) (i : FI) (g : FG) (t : Option FE) (elt : FE) : FE := fun O σ h => bnd (i O σ h) fun I h =>
  loopC h.length I.ok g t elt O (wipeA σ vs) I.its (h ++ [.lst []])

/-! ### defs -/
structure Df where
  n : Nat          -- parameters
  m : Nat          -- slots
  body : FS
def Df.run (d : Df) (O : Ora) (vs : List AV) (h : AH) : Rs AV :=
  if vs.length = d.n then bnd (d.body O (vs.map some ++ List.replicate (d.m - d.n) none) h) fun c h => match c with
    | .next _ => some (.non, h)
    | .ret v => some (v, h)
  else none
def ora (T : Dn → Option Df) : Nat → Ora
  | 0 => fun _ _ _ => none
  | k + 1 => fun n vs h => match T n with
    | some d => d.run (ora T k) vs h
    | none => none
end SB

/-! Relations between the abstract heap and the tracked one. -/
namespace SB
open PySem PySem.Spec PyProof.Rows L2

structure Zt where
  K : PySem.W.Frag
  w : World
/-- the script: locked or written, never changed -/
def Scr (K : PySem.W.Frag) (H : Hp) (a : Addr) (xs : List V) : Prop := (∃ o, H a = some (.frz o (.lst xs))) ∨
  ∃ (o : Obj) (its : Array Value) (n : Nat), K.lookup a = some o ∧ o.cls = .type "list" ∧ o.dict = none ∧ o.data = .seq its n ∧ its.size ≤ sizeLine ∧ Vals xs its.toList
theorem Scr.seq {K : PySem.W.Frag} {H : Hp} {a : Addr} {xs : List V} (h : Scr K H a xs) : SqL K H a xs := h.elim (fun h => .inl (.inr h)) .inr
/-- a table of the top -/
def TabOk (z : Zt) (a : Addr) (kvs : List (Str × Key)) : Prop :=
  ∃ es n, KDict z.K z.w a es n ∧ Paired (fun (p : Str × Key) (e : DictEntry) => (∃ t, e.key = .str p.1 t) ∧ RelV (kV p.2) e.val) kvs es.toList

mutual
def RelA (z : Zt) (m : List Addr) (H : Hp) : AV → V → Prop
  | .non, v => v = .non
  | .bl b, v => v = .bl b
  | .int i, v => v = .int i
  | .str x, v => v = .str x
  | .tup xs, v => ∃ a vs, v = .ref a ∧ SqT z.K H a vs ∧ RelAs z m H xs vs
  | .scr ns, v => ∃ a, v = .ref a ∧ Scr z.K H a (ns.map V.int)
  | .tab _ kvs, v => ∃ a, v = .ref a ∧ TabOk z a kvs
  | .ref n, v => ∃ a, v = .ref a ∧ m[n]? = some a
def RelAs (z : Zt) (m : List Addr) (H : Hp) : List AV → List V → Prop
  | [], vs => vs = []
  | x :: xs, vs => ∃ v r, vs = v :: r ∧ RelA z m H x v ∧ RelAs z m H xs r
end

structure Ext (m : List Addr) (H : Hp) (m' : List Addr) (H' : Hp) : Prop where
  pre : ∃ t, m' = m ++ t
  tups : ∀ a xs, H a = some (.tup xs) → H' a = some (.tup xs)
  frzs : ∀ a o u, H a = some (.frz o u) → H' a = some (.frz o u)
theorem Ext.refl (m : List Addr) (H : Hp) : Ext m H m H := ⟨⟨[], by simp⟩, fun _ _ h => h, fun _ _ _ h => h⟩
theorem Ext.trans {m m1 m2 : List Addr} {H H1 H2 : Hp} (a : Ext m H m1 H1) (b : Ext m1 H1 m2 H2) : Ext m H m2 H2 := by
  obtain ⟨t, e⟩ := a.pre
  obtain ⟨u, e'⟩ := b.pre
  exact ⟨⟨t ++ u, by rw [e', e, List.append_assoc]⟩, fun c xs h => b.tups c xs (a.tups c xs h), fun c o u h => b.frzs c o u (a.frzs c o u h)⟩
theorem Ext.get {m m' : List Addr} {H H' : Hp} (e : Ext m H m' H') {i : Nat} {a : Addr} (h : m[i]? = some a) : m'[i]? = some a := by
  obtain ⟨t, rfl⟩ := e.pre
  rw [List.getElem?_append_left (List.getElem?_eq_some_iff.mp h).1]
  exact h
theorem Ext.sqT {K : PySem.W.Frag} {m m' : List Addr} {H H' : Hp} (e : Ext m H m' H') {a : Addr} {xs : List V} (h : SqT K H a xs) : SqT K H' a xs := by
  rcases h with (h | ⟨o, h⟩) | h
  · exact .inl (.inl (e.tups _ _ h))
  · exact .inl (.inr ⟨o, e.frzs _ _ _ h⟩)
  · exact .inr h
theorem Ext.scr {K : PySem.W.Frag} {m m' : List Addr} {H H' : Hp} (e : Ext m H m' H') {a : Addr} {xs : List V} (h : Scr K H a xs) : Scr K H' a xs := by
  rcases h with ⟨o, h⟩ | h
  · exact .inl ⟨o, e.frzs _ _ _ h⟩
  · exact .inr h

section
variable {z : Zt} {m m' : List Addr} {H H' : Hp}
mutual
theorem RelA.ext (e : Ext m H m' H') : ∀ (x : AV) (v : V), RelA z m H x v → RelA z m' H' x v
  | .non, _, h => by simpa [RelA] using h
  | .bl b, _, h => by simpa [RelA] using h
  | .int i, _, h => by simpa [RelA] using h
  | .str x, _, h => by simpa [RelA] using h
  | .tup xs, v, h => by
    simp only [RelA] at h ⊢
    obtain ⟨a, vs, h1, h2, h3⟩ := h
    exact ⟨a, vs, h1, e.sqT h2, RelAs.ext e xs vs h3⟩
  | .scr ns, v, h => by
    simp only [RelA] at h ⊢
    obtain ⟨a, h1, h2⟩ := h
    exact ⟨a, h1, e.scr h2⟩
  | .tab _ kvs, v, h => by simpa [RelA] using h
  | .ref n, v, h => by
    simp only [RelA] at h ⊢
    obtain ⟨a, h1, h2⟩ := h
    exact ⟨a, h1, e.get h2⟩
theorem RelAs.ext (e : Ext m H m' H') : ∀ (xs : List AV) (vs : List V), RelAs z m H xs vs → RelAs z m' H' xs vs
  | [], _, h => by simpa [RelAs] using h
  | x :: xs, vs, h => by
    simp only [RelAs] at h ⊢
    obtain ⟨v, r, h1, h2, h3⟩ := h
    exact ⟨v, r, h1, RelA.ext e x v h2, RelAs.ext e xs r h3⟩
end
theorem RelAs.len : ∀ {xs : List AV} {vs : List V}, RelAs z m H xs vs → xs.length = vs.length
  | [], _, h => by simp only [RelAs] at h; subst h; rfl
  | x :: xs, vs, h => by
    simp only [RelAs] at h
    obtain ⟨v, r, rfl, _, h3⟩ := h
    simp [RelAs.len h3]
theorem RelAs.get : ∀ {xs : List AV} {vs : List V} {i : Nat} {x : AV}, RelAs z m H xs vs → xs[i]? = some x → ∃ v, vs[i]? = some v ∧ RelA z m H x v
  | [], _, _, _, h, e => by simp at e
  | y :: xs, vs, 0, x, h, e => by
    simp only [RelAs] at h
    obtain ⟨v, r, rfl, h2, h3⟩ := h
    simp at e; subst e
    exact ⟨v, rfl, h2⟩
  | y :: xs, vs, i + 1, x, h, e => by
    simp only [RelAs] at h
    obtain ⟨v, r, rfl, h2, h3⟩ := h
    obtain ⟨w, e1, e2⟩ := RelAs.get (i := i) h3 (by simpa using e)
    exact ⟨w, by simpa using e1, e2⟩
theorem RelAs.get' : ∀ {xs : List AV} {vs : List V} {i : Nat} {v : V}, RelAs z m H xs vs → vs[i]? = some v → ∃ x, xs[i]? = some x ∧ RelA z m H x v
  | [], _, _, _, h, e => by simp only [RelAs] at h; subst h; simp at e
  | y :: xs, vs, 0, x, h, e => by
    simp only [RelAs] at h
    obtain ⟨v, r, rfl, h2, h3⟩ := h
    simp at e; subst e
    exact ⟨y, rfl, h2⟩
  | y :: xs, vs, i + 1, x, h, e => by
    simp only [RelAs] at h
    obtain ⟨v, r, rfl, h2, h3⟩ := h
    obtain ⟨w, e1, e2⟩ := RelAs.get' (i := i) h3 (by simpa using e)
    exact ⟨w, by simpa using e1, e2⟩
theorem RelAs.app : ∀ {xs ys : List AV} {vs ws : List V}, RelAs z m H xs vs → RelAs z m H ys ws → RelAs z m H (xs ++ ys) (vs ++ ws)
  | [], ys, vs, ws, h, h' => by simp only [RelAs] at h; subst h; exact h'
  | x :: xs, ys, vs, ws, h, h' => by
    simp only [RelAs] at h
    obtain ⟨v, r, rfl, h2, h3⟩ := h
    simp only [List.cons_append, RelAs]
    exact ⟨v, r ++ ws, rfl, h2, RelAs.app h3 h'⟩
theorem RelAs.nil : RelAs z m H [] [] := by simp [RelAs]
theorem RelAs.cons {x : AV} {v : V} {xs : List AV} {vs : List V} (h : RelA z m H x v) (h' : RelAs z m H xs vs) : RelAs z m H (x :: xs) (v :: vs) := by
  simp only [RelAs]
  exact ⟨v, vs, rfl, h, h'⟩
theorem RelAs.one {x : AV} {v : V} (h : RelA z m H x v) : RelAs z m H [x] [v] := .cons h .nil
theorem RelAs.set {x : AV} {v : V} (h : RelA z m H x v) : ∀ {xs : List AV} {vs : List V} (i : Nat), RelAs z m H xs vs → RelAs z m H (xs.set i x) (vs.set i v)
  | [], vs, i, h' => by simp only [RelAs] at h'; subst h'; simp [RelAs]
  | y :: xs, vs, 0, h' => by
    simp only [RelAs] at h'
    obtain ⟨w, r, rfl, h2, h3⟩ := h'
    exact .cons h h3
  | y :: xs, vs, i + 1, h' => by
    simp only [RelAs] at h'
    obtain ⟨w, r, rfl, h2, h3⟩ := h'
    exact .cons h2 (RelAs.set h i h3)
theorem RelAs.take : ∀ {xs : List AV} {vs : List V} (n : Nat), RelAs z m H xs vs → RelAs z m H (xs.take n) (vs.take n)
  | _, _, 0, _ => by simp [RelAs]
  | [], vs, n + 1, h => by simp only [RelAs] at h; subst h; simp [RelAs]
  | x :: xs, vs, n + 1, h => by
    simp only [RelAs] at h
    obtain ⟨w, r, rfl, h2, h3⟩ := h
    exact .cons h2 (RelAs.take n h3)
theorem RelAs.drop : ∀ {xs : List AV} {vs : List V} (n : Nat), RelAs z m H xs vs → RelAs z m H (xs.drop n) (vs.drop n)
  | _, _, 0, h => h
  | [], vs, n + 1, h => by simp only [RelAs] at h; subst h; simp [RelAs]
  | x :: xs, vs, n + 1, h => by
    simp only [RelAs] at h
    obtain ⟨w, r, rfl, h2, h3⟩ := h
    exact RelAs.drop n h3
theorem RelAs.erase : ∀ {xs : List AV} {vs : List V} (n : Nat), RelAs z m H xs vs → RelAs z m H (xs.eraseIdx n) (vs.eraseIdx n)
  | [], vs, n, h => by simp only [RelAs] at h; subst h; simp [RelAs]
  | x :: xs, vs, 0, h => by
    simp only [RelAs] at h
    obtain ⟨w, r, rfl, h2, h3⟩ := h
    exact h3
  | x :: xs, vs, n + 1, h => by
    simp only [RelAs] at h
    obtain ⟨w, r, rfl, h2, h3⟩ := h
    exact .cons h2 (RelAs.erase n h3)
theorem RelAs.rep {xs : List AV} {vs : List V} (h : RelAs z m H xs vs) : ∀ k : Nat, RelAs z m H (List.replicate k xs).flatten (List.replicate k vs).flatten
  | 0 => by simp [RelAs]
  | k + 1 => by
    rw [List.replicate_succ, List.replicate_succ, List.flatten_cons, List.flatten_cons]
    exact h.app (RelAs.rep h k)
theorem RelAs.ints (ns : List Int) : RelAs z m H (ns.map .int) (ns.map V.int) := by
  induction ns with
  | nil => exact .nil
  | cons i r ih => exact .cons (by simp [RelA]) ih

/-- pairs: keys as they are, values related -/
abbrev RelP (z : Zt) (m : List Addr) (H : Hp) {κ : Type} : List (κ × AV) → List (κ × V) → Prop := Paired fun p q => p.1 = q.1 ∧ RelA z m H p.2 q.2
theorem RelP.ext {κ : Type} (e : Ext m H m' H') {xs : List (κ × AV)} {vs : List (κ × V)} (h : RelP z m H xs vs) : RelP z m' H' xs vs := by
  induction h with
  | nil => exact .nil
  | cons r _ ih => exact .cons ⟨r.1, RelA.ext e _ _ r.2⟩ ih

/-- what is known of an own class -/
structure ClsOk (z : Zt) (C : Str) : Prop where
  cl : Cls z.K (He.ga z.K C)
  no : ∀ f cs, UF.lookup f = some cs → C ∈ cs → NoAttr z.K (He.ga z.K C) f
def AbsO (z : Zt) (m : List Addr) (H : Hp) : AO → Addr → Prop
  | .lst xs, a => ∃ vs, H a = some (.lst vs) ∧ RelAs z m H xs vs
  | .dic kvs, a => ∃ vs, H a = some (.dK vs) ∧ RelP z m H kvs vs
  | .ins C fs, a => ∃ dx vs, H a = some (.ins (He.ga z.K C) dx vs) ∧ RelP z m H fs vs ∧ ClsOk z C ∧ ∀ f ∈ fs.map (·.1), NoAttr z.K (He.ga z.K C) f
theorem AbsO.at_ {o : AO} {a : Addr} (h : AbsO z m H o a) : ∃ u, H a = some u := by
  cases o with
  | lst xs => obtain ⟨_, e, _⟩ := h; exact ⟨_, e⟩
  | dic xs => obtain ⟨_, e, _⟩ := h; exact ⟨_, e⟩
  | ins C xs => obtain ⟨_, _, e, _⟩ := h; exact ⟨_, e⟩
theorem AbsO.ext {o : AO} {a : Addr} (e : Ext m H m' H') (k : ∀ u, H a = some u → H' a = some u) (h : AbsO z m H o a) : AbsO z m' H' o a := by
  cases o with
  | lst xs => obtain ⟨vs, e1, r⟩ := h; exact ⟨vs, k _ e1, r.ext e⟩
  | dic xs => obtain ⟨vs, e1, r⟩ := h; exact ⟨vs, k _ e1, r.ext e⟩
  | ins C xs => obtain ⟨dx, vs, e1, r, c⟩ := h; exact ⟨dx, vs, k _ e1, r.ext e, c⟩

structure Abs (z : Zt) (m : List Addr) (h : AH) (H : Hp) : Prop where
  len : m.length = h.length
  nd : m.Nodup
  at_ : ∀ (i : Nat) (o : AO) (a : Addr), h[i]? = some o → m[i]? = some a → AbsO z m H o a
variable {h : AH}
theorem Abs.get (A : Abs z m h H) {i : Nat} {o : AO} (e : h[i]? = some o) : ∃ a, m[i]? = some a ∧ AbsO z m H o a := by
  have hi : i < m.length := by rw [A.len]; exact (List.getElem?_eq_some_iff.mp e).1
  exact ⟨m[i], List.getElem?_eq_getElem hi, A.at_ i o _ e (List.getElem?_eq_getElem hi)⟩
theorem Abs.mem (A : Abs z m h H) {a : Addr} (ha : a ∈ m) : ∃ u, H a = Option.some u := by
  obtain ⟨i, hi, e⟩ := List.mem_iff_getElem.mp ha
  have hi' : i < h.length := by rw [← A.len]; exact hi
  exact (A.at_ i h[i] a (List.getElem?_eq_getElem hi') (by rw [List.getElem?_eq_getElem hi, e])).at_
theorem Abs.fresh (A : Abs z m h H) {p : Addr} (hp : H p = none) : p ∉ m := fun q => by
  obtain ⟨u, e⟩ := A.mem q
  rw [hp] at e; cases e
theorem Ext.new {p : Addr} {u : HO} (hp : H p = none) (t : List Addr) : Ext m H (m ++ t) (upd H p u) :=
  ⟨⟨t, rfl⟩, fun a xs e => by rw [upd_ne (ne_of_none e hp)]; exact e, fun a o w e => by rw [upd_ne (ne_of_none e hp)]; exact e⟩
theorem Ext.new0 {p : Addr} {u : HO} (hp : H p = none) : Ext m H m (upd H p u) := by
  have := Ext.new (m := m) (u := u) hp []
  rwa [List.append_nil] at this
/-- something is tracked besides -/
theorem Abs.beside (A : Abs z m h H) {p : Addr} {u : HO} (hp : H p = none) : Abs z m h (upd H p u) :=
  ⟨A.len, A.nd, fun i o a e1 e2 => (A.at_ i o a e1 e2).ext (Ext.new0 hp) fun w e => by rw [upd_ne (ne_of_none e hp)]; exact e⟩
/-- a new object -/
theorem Abs.push (A : Abs z m h H) {p : Addr} {u : HO} {o : AO} (hp : H p = none) (new : AbsO z (m ++ [p]) (upd H p u) o p) : Abs z (m ++ [p]) (h ++ [o]) (upd H p u) := by
  refine ⟨by simp [A.len], ?_, fun i o' a e1 e2 => ?_⟩
  · rw [List.nodup_append]
    refine ⟨A.nd, by simp, fun x hx y hy => ?_⟩
    have : y = p := by simpa using hy
    subst this
    exact fun q => A.fresh hp (q ▸ hx)
  · by_cases hi : i < h.length
    · rw [List.getElem?_append_left hi] at e1
      rw [List.getElem?_append_left (by rw [A.len]; exact hi)] at e2
      exact (A.at_ i o' a e1 e2).ext (Ext.new hp [p]) fun w e => by rw [upd_ne (ne_of_none e hp)]; exact e
    · have hi2 : i < (h ++ [o]).length := (List.getElem?_eq_some_iff.mp e1).1
      have : i = h.length := by simp at hi2; omega
      subst this
      rw [List.getElem?_append_right (Nat.le_refl _)] at e1
      rw [← A.len, List.getElem?_append_right (Nat.le_refl _)] at e2
      simp at e1 e2
      subst e1 e2
      exact new
/-- an object written -/
theorem Ext.wr {p : Addr} {u u' : HO} (hp : H p = some u) (mu : Mut (some u)) : Ext m H m (upd H p u') :=
  ⟨⟨[], by simp⟩, fun a xs e => by
    have : a ≠ p := fun q => by rw [q, hp] at e; cases e; exact mu
    rw [upd_ne this]; exact e, fun a o w e => by
    have : a ≠ p := fun q => by rw [q, hp] at e; cases e; exact mu
    rw [upd_ne this]; exact e⟩
theorem Abs.write (A : Abs z m h H) {i : Nat} {p : Addr} {u u' : HO} {o' : AO} (hi : m[i]? = Option.some p) (hp : H p = Option.some u) (mu : Mut (Option.some u)) (new : AbsO z m (upd H p u') o' p) : Abs z m (h.set i o') (upd H p u') := by
  refine ⟨by rw [List.length_set]; exact A.len, A.nd, fun j o a e1 e2 => ?_⟩
  by_cases hj : j = i
  · subst hj
    rw [hi] at e2; cases e2
    have hlt : j < h.length := by rw [← A.len]; exact (List.getElem?_eq_some_iff.mp hi).1
    rw [List.getElem?_set_self hlt] at e1
    cases e1
    exact new
  · rw [List.getElem?_set_ne (Ne.symm hj)] at e1
    have ne : a ≠ p := fun q => by
      subst q
      obtain ⟨h1, q1⟩ := List.getElem?_eq_some_iff.mp hi
      obtain ⟨h2, q2⟩ := List.getElem?_eq_some_iff.mp e2
      exact hj ((List.getElem_inj A.nd).mp (q2.trans q1.symm))
    exact (A.at_ j o a e1 e2).ext (Ext.wr hp mu) fun w e => by rw [upd_ne ne]; exact e
end

/-! ### environments -/
def RelE (z : Zt) (m : List Addr) (H : Hp) : En → L2.St → Prop := Paired fun a s => ∀ x, a = some x → ∃ v, s = some v ∧ RelA z m H x v
section
variable {z : Zt} {m m' : List Addr} {H H' : Hp} {as : En} {σ : L2.St}
theorem RelE.ext (e : Ext m H m' H') (h : RelE z m H as σ) : RelE z m' H' as σ := by
  induction h with
  | nil => exact .nil
  | cons r _ ih => exact .cons (fun x q => let ⟨v, e1, e2⟩ := r x q; ⟨v, e1, RelA.ext e _ _ e2⟩) ih
theorem RelE.len (h : RelE z m H as σ) : as.length = σ.length := Paired.length h
theorem RelE.get (h : RelE z m H as σ) {i : Nat} {x : AV} (e : as[i]? = some (some x)) : ∃ v, σ[i]? = some (some v) ∧ RelA z m H x v := by
  induction h generalizing i with
  | nil => simp at e
  | cons r _ ih =>
    cases i with
    | zero =>
      simp at e
      obtain ⟨v, e1, e2⟩ := r x e
      exact ⟨v, by simp [e1], e2⟩
    | succ i => simpa using ih (i := i) (by simpa using e)
theorem RelE.set {x : AV} {v : V} (r : RelA z m H x v) (h : RelE z m H as σ) (i : Nat) : RelE z m H (as.set i (some x)) (σ.set i (some v)) := by
  induction h generalizing i with
  | nil => exact .nil
  | cons q t ih =>
    cases i with
    | zero => exact .cons (fun y e => by cases e; exact ⟨v, rfl, r⟩) t
    | succ i => exact .cons q (ih i)
theorem RelE.unset (h : RelE z m H as σ) (i : Nat) : RelE z m H (as.set i none) (σ.set i none) := by
  induction h generalizing i with
  | nil => exact .nil
  | cons q t ih =>
    cases i with
    | zero => exact .cons (fun y e => by cases e) t
    | succ i => exact .cons q (ih i)
theorem RelE.wiped (h : RelE z m H as σ) : ∀ vs : List Nat, RelE z m H (wipeA as vs) (L2.wipe σ vs)
  | [] => h
  | v :: vs => by unfold wipeA L2.wipe; exact RelE.unset (RelE.wiped h vs) v
theorem RelE.start : ∀ {xs : List AV} {vs : List V} (k : Nat), RelAs z m H xs vs → RelE z m H (xs.map some ++ List.replicate k none) (vs.map some ++ List.replicate k none)
  | [], vs, k, h => by
    simp only [RelAs] at h; subst h
    simp only [List.map_nil, List.nil_append]
    induction k with
    | zero => exact .nil
    | succ k ih => rw [List.replicate_succ, List.replicate_succ]; exact .cons (fun _ e => by cases e) ih
  | x :: xs, vs, k, h => by
    simp only [RelAs] at h
    obtain ⟨v, r, rfl, h2, h3⟩ := h
    exact .cons (fun y e => by cases e; exact ⟨v, rfl, h2⟩) (RelE.start k h3)
end

/-! ### what is wanted of a result -/
def Wn (z : Zt) {α β : Type} (rel : List Addr → Hp → α → β → Prop) (m : List Addr) (H : Hp) (r : Rs α) (Q : β → Hp → Prop) : Prop :=
  ∃ a h', r = some (a, h') ∧ ∀ m' H' v, Ext m H m' H' → Abs z m' h' H' → rel m' H' a v → Q v H'
theorem Wn.of_some {z : Zt} {α β : Type} {rel : List Addr → Hp → α → β → Prop} {m : List Addr} {H : Hp} {a : α} {h' : AH} {Q : β → Hp → Prop}
    (h : Wn z rel m H (some (a, h')) Q) : ∀ m' H' v, Ext m H m' H' → Abs z m' h' H' → rel m' H' a v → Q v H' := by
  obtain ⟨_, _, e, q⟩ := h
  cases e
  exact q
theorem Wn.of_none {z : Zt} {α β : Type} {rel : List Addr → Hp → α → β → Prop} {m : List Addr} {H : Hp} {Q : β → Hp → Prop}
    (h : Wn z rel m H (none : Rs α) Q) : False := by
  obtain ⟨_, _, e, _⟩ := h
  cases e
/-- first this, then that -/
theorem Wn.bnd {z : Zt} {α β γ δ : Type} {rel : List Addr → Hp → α → β → Prop} {rel2 : List Addr → Hp → γ → δ → Prop} {m : List Addr} {H : Hp} {r : Rs α} {k : α → AH → Rs γ} {Q : δ → Hp → Prop} {R : β → Hp → Prop}
    (h : Wn z rel2 m H (bnd r k) Q) (hk : ∀ a h', r = some (a, h') → Wn z rel2 m H (k a h') Q → ∀ m' H' v, Ext m H m' H' → Abs z m' h' H' → rel m' H' a v → R v H') : Wn z rel m H r R := by
  cases r with
  | none => exact h.of_none.elim
  | some p =>
    obtain ⟨a, h'⟩ := p
    exact ⟨a, h', rfl, hk a h' rfl h⟩
theorem Wn.mono {z : Zt} {α β : Type} {rel : List Addr → Hp → α → β → Prop} {m m1 : List Addr} {H H1 : Hp} {r : Rs α} {Q : β → Hp → Prop}
    (h : Wn z rel m H r Q) (e : Ext m H m1 H1) : Wn z rel m1 H1 r Q := by
  obtain ⟨a, h', e1, q⟩ := h
  exact ⟨a, h', e1, fun m' H' v e2 => q m' H' v (e.trans e2)⟩
end SB

/-! Operators: the model's do what the abstract ones say. -/
namespace SB
open PySem PySem.Spec PyProof.Rows L2

abbrev zOf (X : Cx) : Zt := ⟨X.K, X.w⟩
/-- the rule's question is answered by the abstract operation -/
def Ans2 (z : Zt) (r : R2) (g : AV → AV → AH → Rs AV) : Prop :=
  ∀ (m : List Addr) (h : AH) (H : Hp) (a b : AV) (x y : V) (Q : VK), Abs z m h H → RelA z m H a x → RelA z m H b y → Wn z (RelA z) m H (g a b h) Q → r x y H Q
theorem sz : (sizeLine : Nat) = 16777216 := sizeLine_eq
section
variable {z : Zt} {m m' : List Addr} {h h' : AH} {H H' : Hp} {Q : VK}
theorem rint {i : Int} {x : V} (r : RelA z m H (.int i) x) : x = .int i := by simpa [RelA] using r
theorem rstr {i : Str} {x : V} (r : RelA z m H (.str i) x) : x = .str i := by simpa [RelA] using r
theorem rbl {i : Bool} {x : V} (r : RelA z m H (.bl i) x) : x = .bl i := by simpa [RelA] using r
theorem rnon {x : V} (r : RelA z m H .non x) : x = .non := by simpa [RelA] using r
theorem rtup {xs : List AV} {x : V} (r : RelA z m H (.tup xs) x) : ∃ a vs, x = .ref a ∧ SqT z.K H a vs ∧ RelAs z m H xs vs := by simpa [RelA] using r
theorem rtup' {xs : List AV} {a : Addr} {vs : List V} (h1 : SqT z.K H a vs) (h2 : RelAs z m H xs vs) : RelA z m H (.tup xs) (.ref a) := by
  simp only [RelA]; exact ⟨a, vs, rfl, h1, h2⟩
theorem rref {n : Nat} {x : V} (r : RelA z m H (.ref n) x) : ∃ a, x = .ref a ∧ m[n]? = some a := by simpa [RelA] using r
theorem rref' {n : Nat} {a : Addr} (e : m[n]? = some a) : RelA z m H (.ref n) (.ref a) := by simp only [RelA]; exact ⟨a, rfl, e⟩
/-- a result without change of the heap -/
theorem Wn.val {a : AV} (w : Wn z (RelA z) m H (some (a, h)) Q) (A : Abs z m h H) {v : V} (r : RelA z m H a v) : Q v H := w.of_some m H v (Ext.refl m H) A r
/-- a new object -/
theorem Wn.alloc {o : AO} (w : Wn z (RelA z) m H (alloc o h) Q) (A : Abs z m h H) {p : Addr} {u : HO} (hp : H p = none) (new : AbsO z (m ++ [p]) (upd H p u) o p) : Q (.ref p) (upd H p u) := by
  refine w.of_some (m ++ [p]) _ _ (Ext.new hp [p]) (A.push hp new) (rref' ?_)
  rw [← A.len, List.getElem?_append_right (Nat.le_refl _)]
  simp
theorem Wn.newLst {xs : List AV} {vs : List V} (w : Wn z (RelA z) m H (SB.alloc (.lst xs) h) Q) (A : Abs z m h H) (r : RelAs z m H xs vs) {p : Addr} (hp : H p = none) : Q (.ref p) (upd H p (.lst vs)) :=
  Wn.alloc w A hp ⟨vs, upd_same, r.ext (Ext.new hp [p]) xs vs⟩
/-- a new tuple -/
theorem Wn.newTup {xs : List AV} {vs : List V} (w : Wn z (RelA z) m H (some (.tup xs, h)) Q) (A : Abs z m h H) (r : RelAs z m H xs vs) {p : Addr} (hp : H p = none) : Q (.ref p) (upd H p (.tup vs)) :=
  w.of_some m _ _ (Ext.new0 hp) (A.beside hp) (rtup' (.inl (.inl upd_same)) (r.ext (Ext.new0 hp) xs vs))
/-- a written object -/
theorem Wn.wrote {v : AV} {n : Nat} {p : Addr} {u u' : HO} {o' : AO} {x : V} (w : Wn z (RelA z) m H (some (v, h.set n o')) Q) (A : Abs z m h H) (hn : m[n]? = some p) (hp : H p = some u) (mu : Mut (some u)) (new : AbsO z m (upd H p u') o' p) (r : RelA z m (upd H p u') v x) :
    Q x (upd H p u') := w.of_some m _ _ (Ext.wr hp mu) (A.write hn hp mu new) r
theorem Abs.lst (A : Abs z m h H) {n : Nat} {xs : List AV} {a : Addr} (e : h[n]? = some (.lst xs)) (hm : m[n]? = some a) : ∃ vs, H a = some (.lst vs) ∧ RelAs z m H xs vs := A.at_ n _ a e hm
theorem Abs.dic (A : Abs z m h H) {n : Nat} {xs : List (Key × AV)} {a : Addr} (e : h[n]? = some (.dic xs)) (hm : m[n]? = some a) : ∃ vs, H a = some (.dK vs) ∧ RelP z m H xs vs := A.at_ n _ a e hm
theorem Abs.ins (A : Abs z m h H) {n : Nat} {C : Str} {xs : List (Str × AV)} {a : Addr} (e : h[n]? = some (.ins C xs)) (hm : m[n]? = some a) : ∃ dx vs, H a = some (.ins (He.ga z.K C) dx vs) ∧ RelP z m H xs vs ∧ ClsOk z C ∧ ∀ f ∈ xs.map (·.1), NoAttr z.K (He.ga z.K C) f := A.at_ n _ a e hm

/-! ### arithmetic -/
def rAddA (K : PySem.W.Frag) : R2 := fun x y H Q => rI0 (fun i j => .int (i + j)) x y H Q ∨ (∃ i j, x = .str i ∧ y = .str j ∧ i.length + j.length ≤ sizeLine ∧ Q (.str (i ++ j)) H) ∨ rCatA K x y H Q ∨ rCat x y H Q
theorem op_addA {X : Cx} : OpR X (binaryOp .Add) (rAddA X.K) := op_add.or (op_add_str.or (op_catA.or op_cat))
theorem ans_add : Ans2 z (rAddA z.K) addA := by
  intro m h H a b x y Q A ra rb w
  cases a <;> cases b <;> try exact (Wn.of_none w).elim
  · rename_i i j
    cases rint ra; cases rint rb
    exact .inl ⟨i, j, rfl, rfl, Wn.val w A (by simp [RelA])⟩
  · rename_i i j
    cases rstr ra; cases rstr rb
    simp only [addA] at w
    split at w
    · rename_i hl
      exact .inr (.inl ⟨i, j, rfl, rfl, by rw [sz]; exact hl, Wn.val w A (by simp [RelA])⟩)
    · exact (Wn.of_none w).elim
  · rename_i xs ys
    obtain ⟨a, vs, rfl, h1, h2⟩ := rtup ra
    obtain ⟨b, ws, rfl, h3, h4⟩ := rtup rb
    simp only [addA] at w
    split at w
    · rename_i hl
      rw [h2.len, h4.len] at hl
      refine .inr (.inr (.inl ⟨a, b, vs, ws, rfl, rfl, h1, h3, by rw [sz]; exact hl, fun e => ?_, fun e e2 => ?_, fun _ _ p hp => ?_⟩))
      · subst e
        have : xs = [] := by have := h2.len; simpa using this
        subst this
        exact Wn.val w A (rtup' h3 h4)
      · subst e2
        have : ys = [] := by have := h4.len; simpa using this
        subst this
        rw [List.append_nil] at w
        exact Wn.val w A (rtup' h1 h2)
      · exact Wn.newTup w A (h2.app h4) hp
    · exact (Wn.of_none w).elim
  · rename_i i j
    obtain ⟨a, rfl, ha⟩ := rref ra
    obtain ⟨b, rfl, hb⟩ := rref rb
    simp only [addA] at w
    split at w
    · rename_i xs ys e1 e2
      obtain ⟨vs, q1, r1⟩ := A.lst e1 ha
      obtain ⟨ws, q2, r2⟩ := A.lst e2 hb
      split at w
      · rename_i hl
        rw [r1.len, r2.len] at hl
        exact .inr (.inr (.inr ⟨a, b, vs, ws, rfl, rfl, q1, q2, by rw [sz]; exact hl, fun p hp => Wn.newLst w A (r1.app r2) hp⟩))
      · exact (Wn.of_none w).elim
    · exact (Wn.of_none w).elim
theorem ans_sub : Ans2 z (rI0 fun i j => .int (i - j)) subA := by
  intro m h H a b x y Q A ra rb w
  cases a <;> cases b <;> try exact (Wn.of_none w).elim
  rename_i i j
  cases rint ra; cases rint rb
  exact ⟨i, j, rfl, rfl, Wn.val w A (by simp [RelA])⟩
theorem ans_mod : Ans2 z (rI (fun _ j => 0 < j) fun i j => .int (i % j)) modA := by
  intro m h H a b x y Q A ra rb w
  cases a <;> cases b <;> try exact (Wn.of_none w).elim
  rename_i i j
  cases rint ra; cases rint rb
  simp only [modA] at w
  split at w
  · exact ⟨i, j, rfl, rfl, by assumption, Wn.val w A (by simp [RelA])⟩
  · exact (Wn.of_none w).elim
theorem ans_fdiv : Ans2 z (rI CDiv fun i j => .int (i / j)) fdivA := by
  intro m h H a b x y Q A ra rb w
  cases a <;> cases b <;> try exact (Wn.of_none w).elim
  rename_i i j
  cases rint ra; cases rint rb
  simp only [fdivA] at w
  split at w
  · exact ⟨i, j, rfl, rfl, by assumption, Wn.val w A (by simp [RelA])⟩
  · exact (Wn.of_none w).elim
theorem ans_pow : Ans2 z (rI CPow fun i j => .int (i ^ j.toNat)) powA := by
  intro m h H a b x y Q A ra rb w
  cases a <;> cases b <;> try exact (Wn.of_none w).elim
  rename_i i j
  cases rint ra; cases rint rb
  simp only [powA] at w
  split at w
  · exact ⟨i, j, rfl, rfl, by assumption, Wn.val w A (by simp [RelA])⟩
  · exact (Wn.of_none w).elim
end

/-! ### a tuple repeated any number of times -/
section
variable {prog : Program} {w : World} {A : Around} {E : Value → Shared → Prop} {s : Shared}
end
end SB

set_option maxHeartbeats 4000000
namespace SB
open PySem PySem.Spec PyProof.Rows L2
theorem tuple_mulS (l : Addr) (items : Array Value) (n : Nat) (dd : Option Addr) (sl : Array (Option Value)) (x : Int) (u : Tok) (c0 : (decide (x < -(2 ^ 63)) || decide (x ≥ 2 ^ 63)) = false) (c1 : (items.isEmpty || x == 1) = true) :
    Meets (Builtin.«tuple.__mul__» ⟨[.ref l, .int x u], []⟩) (fun _ R s => s.heap.get? l = some { cls := .type "tuple", dict := dd, data := .seq items n, slots := sl } ∧ R (.ok (.ret (Value.ref l))) s) :=
  .of_wp fun prog w A R s h => by
    obtain ⟨hp, g, d, tk, os⟩ := s
    obtain ⟨hl, h⟩ := h
    have f1 := AutoSeq1.idx_int
    wp_walk using wpAny_loadPart' hl
    repeat (first
      | (refine wpAny_ite_false (decide_eq_false (by rw [c0]; exact Bool.false_ne_true)) ?_; wp_walk using wpAny_loadPart' hl)
      | (refine wpAny_ite_true (decide_eq_true (by rw [c1])) ?_; wp_walk using wpAny_loadPart' hl))
    exact ⟨_, rfl, h⟩
theorem tuple_mul0 (l : Addr) (items : Array Value) (n : Nat) (dd : Option Addr) (sl : Array (Option Value)) (x : Int) (u : Tok) (c0 : (decide (x < -(2 ^ 63)) || decide (x ≥ 2 ^ 63)) = false) (c1 : (items.isEmpty || x == 1) = false) (c2 : (decide (x ≤ 0) || items.isEmpty) = true) :
    Meets (Builtin.«tuple.__mul__» ⟨[.ref l, .int x u], []⟩) (fun _ R s => s.heap.get? l = some { cls := .type "tuple", dict := dd, data := .seq items n, slots := sl } ∧
      R (.ok (.ret (Value.ref s.heap.objs.size))) { s with heap := s.heap.push { cls := Value.type "tuple", data := Data.seq #[] }, toks := s.toks }) :=
  .of_wp fun prog w A R s h => by
    obtain ⟨hp, g, d, tk, os⟩ := s
    obtain ⟨hl, h⟩ := h
    have f1 := AutoSeq1.idx_int
    wp_walk using wpAny_loadPart' hl
    repeat (first
      | (refine wpAny_ite_false (decide_eq_false (by rw [c0]; exact Bool.false_ne_true)) ?_; wp_walk using wpAny_loadPart' hl)
      | (refine wpAny_ite_false (decide_eq_false (by rw [c1]; exact Bool.false_ne_true)) ?_; wp_walk using wpAny_loadPart' hl)
      | (refine wpAny_ite_true (decide_eq_true (by rw [c2])) ?_; wp_walk using wpAny_loadPart' hl))
    exact ⟨_, rfl, h⟩

def rRepTA (K : PySem.W.Frag) : R2 := fun x y H Q => ∃ l k xs, x = .ref l ∧ y = .int k ∧ SqT K H l xs ∧ 0 ≤ k ∧ k < 2 ^ 63 ∧ xs.length * k.toNat ≤ sizeLine ∧ ((xs = [] ∨ k = 1) → Q (.ref l) H) ∧ (¬ (xs = [] ∨ k = 1) → ∀ p, H p = none → Q (.ref p) (upd H p (.tup (List.replicate k.toNat xs).flatten)))
theorem op_repTA {X : Cx} : OpR X (binaryOp .Mult) (rRepTA X.K) := by
  intro pins s σ H x y v u Q I rx ry h
  obtain ⟨l, k, xs, rfl, rfl, hT, h1, h2, hz, q1, q2⟩ := h
  cases rx
  obtain ⟨t, rfl⟩ := ry
  obtain ⟨its, r, ⟨⟨cls, dd, data, sl⟩, ho, hc, n, hd⟩, hs⟩ := I.tuple hT
  simp only at hc hd
  subst hc hd
  have hle : its.length = xs.length := r.length.symm
  have c0 : (decide (k < -(2 ^ 63)) || decide (k ≥ 2 ^ 63)) = false := by
    rw [decide_eq_false (by omega), decide_eq_false (by omega)] <;> rfl
  have emp : its.toArray.isEmpty = decide (xs = []) := by
    cases its with
    | nil =>
      have : xs = [] := List.eq_nil_of_length_eq_zero (by simpa using hle.symm)
      simp [this]
    | cons a b =>
      have : xs ≠ [] := fun e => by rw [e] at hle; simp at hle
      simp [this]
  by_cases c : xs = [] ∨ k = 1
  · have c1 : (its.toArray.isEmpty || k == 1) = true := by
      rw [emp]
      rcases c with e | e
      · simp [e]
      · simp [e]
    refine wpAny_binaryOp_repeat_ref (T := "tuple") (U := "int") (by decide) ⟨_, ho, rfl⟩ (fun s' => typeIs_int s' k t) noFill_tuple_mul F.fills_int_mul F.slot_int_rmul repeat_tuple F.slot_int_index.lookup
      (call_meets F.slot_int_rmul (typeIs_int s k t) F.entry_int_rmul (F.args_int_rmul_2 _ _) (int_rmul_tuple k t l its.toArray n dd sl)
        ⟨ho, rfl, ⟨_, ho, rfl⟩, call_meets F.slot_tuple_mul ⟨_, ho, rfl⟩ F.entry_tuple_mul (F.args_tuple_mul_2 _ _) (tuple_mulS l its.toArray n dd sl k t c0 c1) ⟨ho, ?_⟩⟩)
    exact ⟨.ref l, H, I, rfl, q1 c⟩
  · have c1 : (its.toArray.isEmpty || k == 1) = false := by
      rw [emp]
      have a : xs ≠ [] := fun e => c (.inl e)
      have b : k ≠ 1 := fun e => c (.inr e)
      simp [a, b]
    have hlen : xs.length ≠ 0 := fun e => c (.inl (List.eq_nil_of_length_eq_zero e))
    by_cases k0 : k = 0
    · subst k0
      have c2 : (decide ((0 : Int) ≤ 0) || its.toArray.isEmpty) = true := by simp
      refine wpAny_binaryOp_repeat_ref (T := "tuple") (U := "int") (by decide) ⟨_, ho, rfl⟩ (fun s' => typeIs_int s' 0 t) noFill_tuple_mul F.fills_int_mul F.slot_int_rmul repeat_tuple F.slot_int_index.lookup
        (call_meets F.slot_int_rmul (typeIs_int s 0 t) F.entry_int_rmul (F.args_int_rmul_2 _ _) (int_rmul_tuple 0 t l its.toArray n dd sl)
          ⟨ho, rfl, ⟨_, ho, rfl⟩, call_meets F.slot_tuple_mul ⟨_, ho, rfl⟩ F.entry_tuple_mul (F.args_tuple_mul_2 _ _) (tuple_mul0 l its.toArray n dd sl 0 t c0 c1 c2) ⟨ho, ?_⟩⟩)
      refine ⟨.ref s.heap.objs.size, _, I.laid (t' := s.toks) (o := .tup (List.replicate (0 : Int).toNat xs).flatten) (fun b ob q => Heap.get?_push_of_some _ q) (Nat.le_refl _) ?_, rfl, q2 c _ (I.hok.fresh (Nat.le_refl _))⟩
      exact ⟨Nat.zero_le _, [], .nil, IsTup.new _ _⟩
    · have hi : its.toArray.isEmpty = false := by rw [emp]; exact decide_eq_false fun e => c (.inl e)
      have c2 : (decide (k ≤ 0) || its.toArray.isEmpty) = false := by
        rw [hi, Bool.or_false]
        exact decide_eq_false (by omega)
      have hsz0 : its.toArray.size = xs.length := by rw [List.size_toArray, hle]
      have sL := sizeLine_eq
      have hm : ((its.toArray.size : Nat) : Int) * k ≤ 16777216 := by
        rw [hsz0]
        have e : (k.toNat : Int) = k := Int.toNat_of_nonneg h1
        have : ((xs.length * k.toNat : Nat) : Int) ≤ 16777216 := by rw [sL] at hz; generalize xs.length * k.toNat = q at hz; omega
        rw [Int.natCast_mul, e] at this
        exact this
      have flen : (List.replicate k.toNat its).flatten.length ≤ sizeLine := by
        rw [PyProof.Rows.lm_len_rep_flat, hle, Nat.mul_comm]
        exact hz
      have c4 : Builtin.Tuple.tupleTooMany (((its.toArray.size : Nat) : Int) * k) = false := by
        unfold Builtin.Tuple.tupleTooMany
        rw [sizeLine_eq]
        exact decide_eq_false (by omega)
      refine wpAny_binaryOp_repeat_ref (T := "tuple") (U := "int") (by decide) ⟨_, ho, rfl⟩ (fun s' => typeIs_int s' k t) noFill_tuple_mul F.fills_int_mul F.slot_int_rmul repeat_tuple F.slot_int_index.lookup
        (call_meets F.slot_int_rmul (typeIs_int s k t) F.entry_int_rmul (F.args_int_rmul_2 _ _) (int_rmul_tuple k t l its.toArray n dd sl)
          ⟨ho, rfl, ⟨_, ho, rfl⟩, call_meets F.slot_tuple_mul ⟨_, ho, rfl⟩ F.entry_tuple_mul (F.args_tuple_mul_2 _ _) (tuple_mulW l its.toArray n dd sl k t c0 c1 c2 (by omega) c4 (by rw [size_rep, List.size_toArray]; exact flen)) ⟨ho, ?_⟩⟩)
      rw [size_rep]
      refine ⟨.ref s.heap.objs.size, _, I.laid (t' := s.toks) (o := .tup (List.replicate k.toNat xs).flatten) (fun b ob q => Heap.get?_push_of_some _ q) (Nat.le_refl _) ?_, rfl, q2 c _ (I.hok.fresh (Nat.le_refl _))⟩
      exact ⟨by rw [PyProof.Rows.lm_len_rep_flat, Nat.mul_comm]; exact hz, _, r.rep k.toNat, IsTup.new _ _⟩
section
variable {z : Zt}
def rMulA (K : PySem.W.Frag) : R2 := fun x y H Q => rI CMul (fun i j => .int (i * j)) x y H Q ∨ rRepTA K x y H Q ∨ rRep x y H Q
theorem op_mulA {X : Cx} : OpR X (binaryOp .Mult) (rMulA X.K) := op_mul.or (op_repTA.or op_rep)
theorem ans_mul : Ans2 z (rMulA z.K) mulA := by
  intro m h H a b x y Q A ra rb w
  cases a <;> cases b <;> try exact (Wn.of_none w).elim
  · rename_i i j
    cases rint ra; cases rint rb
    simp only [mulA] at w
    split at w
    · exact .inl ⟨i, j, rfl, rfl, by assumption, Wn.val w A (by simp [RelA])⟩
    · exact (Wn.of_none w).elim
  · rename_i xs k
    obtain ⟨a, vs, rfl, h1, h2⟩ := rtup ra
    cases rint rb
    simp only [mulA] at w
    split at w
    · rename_i c
      refine .inr (.inl ⟨a, k, vs, rfl, rfl, h1, c.1, c.2.1, by rw [sz, ← h2.len]; exact c.2.2, fun e => ?_, fun _ p hp => Wn.newTup w A (h2.rep _) hp⟩)
      rcases e with e | e
      · subst e
        have : xs = [] := by have := h2.len; simpa using this
        subst this
        have e2 : (List.replicate k.toNat ([] : List AV)).flatten = [] := by simp
        rw [e2] at w
        exact Wn.val w A (rtup' h1 h2)
      · subst e
        have e2 : (List.replicate (1 : Int).toNat xs).flatten = xs := by simp
        rw [e2] at w
        exact Wn.val w A (rtup' h1 h2)
    · exact (Wn.of_none w).elim
  · rename_i n k
    obtain ⟨a, rfl, ha⟩ := rref ra
    cases rint rb
    simp only [mulA] at w
    split at w
    · rename_i xs e1
      obtain ⟨vs, q1, r1⟩ := A.lst e1 ha
      split at w
      · rename_i c
        exact .inr (.inr ⟨a, k, vs, rfl, rfl, q1, by omega, c.2.1, by rw [sz, ← r1.len]; exact c.2.2, fun p hp => Wn.newLst w A (r1.rep _) hp⟩)
      · exact (Wn.of_none w).elim
    · exact (Wn.of_none w).elim
end
end SB

namespace SB
open PySem PySem.Spec PyProof.Rows L2
section
variable {z : Zt} {m : List Addr} {h : AH} {H : Hp}
mutual
theorem toD_dp : ∀ (a : AV) (d : PyData) (x : V), toD a = some d → RelA z m H a x → Dp z.K H x d
  | .non, d, x, e, r => by
    simp only [toD, Option.some.injEq] at e; subst e
    rw [rnon r]; exact .non
  | .bl b, d, x, e, r => by
    simp only [toD, Option.some.injEq] at e; subst e
    rw [rbl r]; exact .bl b
  | .int i, d, x, e, r => by
    simp only [toD, Option.some.injEq] at e; subst e
    rw [rint r]; exact .int i
  | .str i, d, x, e, r => by
    simp only [toD, Option.some.injEq] at e; subst e
    rw [rstr r]; exact .str i
  | .tup xs, d, x, e, r => by
    simp only [toD, Option.map_eq_some_iff] at e
    obtain ⟨ds, e1, rfl⟩ := e
    obtain ⟨a, vs, rfl, h1, h2⟩ := rtup r
    exact .tup h1 (toDs_dp xs ds vs e1 h2)
  | .scr _, d, x, e, r => by simp [toD] at e
  | .tab _ _, d, x, e, r => by simp [toD] at e
  | .ref _, d, x, e, r => by simp [toD] at e
theorem toDs_dp : ∀ (xs : List AV) (ds : List PyData) (vs : List V), toDs xs = some ds → RelAs z m H xs vs → DpAll z.K H vs ds
  | [], ds, vs, e, r => by
    simp only [toDs, Option.some.injEq] at e; subst e
    simp only [RelAs] at r; subst r
    exact .nil
  | x :: xs, ds, vs, e, r => by
    simp only [RelAs] at r
    obtain ⟨v, w, rfl, h2, h3⟩ := r
    simp only [toDs] at e
    split at e
    · rename_i d ds' e1 e2
      simp only [Option.some.injEq] at e; subst e
      exact .cons (toD_dp x d v e1 h2) (toDs_dp xs ds' w e2 h3)
    · cases e
end
theorem mapO_dp {f : AV → Option PyData} (hf : ∀ a d x, f a = some d → RelA z m H a x → Dp z.K H x d) : ∀ (xs : List AV) (ds : List PyData) (vs : List V), mapO f xs = some ds → RelAs z m H xs vs → DpAll z.K H vs ds
  | [], ds, vs, e, r => by
    simp only [mapO, Option.some.injEq] at e; subst e
    simp only [RelAs] at r; subst r
    exact .nil
  | x :: xs, ds, vs, e, r => by
    simp only [RelAs] at r
    obtain ⟨v, w, rfl, h2, h3⟩ := r
    simp only [mapO] at e
    split at e
    · rename_i d ds' e1 e2
      simp only [Option.some.injEq] at e; subst e
      exact .cons (hf x d v e1 h2) (mapO_dp hf xs ds' w e2 h3)
    · cases e
theorem toH_dp (A : Abs z m h H) : ∀ (n : Nat) (a : AV) (d : PyData) (x : V), toH h n a = some d → RelA z m H a x → Dp z.K H x d
  | 0, a, d, x, e, r => toD_dp a d x (by simpa [toH] using e) r
  | n + 1, .non, d, x, e, r => toD_dp .non d x (by simpa [toH] using e) r
  | n + 1, .bl b, d, x, e, r => toD_dp (.bl b) d x (by simpa [toH] using e) r
  | n + 1, .int b, d, x, e, r => toD_dp (.int b) d x (by simpa [toH] using e) r
  | n + 1, .str b, d, x, e, r => toD_dp (.str b) d x (by simpa [toH] using e) r
  | n + 1, .scr b, d, x, e, r => toD_dp (.scr b) d x (by simpa [toH] using e) r
  | n + 1, .tab b c, d, x, e, r => toD_dp (.tab b c) d x (by simpa [toH] using e) r
  | n + 1, .tup xs, d, x, e, r => by
    simp only [toH, Option.map_eq_some_iff] at e
    obtain ⟨ds, e1, rfl⟩ := e
    obtain ⟨a, vs, rfl, h1, h2⟩ := rtup r
    exact .tup h1 (mapO_dp (toH_dp A n) xs ds vs e1 h2)
  | n + 1, .ref k, d, x, e, r => by
    simp only [toH] at e
    split at e
    · rename_i xs e0
      simp only [Option.map_eq_some_iff] at e
      obtain ⟨ds, e1, rfl⟩ := e
      obtain ⟨a, rfl, ha⟩ := rref r
      obtain ⟨vs, q1, r1⟩ := A.lst e0 ha
      exact .lst (SqL.of q1) (mapO_dp (toH_dp A n) xs ds vs e1 r1)
    · cases e
theorem eqA_ok (A : Abs z m h H) {a b : AV} {x y : V} {k : Bool} (ra : RelA z m H a x) (rb : RelA z m H b y) (e : eqA h a b = some k) :
    ∃ d e, Dp z.K H x d ∧ Dp z.K H y e ∧ SeqAt.shaped d = true ∧ SeqAt.shaped e = true ∧ k = PyData.eqv d e := by
  unfold eqA eqD at e
  split at e
  · rename_i d e' e1 e2
    split at e
    · rename_i c
      simp only [Option.some.injEq] at e
      exact ⟨d, e', toH_dp A _ _ _ _ e1 ra, toH_dp A _ _ _ _ e2 rb, c.1, c.2, e.symm⟩
    · cases e
  · cases e
theorem ans_eq : Ans2 z (rEqD z.K) eqO := by
  intro m h H a b x y Q A ra rb w
  unfold eqO at w
  cases e : eqA h a b with
  | none => rw [e] at w; exact (Wn.of_none w).elim
  | some k =>
    rw [e] at w
    obtain ⟨d, e', h1, h2, h3, h4, rfl⟩ := eqA_ok A ra rb e
    exact ⟨d, e', h1, h2, h3, h4, Wn.val w A (by simp [RelA])⟩
theorem ans_ne : Ans2 z (rNeD z.K) neO := by
  intro m h H a b x y Q A ra rb w
  unfold neO at w
  cases e : eqA h a b with
  | none => rw [e] at w; exact (Wn.of_none w).elim
  | some k =>
    rw [e] at w
    obtain ⟨d, e', h1, h2, h3, h4, rfl⟩ := eqA_ok A ra rb e
    exact ⟨d, e', h1, h2, h3, h4, Wn.val w A (by simp [RelA])⟩
theorem ans_lt : Ans2 z (rI0 fun i j => .bl (decide (i < j))) ltA := by
  intro m h H a b x y Q A ra rb w
  cases a <;> cases b <;> try exact (Wn.of_none w).elim
  rename_i i j
  cases rint ra; cases rint rb
  exact ⟨i, j, rfl, rfl, Wn.val w A (by simp [RelA])⟩
theorem ans_le : Ans2 z (rI0 fun i j => .bl (decide (i ≤ j))) leA := by
  intro m h H a b x y Q A ra rb w
  cases a <;> cases b <;> try exact (Wn.of_none w).elim
  rename_i i j
  cases rint ra; cases rint rb
  exact ⟨i, j, rfl, rfl, Wn.val w A (by simp [RelA])⟩
theorem ans_gt : Ans2 z (rI0 fun i j => .bl (decide (j < i))) gtA := by
  intro m h H a b x y Q A ra rb w
  cases a <;> cases b <;> try exact (Wn.of_none w).elim
  rename_i i j
  cases rint ra; cases rint rb
  exact ⟨i, j, rfl, rfl, Wn.val w A (by simp [RelA])⟩
theorem ans_ge : Ans2 z (rI0 fun i j => .bl (decide (j ≤ i))) geA := by
  intro m h H a b x y Q A ra rb w
  cases a <;> cases b <;> try exact (Wn.of_none w).elim
  rename_i i j
  cases rint ra; cases rint rb
  exact ⟨i, j, rfl, rfl, Wn.val w A (by simp [RelA])⟩
theorem isNon_of {a : AV} {x : V} (r : RelA z m H a x) : decide (x = .non) = isNonA a := by
  cases a with
  | non => rw [rnon r]; rfl
  | bl b => rw [rbl r]; rfl
  | int b => rw [rint r]; rfl
  | str b => rw [rstr r]; rfl
  | tup b => obtain ⟨a, vs, rfl, _⟩ := rtup r; rfl
  | scr b => simp only [RelA] at r; obtain ⟨a, rfl, _⟩ := r; rfl
  | tab b c => simp only [RelA] at r; obtain ⟨a, rfl, _⟩ := r; rfl
  | ref b => obtain ⟨a, rfl, _⟩ := rref r; rfl
theorem ans_is : Ans2 z (fun x y H Q => y = .non ∧ Q (.bl (decide (x = .non))) H) isA := by
  intro m h H a b x y Q A ra rb w
  cases b <;> try (cases a <;> exact (Wn.of_none w).elim)
  cases rnon rb
  rw [isNon_of ra]
  have w' : Wn z (RelA z) m H (some (.bl (isNonA a), h)) Q := by cases a <;> exact w
  exact ⟨rfl, Wn.val w' A (by simp [RelA])⟩
theorem ans_isnot : Ans2 z (fun x y H Q => y = .non ∧ Q (.bl (!decide (x = .non))) H) isNotA := by
  intro m h H a b x y Q A ra rb w
  cases b <;> try (cases a <;> exact (Wn.of_none w).elim)
  cases rnon rb
  rw [isNon_of ra]
  have w' : Wn z (RelA z) m H (some (.bl (!isNonA a), h)) Q := by cases a <;> exact w
  exact ⟨rfl, Wn.val w' A (by simp [RelA])⟩

/-! ### in -/
def rInTD (K : PySem.W.Frag) (neg : Bool) : R2 := fun x y H Q => ∃ d ds, Dp K H x d ∧ Dp K H y (.tuple ds) ∧ SeqAt.shaped d = true ∧ SeqAt.shaped (.tuple ds) = true ∧ Q (.bl (if neg then !ds.any fun z => PyData.eqv z d else ds.any fun z => PyData.eqv z d)) H
theorem op_inTD {X : Cx} (hu : X.A.units + 65 < cLine) : OpR X (compareOp .In) (rInTD X.K false) := by
  intro pins s σ H x y v u Q I rx ry h
  obtain ⟨d, ds, hd, he, sd, se, q⟩ := h
  obtain ⟨as, r1⟩ := Dp.reads I d x v hd rx
  obtain ⟨bs, r2⟩ := Dp.reads I (.tuple ds) y u he ry
  exact SeqAt.in_tuple_reads r2 r1 (SeqAt.canLay_of_shaped se) (SeqAt.canLay_of_shaped sd) (room_in_shaped sd hu) ⟨.bl _, H, I, rfl, q⟩
theorem op_notInTD {X : Cx} (hu : X.A.units + 65 < cLine) : OpR X (compareOp .NotIn) (rInTD X.K true) := by
  intro pins s σ H x y v u Q I rx ry h
  obtain ⟨d, ds, hd, he, sd, se, q⟩ := h
  obtain ⟨as, r1⟩ := Dp.reads I d x v hd rx
  obtain ⟨bs, r2⟩ := Dp.reads I (.tuple ds) y u he ry
  exact SeqAt.notIn_tuple_reads r2 r1 (SeqAt.canLay_of_shaped se) (SeqAt.canLay_of_shaped sd) (room_in_shaped sd hu) ⟨.bl _, H, I, rfl, q⟩

def rInKD (X : Cx) (neg : Bool) : R2 := fun x y H Q => ∃ (t : Str) (d : Addr) (es : Array DictEntry) (n : Nat) (r : Option Value), KDict X.K X.w d es n ∧ x = .str t ∧ y = .ref d ∧ PySem.W.nsIn X.K d t = some r ∧ Q (.bl (if neg then !r.isSome else r.isSome)) H
theorem op_inKD {X : Cx} : OpR X (compareOp .In) (rInKD X false) := by
  intro pins s σ H x y v u Q I rx ry h
  obtain ⟨t, d, es, n, r, D, rfl, rfl, e, q⟩ := h
  exact op_in_kd D pins s σ H _ _ v u Q I rx ry ⟨t, r, rfl, rfl, e, q⟩
theorem op_notInKD {X : Cx} : OpR X (compareOp .NotIn) (rInKD X true) := by
  intro pins s σ H x y v u Q I rx ry h
  obtain ⟨t, d, es, n, r, D, rfl, rfl, e, q⟩ := h
  exact op_notIn_kd D pins s σ H _ _ v u Q I rx ry ⟨t, r, rfl, rfl, e, q⟩
def rInDk (neg : Bool) : R2 := fun x y H Q => ∃ a o, y = .ref a ∧ DGet H a x o ∧ Q (.bl (if neg then !o.isSome else o.isSome)) H
theorem op_inDk {X : Cx} (hu : X.A.units + 1 < cLine) : OpR X (compareOp .In) (rInDk false) := by
  intro pins s σ H x y v u Q I rx ry h
  obtain ⟨a, o, rfl, g, q⟩ := h
  cases ry
  exact d_in hu I g rx fun s3 I3 => ⟨.bl o.isSome, H, I3, rfl, q⟩
theorem op_notInDk {X : Cx} (hu : X.A.units + 1 < cLine) : OpR X (compareOp .NotIn) (rInDk true) := by
  intro pins s σ H x y v u Q I rx ry h
  obtain ⟨a, o, rfl, g, q⟩ := h
  cases ry
  exact d_notIn hu I g rx fun s3 I3 => ⟨.bl (!o.isSome), H, I3, rfl, q⟩
def rInLD (K : PySem.W.Frag) (neg : Bool) : R2 := fun x y H Q => if neg then rNotInD K x y H Q else rInD K x y H Q
def rInS (neg : Bool) : R2 := fun x y H Q => ∃ i j, x = .str i ∧ y = .str j ∧ Q (.bl (if neg then !(!(Builtin.Str.occurrences j i 0 j.length 1).isEmpty) else (!(Builtin.Str.occurrences j i 0 j.length 1).isEmpty))) H
def rInA (X : Cx) (neg : Bool) : R2 := fun x y H Q => rInTD X.K neg x y H Q ∨ rInLD X.K neg x y H Q ∨ rInKD X neg x y H Q ∨ rInDk neg x y H Q ∨ rInS neg x y H Q
theorem op_inA {X : Cx} (hu : X.A.units + 65 < cLine) : OpR X (compareOp .In) (rInA X false) :=
  (op_inTD hu).or ((op_inD hu : OpR X (compareOp .In) (rInLD X.K false)).or (op_inKD.or ((op_inDk (by omega)).or (op_in_str : OpR X (compareOp .In) (rInS false)))))
theorem op_notInA {X : Cx} (hu : X.A.units + 65 < cLine) : OpR X (compareOp .NotIn) (rInA X true) :=
  (op_notInTD hu).or ((op_notInD hu : OpR X (compareOp .NotIn) (rInLD X.K true)).or (op_notInKD.or ((op_notInDk (by omega)).or (op_notin_str : OpR X (compareOp .NotIn) (rInS true)))))
/-- a table's look-up -/
theorem isStr_of (t : Str) (x : Str) (tk : Tok) : (Value.str x tk).isStr t = decide (x = t) := by
  show (x == t) = _
  by_cases e : x = t
  · simp [e]
  · simp [e]
theorem tab_ns {a : Addr} {kvs : List (Str × Key)} (T : TabOk z a kvs) (t : Str) : ∃ r, PySem.W.nsIn z.K a t = some r ∧ RelO ((kvs.lookup t).map kV) r := by
  obtain ⟨es, n, D, P⟩ := T
  unfold PySem.W.nsIn
  rw [D.at_]
  dsimp only
  generalize es.toList = l at P
  have nr : l.any (·.refKey) = false := by
    rw [List.any_eq_false]
    induction P with
    | nil => intro e he; cases he
    | cons r _ ih =>
      intro e he
      rcases List.mem_cons.mp he with rfl | he
      · obtain ⟨⟨t, q⟩, _⟩ := r
        simp [DictEntry.refKey, q]
      · exact ih e he
  rw [nr]
  induction P with
  | nil => exact ⟨none, rfl, True.intro⟩
  | @cons p e l1 l2 r P ih =>
    obtain ⟨⟨tk, q⟩, rv⟩ := r
    have hq : e.key.isStr t = decide (p.1 = t) := by rw [q]; exact isStr_of t p.1 tk
    by_cases c : p.1 = t
    · have e1 : (t == p.1) = true := by simp [c]
      rw [List.find?_cons_of_pos (by rw [hq]; simp [c])]
      refine ⟨some e.val, rfl, ?_⟩
      rw [show List.lookup t (p :: l1) = some p.2 by obtain ⟨p1, p2⟩ := p; simp only [List.lookup_cons]; rw [show (t == p1) = true from e1]]
      exact rv
    · have e1 : (t == p.1) = false := by simpa using fun q => c q.symm
      rw [List.find?_cons_of_neg (by rw [hq]; simp [c])]
      rw [show List.lookup t (p :: l1) = List.lookup t l1 by obtain ⟨p1, p2⟩ := p; simp only [List.lookup_cons]; rw [show (t == p1) = false from e1]]
      refine ih ?_
      rw [List.any_cons] at nr
      exact (Bool.or_eq_false_iff.mp nr).2
theorem dval_rel {kvs : List (Key × AV)} {vs : List (Key × V)} (r : RelP z m H kvs vs) (k : Key) : (dval kvs k = none ∧ valV vs k = none) ∨ ∃ x v, dval kvs k = some x ∧ valV vs k = some v ∧ RelA z m H x v := by
  induction r with
  | nil => exact .inl ⟨rfl, rfl⟩
  | @cons p q l1 l2 r _ ih =>
    unfold dval valV at ih ⊢
    by_cases c : p.1 = k
    · refine .inr ⟨p.2, q.2, ?_, ?_, r.2⟩
      · simp [List.find?_cons, c]
      · simp [List.find?_cons, ← r.1, c]
    · simp only [List.find?_cons, ← r.1, c, decide_false]
      exact ih
theorem key_rel {a : AV} {x : V} {k : Key} (r : RelA z m H a x) (e : keyOf a = some k) : x = kV k := by
  cases a with
  | int i => simp only [keyOf, Option.some.injEq] at e; subst e; exact rint r
  | str i => simp only [keyOf, Option.some.injEq] at e; subst e; exact rstr r
  | _ => cases e
theorem ans_inG {X : Cx} (hz : z = zOf X) (neg : Bool) : Ans2 z (rInA X neg) (fun x y h => (inA h x y).map fun b => (.bl (if neg then !b else b), h)) := by
  subst hz
  intro m h H a b x y Q A ra rb w
  dsimp only at w
  cases e : inA h a b with
  | none => rw [e] at w; exact (Wn.of_none w).elim
  | some k =>
    rw [e] at w
    have q : Q (.bl (if neg then !k else k)) H := Wn.val w A (by simp [RelA])
    clear w
    have seqs : ∀ {d : Option PyData} (hd : ∀ d', d = some d' → Dp X.K H x d') {e' : Option PyData} (he : ∀ d', e' = some d' → Dp X.K H y d'), SB.inD d e' = some k → rInTD X.K neg x y H Q ∨ rInLD X.K neg x y H Q := by
      intro d hd e' he e
      unfold SB.inD at e
      split at e
      · rename_i d ds
        split at e
        · rename_i c
          simp only [Option.some.injEq] at e
          subst e
          refine .inr ?_
          unfold rInLD
          cases neg
          · exact ⟨d, ds, hd d rfl, he _ rfl, c.1, c.2, q⟩
          · exact ⟨d, ds, hd d rfl, he _ rfl, c.1, c.2, q⟩
        · cases e
      · rename_i d ds
        split at e
        · rename_i c
          simp only [Option.some.injEq] at e
          subst e
          exact .inl ⟨d, ds, hd d rfl, he _ rfl, c.1, c.2, q⟩
        · cases e
      · cases e
    have hda : ∀ d', toH h 6 a = some d' → Dp X.K H x d' := fun d' e' => toH_dp A 6 a d' x e' ra
    have hdb : ∀ d', toH h 6 b = some d' → Dp X.K H y d' := fun d' e' => toH_dp A 6 b d' y e' rb
    unfold inA at e
    split at e
    · rcases seqs hda hdb e with z | z
      · exact .inl z
      · exact .inr (.inl z)
    · rename_i t tn kvs
      simp only [Option.some.injEq] at e
      subst e
      simp only [RelA] at rb
      obtain ⟨p, rfl, T⟩ := rb
      cases rstr ra
      obtain ⟨r, e1, r1⟩ := tab_ns T t
      obtain ⟨es, n, D, _⟩ := T
      have q1 := r1.isSome_eq
      rw [Option.isSome_map] at q1
      rw [q1] at q
      exact .inr (.inr (.inl ⟨t, p, es, n, r, D, rfl, rfl, e1, q⟩))
    · rename_i t1 t2
      simp only [Option.some.injEq] at e
      subst e
      cases rstr ra; cases rstr rb
      exact .inr (.inr (.inr (.inr ⟨t1, t2, rfl, rfl, q⟩)))
    · rename_i n _ _
      split at e
      · rcases seqs hda hdb e with z | z
        · exact .inl z
        · exact .inr (.inl z)
      · rename_i kvs e0
        rw [Option.map_eq_some_iff] at e
        obtain ⟨key, e1, e2⟩ := e
        obtain ⟨p, rfl, hp⟩ := rref rb
        obtain ⟨vs, q1, r1⟩ := A.dic e0 hp
        cases key_rel ra e1
        refine .inr (.inr (.inr (.inl ⟨p, valV vs key, rfl, DGet.k q1, ?_⟩)))
        have : (valV vs key).isSome = k := by
          rw [← e2]
          rcases dval_rel r1 key with ⟨h1, h2⟩ | ⟨_, _, h1, h2, _⟩
          · rw [h1, h2]; rfl
          · rw [h1, h2]; rfl
        rw [this]
        exact q
      · cases e
    · cases e
theorem ans_in {X : Cx} (hz : z = zOf X) : Ans2 z (rInA X false) inO := ans_inG hz false
theorem ans_nin {X : Cx} (hz : z = zOf X) : Ans2 z (rInA X true) ninO := ans_inG hz true
end
end SB

/-! Built-ins. -/
namespace SB
open PySem PySem.Spec PyProof.Rows L2
abbrev RC := List V → Hp → VK → Prop
/-- a built-in of one value -/
def Ans1 (z : Zt) (r : RC) (g : AV → AH → Rs AV) : Prop :=
  ∀ (m : List Addr) (h : AH) (H : Hp) (a : AV) (x : V) (Q : VK), Abs z m h H → RelA z m H a x → Wn z (RelA z) m H (g a h) Q → r [x] H Q
section
variable {z : Zt} {m : List Addr} {h : AH} {H : Hp} {Q : VK}
theorem rscr {ns : List Int} {x : V} (r : RelA z m H (.scr ns) x) : ∃ a, x = .ref a ∧ SqL z.K H a (ns.map V.int) := by
  simp only [RelA] at r
  obtain ⟨a, e, s⟩ := r
  exact ⟨a, e, s.seq⟩
/-! ints of a list -/
theorem intsOf_rel : ∀ {xs : List AV} {vs : List V} {ns : List Int}, intsOf xs = some ns → RelAs z m H xs vs → vs = ns.map V.int
  | [], vs, ns, e, r => by
    simp only [intsOf, Option.some.injEq] at e; subst e
    simpa [RelAs] using r
  | x :: xs, vs, ns, e, r => by
    simp only [RelAs] at r
    obtain ⟨v, w, rfl, h2, h3⟩ := r
    cases x <;> simp only [intsOf] at e <;> try cases e
    rw [Option.map_eq_some_iff] at e
    obtain ⟨ns', e1, rfl⟩ := e
    rw [rint h2, intsOf_rel e1 h3]
    rfl
theorem blsOf_rel : ∀ {xs : List AV} {vs : List V} {ns : List Bool}, blsOf xs = some ns → RelAs z m H xs vs → vs = ns.map V.bl
  | [], vs, ns, e, r => by
    simp only [blsOf, Option.some.injEq] at e; subst e
    simpa [RelAs] using r
  | x :: xs, vs, ns, e, r => by
    simp only [RelAs] at r
    obtain ⟨v, w, rfl, h2, h3⟩ := r
    cases x <;> simp only [blsOf] at e <;> try cases e
    rw [Option.map_eq_some_iff] at e
    obtain ⟨ns', e1, rfl⟩ := e
    rw [rbl h2, blsOf_rel e1 h3]
    rfl
theorem isort_perm (ns : List Int) : (isort ns).Perm ns := List.mergeSort_perm ns _
theorem isort_sorted (ns : List Int) : (isort ns).Pairwise (· ≤ ·) := by
  have h := List.pairwise_mergeSort (le := fun a b : Int => decide (a ≤ b)) (by intro a b c; simp only [decide_eq_true_eq]; omega) (by intro a b; simp only [Bool.or_eq_true, decide_eq_true_eq]; omega) ns
  refine h.imp fun {a b} h => ?_
  simpa using h
theorem isort_uniq {ns ms : List Int} (p : ms.Perm ns) (s : ms.Pairwise (· ≤ ·)) : ms = isort ns :=
  List.Perm.eq_of_pairwise (le := fun a b : Int => a ≤ b) (fun a b _ _ h1 h2 => Int.le_antisymm h1 h2) s (isort_sorted ns) (p.trans (isort_perm ns).symm)

def rLenA (K : PySem.W.Frag) : RC := fun xs H Q => (∃ x n, xs = [x] ∧ LenV K x H n ∧ Q (.int n) H)
theorem ans_len : Ans1 z (rLenA z.K) lenA := by
  intro m h H a x Q A r w
  cases a <;> try exact (Wn.of_none w).elim
  · rename_i t
    cases rstr r
    simp only [lenA] at w
    split at w
    · exact ⟨_, t.length, rfl, ⟨by rw [sz]; assumption, rfl⟩, Wn.val w A (by simp [RelA])⟩
    · exact (Wn.of_none w).elim
  · rename_i xs
    obtain ⟨a, vs, rfl, h1, h2⟩ := rtup r
    exact ⟨_, vs.length, rfl, .inr ⟨vs, h1, rfl⟩, Wn.val w A (by rw [h2.len]; simp [RelA])⟩
  · rename_i ns
    obtain ⟨a, rfl, s⟩ := rscr r
    exact ⟨_, (ns.map V.int).length, rfl, .inl ⟨_, s, rfl⟩, Wn.val w A (by simp [RelA])⟩
  · rename_i n
    obtain ⟨a, rfl, ha⟩ := rref r
    simp only [lenA] at w
    split at w
    · rename_i xs e
      obtain ⟨vs, q1, r1⟩ := A.lst e ha
      exact ⟨_, vs.length, rfl, .inl ⟨vs, SqL.of q1, rfl⟩, Wn.val w A (by rw [r1.len]; simp [RelA])⟩
    · exact (Wn.of_none w).elim
def rIntA : RC := fun xs H Q => (∃ i, xs = [.int i] ∧ Q (.int i) H) ∨ ∃ k, xs = [.bl k] ∧ Q (.int (if k then 1 else 0)) H
theorem ans_int : Ans1 z rIntA intA := by
  intro m h H a x Q A r w
  cases a <;> try exact (Wn.of_none w).elim
  · rename_i k
    cases rbl r
    exact .inr ⟨k, rfl, Wn.val w A (by simp [RelA])⟩
  · rename_i i
    cases rint r
    exact .inl ⟨i, rfl, Wn.val w A (by simp [RelA])⟩
def rAbsA : RC := fun xs H Q => ∃ i, xs = [.int i] ∧ Q (.int (if i < 0 then -i else i)) H
theorem ans_abs : Ans1 z rAbsA absA := by
  intro m h H a x Q A r w
  cases a <;> try exact (Wn.of_none w).elim
  rename_i i
  cases rint r
  exact ⟨i, rfl, Wn.val w A (by simp [RelA])⟩
def rListA (K : PySem.W.Frag) : RC := fun xs H Q => ∃ p ys, xs = [.ref p] ∧ (SqL K H p ys ∨ SqT K H p ys) ∧ ∀ l, H l = none → Q (.ref l) (upd H l (.lst ys))
theorem ans_list : Ans1 z (rListA z.K) listA := by
  intro m h H a x Q A r w
  cases a <;> try exact (Wn.of_none w).elim
  · rename_i xs
    obtain ⟨a, vs, rfl, h1, h2⟩ := rtup r
    exact ⟨a, vs, rfl, .inr h1, fun l hl => Wn.newLst w A h2 hl⟩
  · rename_i ns
    obtain ⟨a, rfl, s⟩ := rscr r
    exact ⟨a, _, rfl, .inl s, fun l hl => Wn.newLst w A (RelAs.ints ns) hl⟩
  · rename_i n
    obtain ⟨a, rfl, ha⟩ := rref r
    simp only [listA] at w
    split at w
    · rename_i xs e
      obtain ⟨vs, q1, r1⟩ := A.lst e ha
      exact ⟨a, vs, rfl, .inl (SqL.of q1), fun l hl => Wn.newLst w A r1 hl⟩
    · exact (Wn.of_none w).elim
def rTupleA (K : PySem.W.Frag) : RC := fun xs H Q => ∃ p ys, xs = [.ref p] ∧ ((SqL K H p ys ∧ ∀ l, H l = none → Q (.ref l) (upd H l (.tup ys))) ∨ (SqT K H p ys ∧ Q (.ref p) H))
theorem ans_tuple : Ans1 z (rTupleA z.K) tupleA := by
  intro m h H a x Q A r w
  cases a <;> try exact (Wn.of_none w).elim
  · rename_i xs
    obtain ⟨a, vs, rfl, h1, h2⟩ := rtup r
    exact ⟨a, vs, rfl, .inr ⟨h1, Wn.val w A (rtup' h1 h2)⟩⟩
  · rename_i n
    obtain ⟨a, rfl, ha⟩ := rref r
    simp only [tupleA] at w
    split at w
    · rename_i xs e
      obtain ⟨vs, q1, r1⟩ := A.lst e ha
      exact ⟨a, vs, rfl, .inl ⟨SqL.of q1, fun l hl => Wn.newTup w A r1 hl⟩⟩
    · exact (Wn.of_none w).elim
def rSortedA (K : PySem.W.Frag) : RC := fun xs H Q => rSortedI K xs H Q ∨ (∃ (a : Addr) (kvs : List (Key × V)) (ks : List Int), xs = [.ref a] ∧ Rd H a (.dK kvs) ∧ kvs.map (·.1) = ks.map Sum.inl ∧ ks.length < 64 ∧
    ∀ (ys : List Int) (p : Addr), ys.Perm ks → ys.Pairwise (· ≤ ·) → H p = none → Q (.ref p) (upd H p (.lst (ys.map V.int))))
theorem keys_ints : ∀ {kvs : List (Key × AV)} {ns : List Int}, intsOf (kvs.map fun kv => keyV kv.1) = some ns → kvs.map (·.1) = ns.map Sum.inl
  | [], ns, e => by
    simp only [List.map_nil, intsOf, Option.some.injEq] at e; subst e; rfl
  | (k, v) :: r, ns, e => by
    cases k with
    | inr x => simp only [List.map_cons, keyV, intsOf] at e; cases e
    | inl i =>
      simp only [List.map_cons, keyV, intsOf, Option.map_eq_some_iff] at e
      obtain ⟨ns', e1, rfl⟩ := e
      rw [List.map_cons, List.map_cons, keys_ints e1]
theorem RelP.keys {κ : Type} {xs : List (κ × AV)} {vs : List (κ × V)} (h : RelP z m H xs vs) : xs.map (·.1) = vs.map (·.1) := by
  induction h with
  | nil => rfl
  | cons r _ ih => rw [List.map_cons, List.map_cons, r.1, ih]
theorem RelP.len {κ : Type} {xs : List (κ × AV)} {vs : List (κ × V)} (h : RelP z m H xs vs) : xs.length = vs.length := Paired.length h
theorem ans_sorted : Ans1 z (rSortedA z.K) sortedA := by
  intro m h H a x Q A r w
  cases a <;> try exact (Wn.of_none w).elim
  rename_i n
  obtain ⟨a, rfl, ha⟩ := rref r
  simp only [sortedA] at w
  split at w
  · rename_i xs e
    obtain ⟨vs, q1, r1⟩ := A.lst e ha
    cases e1 : intsOf xs with
    | none => rw [e1] at w; exact (Wn.of_none w).elim
    | some ns =>
      rw [e1] at w
      have ev := intsOf_rel e1 r1
      subst ev
      refine .inl ⟨a, ns, rfl, SqL.of q1, fun ms p h1 h2 hp => ?_⟩
      rw [isort_uniq h1 h2]
      exact Wn.newLst w A (RelAs.ints _) hp
  · rename_i kvs e
    obtain ⟨vs, q1, r1⟩ := A.dic e ha
    split at w
    · rename_i hl
      cases e1 : intsOf (kvs.map fun kv => keyV kv.1) with
      | none => rw [e1] at w; exact (Wn.of_none w).elim
      | some ns =>
        rw [e1] at w
        have ek := keys_ints e1
        have e3 : ns.length = kvs.length := by have := congrArg List.length ek; simpa using this.symm
        refine .inr ⟨a, vs, ns, rfl, .inl q1, by rw [← r1.keys]; exact ek, by omega, fun ms p h1 h2 hp => ?_⟩
        rw [isort_uniq h1 h2]
        exact Wn.newLst w A (RelAs.ints _) hp
    · exact (Wn.of_none w).elim
  · exact (Wn.of_none w).elim
theorem ans_all : Ans1 z (rAll z.K) allA := by
  intro m h H a x Q A r w
  cases a <;> try exact (Wn.of_none w).elim
  rename_i n
  obtain ⟨a, rfl, ha⟩ := rref r
  simp only [allA] at w
  split at w
  · rename_i xs e
    obtain ⟨vs, q1, r1⟩ := A.lst e ha
    cases e1 : blsOf xs with
    | none => rw [e1] at w; exact (Wn.of_none w).elim
    | some ns =>
      rw [e1] at w
      have ev := blsOf_rel e1 r1
      subst ev
      exact ⟨a, ns, rfl, SqL.of q1, Wn.val w A (by simp [RelA])⟩
  · exact (Wn.of_none w).elim
theorem ans_sum : Ans1 z (rSum z.K) sumA := by
  intro m h H a x Q A r w
  cases a <;> try exact (Wn.of_none w).elim
  rename_i n
  obtain ⟨a, rfl, ha⟩ := rref r
  simp only [sumA] at w
  split at w
  · rename_i xs e
    obtain ⟨vs, q1, r1⟩ := A.lst e ha
    cases e1 : intsOf xs with
    | none => rw [e1] at w; exact (Wn.of_none w).elim
    | some ns =>
      rw [e1] at w
      have ev := intsOf_rel e1 r1
      subst ev
      exact ⟨a, ns, rfl, SqL.of q1, Wn.val w A (by simp [RelA])⟩
  · exact (Wn.of_none w).elim
theorem max_uniq {ns : List Int} {m m' : Int} (e : ns.max? = some m) (h1 : m' ∈ ns) (h2 : ∀ y ∈ ns, y ≤ m') : m' = m := by
  rw [List.max?_eq_some_iff] at e
  have a := e.2 m' h1
  have b := h2 m e.1
  omega
theorem min_uniq {ns : List Int} {m m' : Int} (e : ns.min? = some m) (h1 : m' ∈ ns) (h2 : ∀ y ∈ ns, m' ≤ y) : m' = m := by
  rw [List.min?_eq_some_iff] at e
  have a := e.2 m' h1
  have b := h2 m e.1
  omega
theorem ans_maxL : Ans1 z (rMax z.K) maxLA := by
  intro m h H a x Q A r w
  cases a <;> try exact (Wn.of_none w).elim
  rename_i n
  obtain ⟨a, rfl, ha⟩ := rref r
  simp only [maxLA] at w
  split at w
  · rename_i xs e
    obtain ⟨vs, q1, r1⟩ := A.lst e ha
    cases e1 : intsOf xs with
    | none => rw [e1] at w; exact (Wn.of_none w).elim
    | some ns =>
      rw [e1] at w
      have ev := intsOf_rel e1 r1
      subst ev
      cases e2 : ns.max? with
      | none => simp only [Option.bind_some, e2] at w; exact (Wn.of_none w).elim
      | some k =>
        simp only [Option.bind_some, e2] at w
        refine ⟨a, ns, rfl, SqL.of q1, ?_, fun k' h1 h2 => ?_⟩
        · cases ns with
          | nil => simp at e2
          | cons _ _ => simp
        · rw [max_uniq e2 h1 h2]
          exact Wn.val w A (by simp [RelA])
  · exact (Wn.of_none w).elim
theorem ans_minL : Ans1 z (rMin z.K) minLA := by
  intro m h H a x Q A r w
  cases a <;> try exact (Wn.of_none w).elim
  rename_i n
  obtain ⟨a, rfl, ha⟩ := rref r
  simp only [minLA] at w
  split at w
  · rename_i xs e
    obtain ⟨vs, q1, r1⟩ := A.lst e ha
    cases e1 : intsOf xs with
    | none => rw [e1] at w; exact (Wn.of_none w).elim
    | some ns =>
      rw [e1] at w
      have ev := intsOf_rel e1 r1
      subst ev
      cases e2 : ns.min? with
      | none => simp only [Option.bind_some, e2] at w; exact (Wn.of_none w).elim
      | some k =>
        simp only [Option.bind_some, e2] at w
        refine ⟨a, ns, rfl, SqL.of q1, ?_, fun k' h1 h2 => ?_⟩
        · cases ns with
          | nil => simp at e2
          | cons _ _ => simp
        · rw [min_uniq e2 h1 h2]
          exact Wn.val w A (by simp [RelA])
  · exact (Wn.of_none w).elim
/-! two ints -/
def AnsB (z : Zt) (r : RC) (g : AV → AV → AH → Rs AV) : Prop :=
  ∀ (m : List Addr) (h : AH) (H : Hp) (a b : AV) (x y : V) (Q : VK), Abs z m h H → RelA z m H a x → RelA z m H b y → Wn z (RelA z) m H (g a b h) Q → r [x, y] H Q
def rMax2 : RC := fun xs H Q => ∃ i j, xs = [.int i, .int j] ∧ Q (.int (if j > i then j else i)) H
def rMin2 : RC := fun xs H Q => ∃ i j, xs = [.int i, .int j] ∧ Q (.int (if j < i then j else i)) H
theorem ans_max2 : AnsB z rMax2 max2A := by
  intro m h H a b x y Q A ra rb w
  cases a <;> cases b <;> try exact (Wn.of_none w).elim
  rename_i i j
  cases rint ra; cases rint rb
  exact ⟨i, j, rfl, Wn.val w A (by simp [RelA])⟩
theorem ans_min2 : AnsB z rMin2 min2A := by
  intro m h H a b x y Q A ra rb w
  cases a <;> cases b <;> try exact (Wn.of_none w).elim
  rename_i i j
  cases rint ra; cases rint rb
  exact ⟨i, j, rfl, Wn.val w A (by simp [RelA])⟩
/-! isinstance -/
def tys : List String := ["int", "bool", "str", "tuple", "list"]
theorem kit_known : (tys.all fun t => ["NoneType", "bool", "int", "str", "tuple", "list", "dict"].all fun a => decide (kitB a t = some (isTy a t))) = true := by decide +kernel
theorem kit_at {a t : String} (ht : t ∈ tys) (ha : a ∈ ["NoneType", "bool", "int", "str", "tuple", "list", "dict"]) {K : PySem.W.Frag} : PySem.W.kitOne K (.type a) (.type t) = some (isTy a t) :=
  kit_ty (of_decide_eq_true (List.all_eq_true.mp (List.all_eq_true.mp kit_known t ht) a ha))
theorem tyA_ok (A : Abs z m h H) {a : AV} {x : V} {t : String} (r : RelA z m H a x) (e : tyA h a = some t) : TyX z.K H x (.type t) ∧ t ∈ ["NoneType", "bool", "int", "str", "tuple", "list", "dict"] := by
  cases a with
  | non => cases rnon r; simp only [tyA, Option.some.injEq] at e; subst e; exact ⟨.base .non, by simp⟩
  | bl b => cases rbl r; simp only [tyA, Option.some.injEq] at e; subst e; exact ⟨.base (.bl _), by simp⟩
  | int b => cases rint r; simp only [tyA, Option.some.injEq] at e; subst e; exact ⟨.base (.int _), by simp⟩
  | str b => cases rstr r; simp only [tyA, Option.some.injEq] at e; subst e; exact ⟨.base (.str _), by simp⟩
  | tup xs =>
    obtain ⟨a, vs, rfl, h1, _⟩ := rtup r
    simp only [tyA, Option.some.injEq] at e; subst e
    refine ⟨?_, by simp⟩
    rcases h1 with (h1 | ⟨o, h1⟩) | ⟨o, its, n, h1, h2, _⟩
    · exact .base (.tup h1)
    · exact .fTuple h1
    · exact .kTuple h1 h2
  | scr _ => cases e
  | tab _ _ => cases e
  | ref n =>
    obtain ⟨a, rfl, ha⟩ := rref r
    simp only [tyA] at e
    split at e
    · rename_i xs e0
      obtain ⟨vs, q1, _⟩ := A.lst e0 ha
      simp only [Option.some.injEq] at e; subst e
      exact ⟨.base (.lst q1), by simp⟩
    · rename_i xs e0
      obtain ⟨vs, q1, _⟩ := A.dic e0 ha
      simp only [Option.some.injEq] at e; subst e
      exact ⟨.base (.dK q1), by simp⟩
    · cases e
theorem ans_isinst {t : String} (ht : t ∈ tys) {m : List Addr} {h : AH} {H : Hp} {a : AV} {x : V} {Q : VK} (A : Abs z m h H) (r : RelA z m H a x) (w : Wn z (RelA z) m H (isinstA t a h) Q) : rIsi z.K [x, .ty t] H Q := by
  unfold isinstA at w
  cases e : tyA h a with
  | none => rw [e] at w; exact (Wn.of_none w).elim
  | some u =>
    rw [e] at w
    obtain ⟨h1, h2⟩ := tyA_ok A r e
    exact ⟨x, .ty t, .type u, .type t, _, rfl, .ty t, h1, kit_at ht h2, Wn.val w A (by simp [RelA])⟩
end
end SB

/-! Expressions. -/
namespace SB
open PySem PySem.Spec PyProof.Rows L2

def tE (z : Zt) (O : Ora) (f : FE) : TE := fun σ H Q => ∃ m h as, Abs z m h H ∧ RelE z m H as σ ∧ Wn z (RelA z) m H (f O as h) Q
def tL (z : Zt) (O : Ora) (f : FA) : TA := fun σ H Q => ∃ m h as, Abs z m h H ∧ RelE z m H as σ ∧ Wn z (RelAs z) m H (f O as h) Q
def tst (r : Rs AV) : Rs Bool := bnd r fun v h => match v with
  | .bl b => some (b, h)
  | _ => none
def tT (z : Zt) (O : Ora) (f : FE) : TT := fun σ H Q => ∃ m h as, Abs z m h H ∧ RelE z m H as σ ∧ Wn z (fun _ _ (a b : Bool) => a = b) m H (tst (f O as h)) Q
abbrev DE (X : Cx) (O : Ora) (e : Expr) (f : FE) : Prop := PE X e (tE (zOf X) O f)
abbrev DT (X : Cx) (O : Ora) (e : Expr) (f : FE) : Prop := PT X e (tT (zOf X) O f)
abbrev DA (X : Cx) (O : Ora) (es : List Expr) (f : FA) : Prop := PA X es (tL (zOf X) O f)
theorem PE.imp {X : Cx} {e : Expr} {t t' : TE} (h : PE X e t) (k : ∀ σ H Q, t' σ H Q → t σ H Q) : PE X e t' := ⟨fun pins s σ H Q I w => h.run pins s σ H Q I (k σ H Q w)⟩
theorem PT.imp {X : Cx} {e : Expr} {t t' : TT} (h : PT X e t) (k : ∀ σ H Q, t' σ H Q → t σ H Q) : PT X e t' := ⟨fun pins s σ H Q I w => h.run pins s σ H Q I (k σ H Q w)⟩
theorem PW.imp {X : Cx} {e : Expr} {t t' : TT} (h : PW X e t) (k : ∀ σ H Q, t' σ H Q → t σ H Q) : PW X e t' := ⟨fun wh pins s σ H Q I w => h.run wh pins s σ H Q I (k σ H Q w)⟩
theorem PA.imp {X : Cx} {e : List Expr} {t t' : TA} (h : PA X e t) (k : ∀ σ H Q, t' σ H Q → t σ H Q) : PA X e t' := ⟨fun pos pins s σ H Q I w => h.run pos pins s σ H Q I (k σ H Q w)⟩
theorem PS.imp {X : Cx} {e : Stmt} {t t' : TS} (h : PS X e t) (k : ∀ σ H Q, t' σ H Q → t σ H Q) : PS X e t' := ⟨fun pins s σ H Q I w => h.run pins s σ H Q I (k Q σ H w)⟩

section
variable {z : Zt} {O : Ora} {m : List Addr} {h : AH} {H : Hp} {as : En} {σ : L2.St}
/-- first a, then the rest -/
theorem tE.then_ {α β : Type} {rel : List Addr → Hp → α → β → Prop} {a : FE} {k : AV → AH → Rs α} {Q : β → Hp → Prop} {R : VK} (A : Abs z m h H) (S : RelE z m H as σ)
    (w : Wn z rel m H (bnd (a O as h) k) Q) (hk : ∀ x h1 m1 H1 v, Ext m H m1 H1 → Abs z m1 h1 H1 → RelE z m1 H1 as σ → RelA z m1 H1 x v → Wn z rel m1 H1 (k x h1) Q → R v H1) : tE z O a σ H R :=
  ⟨m, h, as, A, S, Wn.bnd w fun x h1 _ w1 m1 H1 v e A1 r => hk x h1 m1 H1 v e A1 (S.ext e) r (w1.mono e)⟩
theorem tL.then_ {α β : Type} {rel : List Addr → Hp → α → β → Prop} {a : FA} {k : List AV → AH → Rs α} {Q : β → Hp → Prop} {R : List V → Hp → Prop} (A : Abs z m h H) (S : RelE z m H as σ)
    (w : Wn z rel m H (bnd (a O as h) k) Q) (hk : ∀ x h1 m1 H1 v, Ext m H m1 H1 → Abs z m1 h1 H1 → RelE z m1 H1 as σ → RelAs z m1 H1 x v → Wn z rel m1 H1 (k x h1) Q → R v H1) : tL z O a σ H R :=
  ⟨m, h, as, A, S, Wn.bnd w fun x h1 _ w1 m1 H1 v e A1 r => hk x h1 m1 H1 v e A1 (S.ext e) r (w1.mono e)⟩
theorem tT.then_ {α β : Type} {rel : List Addr → Hp → α → β → Prop} {a : FE} {t e : AH → Rs α} {Q : β → Hp → Prop} {R : Bool → Hp → Prop} (A : Abs z m h H) (S : RelE z m H as σ)
    (w : Wn z rel m H (bnd (a O as h) fun x h => ifB x (t h) (e h)) Q) (hk : ∀ (b : Bool) h1 m1 H1, Ext m H m1 H1 → Abs z m1 h1 H1 → RelE z m1 H1 as σ → Wn z rel m1 H1 (if b = true then t h1 else e h1) Q → R b H1) : tT z O a σ H R := by
  refine ⟨m, h, as, A, S, ?_⟩
  unfold tst
  cases q : a O as h with
  | none => rw [q] at w; exact (Wn.of_none w).elim
  | some p =>
    obtain ⟨x, h1⟩ := p
    rw [q] at w
    simp only [bnd_some] at w ⊢
    cases x with
    | bl b =>
      rw [ifB_bl] at w
      exact ⟨b, h1, rfl, fun m1 H1 b' e A1 r => by subst r; exact hk b h1 m1 H1 e A1 (S.ext e) (w.mono e)⟩
    | _ => exact (Wn.of_none w).elim
end

section
variable {X : Cx} {O : Ora} {a b c e : Expr} {fa fb fc f : FE} {pos : Pos} {es : List Expr} {g : FA}
theorem de_none : DE X O e fNone := ⟨fun _ _ _ _ _ _ ⟨_, _, _, _, _, w⟩ => (Wn.of_none w).elim⟩
theorem dt_none : DT X O e fNone := ⟨fun _ _ _ _ _ _ ⟨_, _, _, _, _, w⟩ => (Wn.of_none (show Wn _ _ _ _ (tst none) _ from w)).elim⟩
theorem de_var {i : Nat} {x : Str} (hN : X.N[i]? = some x) (hv : Vis X.env.scope x) (hd : (x == ("__debug__" : Str)) = false) (hcd : (x == ("__classdict__" : Str)) = false) : DE X O (.Name x pos) (fVar i) := by
  refine PE.imp (pe_var hN hv hd hcd) fun σ H Q ⟨m, h, as, A, S, w⟩ => ?_
  unfold fVar at w
  split at w
  · rename_i v q
    obtain ⟨u, e1, r⟩ := S.get q
    exact ⟨u, e1, Wn.val w A r⟩
  · exact (Wn.of_none w).elim
theorem de_int {i : Int} {j : Nat} : DE X O (.Constant (.int i) j pos) (fC (.int i)) := PE.imp pe_int fun σ H Q ⟨m, h, as, A, S, w⟩ => Wn.val w A (by simp [RelA])
theorem de_bl {i : Bool} {j : Nat} : DE X O (.Constant (.bool i) j pos) (fC (.bl i)) := PE.imp pe_bl fun σ H Q ⟨m, h, as, A, S, w⟩ => Wn.val w A (by simp [RelA])
theorem de_str {i : Str} {j : Nat} : DE X O (.Constant (.str i) j pos) (fC (.str i)) := PE.imp pe_str fun σ H Q ⟨m, h, as, A, S, w⟩ => Wn.val w A (by simp [RelA])
theorem de_non {j : Nat} : DE X O (.Constant .none j pos) (fC .non) := PE.imp pe_non fun σ H Q ⟨m, h, as, A, S, w⟩ => Wn.val w A (by simp [RelA])
/-- a constant of the top -/
theorem de_glob {x : Str} {v : V} {u : Value} {av : AV} (hg : Gl X x) (hm : X.mg x = some u) (r : RelV v u) (hd : (x == ("__debug__" : Str)) = false) (ra : ∀ m H, RelA (zOf X) m H av v) : DE X O (.Name x pos) (fC av) :=
  PE.imp (pe_glob hg hm r hd) fun σ H Q ⟨m, h, as, A, S, w⟩ => Wn.val w A (ra m H)
theorem de_op {op : Operator} {r : R2} {g : AV → AV → AH → Rs AV} (ho : OpR X (binaryOp op) r) (hr : Ans2 (zOf X) r g) (ha : DE X O a fa) (hb : DE X O b fb) : DE X O (.BinOp a op b pos) (fBin g fa fb) := by
  refine PE.imp (pe_op ho ha hb) fun σ H Q ⟨m, h, as, A, S, w⟩ => ?_
  exact tE.then_ A S w fun x h1 m1 H1 v e1 A1 S1 r1 w1 => tE.then_ A1 S1 w1 fun y h2 m2 H2 u e2 A2 S2 r2 w2 => hr m2 h2 H2 x y v u Q A2 (r1.ext e2 _ _) r2 w2
theorem fOp_eq (op : Operator) (a b : FE) : fOp op a b = fBin (opA op) a b := rfl
theorem fCmp_eq (op : CmpOp) (a b : FE) : fCmp op a b = fBin (cmpA op) a b := rfl
theorem de_cmp {op : CmpOp} {r : R2} {g : AV → AV → AH → Rs AV} (ho : OpR X (compareOp op) r) (hr : Ans2 (zOf X) r g) (ha : DE X O a fa) (hb : DE X O b fb) (hm : behindInMarks op b = false) : DE X O (.Compare a [op] [b] pos) (fBin g fa fb) := by
  refine PE.imp (pe_cmpR ho ha hb hm) fun σ H Q ⟨m, h, as, A, S, w⟩ => ?_
  exact tE.then_ A S w fun x h1 m1 H1 v e1 A1 S1 r1 w1 => tE.then_ A1 S1 w1 fun y h2 m2 H2 u e2 A2 S2 r2 w2 => hr m2 h2 H2 x y v u Q A2 (r1.ext e2 _ _) r2 w2
/-- a value as a test -/
theorem tst_val {z : Zt} {m : List Addr} {H : Hp} {x : AV} {h : AH} {Q : Bool → Hp → Prop} (w : Wn z (fun _ _ (a b : Bool) => a = b) m H (tst (some (x, h))) Q) :
    ∃ b, x = .bl b ∧ Wn z (RelA z) m H (some (x, h)) fun v H' => ∃ k, v = .bl k ∧ Q k H' := by
  cases x with
  | bl b => exact ⟨b, rfl, .bl b, h, rfl, fun m' H' v e A r => ⟨b, rbl r, w.of_some m' H' b e A rfl⟩⟩
  | _ => exact (Wn.of_none (show Wn z _ m H (none : Rs Bool) Q from w)).elim
theorem tst_wn {z : Zt} {m : List Addr} {H : Hp} {r : Rs AV} {Q : Bool → Hp → Prop} (w : Wn z (fun _ _ (a b : Bool) => a = b) m H (tst r) Q) : Wn z (RelA z) m H r fun v H' => ∃ k, v = .bl k ∧ Q k H' := by
  cases r with
  | none => exact (Wn.of_none (show Wn z _ m H (none : Rs Bool) Q from w)).elim
  | some p =>
    obtain ⟨x, h⟩ := p
    exact (tst_val w).choose_spec.2
theorem dt_cmp {op : CmpOp} {r : R2} {g : AV → AV → AH → Rs AV} (ho : OpR X (compareOp op) r) (hr : Ans2 (zOf X) r g) (ha : DE X O a fa) (hb : DE X O b fb) (hm : behindInMarks op b = false) : DT X O (.Compare a [op] [b] pos) (fBin g fa fb) := by
  refine PT.imp (pt_cmpR ho ha hb hm) fun σ H Q ⟨m, h, as, A, S, w⟩ => ?_
  exact tE.then_ A S (tst_wn w) fun x h1 m1 H1 v e1 A1 S1 r1 w1 => tE.then_ A1 S1 w1 fun y h2 m2 H2 u e2 A2 S2 r2 w2 => hr m2 h2 H2 x y v u _ A2 (r1.ext e2 _ _) r2 w2
/-- a plain expression as a test -/
theorem dt_val (h : DE X O e f) (he : ∀ whole, isTrue e X.env whole = (do let v ← whole; standAt e.pos; holding [v] (truthy v))) : DT X O e f :=
  PT.imp (pt_val h he) fun σ H Q ⟨m, h, as, A, S, w⟩ => ⟨m, h, as, A, S, tst_wn w⟩
theorem ifB_false {α : Type} {x : AV} {t e : Rs α} {r : α × AH} (q : ifB x t e = some r) : ∃ b, x = .bl b := by
  cases x with
  | bl b => exact ⟨b, rfl⟩
  | _ => cases q
theorem Wn.ifB {z : Zt} {α β : Type} {rel : List Addr → Hp → α → β → Prop} {m : List Addr} {H : Hp} {x : AV} {t e : Rs α} {Q : β → Hp → Prop} (w : Wn z rel m H (SB.ifB x t e) Q) : ∃ b, x = .bl b ∧ Wn z rel m H (if b = true then t else e) Q := by
  cases x with
  | bl b => rw [ifB_bl] at w; exact ⟨b, rfl, w⟩
  | _ => exact (Wn.of_none w).elim
theorem de_chain {op op' : CmpOp} {r r' : R2} (ho : OpR X (compareOp op) r) (ho' : OpR X (compareOp op') r') (hr : Ans2 (zOf X) r (cmpA op)) (hr' : Ans2 (zOf X) r' (cmpA op')) (ha : DE X O a fa) (hb : DE X O b fb) (hc : DE X O c fc)
    (hm : lastMarks [op, op'] [b, c] = false) : DE X O (.Compare a [op, op'] [b, c] pos) (fChain op op' fa fb fc) := by
  refine PE.imp (pe_chain ho ho' ha hb hc hm) fun σ H Q ⟨m, h, as, A, S, w⟩ => ?_
  refine tE.then_ A S w fun x h1 m1 H1 v e1 A1 S1 r1 w1 => tE.then_ A1 S1 w1 fun y h2 m2 H2 u e2 A2 S2 r2 w2 => hr m2 h2 H2 x y v u _ A2 (r1.ext e2 _ _) r2 ?_
  refine Wn.bnd w2 fun t h3 _ w3 m3 H3 tv e3 A3 r3 => ?_
  obtain ⟨k, rfl, w3⟩ := Wn.ifB w3
  refine ⟨k, rbl r3, ?_⟩
  cases k with
  | false =>
    simp only [Bool.false_eq_true, if_false] at w3 ⊢
    exact Wn.val (w3.mono e3) A3 (by simp [RelA])
  | true =>
    simp only [if_true] at w3 ⊢
    exact tE.then_ A3 (S2.ext e3) (w3.mono e3) fun q h4 m4 H4 qv e4 A4 S4 r4 w4 => hr' m4 h4 H4 y q u qv Q A4 (r2.ext (e3.trans e4) _ _) r4 w4
theorem dt_chain {op op' : CmpOp} {r r' : R2} (ho : OpR X (compareOp op) r) (ho' : OpR X (compareOp op') r') (hr : Ans2 (zOf X) r (cmpA op)) (hr' : Ans2 (zOf X) r' (cmpA op')) (ha : DE X O a fa) (hb : DE X O b fb) (hc : DE X O c fc)
    (hm : lastMarks [op, op'] [b, c] = false) : DT X O (.Compare a [op, op'] [b, c] pos) (fChain op op' fa fb fc) := by
  refine PT.imp (pt_chain ho ho' ha hb hc hm) fun σ H Q ⟨m, h, as, A, S, w⟩ => ?_
  refine tE.then_ A S (tst_wn w) fun x h1 m1 H1 v e1 A1 S1 r1 w1 => tE.then_ A1 S1 w1 fun y h2 m2 H2 u e2 A2 S2 r2 w2 => hr m2 h2 H2 x y v u _ A2 (r1.ext e2 _ _) r2 ?_
  refine Wn.bnd w2 fun t h3 _ w3 m3 H3 tv e3 A3 r3 => ?_
  obtain ⟨k, rfl, w3⟩ := Wn.ifB w3
  refine ⟨k, rbl r3, ?_⟩
  cases k with
  | false =>
    simp only [Bool.false_eq_true, if_false] at w3 ⊢
    exact Wn.val (w3.mono e3) A3 (by simp [RelA])
  | true =>
    simp only [if_true] at w3 ⊢
    exact tE.then_ A3 (S2.ext e3) (w3.mono e3) fun q h4 m4 H4 qv e4 A4 S4 r4 w4 => hr' m4 h4 H4 y q u qv _ A4 (r2.ext (e3.trans e4) _ _) r4 w4

/-! ### and, or, not, if -/
theorem de_and (ha : DE X O a fa) (hb : DE X O (.BoolOp .And (b :: es) pos) fb) : DE X O (.BoolOp .And (a :: b :: es) pos) (fAnd fa fb) := by
  refine PE.imp (pe_and ha hb) fun σ H Q ⟨m, h, as, A, S, w⟩ => ?_
  refine tE.then_ A S w fun x h1 m1 H1 v e1 A1 S1 r1 w1 => ?_
  obtain ⟨k, rfl, w2⟩ := Wn.ifB w1
  refine ⟨k, rbl r1, ?_⟩
  cases k with
  | false =>
    simp only [Bool.false_eq_true, if_false] at w2 ⊢
    exact Wn.val w2 A1 (by simp [RelA])
  | true =>
    simp only [if_true] at w2 ⊢
    exact ⟨m1, h1, as, A1, S1, w2⟩
theorem de_or (ha : DE X O a fa) (hb : DE X O (.BoolOp .Or (b :: es) pos) fb) : DE X O (.BoolOp .Or (a :: b :: es) pos) (fOr fa fb) := by
  refine PE.imp (pe_or ha hb) fun σ H Q ⟨m, h, as, A, S, w⟩ => ?_
  refine tE.then_ A S w fun x h1 m1 H1 v e1 A1 S1 r1 w1 => ?_
  obtain ⟨k, rfl, w2⟩ := Wn.ifB w1
  refine ⟨k, rbl r1, ?_⟩
  cases k with
  | false =>
    simp only [Bool.false_eq_true, if_false] at w2 ⊢
    exact ⟨m1, h1, as, A1, S1, w2⟩
  | true =>
    simp only [if_true] at w2 ⊢
    exact Wn.val w2 A1 (by simp [RelA])
abbrev DW (X : Cx) (O : Ora) (e : Expr) (f : FE) : Prop := PW X e (tT (zOf X) O f)
theorem dw_none : DW X O e fNone := ⟨fun _ _ _ _ _ _ _ ⟨_, _, _, _, _, w⟩ => (Wn.of_none (show Wn _ _ _ _ (tst none) _ from w)).elim⟩
theorem tst_ifB {x : AV} {t e : Rs AV} : tst (SB.ifB x t e) = SB.ifB x (tst t) (tst e) := by
  cases x with
  | bl b => cases b <;> rfl
  | _ => rfl
theorem tst_bnd {α : Type} {r : Rs α} {k : α → AH → Rs AV} : tst (bnd r k) = bnd r fun a h => tst (k a h) := by
  cases r <;> rfl
theorem dw_and (ha : DT X O a fa) (hb : DW X O (.BoolOp .And (b :: es) pos) fb) : DW X O (.BoolOp .And (a :: b :: es) pos) (fAnd fa fb) := by
  refine PW.imp (pw_and ha hb) fun σ H Q ⟨m, h, as, A, S, w⟩ => ?_
  unfold fAnd at w
  rw [tst_bnd] at w
  simp only [tst_ifB] at w
  refine tT.then_ A S w fun k h1 m1 H1 e1 A1 S1 w1 => ?_
  cases k with
  | false =>
    simp only [Bool.false_eq_true, if_false] at w1 ⊢
    exact w1.of_some m1 H1 false (Ext.refl _ _) A1 rfl
  | true =>
    simp only [if_true] at w1 ⊢
    exact ⟨m1, h1, as, A1, S1, w1⟩
theorem dw_or (ha : DT X O a fa) (hb : DW X O (.BoolOp .Or (b :: es) pos) fb) : DW X O (.BoolOp .Or (a :: b :: es) pos) (fOr fa fb) := by
  refine PW.imp (pw_or ha hb) fun σ H Q ⟨m, h, as, A, S, w⟩ => ?_
  unfold fOr at w
  rw [tst_bnd] at w
  simp only [tst_ifB] at w
  refine tT.then_ A S w fun k h1 m1 H1 e1 A1 S1 w1 => ?_
  cases k with
  | false =>
    simp only [Bool.false_eq_true, if_false] at w1 ⊢
    exact ⟨m1, h1, as, A1, S1, w1⟩
  | true =>
    simp only [if_true] at w1 ⊢
    exact w1.of_some m1 H1 true (Ext.refl _ _) A1 rfl
theorem dt_not (ha : DT X O a fa) : DT X O (.UnaryOp .Not a pos) (fUn notA fa) := by
  refine PT.imp (pt_not ha) fun σ H Q ⟨m, h, as, A, S, w⟩ => ?_
  refine ⟨m, h, as, A, S, ?_⟩
  unfold fUn at w
  cases q : fa O as h with
  | none => rw [q] at w; exact (Wn.of_none (show Wn _ _ _ _ (none : Rs Bool) _ from w)).elim
  | some p =>
    obtain ⟨x, h1⟩ := p
    rw [q] at w
    cases x with
    | bl b => exact ⟨b, h1, rfl, fun m' H' k e A' r => by subst r; exact w.of_some m' H' (!b) e A' rfl⟩
    | _ => exact (Wn.of_none (show Wn _ _ _ _ (none : Rs Bool) _ from w)).elim
theorem de_not (ha : DE X O a fa) : DE X O (.UnaryOp .Not a pos) (fUn notA fa) := by
  refine PE.imp (pe_not ha) fun σ H Q ⟨m, h, as, A, S, w⟩ => ?_
  refine tE.then_ A S w fun x h1 m1 H1 v e1 A1 S1 r1 w1 => ?_
  cases x with
  | bl b => exact ⟨b, rbl r1, Wn.val w1 A1 (by simp [RelA])⟩
  | _ => exact (Wn.of_none w1).elim
theorem de_neg (ha : DE X O a fa) : DE X O (.UnaryOp .USub a pos) (fUn negA fa) := by
  refine PE.imp (pe_un un_neg ha) fun σ H Q ⟨m, h, as, A, S, w⟩ => ?_
  refine tE.then_ A S w fun x h1 m1 H1 v e1 A1 S1 r1 w1 => ?_
  cases x with
  | int b => exact ⟨b, rint r1, Wn.val w1 A1 (by simp [RelA])⟩
  | _ => exact (Wn.of_none w1).elim
theorem de_if (hc : DT X O c fc) (ha : DE X O a fa) (hb : DE X O b fb) : DE X O (.IfExp c a b pos) (fIf fc fa fb) := by
  refine PE.imp (pe_ifExp hc ha hb) fun σ H Q ⟨m, h, as, A, S, w⟩ => ?_
  refine tT.then_ A S w fun k h1 m1 H1 e1 A1 S1 w1 => ?_
  cases k with
  | false =>
    simp only [Bool.false_eq_true, if_false] at w1 ⊢
    exact ⟨m1, h1, as, A1, S1, w1⟩
  | true =>
    simp only [if_true] at w1 ⊢
    exact ⟨m1, h1, as, A1, S1, w1⟩

/-! ### argument lists, displays -/
theorem da_nil : DA X O [] aNil := PA.imp pa_nil fun σ H Q ⟨m, h, as, A, S, w⟩ => w.of_some m H [] (Ext.refl _ _) A .nil
theorem da_cons (ha : DE X O a fa) (hr : DA X O es g) (hs : starEach (a :: es) X.env = (false, eval a X.env) :: starEach es X.env) : DA X O (a :: es) (aCons fa g) := by
  refine PA.imp (pa_cons ha hr hs) fun σ H Q ⟨m, h, as, A, S, w⟩ => ?_
  refine tE.then_ A S w fun x h1 m1 H1 v e1 A1 S1 r1 w1 => tL.then_ A1 S1 w1 fun xs h2 m2 H2 vs e2 A2 S2 r2 w2 => ?_
  exact w2.of_some m2 H2 (v :: vs) (Ext.refl _ _) A2 (.cons (r1.ext e2 _ _) r2)
theorem de_tup {k : Nat} (h : DA X O es g) : DE X O (.Tuple es k pos) (fun O σ h => bnd (g O σ h) fun xs h => if xs.length ≤ lim then some (.tup xs, h) else none) := by
  refine PE.imp (pe_tup h) fun σ H Q ⟨m, h, as, A, S, w⟩ => ?_
  refine tL.then_ A S w fun xs h1 m1 H1 vs e1 A1 S1 r1 w1 => ?_
  split at w1
  · rename_i hl
    exact ⟨by rw [sz, ← r1.len]; exact hl, fun p hp => Wn.newTup w1 A1 r1 hp⟩
  · exact (Wn.of_none w1).elim
theorem de_lst (h : DA X O es g) : DE X O (.List es pos) (fun O σ h => bnd (g O σ h) fun xs h => if xs.length ≤ lim then alloc (.lst xs) h else none) := by
  refine PE.imp (pe_lst h) fun σ H Q ⟨m, h, as, A, S, w⟩ => ?_
  refine tL.then_ A S w fun xs h1 m1 H1 vs e1 A1 S1 r1 w1 => ?_
  split at w1
  · rename_i hl
    exact ⟨by rw [sz, ← r1.len]; exact hl, fun p hp => Wn.newLst w1 A1 r1 hp⟩
  · exact (Wn.of_none w1).elim
end
end SB

/-! Items, slices, fields, calls. -/
namespace SB
open PySem PySem.Spec PyProof.Rows L2

section
variable {X : Cx} {O : Ora} {a b c e o : Expr} {fa fb fc f : FE} {pos apos p : Pos} {es : List Expr} {g : FA}
/-! ### items -/
def rIxDk : R2 := fun x y H Q => ∃ a v, x = .ref a ∧ DGet H a y (some v) ∧ Q v H
theorem ix_dict (hu : X.A.units + 1 < cLine) : IxR X rIxDk := by
  intro value slice pins s σ H x y v u Q I rx ry h hs
  obtain ⟨a, w, rfl, g, q⟩ := h
  cases rx
  exact tail_any (dict_typeIs I g) PySem.F.slot_dict_getitem.lookup (d_getItem hu I g ry fun w' s3 I3 rw' => ⟨w, H, I3, rw', q⟩) hs
def rIxKD (X : Cx) : R2 := fun x y H Q => ∃ (d : Addr) (es : Array DictEntry) (n : Nat) (z : Str) (u0 : Value) (v0 : V), KDict X.K X.w d es n ∧ x = .ref d ∧ y = .str z ∧ PySem.W.nsIn X.K d z = some (some u0) ∧ RelV v0 u0 ∧ Q v0 H
theorem ix_kd : IxR X (rIxKD X) := by
  intro value slice pins s σ H x y v u Q I rx ry h hs
  obtain ⟨d, es, n, t, u0, v0, D, rfl, rfl, e, r, q⟩ := h
  have h1 := op_item_kd D pins s σ H (.ref d) (.str t) v u Q I rx ry ⟨t, u0, v0, rfl, rfl, e, r, q⟩
  cases rx
  exact tail_any (kd_type D I) PySem.F.slot_dict_getitem.lookup h1 hs
def rIxA (X : Cx) : R2 := fun x y H Q => rIx X.K x y H Q ∨ rIxDk x y H Q ∨ rIxKD X x y H Q
theorem ix_all (hu : X.A.units + 1 < cLine) : IxR X (rIxA X) := ix_seq.or ((ix_dict hu).or ix_kd)
theorem atI_rel {z : Zt} {m : List Addr} {H : Hp} {xs : List AV} {vs : List V} {i : Int} {v : AV} (r : RelAs z m H xs vs) (e : atI xs i = some v) : ∃ w, atI vs i = some w ∧ RelA z m H v w := by
  unfold atI at e ⊢
  rw [← r.len]
  cases q : ixN xs.length i with
  | none => rw [q] at e; cases e
  | some j =>
    rw [q] at e
    exact r.get e
theorem ans_ix : Ans2 (zOf X) (rIxA X) ixA := by
  intro m h H a b x y Q A ra rb w
  cases a with
  | tup xs =>
    cases b <;> try exact (Wn.of_none w).elim
    rename_i i
    obtain ⟨p, vs, rfl, h1, h2⟩ := rtup ra
    cases rint rb
    simp only [ixA] at w
    cases e : atI xs i with
    | none => rw [e] at w; exact (Wn.of_none w).elim
    | some v =>
      rw [e] at w
      obtain ⟨u, e1, r⟩ := atI_rel h2 e
      exact .inl (.inr (.inl ⟨p, vs, i, u, rfl, rfl, h1, e1, Wn.val w A r⟩))
  | str t =>
    cases b <;> try exact (Wn.of_none w).elim
    rename_i i
    cases rstr ra; cases rint rb
    simp only [ixA] at w
    split at w
    · rename_i hl
      cases e : atI t.cps.toList i with
      | none => rw [e] at w; exact (Wn.of_none w).elim
      | some v =>
        rw [e] at w
        exact .inl (.inr (.inr ⟨t, i, v, rfl, rfl, by rw [sz]; exact hl, e, Wn.val w A (by simp [RelA])⟩))
    · exact (Wn.of_none w).elim
  | tab tn kvs =>
    cases b <;> try exact (Wn.of_none w).elim
    rename_i t
    cases rstr rb
    simp only [RelA] at ra
    obtain ⟨p, rfl, T⟩ := ra
    simp only [ixA] at w
    cases e : kvs.lookup t with
    | none => rw [e] at w; exact (Wn.of_none w).elim
    | some k =>
      rw [e] at w
      obtain ⟨r, e1, r1⟩ := tab_ns T t
      obtain ⟨es, n, D, _⟩ := T
      rw [e] at r1
      obtain ⟨u, rfl, ru⟩ := RelO.some_of r1
      exact .inr (.inr ⟨p, es, n, t, u, kV k, D, rfl, rfl, e1, ru, Wn.val w A (by cases k <;> simp [RelA, keyV, kV])⟩)
  | ref n =>
    obtain ⟨p, rfl, hp⟩ := rref ra
    simp only [ixA] at w
    split at w
    · rename_i xs i e0
      obtain ⟨vs, q1, r1⟩ := A.lst e0 hp
      cases rint rb
      cases e : atI xs i with
      | none => rw [e] at w; exact (Wn.of_none w).elim
      | some v =>
        rw [e] at w
        obtain ⟨u, e1, r⟩ := atI_rel r1 e
        exact .inl (.inl ⟨p, vs, i, u, rfl, rfl, SqL.of q1, e1, Wn.val w A r⟩)
    · rename_i b' _ _ kvs e0
      obtain ⟨vs, q1, r1⟩ := A.dic e0 hp
      cases e : keyOf b' with
      | none => rw [e] at w; exact (Wn.of_none w).elim
      | some k =>
        rw [e] at w
        simp only [Option.bind_some] at w
        cases key_rel rb e
        rcases dval_rel r1 k with ⟨h1, h2⟩ | ⟨v, u, h1, h2, r⟩
        · rw [h1] at w; exact (Wn.of_none w).elim
        · rw [h1] at w
          exact .inr (.inl ⟨p, u, rfl, by rw [← h2]; exact DGet.k q1, Wn.val w A r⟩)
    · exact (Wn.of_none w).elim
  | _ => exact (Wn.of_none w).elim
theorem de_ix (hu : X.A.units + 1 < cLine) (ha : DE X O a fa) (hb : DE X O b fb) (hs : PlainIx b) : DE X O (.Subscript a b pos) (fBin ixA fa fb) := by
  refine PE.imp (pe_ix (ix_all hu) ha hb hs) fun σ H Q ⟨m, h, as, A, S, w⟩ => ?_
  exact tE.then_ A S w fun x h1 m1 H1 v e1 A1 S1 r1 w1 => tE.then_ A1 S1 w1 fun y h2 m2 H2 u e2 A2 S2 r2 w2 => ans_ix m2 h2 H2 x y v u Q A2 (r1.ext e2 _ _) r2 w2

/-! ### slices -/
def tP (z : Zt) (O : Ora) (f : Option FE) : TO := fun σ H Q => ∃ m h as, Abs z m h H ∧ RelE z m H as σ ∧ Wn z (fun _ _ (l u : Option Int) => l = u) m H (pOpt f O as h) Q
theorem dp_none : PO X none (tP (zOf X) O none) := by
  refine ⟨fun pins s σ H Q I ⟨m, h, as, A, S, w⟩ => ?_⟩
  exact po_none.run pins s σ H Q I (w.of_some m H none (Ext.refl _ _) A rfl)
theorem dp_some (ha : DE X O a fa) : PO X (some a) (tP (zOf X) O (some fa)) := by
  refine ⟨fun pins s σ H Q I ⟨m, h, as, A, S, w⟩ => ?_⟩
  refine (po_some ha).run pins s σ H Q I (tE.then_ A S w fun x h1 m1 H1 v e1 A1 S1 r1 w1 => ?_)
  cases x with
  | int i => exact ⟨i, rint r1, w1.of_some m1 H1 (some i) (Ext.refl _ _) A1 rfl⟩
  | _ => exact (Wn.of_none w1).elim
theorem tP.then_ {z : Zt} {m : List Addr} {h : AH} {H : Hp} {as : En} {σ : L2.St} {α β : Type} {rel : List Addr → Hp → α → β → Prop} {a : Option FE} {k : Option Int → AH → Rs α} {Q : β → Hp → Prop} {R : Option Int → Hp → Prop} (A : Abs z m h H) (S : RelE z m H as σ)
    (w : Wn z rel m H (bnd (pOpt a O as h) k) Q) (hk : ∀ x h1 m1 H1, Ext m H m1 H1 → Abs z m1 h1 H1 → RelE z m1 H1 as σ → Wn z rel m1 H1 (k x h1) Q → R x H1) : tP z O a σ H R :=
  ⟨m, h, as, A, S, Wn.bnd w fun x h1 _ w1 m1 H1 v e A1 r => by subst r; exact hk x h1 m1 H1 e A1 (S.ext e) (w1.mono e)⟩
def rSlAll (K : PySem.W.Frag) : V → Option Int → Option Int → Hp → VK → Prop := fun x lo hi H Q => rSlA K x lo hi H Q ∨ rSlL K x lo hi H Q
theorem sl_all : SlR X (rSlAll X.K) := sl_tupA.or sl_list
theorem cutA_rel {z : Zt} {m : List Addr} {H : Hp} {xs : List AV} {vs : List V} (r : RelAs z m H xs vs) (lo hi : Option Int) : RelAs z m H (cutA xs lo hi) (cutV vs lo hi) := by
  unfold cutA cutV
  rw [← r.len]
  exact (r.drop _).take _
theorem de_slice {lo hi : Option Expr} {fl fh : Option FE} {p2 : Pos} (ha : DE X O a fa) (hl : PO X lo (tP (zOf X) O fl)) (hh : PO X hi (tP (zOf X) O fh)) : DE X O (.Subscript a (.Slice lo hi none p2) pos) (fSlice fa fl fh) := by
  refine PE.imp (pe_slice sl_all ha hl hh) fun σ H Q ⟨m, h, as, A, S, w⟩ => ?_
  refine tE.then_ A S w fun x h1 m1 H1 v e1 A1 S1 r1 w1 => tP.then_ A1 S1 w1 fun l h2 m2 H2 e2 A2 S2 w2 => tP.then_ A2 S2 w2 fun u h3 m3 H3 e3 A3 S3 w3 => ?_
  have r := RelA.ext (e2.trans e3) _ _ r1
  cases x with
  | tup xs =>
    obtain ⟨p, vs, rfl, q1, q2⟩ := rtup r
    refine .inl ⟨p, vs, rfl, q1, fun hc => ?_, fun _ p hp => Wn.newTup w3 A3 (cutA_rel q2 l u) hp⟩
    have : cutA xs l u = xs := by
      unfold cutA
      rw [q2.len, hc.1, hc.2, List.drop_zero, Nat.sub_zero, ← q2.len, List.take_length]
    simp only [sliceA, this] at w3
    exact Wn.val w3 A3 (rtup' q1 q2)
  | ref n =>
    obtain ⟨p, rfl, hp⟩ := rref r
    simp only [sliceA] at w3
    split at w3
    · rename_i xs e0
      obtain ⟨vs, q1, r1⟩ := A3.lst e0 hp
      exact .inr ⟨p, vs, rfl, SqL.of q1, fun p hp => Wn.newLst w3 A3 (cutA_rel r1 l u) hp⟩
    · exact (Wn.of_none w3).elim
  | _ => exact (Wn.of_none w3).elim

/-! ### fields -/
theorem relP_lookup {z : Zt} {m : List Addr} {H : Hp} {fs : List (Str × AV)} {vs : List (Str × V)} (r : RelP z m H fs vs) {f : Str} {x : AV} (e : fs.lookup f = some x) : ∃ v, vs.lookup f = some v ∧ RelA z m H x v ∧ f ∈ fs.map (·.1) := by
  induction r with
  | nil => cases e
  | @cons p q l1 l2 r _ ih =>
    obtain ⟨p1, p2⟩ := p
    obtain ⟨q1, q2⟩ := q
    obtain ⟨r1, r2⟩ := r
    simp only at r1 r2
    subst r1
    simp only [List.lookup_cons] at e ⊢
    cases hb : (f == p1) with
    | true =>
      rw [hb] at e
      simp only [Option.some.injEq] at e
      subst e
      exact ⟨q2, rfl, r2, by have := beq_iff_eq.mp hb; simp [this]⟩
    | false =>
      rw [hb] at e
      obtain ⟨v, e1, e2, e3⟩ := ih e
      exact ⟨v, e1, e2, by simp only [List.map_cons, List.mem_cons]; exact .inr e3⟩
theorem relP_lookup_none {z : Zt} {m : List Addr} {H : Hp} {fs : List (Str × AV)} {vs : List (Str × V)} (r : RelP z m H fs vs) {f : Str} (e : fs.lookup f = none) : vs.lookup f = none := by
  induction r with
  | nil => rfl
  | @cons p q l1 l2 r _ ih =>
    obtain ⟨p1, p2⟩ := p
    obtain ⟨q1, q2⟩ := q
    obtain ⟨r1, r2⟩ := r
    simp only at r1 r2
    subst r1
    simp only [List.lookup_cons] at e ⊢
    cases hb : (f == p1) with
    | true => rw [hb] at e; cases e
    | false => rw [hb] at e; exact ih e
theorem de_fld {f : Str} (ha : DE X O a fa) (hb : attributeBase a f X.env (eval a X.env) = eval a X.env) : DE X O (.Attribute a f pos) (fUn (fldA f) fa) := by
  refine PE.imp (pe_fld ha hb) fun σ H Q ⟨m, h, as, A, S, w⟩ => ?_
  refine tE.then_ A S w fun x h1 m1 H1 v e1 A1 S1 r1 w1 => ?_
  cases x with
  | ref n =>
    obtain ⟨p, rfl, hp⟩ := rref r1
    simp only [fldA] at w1
    split at w1
    · rename_i C fs e0
      obtain ⟨dx, vs, q1, rr, cc, nn⟩ := A1.ins e0 hp
      cases e2 : fs.lookup f with
      | none => rw [e2] at w1; exact (Wn.of_none w1).elim
      | some y =>
        rw [e2] at w1
        obtain ⟨u, e3, r3, e4⟩ := relP_lookup rr e2
        exact ⟨p, _, dx, vs, u, rfl, q1, cc.cl, nn f e4, e3, Wn.val w1 A1 r3⟩
    · exact (Wn.of_none w1).elim
  | _ => exact (Wn.of_none w1).elim

/-! ### built-ins by name -/
theorem ans1_call {r : RC} {gg : AV → AH → Rs AV} (hr : Ans1 (zOf X) r gg) (ha : DE X O a fa) (k : ∀ {t : TA}, PA X [a] t → PE X e (tCB r t)) (hs : starEach [a] X.env = [(false, eval a X.env)]) : DE X O e (fUn gg fa) := by
  refine PE.imp (k (pa_cons ha pa_nil hs)) fun σ H Q ⟨m, h, as, A, S, w⟩ => ?_
  exact tE.then_ A S w fun x h1 m1 H1 v e1 A1 S1 r1 w1 => hr m1 h1 H1 x v Q A1 r1 w1
theorem ansB_call {r : RC} {gg : AV → AV → AH → Rs AV} (hr : AnsB (zOf X) r gg) (ha : DE X O a fa) (hb : DE X O b fb) (k : ∀ {t : TA}, PA X [a, b] t → PE X e (tCB r t)) (hs : starEach [a, b] X.env = (false, eval a X.env) :: starEach [b] X.env) (hs2 : starEach [b] X.env = [(false, eval b X.env)]) : DE X O e (fBin gg fa fb) := by
  refine PE.imp (k (pa_cons ha (pa_cons hb pa_nil hs2) hs)) fun σ H Q ⟨m, h, as, A, S, w⟩ => ?_
  exact tE.then_ A S w fun x h1 m1 H1 v e1 A1 S1 r1 w1 => tE.then_ A1 S1 w1 fun y h2 m2 H2 u e2 A2 S2 r2 w2 => hr m2 h2 H2 x y v u Q A2 (r1.ext e2 _ _) r2 w2
theorem isinst_call {t : String} (ht : t ∈ tys) (ha : DE X O a fa) (hb : PE X b (tC (.ty t))) (k : ∀ {t : TA}, PA X [a, b] t → PE X e (tCB (rIsi X.K) t)) (hs : starEach [a, b] X.env = (false, eval a X.env) :: starEach [b] X.env) (hs2 : starEach [b] X.env = [(false, eval b X.env)]) : DE X O e (fUn (isinstA t) fa) := by
  refine PE.imp (k (pa_cons ha (pa_cons hb pa_nil hs2) hs)) fun σ H Q ⟨m, h, as, A, S, w⟩ => ?_
  exact tE.then_ A S w fun x h1 m1 H1 v e1 A1 S1 r1 w1 => ans_isinst ht A1 r1 w1

/-! ### defs -/
def spA (z : Zt) (O : Ora) (n : Dn) (k : Nat) : Sp := fun vs H Q _ => vs.length = k ∧ ∃ m h as, Abs z m h H ∧ RelAs z m H as vs ∧ Wn z (RelA z) m H (O n as h) Q
/-- where a def stands -/
structure FnAt (X : Cx) (O : Ora) (n : Dn) (f : Addr) (lev : Nat) : Prop where
  ex : ∃ fd ps, FnOk X.prog X.w X.K X.mg X.base CX0 lev f fd ps (spA (zOf X) O n ps.length) ∧ Binds X.K fd ps [] ∧ ∀ vs h r, O n vs h = some r → vs.length = ps.length
/-- what is known of the calls -/
structure Cls' (X : Cx) (O : Ora) (lev : Nat) : Prop where
  room : Room (lev + 1) X.A
  fn : ∀ x, (∃ f, FnAt X O (x, none) f lev ∧ X.mg x = some (.ref f) ∧ PySem.W.keepIn X.K (.ref f) = true) ∨ ∀ vs h, O (x, none) vs h = none
  me : ∀ C m, (∃ f, FnAt X O (C, some m) f lev ∧ Meth X.K (He.ga X.K C) m f) ∨ ∀ vs h, O (C, some m) vs h = none
  mak : ∀ C, (∃ f, FnAt X O (C, some "__init__") f lev ∧ Mk X.K (He.ga X.K C) f ∧ X.mg C = some (.ref (He.ga X.K C)) ∧ ClsOk (zOf X) C) ∨ ∀ vs h, O (C, some "__init__") vs h = none
theorem wn_len {X : Cx} {n : Dn} {m : List Addr} {h : AH} {H : Hp} {xs : List AV} {vs : List V} {Q : VK} {k : Nat} (hl : ∀ vs h r, O n vs h = some r → vs.length = k) (r : RelAs (zOf X) m H xs vs) (w : Wn (zOf X) (RelA (zOf X)) m H (O n xs h) Q) : vs.length = k := by
  obtain ⟨a, h', e, _⟩ := w
  rw [← r.len]
  exact hl _ _ _ e
theorem da_bnd {r : Rs (List AV)} {O' : List AV → AH → Rs AV} (hO : ∀ vs h, O' vs h = none) : bnd r O' = none := by
  cases r with
  | none => rfl
  | some p => exact hO _ _
/-- f(e, ..) -/
theorem de_call {lev : Nat} {x : Str} (C : Cls' X O lev) (hg : Gl X x) (hd : (x == ("__debug__" : Str)) = false) (ha : DA X O (a :: es) g) (he : starEach (a :: es) X.env = (false, eval a X.env) :: starEach es X.env)
    (hpl : (backTo pos (starEach es X.env)).any (·.1) = false) : DE X O (.Call (.Name x p) (a :: es) [] pos) (fun O σ h => bnd (g O σ h) fun vs h => O (x, none) vs h) := by
  rcases C.fn x with ⟨f, ⟨fd, ps, F, B, L⟩, hm, hk⟩ | no
  · refine PE.imp (pe_call F (C.room.mono (Nat.le_succ _)) hg hm hk B .nil pass0 ha hd he hpl) fun σ H Q ⟨m, h, as, A, S, w⟩ => ?_
    refine tL.then_ A S w fun xs h1 m1 H1 vs e1 A1 S1 r1 w1 => ?_
    rw [List.append_nil]
    exact ⟨wn_len L r1 w1, m1, h1, xs, A1, r1, w1⟩
  · exact ⟨fun _ _ _ _ _ _ ⟨_, _, _, _, _, w⟩ => by dsimp only at w; rw [da_bnd no] at w; exact (Wn.of_none w).elim⟩
theorem de_call0 {lev : Nat} {x : Str} (C : Cls' X O lev) (hg : Gl X x) (hd : (x == ("__debug__" : Str)) = false) : DE X O (.Call (.Name x p) [] [] pos) (fun O σ h => bnd (aNil O σ h) fun vs h => O (x, none) vs h) := by
  rcases C.fn x with ⟨f, ⟨fd, ps, F, B, L⟩, hm, hk⟩ | no
  · refine PE.imp (pe_call0 F (C.room.mono (Nat.le_succ _)) hg hm hk B .nil pass0 hd) fun σ H Q ⟨m, h, as, A, S, w⟩ => ?_
    exact ⟨wn_len L .nil w, m, h, [], A, .nil, w⟩
  · exact ⟨fun _ _ _ _ _ _ ⟨_, _, _, _, _, w⟩ => by dsimp only at w; rw [da_bnd no] at w; exact (Wn.of_none w).elim⟩
/-- o.m(e, ..): the class is read off the object -/
theorem de_meth {lev : Nat} {mm : Str} {pl : Sem Bool} (C : Cls' X O lev) (ho : DE X O o f) (ha : DA X O (a :: es) g) (hst : starEach (a :: es) X.env = (false, eval a X.env) :: starEach es X.env) (hpl : (backTo pos (starEach es X.env)).any (·.1) = false)
    (ht : eval (.Call (.Attribute o mm apos) (a :: es) [] pos) X.env = (do
      let ov ← eval o X.env
      standAt apos.atName
      let (f, first) ← holding [ov] (getMethod ov mm pl)
      callWith pos f first (backTo pos (starEach (a :: es) X.env)) (backToKw pos (keywordEach [] X.env)))) :
    DE X O (.Call (.Attribute o mm apos) (a :: es) [] pos) (fun O σ h => bnd (f O σ h) fun x h0 => bnd (g O σ h0) fun vs h => callM O mm x vs h0 h) := by
  refine ⟨fun pins s σ H Q I ⟨m, h, as, A, S, w⟩ => ?_⟩
  refine PySem.W.methodCall_KW (pl := pl) (thn (ho.run pins s σ H _ I (tE.then_ (R := fun v H1 => ∃ x h1 m1, Abs (zOf X) m1 h1 H1 ∧ RelE (zOf X) m1 H1 as σ ∧ RelA (zOf X) m1 H1 x v ∧ Wn (zOf X) (RelA (zOf X)) m1 H1 (bnd (g O as h1) fun vs h => callM O mm x vs h1 h) Q) A S w
    fun x h1 m1 H1 v e1 A1 S1 r1 w1 => ⟨x, h1, m1, A1, S1, r1, w1⟩)) fun u s1 ⟨v, H1, I1, rx, x, h1, m1, A1, S1, r1, w1⟩ => ?_) ht
  have no : (∀ vs h, callM O mm x vs h1 h = none) → False := fun q => by rw [da_bnd q] at w1; exact Wn.of_none w1
  cases x with
  | ref n =>
    obtain ⟨q, rfl, hq⟩ := rref r1
    cases rx
    cases e0 : h1[n]? with
    | none => exact (no fun vs h => by simp only [callM, e0]).elim
    | some ob =>
      cases ob with
      | lst _ => exact (no fun vs h => by simp only [callM, e0]).elim
      | dic _ => exact (no fun vs h => by simp only [callM, e0]).elim
      | ins D fs =>
        obtain ⟨dx, vs0, q1, rr, cc, nn⟩ := A1.ins e0 hq
        cases e2 : fs.lookup mm with
        | some _ => exact (no fun vs h => by simp only [callM, e0, e2]).elim
        | none =>
          have hcm : ∀ vs h, callM O mm (.ref n) vs h1 h = O (D, some mm) (.ref n :: vs) h := fun vs h => by simp only [callM, e0, e2]
          simp only [hcm] at w1
          rcases C.me D mm with ⟨f, ⟨fd, ps, F, B, L⟩, M⟩ | nope
          · refine getmeth_ok I1 q1 cc.cl M (relP_lookup_none rr e2) ?_
            refine PySem.W.callWith_K (first := [.ref q]) (h₀ := X.base) I1.ok.mod.kin M.kp (thn (ha.run pos pins s1 σ H1 _ I1 (tL.then_ (R := fun vs H2 => spA (zOf X) O (D, some mm) ps.length (.ref q :: vs) H2 Q E0) A1 S1 w1 fun xs h2 m2 H2 vs e3 A2 S2 r2 w2 =>
              ⟨wn_len (xs := .ref n :: xs) (vs := .ref q :: vs) L (.cons (RelA.ext e3 _ _ r1) r2) w2, m2, h2, .ref n :: xs, A2, .cons (RelA.ext e3 _ _ r1) r2, w2⟩)) fun us s2 ⟨vs, H2, I2, rr2, sp2⟩ => ⟨I2.kIn, ?_⟩) hst hpl
            exact run_fn (us := .ref q :: us) (vs := .ref q :: vs) (ds := []) (dvs := []) F (C.room.mono (Nat.le_succ _)) B .nil pass0 I2 (.cons rfl rr2) (by rw [List.append_nil]; exact sp2)
          · rw [da_bnd fun _ _ => nope _ _] at w1
            exact (Wn.of_none w1).elim
  | _ => exact (no fun vs h => rfl).elim
theorem de_meth0 {lev : Nat} {mm : Str} {pl : Sem Bool} (C : Cls' X O lev) (ho : DE X O o f)
    (ht : eval (.Call (.Attribute o mm apos) [] [] pos) X.env = (do
      let ov ← eval o X.env
      standAt apos.atName
      let (f, first) ← holding [ov] (getMethod ov mm pl)
      callWith pos f first (backTo pos (starEach [] X.env)) (backToKw pos (keywordEach [] X.env)))) :
    DE X O (.Call (.Attribute o mm apos) [] [] pos) (fun O σ h => bnd (f O σ h) fun x h0 => bnd (aNil O σ h0) fun vs h => callM O mm x vs h0 h) := by
  refine ⟨fun pins s σ H Q I ⟨m, h, as, A, S, w⟩ => ?_⟩
  refine PySem.W.methodCall_KW (pl := pl) (thn (ho.run pins s σ H _ I (tE.then_ (R := fun v H1 => ∃ x h1 m1, Abs (zOf X) m1 h1 H1 ∧ RelE (zOf X) m1 H1 as σ ∧ RelA (zOf X) m1 H1 x v ∧ Wn (zOf X) (RelA (zOf X)) m1 H1 (callM O mm x [] h1 h1) Q) A S w
    fun x h1 m1 H1 v e1 A1 S1 r1 w1 => ⟨x, h1, m1, A1, S1, r1, w1⟩)) fun u s1 ⟨v, H1, I1, rx, x, h1, m1, A1, S1, r1, w1⟩ => ?_) ht
  have no : (callM O mm x [] h1 h1 = none) → False := fun q => by rw [q] at w1; exact Wn.of_none w1
  cases x with
  | ref n =>
    obtain ⟨q, rfl, hq⟩ := rref r1
    cases rx
    cases e0 : h1[n]? with
    | none => exact (no (by simp only [callM, e0])).elim
    | some ob =>
      cases ob with
      | lst _ => exact (no (by simp only [callM, e0])).elim
      | dic _ => exact (no (by simp only [callM, e0])).elim
      | ins D fs =>
        obtain ⟨dx, vs0, q1, rr, cc, nn⟩ := A1.ins e0 hq
        cases e2 : fs.lookup mm with
        | some _ => exact (no (by simp only [callM, e0, e2])).elim
        | none =>
          have hcm : callM O mm (.ref n) [] h1 h1 = O (D, some mm) [.ref n] h1 := by simp only [callM, e0, e2]
          rw [hcm] at w1
          rcases C.me D mm with ⟨f, ⟨fd, ps, F, B, L⟩, M⟩ | nope
          · refine getmeth_ok I1 q1 cc.cl M (relP_lookup_none rr e2) ?_
            have rs : RelAs (zOf X) m1 H1 [.ref n] [.ref q] := .one r1
            exact PySem.W.callWith_K0 (first := [.ref q]) I1.kIn M.kp (run_fn (us := [.ref q]) (vs := [.ref q]) (ds := []) (dvs := []) F (C.room.mono (Nat.le_succ _)) B .nil pass0 I1 (.cons rfl .nil)
              (by rw [List.append_nil]; exact ⟨wn_len L rs w1, m1, h1, [.ref n], A1, rs, w1⟩))
          · rw [nope] at w1
            exact (Wn.of_none w1).elim
  | _ => exact (no rfl).elim
/-- C(..) -/
theorem made {C : Str} {Q : VK} {ps : List Str} {m1 : List Addr} {h1 : AH} {H1 : Hp} {xs : List AV} {vs : List V} (K : ClsOk (zOf X) C) (L : ∀ vs h r, O (C, some "__init__") vs h = some r → vs.length = ps.length) (A1 : Abs (zOf X) m1 h1 H1) (r1 : RelAs (zOf X) m1 H1 xs vs)
    (w1 : Wn (zOf X) (RelA (zOf X)) m1 H1 (bnd (O (C, some "__init__") (.ref h1.length :: xs) (h1 ++ [.ins C []])) fun v h' => match v with
    | .non => some (.ref h1.length, h')
    | _ => none) Q) (x dx : Addr) (hx : H1 x = none) (hdx : H1 dx = none) (hne : dx ≠ x) :
    spA (zOf X) O (C, some "__init__") ps.length (.ref x :: (vs ++ [])) (upd (upd H1 dx (.own x)) x (.ins (He.ga X.K C) dx [])) (fun v H2 => v = .non ∧ Q (.ref x) H2) E0 := by
  rw [List.append_nil]
  have hx2 : upd H1 dx (.own x) x = none := by rw [upd_ne hne.symm]; exact hx
  have A2 : Abs (zOf X) m1 h1 (upd H1 dx (.own x)) := A1.beside hdx
  have e2 : Ext m1 H1 m1 (upd H1 dx (.own x)) := Ext.new0 hdx
  have A3 : Abs (zOf X) (m1 ++ [x]) (h1 ++ [.ins C []]) (upd (upd H1 dx (.own x)) x (.ins (He.ga X.K C) dx [])) := A2.push hx2 ⟨dx, [], upd_same, .nil, K, fun f hf => absurd hf (by simp)⟩
  have e3 : Ext m1 H1 (m1 ++ [x]) (upd (upd H1 dx (.own x)) x (.ins (He.ga X.K C) dx [])) := e2.trans (Ext.new hx2 [x])
  have hr : RelA (zOf X) (m1 ++ [x]) (upd (upd H1 dx (.own x)) x (.ins (He.ga X.K C) dx [])) (.ref h1.length) (.ref x) := rref' (by rw [← A1.len, List.getElem?_append_right (Nat.le_refl _)]; simp)
  have rs : RelAs (zOf X) (m1 ++ [x]) (upd (upd H1 dx (.own x)) x (.ins (He.ga X.K C) dx [])) (.ref h1.length :: xs) (.ref x :: vs) := .cons hr (r1.ext e3 _ _)
  have w2 : Wn (zOf X) (RelA (zOf X)) (m1 ++ [x]) (upd (upd H1 dx (.own x)) x (.ins (He.ga X.K C) dx [])) (O (C, some "__init__") (.ref h1.length :: xs) (h1 ++ [.ins C []])) (fun v H2 => v = .non ∧ Q (.ref x) H2) := by
    refine Wn.bnd (w1.mono e3) fun v h' _ w3 m' H' u e4 A4 r4 => ?_
    cases v with
    | non => exact ⟨rnon r4, (w3.mono e4).of_some m' H' (.ref x) (Ext.refl _ _) A4 (RelA.ext e4 _ _ hr)⟩
    | _ => exact (Wn.of_none w3).elim
  exact ⟨wn_len L rs w2, m1 ++ [x], _, _, A3, rs, w2⟩
theorem de_make {lev : Nat} {x : Str} (C : Cls' X O lev) (hg : Gl X x) (hd : (x == ("__debug__" : Str)) = false) (ha : DA X O (a :: es) g) (he : starEach (a :: es) X.env = (false, eval a X.env) :: starEach es X.env)
    (hpl : (backTo pos (starEach es X.env)).any (·.1) = false) : DE X O (.Call (.Name x p) (a :: es) [] pos) (fun O σ h => bnd (g O σ h) fun vs h =>
  bnd (O (x, some "__init__") (.ref h.length :: vs) (h ++ [.ins x []])) fun v h' => match v with
    | .non => some (.ref h.length, h')
    | _ => none) := by
  rcases C.mak x with ⟨f, ⟨fd, ps, F, B, L⟩, M, hm, K⟩ | no
  · refine PE.imp (pe_make M F C.room hg hm B .nil pass0 ha hd he hpl) fun σ H Q ⟨m, h, as, A, S, w⟩ => ?_
    exact tL.then_ A S w fun xs h1 m1 H1 vs e1 A1 S1 r1 w1 => fun y dx hx hdx hne => made K L A1 r1 w1 y dx hx hdx hne
  · exact ⟨fun _ _ _ _ _ _ ⟨_, _, _, _, _, w⟩ => by dsimp only at w; rw [da_bnd fun vs h => by rw [no]; rfl] at w; exact (Wn.of_none w).elim⟩
theorem de_make0 {lev : Nat} {x : Str} (C : Cls' X O lev) (hg : Gl X x) (hd : (x == ("__debug__" : Str)) = false) : DE X O (.Call (.Name x p) [] [] pos) (fun O σ h => bnd (aNil O σ h) fun vs h =>
  bnd (O (x, some "__init__") (.ref h.length :: vs) (h ++ [.ins x []])) fun v h' => match v with
    | .non => some (.ref h.length, h')
    | _ => none) := by
  rcases C.mak x with ⟨f, ⟨fd, ps, F, B, L⟩, M, hm, K⟩ | no
  · refine PE.imp (pe_make0 M F C.room hg hm B .nil pass0 hd) fun σ H Q ⟨m, h, as, A, S, w⟩ => ?_
    exact fun y dx hx hdx hne => made (xs := []) (vs := []) K L A .nil w y dx hx hdx hne
  · exact ⟨fun _ _ _ _ _ _ ⟨_, _, _, _, _, w⟩ => by dsimp only at w; rw [da_bnd fun vs h => by rw [no]; rfl] at w; exact (Wn.of_none w).elim⟩
end
end SB

/-! The text's shape; methods of lists and dicts. -/
namespace SB
open PySem PySem.Spec PyProof.Rows L2

/-! ### shapes -/
def notStar : Expr → Bool
  | .Starred _ _ => false
  | _ => true
theorem star_cons {e : Expr} {es : List Expr} {env : Env} (h : notStar e = true) : starEach (e :: es) env = (false, eval e env) :: starEach es env := by
  cases e <;> first | rfl | cases h
theorem star_any : ∀ {es : List Expr} {env : Env} {pos : Pos}, es.all notStar = true → (backTo pos (starEach es env)).any (·.1) = false
  | [], _, _, _ => rfl
  | e :: es, env, pos, h => by
    rw [List.all_cons, Bool.and_eq_true] at h
    rw [star_cons h.1]
    exact star_any (es := es) (env := env) (pos := pos) h.2
theorem star_form : ∀ {es : List Expr} {env : Env} {pos : Pos}, es.all notStar = true → (backTo pos (starEach es env)).all (fun x => !x.1) = true
  | [], _, _, _ => rfl
  | e :: es, env, pos, h => by
    rw [List.all_cons, Bool.and_eq_true] at h
    rw [star_cons h.1]
    exact star_form (es := es) (env := env) (pos := pos) h.2
def baseOk : Expr → Bool
  | .Call _ [] _ _ => false
  | _ => true
theorem base_ok {o : Expr} {m : Str} {env : Env} {w : Sem Value} (h : baseOk o = true) : attributeBase o m env w = w := by
  cases o with
  | Call f args kws pos => cases args with
    | nil => cases h
    | cons a r => cases f <;> rfl
  | _ => rfl
theorem meth_form {o : Expr} {mm : Str} {apos pos : Pos} {es : List Expr} {env : Env} (hb : baseOk o = true) (hs : es.all notStar = true) (hn : es.length < 30) (hl : (apos.endLine == pos.line) = true) :
    eval (.Call (.Attribute o mm apos) es [] pos) env = (do
      let ov ← eval o env
      standAt apos.atName
      let (f, first) ← holding [ov] (getMethod ov mm (plainOf o env))
      callWith pos f first (backTo pos (starEach es env)) (backToKw pos (keywordEach [] env))) := by
  rw [arm_eval_Call, base_ok hb]
  have hf : methodCallForm (es.length + ([] : List Keyword).length) (backTo pos (starEach es env)) (backToKw pos (keywordEach [] env)) = true := by
    unfold methodCallForm
    rw [star_form hs]
    simp [keywordEach, backToKw, hn]
  simp only [mcall_line hf hl]
theorem few_ok {es : List Expr} {env : Env} {pos : Pos} (hs : es.all notStar = true) (hn : es.length < 30) : ((backTo pos (starEach es env)).all (fun x => !x.1) && (backToKw pos (keywordEach [] env)).all (fun x => x.1.isSome)
      && decide (es.length + ([] : List Keyword).length + (if ([] : List Keyword).isEmpty then 0 else 1) < 30)) = true := by
  rw [star_form hs]
  simp [keywordEach, backToKw, hn]

/-! ### methods -/
/-- a list (false), a dict (true) -/
def isK (d : Bool) (h : AH) : AV → Bool
  | .ref a => (match h[a]? with
    | some (.lst _) => !d
    | some (.dic _) => d
    | _ => false)
  | _ => false
def fM0 (d : Bool) (g : AV → AH → Rs AV) (o : FE) : FE := fun O σ h => bnd (o O σ h) fun x h => if isK d h x = true then g x h else none
def fM1 (d : Bool) (g : AV → AV → AH → Rs AV) (o a : FE) : FE := fun O σ h => bnd (o O σ h) fun x h => if isK d h x = true then bnd (a O σ h) fun y h => g x y h else none
def tyN (d : Bool) : String := if d then "dict" else "list"
theorem isK_ty {z : Zt} {m : List Addr} {h : AH} {H : Hp} {d : Bool} {x : AV} {v : V} (A : Abs z m h H) (r : RelA z m H x v) (e : isK d h x = true) : tyV z.K (tyN d) v H := by
  cases x with
  | ref n =>
    obtain ⟨a, rfl, ha⟩ := rref r
    simp only [isK] at e
    split at e
    · rename_i xs e0
      obtain ⟨vs, q, _⟩ := A.lst e0 ha
      cases d
      · exact .inl ⟨rfl, vs, SqL.of q⟩
      · cases e
    · rename_i xs e0
      obtain ⟨vs, q, _⟩ := A.dic e0 ha
      cases d
      · cases e
      · exact .inr (.inr (.inl ⟨rfl, .inl ⟨vs, q⟩⟩))
    · cases e
  | _ => cases e
abbrev RM := V → List V → Hp → VK → Prop
def AnsM1 (z : Zt) (r : RM) (g : AV → AV → AH → Rs AV) : Prop :=
  ∀ (m : List Addr) (h : AH) (H : Hp) (a b : AV) (x y : V) (Q : VK), Abs z m h H → RelA z m H a x → RelA z m H b y → Wn z (RelA z) m H (g a b h) Q → r x [y] H Q
def AnsM0 (z : Zt) (r : RM) (g : AV → AH → Rs AV) : Prop :=
  ∀ (m : List Addr) (h : AH) (H : Hp) (a : AV) (x : V) (Q : VK), Abs z m h H → RelA z m H a x → Wn z (RelA z) m H (g a h) Q → r x [] H Q
section
variable {X : Cx} {O : Ora} {a b o : Expr} {fa fb fo : FE} {pos apos : Pos} {d : Bool} {name : Str} {id : String} {r : RM}
theorem de_m1 {g : AV → AV → AH → Rs AV} (pa : PlainAttrs (tyN d)) (slot : Slot (tyN d) name id) (hty : typeOf (.builtin id) = pure (.type "method_descriptor")) (hm : MtR X id r) (hr : AnsM1 (zOf X) r g) (ho : DE X O o fo) (ha : DE X O a fa)
    (hb : baseOk o = true) (hs : notStar a = true) (hl : (apos.endLine == pos.line) = true) : DE X O (.Call (.Attribute o name apos) [a] [] pos) (fM1 d g fo fa) := by
  have hs1 : [a].all notStar = true := by simp [hs]
  refine PE.imp (pe_bm pa slot hty hm ho (pa_cons ha pa_nil (star_cons hs)) (base_ok hb) (few_ok hs1 (by simp)) hl (star_cons hs) rfl) fun σ H Q ⟨m, h, as, A, S, w⟩ => ?_
  refine tE.then_ A S w fun x h1 m1 H1 v e1 A1 S1 r1 w1 => ?_
  split at w1
  · rename_i c
    exact ⟨isK_ty A1 r1 c, tE.then_ A1 S1 w1 fun y h2 m2 H2 u e2 A2 S2 r2 w2 => hr m2 h2 H2 x y v u Q A2 (r1.ext e2 _ _) r2 w2⟩
  · exact (Wn.of_none w1).elim
theorem de_m0 {g : AV → AH → Rs AV} (pa : PlainAttrs (tyN d)) (slot : Slot (tyN d) name id) (hty : typeOf (.builtin id) = pure (.type "method_descriptor")) (hm : MtR X id r) (hr : AnsM0 (zOf X) r g) (ho : DE X O o fo)
    (hb : baseOk o = true) (hl : (apos.endLine == pos.line) = true) : DE X O (.Call (.Attribute o name apos) [] [] pos) (fM0 d g fo) := by
  refine PE.imp (pe_bm0 pa slot hty hm ho (base_ok hb) hl) fun σ H Q ⟨m, h, as, A, S, w⟩ => ?_
  refine tE.then_ A S w fun x h1 m1 H1 v e1 A1 S1 r1 w1 => ?_
  split at w1
  · rename_i c
    exact ⟨isK_ty A1 r1 c, hr m1 h1 H1 x v Q A1 r1 w1⟩
  · exact (Wn.of_none w1).elim
end
section
variable {z : Zt}
theorem ans_append : AnsM1 z rAppend appendA := by
  intro m h H a b x y Q A ra rb w
  cases a <;> try exact (Wn.of_none w).elim
  rename_i n
  obtain ⟨p, rfl, hp⟩ := rref ra
  simp only [appendA] at w
  split at w
  · rename_i xs e
    obtain ⟨vs, q1, r1⟩ := A.lst e hp
    split at w
    · rename_i hl
      exact ⟨p, vs, y, rfl, rfl, q1, by rw [sz, ← r1.len]; exact hl, Wn.wrote w A hp q1 True.intro ⟨_, upd_same, (r1.ext (Ext.wr q1 True.intro) _ _).app (.one (rb.ext (Ext.wr q1 True.intro) _ _))⟩ (by simp [RelA])⟩
    · exact (Wn.of_none w).elim
  · exact (Wn.of_none w).elim
theorem ans_clear : AnsM0 z rClear clearA := by
  intro m h H a x Q A ra w
  cases a <;> try exact (Wn.of_none w).elim
  rename_i n
  obtain ⟨p, rfl, hp⟩ := rref ra
  simp only [clearA] at w
  split at w
  · rename_i xs e
    obtain ⟨vs, q1, r1⟩ := A.lst e hp
    exact ⟨p, vs, rfl, rfl, q1, Wn.wrote w A hp q1 True.intro ⟨_, upd_same, .nil⟩ (by simp [RelA])⟩
  · exact (Wn.of_none w).elim
theorem ans_popAt : AnsM1 z rPopAt popAtA := by
  intro m h H a b x y Q A ra rb w
  cases a <;> cases b <;> try exact (Wn.of_none w).elim
  rename_i n k
  obtain ⟨p, rfl, hp⟩ := rref ra
  cases rint rb
  simp only [popAtA] at w
  split at w
  · rename_i xs e
    obtain ⟨vs, q1, r1⟩ := A.lst e hp
    split at w
    · rename_i hl
      cases e2 : xs[k.toNat]? with
      | none => rw [e2] at w; exact (Wn.of_none w).elim
      | some v =>
        rw [e2] at w
        obtain ⟨u, e3, ru⟩ := r1.get e2
        have hs : seqIndex? k vs.length = some k.toNat := seqIndex_of hl.1 (by rw [← r1.len]; exact hl.2.1)
        exact ⟨p, vs, k, k.toNat, u, rfl, rfl, q1, by omega, by have h1 := hl.2.2; have h2 := hl.2.1; simp only [lim] at h1; omega, hs, e3, Wn.wrote w A hp q1 True.intro ⟨_, upd_same, (r1.erase _).ext (Ext.wr q1 True.intro) _ _⟩ (ru.ext (Ext.wr q1 True.intro) _ _)⟩
    · exact (Wn.of_none w).elim
  · exact (Wn.of_none w).elim
/-! dicts -/
def rDPop : RM := fun x xs H Q => ∃ a kvs k v, x = .ref a ∧ xs = [kV k] ∧ H a = some (.dK kvs) ∧ valV kvs k = some v ∧ Q v (upd H a (.dK (dropK kvs k)))
theorem mt_dpop {X : Cx} : MtR X "dict.pop" rDPop := by
  intro pins s σ H x xs v us Q I rx rs h
  obtain ⟨a, kvs, k, w, rfl, rfl, ea, l, q⟩ := h
  cases rx
  obtain ⟨u, rfl, ru⟩ := vals1 rs
  exact d_pop I ea ru l (.inl rfl) fun w' s3 I3 rw' => ⟨w, _, I3, rw', q⟩
theorem RelP.drop {m : List Addr} {H : Hp} {xs : List (Key × AV)} {vs : List (Key × V)} (h : RelP z m H xs vs) (k : Key) : RelP z m H (ddrop xs k) (dropK vs k) := by
  induction h with
  | nil => exact .nil
  | @cons p q l1 l2 r _ ih =>
    unfold ddrop dropK at ih ⊢
    by_cases c : p.1 = k
    · simp only [List.filter_cons, ← r.1, c, ne_eq, not_true_eq_false, decide_false]
      exact ih
    · simp only [List.filter_cons, ← r.1, c, ne_eq, not_false_eq_true, decide_true, if_true]
      exact .cons r ih
theorem ans_dpop : AnsM1 z rDPop dpopA := by
  intro m h H a b x y Q A ra rb w
  cases a <;> try exact (Wn.of_none w).elim
  rename_i n
  obtain ⟨p, rfl, hp⟩ := rref ra
  simp only [dpopA] at w
  split at w
  · rename_i kvs e
    obtain ⟨vs, q1, r1⟩ := A.dic e hp
    cases e1 : keyOf b with
    | none => rw [e1] at w; exact (Wn.of_none w).elim
    | some k =>
      rw [e1] at w
      simp only [Option.bind_some] at w
      cases key_rel rb e1
      rcases dval_rel r1 k with ⟨h1, h2⟩ | ⟨v, u, h1, h2, r⟩
      · rw [h1] at w; exact (Wn.of_none w).elim
      · rw [h1] at w
        exact ⟨p, vs, k, u, rfl, rfl, q1, h2, Wn.wrote w A hp q1 True.intro ⟨_, upd_same, (r1.drop k).ext (Ext.wr q1 True.intro)⟩ (r.ext (Ext.wr q1 True.intro) _ _)⟩
  · exact (Wn.of_none w).elim
theorem RelP.put {m : List Addr} {H : Hp} {xs : List (Key × AV)} {vs : List (Key × V)} (h : RelP z m H xs vs) (k : Key) {x : AV} {v : V} (r : RelA z m H x v) : RelP z m H (dput xs k x) (putK vs k v) := by
  have ea : (xs.any fun kv => decide (kv.1 = k)) = vs.any fun kv => decide (kv.1 = k) := by
    induction h with
    | nil => rfl
    | cons q _ ih => rw [List.any_cons, List.any_cons, q.1, ih]
  unfold dput putK
  rw [← ea]
  by_cases c : (xs.any fun kv => decide (kv.1 = k)) = true
  · rw [if_pos c, if_pos c]
    clear ea c
    induction h with
    | nil => exact .nil
    | @cons p q l1 l2 hq _ ih =>
      refine .cons ?_ ih
      by_cases c2 : p.1 = k
      · have c3 : q.1 = k := by rw [← hq.1]; exact c2
        simp only [c2, c3, if_true]
        exact ⟨trivial, r⟩
      · have c3 : ¬ q.1 = k := by rw [← hq.1]; exact c2
        simp only [c2, c3, if_false]
        exact hq
  · rw [if_neg c, if_neg c]
    clear ea c
    induction h with
    | nil => exact .cons ⟨rfl, r⟩ .nil
    | cons hq _ ih => exact .cons hq ih
theorem RelP.merge {m : List Addr} {H : Hp} {ps : List (Key × AV)} {qs : List (Key × V)} (hp : RelP z m H ps qs) : ∀ {xs : List (Key × AV)} {vs : List (Key × V)}, RelP z m H xs vs → RelP z m H (dmerge xs ps) (mergeK vs qs) := by
  induction hp with
  | nil => intro xs vs h; exact h
  | @cons p q l1 l2 r _ ih =>
    intro xs vs h
    have h2 := h.put p.1 r.2
    have := ih h2
    rw [r.1] at this
    have e : dmerge xs (p :: l1) = dmerge (dput xs q.1 p.2) l1 := by rw [← r.1]; rfl
    rw [e]
    exact this
theorem pairs_of' {X : Cx} {pins : List (Addr × Obj)} {σ : L2.St} {H : Hp} {s : Shared} (I : Inv X pins σ H s) : ∀ {ps : List Addr} {kvs : List (Key × V)}, Paired (fun p kv => SqT X.K H p [kV kv.1, kv.2]) ps kvs →
    ∃ (prs : List (Key × Value)) (pv : List (Value × Value)), KV kvs prs ∧ prs.length = ps.length ∧ pv.length = ps.length ∧ ∀ (j : Nat) (k v : Value), pv[j]? = some (k, v) → ∃ (b : Addr) (key : Key), ps[j]? = some b ∧ IsTup s.heap b #[k, v] ∧ prs[j]? = some (key, v) ∧ keyIs key k = true
  | _, _, .nil => ⟨[], [], .nil, rfl, rfl, fun j k v e => by simp at e⟩
  | _, _, .cons (a := p) (b := kv) h t => by
    obtain ⟨prs, pv, r, hl, hl2, hp⟩ := pairs_of' I t
    obtain ⟨its, rv, ht, _⟩ := I.tuple h
    obtain ⟨u, y, ei, ru, ry⟩ := vals2 rv
    subst ei
    refine ⟨(kv.1, y) :: prs, (u, y) :: pv, .cons ⟨rfl, ry⟩ r, by rw [List.length_cons, List.length_cons, hl], by rw [List.length_cons, List.length_cons, hl2], fun j k v e => ?_⟩
    cases j with
    | zero =>
      have e' : (u, y) = (k, v) := Option.some.inj e
      cases e'
      exact ⟨p, kv.1, rfl, ht, rfl, kV_is (P := X.prog) (w := X.w) ru⟩
    | succ j =>
      obtain ⟨b, u', e1, e2, e3, e4⟩ := hp j k v (by simpa using e)
      exact ⟨b, u', by simpa using e1, e2, by simpa using e3, e4⟩
def rUpd (K : PySem.W.Frag) : RM := fun x xs H Q => ∃ (a b : Addr) (kvs more : List (Key × V)) (ps : List Addr), x = .ref a ∧ xs = [.ref b] ∧ H a = some (.dK kvs) ∧ SqL K H b (ps.map V.ref) ∧ Paired (fun p kv => SqT K H p [kV kv.1, kv.2]) ps more ∧ kvs.length + ps.length ≤ 1000 ∧
  Q .non (upd H a (.dK (mergeK kvs more)))
theorem mt_upd {X : Cx} (hcalm : X.calm = true) : MtR X "dict.update" (rUpd X.K) := by
  intro pins s σ H x xs v us Q I rx rs h
  obtain ⟨a, b, kvs, more, ps, rfl, rfl, ea, hq, hp, hsz, q⟩ := h
  cases rx
  obtain ⟨u, rfl, ru⟩ := vals1 rs
  cases ru
  obtain ⟨zz, hd, vs0, r0, dd⟩ := dk_of I.hok ea
  obtain ⟨its, rv, pl, hz⟩ := I.list hq
  have ei := refs_at rv
  subst ei
  obtain ⟨prs, pv, rel, hl, hl2, hpr⟩ := pairs_of' I hp
  obtain ⟨o, n, ho, hc, hdd, hdat⟩ := pl
  have items : PairItems s.heap (ps.map Value.ref).toArray (fun j => ps.getD j 0) pv := by
    refine ⟨by simp [hl2], fun j k v e => ?_⟩
    obtain ⟨b', key, e1, e2, e3, e4⟩ := hpr j k v e
    have e5 : ps.getD j 0 = b' := by simp [List.getD, e1]
    exact ⟨by simp [e1, e5], .inl (by show s.heap.IsTuple (ps.getD j 0) #[k, v]; rw [e5]; obtain ⟨o, h1, h2, h3⟩ := e2; exact ⟨o, h1, h2, h3⟩)⟩
  have ab : a ≠ b := by
    rintro rfl
    obtain ⟨_, _, _, _, ob, _, _, h1, h2, _⟩ := I.hok a _ ea
    rw [ho] at h1
    cases h1
    have := h2.1
    rw [hc] at this
    exact absurd this (by decide +kernel)
  have nt : ∀ t ∈ ps, a ≠ t := fun t ht z => by
    subst z
    obtain ⟨_, _, _, _, ob, _, _, h1, h2, _⟩ := I.hok a _ ea
    obtain ⟨j, hj, ej⟩ := List.mem_iff_getElem.mp ht
    have hj2 : j < pv.length := by rw [hl2]; exact hj
    obtain ⟨⟨k, v⟩, hkv⟩ : ∃ p, pv[j]? = some p := ⟨pv[j], List.getElem?_eq_getElem hj2⟩
    obtain ⟨b', key, e1, e2, e3, e4⟩ := hpr j k v hkv
    rw [List.getElem?_eq_getElem hj, ej] at e1
    cases e1
    obtain ⟨o2, h3, h4, _⟩ := e2
    rw [h3] at h1
    cases h1
    have := h2.1
    rw [h4] at this
    exact absurd this (by decide +kernel)
  refine PySem.call_update_pairs (knd := mixKind X.prog X.w) (acc := vs0) (kvs := prs) (PairArg.list b (ps.map Value.ref).toArray (fun j => ps.getD j 0) pv) (I.ok.hd hcalm) ⟨⟨o, n, ho, hc, hdd, hdat⟩, items⟩ (fun hm => ?_) ⟨by rw [hl, hl2], fun i key v e => ?_⟩ dd (by rw [← r0.length, hl2, sizeLine_eq]; omega) fun h' tk hd' hk => ?_
  · rcases List.mem_cons.mp hm with e | e
    · exact ab e
    · obtain ⟨j, hj, ej⟩ := List.mem_map.mp e
      have hj2 : j < ps.length := by rw [← hl2]; exact List.mem_range.mp hj
      refine nt _ ?_ ej.symm
      simp only [List.getD, List.getElem?_eq_getElem hj2, Option.getD_some]
      exact List.getElem_mem hj2
  · obtain ⟨b', k', e1, e2, e3, e4⟩ := hpr i key v e
    exact ⟨k', e3, e4⟩
  · have hlen : (mergeK kvs more).length ≤ sizeLine := by
      refine Nat.le_trans (length_mergeK more kvs) ?_
      rw [rel.length, hl, sizeLine_eq]
      omega
    have I2 : Inv X pins σ (upd H a (.dK (mergeK kvs more))) { s with heap := h', toks := tk } :=
      I.write (x := a) (e := a) (by rw [ea]; exact True.intro) (.inl rfl) (fun b o hb e => hk b o hb (by simp) e) (let ⟨q, _, _, hq, _⟩ := hd'; ⟨q, hq⟩) (dk_new hlen hd (rel.merge r0) hd')
    exact ⟨.non, _, I2, rfl, q⟩
theorem pairs_rel {m : List Addr} {H : Hp} : ∀ {xs : List AV} {vs : List V} {ps : List (Key × AV)}, mapO pairOf xs = some ps → RelAs z m H xs vs →
    ∃ (as : List Addr) (more : List (Key × V)), vs = as.map V.ref ∧ Paired (fun p kv => SqT z.K H p [kV kv.1, kv.2]) as more ∧ RelP z m H ps more ∧ as.length = xs.length
  | [], vs, ps, e, r => by
    simp only [mapO, Option.some.injEq] at e; subst e
    simp only [RelAs] at r; subst r
    exact ⟨[], [], rfl, .nil, .nil, rfl⟩
  | x :: xs, vs, ps, e, r => by
    simp only [RelAs] at r
    obtain ⟨v, w, rfl, h2, h3⟩ := r
    simp only [mapO] at e
    split at e
    · rename_i p ps' e1 e2
      simp only [Option.some.injEq] at e; subst e
      obtain ⟨as, more, rfl, q1, q2, q3⟩ := pairs_rel e2 h3
      unfold pairOf at e1
      split at e1
      · rename_i k y
        rw [Option.map_eq_some_iff] at e1
        obtain ⟨key, e4, rfl⟩ := e1
        obtain ⟨t, us, rfl, s1, s2⟩ := rtup h2
        simp only [RelAs] at s2
        obtain ⟨u1, _, rfl, g1, u2, _, rfl, g2, rfl⟩ := s2
        cases key_rel g1 e4
        exact ⟨t :: as, (key, u2) :: more, rfl, .cons s1 q1, .cons ⟨rfl, g2⟩ q2, by simp [q3]⟩
      · cases e1
    · cases e
/-- .. by pairs alone -/
def updPA (o y : AV) (h : AH) : Rs AV := match o, y with
  | .ref a, .ref b => (match h[a]?, h[b]? with
    | some (.dic kvs), some (.lst xs) => if kvs.length + xs.length ≤ 1000 then (mapO pairOf xs).map fun ps => (.non, h.set a (.dic (dmerge kvs ps))) else none
    | _, _ => none)
  | _, _ => none
theorem ans_upd : AnsM1 z (rUpd z.K) updPA := by
  intro m h H a b x y Q A ra rb w
  cases a <;> cases b <;> try exact (Wn.of_none w).elim
  rename_i n k
  obtain ⟨p, rfl, hp⟩ := rref ra
  obtain ⟨q, rfl, hq⟩ := rref rb
  simp only [updPA] at w
  split at w
  · rename_i kvs xs e0 e1
    obtain ⟨vs, q1, r1⟩ := A.dic e0 hp
    obtain ⟨ws, q2, r2⟩ := A.lst e1 hq
    split at w
    · rename_i hl
      cases e2 : mapO pairOf xs with
      | none => rw [e2] at w; exact (Wn.of_none w).elim
      | some ps =>
        rw [e2] at w
        obtain ⟨as, more, rfl, g1, g2, g3⟩ := pairs_rel e2 r2
        exact ⟨p, q, vs, more, as, rfl, rfl, q1, SqL.of q2, g1, by rw [← r1.len, g3]; exact hl, Wn.wrote w A hp q1 True.intro ⟨_, upd_same, (RelP.merge g2 r1).ext (Ext.wr q1 True.intro)⟩ (by simp [RelA])⟩
    · exact (Wn.of_none w).elim
  · exact (Wn.of_none w).elim
/-- .. of a dict -/
def updDA (o y : AV) (h : AH) : Rs AV := match o, y with
  | .ref a, .ref b => (match h[a]?, h[b]? with
    | some (.dic kvs), some (.dic ps) => if a ≠ b ∧ kvs.length + ps.length ≤ 1000 then some (.non, h.set a (.dic (dmerge kvs ps))) else none
    | _, _ => none)
  | _, _ => none
theorem nd_inj {m : List Addr} (nd : m.Nodup) {i j : Nat} {a : Addr} (hi : m[i]? = some a) (hj : m[j]? = some a) : i = j := by
  obtain ⟨h1, e1⟩ := List.getElem?_eq_some_iff.mp hi
  obtain ⟨h2, e2⟩ := List.getElem?_eq_some_iff.mp hj
  exact (List.getElem_inj nd).mp (e1.trans e2.symm)
def rUpdD : RM := fun x xs H Q => ∃ (a b : Addr) (kvs more : List (Key × V)), x = .ref a ∧ xs = [.ref b] ∧ a ≠ b ∧ H a = some (.dK kvs) ∧ H b = some (.dK more) ∧ kvs.length + more.length ≤ 1000 ∧
  Q .non (upd H a (.dK (mergeK kvs more)))
theorem mt_updD {X : Cx} : MtR X "dict.update" rUpdD := by
  intro pins s σ H x xs v us Q I rx rs h
  obtain ⟨a, b, kvs, more, rfl, rfl, ab, ea, eb, hsz, q⟩ := h
  cases rx
  obtain ⟨u, rfl, ru⟩ := vals1 rs
  cases ru
  obtain ⟨za, hda, va, ra, da⟩ := dk_of I.hok ea
  obtain ⟨zb, hdb, vb, rb, db⟩ := dk_of I.hok eb
  refine call_meetsIn PySem.F.slot_dict_update da.typeIs PySem.F.entry_dict_update (PySem.F.args_dict_update_2 _ _) (meets_dict_update (mixKind X.prog X.w) a b ab hdb) ⟨va, vb, da, db, by rw [← ra.length, ← rb.length, sizeLine_eq]; omega, fun h' hd' ho' hk => ?_⟩
  have hlen : (mergeK kvs more).length ≤ sizeLine := by
    refine Nat.le_trans (length_mergeK more kvs) ?_
    rw [sizeLine_eq]
    omega
  have I2 : Inv X pins σ (upd H a (.dK (mergeK kvs more))) { s with heap := h' } :=
    I.write (x := a) (e := a) (by rw [ea]; exact True.intro) (.inl rfl) (fun b o hb e => (hk.2 b hb).trans e) (let ⟨q, _, _, hq, _⟩ := hd'; ⟨q, hq⟩) (dk_new hlen hda (rb.merge ra) hd')
  exact ⟨.non, _, I2, rfl, q⟩
theorem ans_updD : AnsM1 z rUpdD updDA := by
  intro m h H a b x y Q A ra rb w
  cases a <;> cases b <;> try exact (Wn.of_none w).elim
  rename_i n k
  obtain ⟨p, rfl, hp⟩ := rref ra
  obtain ⟨q, rfl, hq⟩ := rref rb
  simp only [updDA] at w
  split at w
  · rename_i kvs ps e0 e1
    obtain ⟨vs, q1, r1⟩ := A.dic e0 hp
    obtain ⟨ws, q2, r2⟩ := A.dic e1 hq
    split at w
    · rename_i hl
      have pq : p ≠ q := fun e => hl.1 (nd_inj A.nd hp (e ▸ hq))
      exact ⟨p, q, vs, ws, rfl, rfl, pq, q1, q2, by rw [← r1.len, ← r2.len]; exact hl.2, Wn.wrote w A hp q1 True.intro ⟨_, upd_same, (RelP.merge r2 r1).ext (Ext.wr q1 True.intro)⟩ (by simp [RelA])⟩
    · exact (Wn.of_none w).elim
  · exact (Wn.of_none w).elim
end
end SB

/-! d.get(k, x); displays of dicts. -/
namespace SB
open PySem PySem.Spec PyProof.Rows L2

def isTab (h : AH) : AV → Bool
  | .tab _ _ => true
  | .ref a => (match h[a]? with
    | some (.dic _) => true
    | _ => false)
  | _ => false
def fGet (o a b : FE) : FE := fun O σ h => bnd (o O σ h) fun x h => if isTab h x = true then bnd (a O σ h) fun y h => bnd (b O σ h) fun z h => getDA x y z h else none
section
variable {X : Cx} {O : Ora} {a b o : Expr} {fa fb fo : FE} {pos apos : Pos}
theorem tabK_isD {z : Zt} {m : List Addr} {h : AH} {H : Hp} {x : AV} {v : V} (A : Abs z m h H) (r : RelA z m H x v) (e : isTab h x = true) :
    ∃ p, v = .ref p ∧ ((∃ t kvs, x = .tab t kvs ∧ TabOk z p kvs) ∨ ∃ n kvs vs, x = .ref n ∧ h[n]? = some (.dic kvs) ∧ m[n]? = some p ∧ H p = some (.dK vs)) := by
  cases x with
  | tab t kvs =>
    simp only [RelA] at r
    obtain ⟨p, rfl, T⟩ := r
    exact ⟨p, rfl, .inl ⟨t, kvs, rfl, T⟩⟩
  | ref n =>
    obtain ⟨p, rfl, hp⟩ := rref r
    simp only [isTab] at e
    split at e
    · rename_i kvs e0
      obtain ⟨vs, q, _⟩ := A.dic e0 hp
      exact ⟨p, rfl, .inr ⟨n, kvs, vs, rfl, e0, hp, q⟩⟩
    · cases e
  | _ => cases e
theorem de_get (hu : X.A.units + 1 < cLine) (ho : DE X O o fo) (ha : DE X O a fa) (hb : DE X O b fb) (hbase : attributeBase o "get" X.env (eval o X.env) = eval o X.env) (hline : (apos.endLine == pos.line) = true)
    (htrees : backTo pos (starEach [a, b] X.env) = [(false, eval a X.env), (false, eval b X.env)]) : DE X O (.Call (.Attribute o "get" apos) [a, b] [] pos) (fGet fo fa fb) := by
  refine ⟨fun pins s σ H Q I ⟨m, h, as, A, S, w⟩ => ?_⟩
  refine wpAny_Call_method2_late hbase hline htrees (thn (ho.run pins s σ H _ I (tE.then_ (R := fun v H1 => ∃ x h1 m1, Abs (zOf X) m1 h1 H1 ∧ RelE (zOf X) m1 H1 as σ ∧ RelA (zOf X) m1 H1 x v ∧ Wn (zOf X) (RelA (zOf X)) m1 H1 (if isTab h1 x = true then bnd (fa O as h1) fun y h => bnd (fb O as h) fun z h => getDA x y z h else none) Q) A S w
    fun x h1 m1 H1 v e1 A1 S1 r1 w1 => ⟨x, h1, m1, A1, S1, r1, w1⟩)) fun u s1 ⟨v, H1, I1, rx, x, h1, m1, A1, S1, r1, w1⟩ => ?_)
  split at w1
  · rename_i c
    obtain ⟨p, rfl, hp⟩ := tabK_isD A1 r1 c
    cases (show u = Value.ref p from rx)
    have ty : s1.TypeIs (.ref p) "dict" ∧ (∀ b, Value.ref p = .ref b → ∃ ob, s1.heap.get? b = some ob ∧ ob.dict = none) := by
      rcases hp with ⟨t, kvs, rfl, es, n, D, _⟩ | ⟨n, kvs, vs, rfl, e0, _, q⟩
      · have hm := PySem.W.mapOf_K (prog := X.prog) (w := X.w) I1.kIn D.at_ D.lit
        exact ⟨hm.typeIs, hm.noDict⟩
      · obtain ⟨t1, t2, _⟩ := isD_at I1 (.inl ⟨vs, .inl q⟩)
        exact ⟨t1, t2⟩
    refine ⟨"dict", "dict.get", PySem.F.plainAttrs_dict, PySem.F.slot_dict_get, PySem.F.type_dict_get, ty.1, ty.2, ?_⟩
    refine Calls.callWith_builtin rfl (Calls.evalArgs_plain (Calls.spliced_cons (thn (ha.run pins s1 σ H1 _ I1 (tE.then_ (R := fun v2 H2 => ∃ y h2 m2, Abs (zOf X) m2 h2 H2 ∧ RelE (zOf X) m2 H2 as σ ∧ Ext m1 H1 m2 H2 ∧ RelA (zOf X) m2 H2 y v2 ∧ Wn (zOf X) (RelA (zOf X)) m2 H2 (bnd (fb O as h2) fun z h => getDA x y z h) Q) A1 S1 w1
      fun y h2 m2 H2 v2 e2 A2 S2 r2 w2 => ⟨y, h2, m2, A2, S2, e2, r2, w2⟩)) fun u2 s2 ⟨v2, H2, I2, ry, y, h2, m2, A2, S2, e2, r2, w2⟩ =>
      Calls.spliced_cons (thn (hb.run pins s2 σ H2 _ I2 (tE.then_ (R := fun v3 H3 => ∃ z h3 m3, Abs (zOf X) m3 h3 H3 ∧ Ext m2 H2 m3 H3 ∧ RelA (zOf X) m3 H3 z v3 ∧ Wn (zOf X) (RelA (zOf X)) m3 H3 (getDA x y z h3) Q) A2 S2 w2
      fun z h3 m3 H3 v3 e3 A3 S3 r3 w3 => ⟨z, h3, m3, A3, e3, r3, w3⟩)) fun u3 s3 ⟨v3, H3, I3, rz, z, h3, m3, A3, e3, r3, w3⟩ => Calls.spliced_nil ?_))))
    rcases hp with ⟨t, kvs, rfl, T⟩ | ⟨n, kvs, vs, rfl, e0, hn, q⟩
    · cases y with
      | str k =>
        simp only [getDA] at w3
        cases rstr r2
        obtain ⟨t, rfl⟩ := (show ∃ t, u2 = Value.str k t from ry)
        obtain ⟨r, e, rr⟩ := tab_ns T k
        obtain ⟨es, n, D, _⟩ := T
        refine call_meetsIn PySem.F.slot_dict_get (PySem.W.mapOf_K (prog := X.prog) (w := X.w) I3.kIn D.at_ D.lit).typeIs PySem.F.entry_dict_get (PySem.F.args_dict_get_3 _ _ _) (meets_dict_get_default (strKind X.prog X.w) p (PySem.strKind_is X.prog X.w k t) D.low _) ⟨_, PySem.W.mapOf_K (prog := X.prog) (w := X.w) I3.kIn D.at_ D.lit, ?_⟩
        rw [PySem.W.find_K D.at_ e]
        cases el : kvs.lookup k with
        | none =>
          rw [el] at w3 rr
          cases r with
          | none => exact ⟨v3, H3, I3.tok _, rz, Wn.val w3 A3 r3⟩
          | some u => exact absurd rr (by simp [RelO])
        | some kk =>
          rw [el] at w3 rr
          obtain ⟨u, rfl, ru⟩ := RelO.some_of rr
          exact ⟨kV kk, H3, I3.tok _, ru, Wn.val w3 A3 (by cases kk <;> simp [RelA, keyV, kV])⟩
      | _ => exact (Wn.of_none w3).elim
    · simp only [getDA] at w3
      split at w3
      · rename_i kvs3 e3'
        obtain ⟨vs3, q3, rp⟩ := A3.dic e3' (e3.get (e2.get hn))
        cases ek : keyOf y with
        | none => rw [ek] at w3; exact (Wn.of_none w3).elim
        | some k =>
          rw [ek] at w3
          cases key_rel r2 ek
          simp only [Option.map_some] at w3
          refine d_get2 hu I3 (DGet.k q3) ry rz fun w' s4 I4 rw' => ⟨_, H3, I4, rw', ?_⟩
          rcases dval_rel rp k with ⟨g1, g2⟩ | ⟨v, u, g1, g2, r⟩
          · rw [g1] at w3; rw [g2]
            exact Wn.val w3 A3 r3
          · rw [g1] at w3; rw [g2]
            exact Wn.val w3 A3 r
      · exact (Wn.of_none w3).elim
  · exact (Wn.of_none w1).elim

/-! ### displays -/
def fDic0 : FE := fun _ _ h => alloc (.dic []) h
theorem de_dic0 : DE X O (.Dict [] [] pos) fDic0 := by
  refine PE.imp pe_dnewK fun σ H Q ⟨m, h, as, A, S, w⟩ => fun p hp => ?_
  have A2 := A.push (o := .dic []) hp ⟨[], upd_same, .nil⟩
  exact w.of_some _ _ _ (Ext.new hp [p]) A2 (rref' (by rw [← A.len, List.getElem?_append_right (Nat.le_refl _)]; simp))
def relK (z : Zt) (m : List Addr) (H : Hp) (a : List (Key × AV)) (b : List (Key × V)) : Prop := RelP z m H a b
theorem tPairs_of {z : Zt} {d : Nat} : ∀ (ps : List (FE × FE)) {m : List Addr} {h : AH} {H : Hp} {as : En} {σ : L2.St} {R : List (V × V) → Hp → Prop}, Abs z m h H → RelE z m H as σ → Wn z (relK z) m H (fDicGo d ps O as h) (fun kvs H' => R (kvs.map (fun kv => (kV kv.1, kv.2))) H') →
    tPairs (ps.map fun p => (tE z O p.1, tE z O p.2)) σ H R
  | [], m, h, H, as, σ, R, A, S, w => w.of_some m H [] (Ext.refl _ _) A .nil
  | (fk, fv) :: ps, m, h, H, as, σ, R, A, S, w => by
    unfold fDicGo at w
    refine tE.then_ A S w fun x h1 m1 H1 v e1 A1 S1 r1 w1 => tE.then_ A1 S1 w1 fun y h2 m2 H2 u e2 A2 S2 r2 w2 => ?_
    cases ek : keyOf x with
    | none => rw [ek] at w2; exact (Wn.of_none w2).elim
    | some k =>
      rw [ek] at w2
      simp only [Option.bind_some] at w2
      cases key_rel r1 ek
      exact tPairs_of ps A2 S2 (Wn.bnd w2 fun l h3 _ w4 m3 H3 lv e3 A3 r3 => w4.of_some m3 H3 ((k, u) :: lv) e3 A3 (.cons ⟨rfl, r2.ext e3 _ _⟩ r3))
theorem relP_nil {z : Zt} {m : List Addr} {H : Hp} {vs : List (Key × V)} (r : RelP z m H ([] : List (Key × AV)) vs) : vs = [] := by cases r; rfl
theorem de_dic {keys : List (Option Expr)} {values : List Expr} {ps : List (FE × FE)} (h : PPs X pos keys values (ps.map fun p => (tE (zOf X) O p.1, tE (zOf X) O p.2))) (hall : keys.all (·.isSome) = true) (hl : keys.length = values.length) (h0 : keys ≠ [])
    (h15 : keys.length ≤ 15) : DE X O (.Dict keys values pos) (fDic ps) := by
  refine PE.imp (pe_disp h hall hl h0 h15) fun σ H Q ⟨m, h, as, A, S, w⟩ => fun p hp => ?_
  have A2 := A.push (o := .dic []) hp ⟨[], upd_same, .nil⟩
  have e2 : Ext m H (m ++ [p]) (upd H p (.dK [])) := Ext.new hp [p]
  have S2 := S.ext e2
  have hm : (m ++ [p])[h.length]? = some p := by rw [← A.len, List.getElem?_append_right (Nat.le_refl _)]; simp
  refine tPairs_of (d := h.length) ps A2 S2 ?_
  refine Wn.bnd (w.mono e2) fun kvs h3 _ w3 m3 H3 vs e3 A3 r3 => ?_
  split at w3
  · rename_i e4
    obtain ⟨vs0, q1, q2⟩ := A3.dic e4 (e3.get hm)
    cases relP_nil q2
    split at w3
    · rename_i hl
      exact ⟨q1, vs, rfl, by rw [← Paired.length r3]; exact hl, Wn.wrote (w3.mono e3) A3 (e3.get hm) q1 True.intro ⟨_, upd_same, (RelP.merge r3 .nil).ext (Ext.wr q1 True.intro)⟩ (rref' (e3.get hm))⟩
    · exact (Wn.of_none w3).elim
  · exact (Wn.of_none w3).elim
end
end SB

/-! Targets, iterables, statements. -/
namespace SB
open PySem PySem.Spec PyProof.Rows L2

/-! ### targets -/
def tG (z : Zt) (O : Ora) (f : FG) : TG := fun v σ H Q => ∃ m h as a, Abs z m h H ∧ RelE z m H as σ ∧ RelA z m H a v ∧ Wn z (RelE z) m H (f O a as h) Q
def tGs (z : Zt) (O : Ora) (f : List FG) : TGs := fun vs σ H Q => ∃ m h as xs, Abs z m h H ∧ RelE z m H as σ ∧ RelAs z m H xs vs ∧ Wn z (RelE z) m H (gAll f O xs as h) Q
abbrev DG (X : Cx) (O : Ora) (e : Expr) (f : FG) : Prop := PG X e (tG (zOf X) O f)
abbrev DGs (X : Cx) (O : Ora) (e : List Expr) (f : List FG) : Prop := PGs X e (tGs (zOf X) O f)
theorem PG.imp {X : Cx} {e : Expr} {t t' : TG} (h : PG X e t) (k : ∀ v σ H Q, t' v σ H Q → t v σ H Q) : PG X e t' := ⟨fun pins s σ H v u Q I r w => h.run pins s σ H v u Q I r (k v σ H Q w)⟩
theorem PGs.imp {X : Cx} {e : List Expr} {t t' : TGs} (h : PGs X e t) (k : ∀ v σ H Q, t' v σ H Q → t v σ H Q) : PGs X e t' := ⟨fun pins s σ H v u Q I r w => h.run pins s σ H v u Q I r (k v σ H Q w)⟩
section
variable {X : Cx} {O : Ora} {a b o e i : Expr} {fa fb fo fi : FE} {pos apos : Pos} {g : FG} {gs : List FG} {es : List Expr}
def gNone : FG := fun _ _ _ _ => none
theorem dg_none : DG X O e gNone := ⟨fun _ _ _ _ _ _ _ _ _ ⟨_, _, _, _, _, _, _, w⟩ => (Wn.of_none w).elim⟩
theorem dg_var {j : Nat} {x : Str} (hN : X.N.Nodup) (hi : X.N[j]? = some x) (hx : Loc X.env.scope x) (hf : X.fn x = true ∨ X.env.scope.names.lookup x = some .local) : DG X O (.Name x pos) (gVar j) := by
  refine PG.imp (pg_name hN hi hx hf) fun v σ H Q ⟨m, h, as, x, A, S, r, w⟩ => ?_
  exact w.of_some m H _ (Ext.refl _ _) A (S.set r j)
theorem dgs_nil : DGs X O [] [] := by
  refine PGs.imp pgs_nil fun vs σ H Q ⟨m, h, as, xs, A, S, r, w⟩ => ?_
  cases xs with
  | nil =>
    simp only [RelAs] at r
    exact ⟨r, w.of_some m H _ (Ext.refl _ _) A S⟩
  | cons x xs => exact (Wn.of_none w).elim
theorem dgs_cons (h1 : DG X O e g) (h2 : DGs X O es gs) (hs : (assignEach (e :: es) X.env).map (·.2) = assign e X.env :: (assignEach es X.env).map (·.2)) : DGs X O (e :: es) (g :: gs) := by
  refine PGs.imp (pgs_cons h1 h2 hs) fun vs σ H Q ⟨m, h, as, xs, A, S, r, w⟩ => ?_
  cases xs with
  | nil => exact (Wn.of_none w).elim
  | cons x xs =>
    simp only [RelAs] at r
    obtain ⟨v, vr, rfl, r1, r2⟩ := r
    refine ⟨v, vr, rfl, m, h, as, x, A, S, r1, ?_⟩
    unfold gAll at w
    exact Wn.bnd w fun as1 h1 _ w1 m1 H1 σ1 e1 A1 S1 => ⟨m1, h1, as1, xs, A1, S1, r2.ext e1 _ _, w1.mono e1⟩
theorem pg_or {t t' : TG} (h : PG X e t) (h' : PG X e t') : PG X e fun v σ H Q => t v σ H Q ∨ t' v σ H Q :=
  ⟨fun pins s σ H v u Q I r w => w.elim (h.run pins s σ H v u Q I r) (h'.run pins s σ H v u Q I r)⟩
theorem dg_tup {k : Nat} (hc : X.calm = true) (h : DGs X O es gs) (hl : es.length = gs.length)
    (hn : (assignEach es X.env).length = es.length) (hst : (assignEach es X.env).findIdx? (·.1) = none) : DG X O (.Tuple es k pos) (SB.gTup gs) := by
  refine PG.imp (pg_or (pg_tup hc h hn hst) (pg_lst hc h hn hst)) fun v σ H Q ⟨m, h, as, x, A, S, r, w⟩ => ?_
  cases x with
  | tup xs =>
    obtain ⟨p, vs, rfl, q1, q2⟩ := rtup r
    simp only [SB.gTup] at w
    split at w
    · rename_i c
      exact .inl ⟨p, vs, rfl, q1, by rw [← q2.len, c, hl], m, h, as, xs, A, S, q2, w⟩
    · exact (Wn.of_none w).elim
  | ref n =>
    obtain ⟨p, rfl, hp⟩ := rref r
    simp only [SB.gTup] at w
    split at w
    · rename_i xs e0
      obtain ⟨vs, q1, q2⟩ := A.lst e0 hp
      split at w
      · rename_i c
        exact .inr ⟨p, vs, rfl, SqL.of q1, by rw [← q2.len, c, hl], m, h, as, xs, A, S, q2, w⟩
      · exact (Wn.of_none w).elim
    · exact (Wn.of_none w).elim
  | _ => exact (Wn.of_none w).elim
/-! o[i] = v -/
def rSetD : TSet := fun o i v H Q => ∃ a H', o = .ref a ∧ DPut H a i v H' ∧ Q H'
theorem set_dict (hu : X.A.units + 1 < cLine) : PSet X rSetD := by
  intro pins s σ H o i v ov iv u Q I ro ri rv h
  obtain ⟨a, H', rfl, g, q⟩ := h
  cases ro
  exact d_setItem hu I g ri rv fun s' I' => ⟨H', I', q⟩
theorem pset_or {t t' : TSet} (h : PSet X t) (h' : PSet X t') : PSet X fun o i v H Q => t o i v H Q ∨ t' o i v H Q :=
  fun pins s σ H o i v ov iv u Q I ro ri rv w => w.elim (h pins s σ H o i v ov iv u Q I ro ri rv) (h' pins s σ H o i v ov iv u Q I ro ri rv)
theorem ixN_lt {n : Nat} {k : Int} {j : Nat} (h : ixN n k = some j) : j < n := (ixN_seq h).2.1
theorem set_ans {z : Zt} {m : List Addr} {h : AH} {H : Hp} {x y v : AV} {o i u : V} {Q : Hp → Prop} (A : Abs z m h H) (rx : RelA z m H x o) (ry : RelA z m H y i) (rv : RelA z m H v u)
    {h' : AH} (e : setIxA x y v h = some h') (k : ∀ H', Ext m H m H' → Abs z m h' H' → Q H') : rSetL o i u H Q ∨ rSetD o i u H Q := by
  cases x <;> try (simp only [setIxA] at e; cases e)
  rename_i n
  obtain ⟨p, rfl, hp⟩ := rref rx
  simp only [setIxA] at e
  split at e
  · rename_i xs j e0
    obtain ⟨vs, q1, q2⟩ := A.lst e0 hp
    cases rint ry
    cases e1 : ixN xs.length j with
    | none => rw [e1] at e; cases e
    | some t =>
      rw [e1] at e
      simp only [Option.map_some, Option.some.injEq] at e
      subst e
      refine .inl ⟨p, vs, j, t, rfl, rfl, q1, by rw [← q2.len]; exact e1, k _ (Ext.wr q1 True.intro) ?_⟩
      exact A.write hp q1 True.intro ⟨_, upd_same, (RelAs.set rv t q2).ext (Ext.wr q1 True.intro) _ _⟩
  · rename_i y' _ _ kvs e0
    obtain ⟨vs, q1, q2⟩ := A.dic e0 hp
    split at e
    · rename_i hl
      cases ek : keyOf y' with
      | none => rw [ek] at e; cases e
      | some key =>
        rw [ek] at e
        simp only [Option.map_some, Option.some.injEq] at e
        subst e
        cases key_rel ry ek
        refine .inr ⟨p, _, rfl, .inl ⟨vs, key, q1, rfl, by rw [← Paired.length q2]; exact hl, rfl⟩, k _ (Ext.wr q1 True.intro) ?_⟩
        exact A.write hp q1 True.intro ⟨_, upd_same, (RelP.put q2 key rv).ext (Ext.wr q1 True.intro)⟩
    · cases e
  · cases e
theorem dg_ix (hu : X.A.units + 1 < cLine) (ho : DE X O o fo) (hi : DE X O i fi) (ha : ∀ v, assign (.Subscript o i pos) X.env v = (do
      let ov ← holding [v] (eval o X.env)
      let iv ← holding [v, ov] (eval i X.env)
      standAt pos
      holding [v, ov, iv] (setItem ov iv v)
      release [v, ov, iv] [])) : DG X O (.Subscript o i pos) (gIx fo fi) := by
  refine PG.imp (pg_sub ho hi (pset_or set_list (set_dict hu)) ha) fun v σ H Q ⟨m, h, as, x, A, S, r, w⟩ => ?_
  refine tE.then_ A S w fun y h1 m1 H1 ov e1 A1 S1 r1 w1 => tE.then_ A1 S1 w1 fun k h2 m2 H2 iv e2 A2 S2 r2 w2 => ?_
  cases e : setIxA y k x h2 with
  | none => rw [e] at w2; exact (Wn.of_none w2).elim
  | some h3 =>
    rw [e] at w2
    exact set_ans A2 (r1.ext e2 _ _) r2 (r.ext (e1.trans e2) _ _) e fun H' e3 A3 => w2.of_some m2 H' σ e3 A3 (S2.ext e3)
end

/-! ### iterables -/
structure ItOk (z : Zt) (m : List Addr) (H : Hp) (I : It) (J : L2.It) : Prop where
  go : ∀ i m' h' H', Ext m H m' H' → Abs z m' h' H' → I.ok h' → (hi : i < I.its.length) → J.go i H' ∧ ∀ x H2, J.yld i H' x H2 → Ext m' H' m' H2 ∧ Abs z m' h' H2 ∧ RelA z m' H2 (I.its[i]) x
  stop : ∀ m' h' H', Ext m H m' H' → Abs z m' h' H' → I.ok h' → J.stop I.its.length H'
def tI (z : Zt) (O : Ora) (f : FI) : TI := fun σ H R => ∃ m h as, Abs z m h H ∧ RelE z m H as σ ∧ Wn z (ItOk z) m H (f O as h) R
abbrev DI (X : Cx) (O : Ora) (tg e : Expr) (f : FI) : Prop := PI X tg e (tI (zOf X) O f)
theorem PI.imp {X : Cx} {tg e : Expr} {t t' : TI} (h : PI X tg e t) (k : ∀ σ H R, t' σ H R → t σ H R) : PI X tg e t' := ⟨fun pins s σ H R I w => h.run pins s σ H R I (k σ H R w)⟩
def iNone : FI := fun _ _ _ => none
section
variable {X : Cx} {O : Ora} {a b c e tg : Expr} {fa fb fc : FE} {pos p : Pos}
theorem di_none : DI X O tg e iNone := ⟨fun _ _ _ _ _ _ ⟨_, _, _, _, _, w⟩ => (Wn.of_none w).elim⟩
theorem itl_ok {z : Zt} {m : List Addr} {H : Hp} {n : Nat} {q : Addr} {xs : List AV} (hm : m[n]? = some q) : ItOk z m H ⟨xs, fun h => h[n]? = some (.lst xs)⟩ (Itl z.K q) where
  go := fun i m' h' H' e A ok hi => by
    obtain ⟨vs, q1, q2⟩ := A.lst ok (e.get hm)
    obtain ⟨v, e1, r⟩ := q2.get (List.getElem?_eq_getElem hi)
    exact ⟨⟨vs, v, SqL.of q1, e1⟩, fun x H2 ⟨e2, y⟩ => by
      subst e2
      have := y vs (SqL.of q1)
      rw [e1] at this; cases this
      exact ⟨Ext.refl _ _, A, r⟩⟩
  stop := fun m' h' H' e A ok => by
    obtain ⟨vs, q1, q2⟩ := A.lst ok (e.get hm)
    exact ⟨vs, SqL.of q1, by rw [← q2.len]; exact Nat.le_refl _⟩
theorem itr_ok {z : Zt} {m : List Addr} {H : Hp} {i j : Int} : ItOk z m H ⟨irange i j, fun _ => True⟩ (Itr i (j - i).toNat) where
  go := fun k m' h' H' e A ok hi => by
    have hi' : k < (j - i).toNat := by simpa [irange] using hi
    refine ⟨hi', fun x H2 ⟨e2, y⟩ => ?_⟩
    subst e2 y
    refine ⟨Ext.refl _ _, A, ?_⟩
    simp [irange, RelA]
  stop := fun m' h' H' e A ok => by
    show (j - i).toNat ≤ (irange i j).length
    simp [irange]
theorem itc_ok {z : Zt} {m : List Addr} {H : Hp} {i c : Int} {n : Nat} : ItOk z m H ⟨irangeC i c n, fun _ => True⟩ (Itc i c n) where
  go := fun k m' h' H' e A ok hi => by
    have hi' : k < n := by simpa [irangeC] using hi
    refine ⟨hi', fun x H2 ⟨e2, y⟩ => ?_⟩
    subst e2 y
    refine ⟨Ext.refl _ _, A, ?_⟩
    simp [irangeC, RelA]
  stop := fun m' h' H' e A ok => by
    show n ≤ (irangeC i c n).length
    simp [irangeC]
theorem its_ok {z : Zt} {m : List Addr} {H : Hp} {x : Str} : ItOk z m H ⟨x.cps.toList.map fun c => .str ⟨#[c]⟩, fun _ => True⟩ (Its x) where
  go := fun k m' h' H' e A ok hi => by
    have hi' : k < x.cps.toList.length := by simpa using hi
    refine ⟨show k < x.cps.size by simpa using hi', fun v H2 ⟨e2, c, y1, y2⟩ => ?_⟩
    subst e2 y2
    refine ⟨Ext.refl _ _, A, ?_⟩
    have : c = x.cps[k]'(by simpa using hi') := by
      rw [Array.getElem?_eq_getElem (by simpa using hi')] at y1
      exact (Option.some.inj y1).symm
    subst this
    simp [RelA]
  stop := fun m' h' H' e A ok => by
    show x.cps.size ≤ _
    simp
theorem itt_ok {z : Zt} {m : List Addr} {H : Hp} {q : Addr} {xs : List AV} {vs : List V} (hq : SqT z.K H q vs) (r : RelAs z m H xs vs) : ItOk z m H ⟨xs, fun _ => True⟩ (Itt z.K q) where
  go := fun i m' h' H' e A ok hi => by
    have r' := r.ext e _ _
    obtain ⟨v, e1, r1⟩ := r'.get (List.getElem?_eq_getElem hi)
    exact ⟨⟨vs, v, e.sqT hq, e1⟩, fun x H2 ⟨e2, y⟩ => by
      subst e2
      have := y vs (e.sqT hq)
      rw [e1] at this; cases this
      exact ⟨Ext.refl _ _, A, r1⟩⟩
  stop := fun m' h' H' e A ok => ⟨vs, e.sqT hq, by rw [← r.len]; exact Nat.le_refl _⟩
end
end SB

/-! enumerate(a tuple); more iterables. -/
namespace SB
open PySem PySem.Spec PyProof.Rows L2

theorem wpAny_pyNext_enum_endT {prog : Program} {w : World} {A : Around} {E : Value → Shared → Prop} {s : Shared} {e it t : Addr} {i j : Nat} {old : Value} {items : Array Value} {Q : Option Value → Shared → Prop}
    (he : IsEnum s.heap e it ((j : Nat) : Int) old) (hit : s.heap.IsTupleIter it t i) (ht : s.heap.IsTuple t items) (hh : A.handled = none) (hx : items[i]? = none)
    (hQ : ∀ h', Heap.ExtBut it s.heap h' → Q none { s with heap := h' }) : wpAny (model prog w) A (pyNext (.ref e)) Q E s := by
  have hT : s.TypeIs (.ref e) "enumerate" := ⟨_, he, rfl⟩
  unfold pyNext
  refine wpAny_bind (wpAny_attempt (wpAny_callSpecial?_slot (name := Str.ofString "__next__") hT PySem.F.slot_enumerate_next
    (wpAny_call_entry PySem.F.slot_enumerate_next hT PySem.F.entry_enumerate_next ?_ (PySem.F.args_enumerate_next_1 _))))
  show wpAny _ _ (field (.ref e) 2 >>= _) _ _ _
  refine wpAny_bind (wpAny_field he rfl (x := .ref it) rfl ?_)
  refine wpAny_bind (wpAny_nextOf_tuple_end (show A.in1.handled = none from hh) hit ht hx fun h' x he' hx' => ?_)
  obtain ⟨o, ho, hc⟩ := hx'
  refine wpAny_bind (wpAny_isInstance (T := "StopIteration") (b := true) ⟨o, ho, hc⟩ isSubtype_stop ?_)
  exact wpAny_pure (hQ _ he')
def IteT (K : PySem.W.Frag) (a : Addr) : L2.It :=
  ⟨fun i H => ∃ (xs : List V) (x : V), SqT K H a xs ∧ xs[i]? = some x, fun i H v H' => ∃ T x, v = .ref T ∧ H T = none ∧ H' = upd H T (.tup [.int (i : Nat), x]) ∧ ∀ xs, SqT K H a xs → xs[i]? = some x, fun i H => ∃ xs : List V, SqT K H a xs ∧ xs.length ≤ i⟩
theorem turn_enumT {P : Program} {w : World} {K : PySem.W.Frag} {elts : List Expr} {kk : Nat} {tpos : Pos} (a e it : Addr) :
    Turn P w K (.Tuple elts kk tpos) (IteT K a) [e, it] e (fun i h => (∃ old, IsEnum h e it ((i : Nat) : Int) old) ∧ h.IsTupleIter it a i ∧ e ≠ it ∧ a ≠ it ∧ e ≠ a) where
  mem := by simp
  obj := fun i h st b hb => by
    obtain ⟨⟨old, he⟩, ⟨o, ho, hc, hd⟩, _⟩ := st
    have e' : b = e ∨ b = it := by simpa using hb
    rcases e' with z | z
    · rw [z]; exact ⟨_, he, fun v q => nomatch q⟩
    · rw [z]; exact ⟨o, ho, fun v q => by rw [hd] at q; cases q⟩
  keep := fun i h h' st k => let ⟨⟨old, he⟩, hi, hne⟩ := st; ⟨⟨old, k e (by simp) _ he⟩, hi.at fun o q => k it (by simp) o q, hne⟩
  item := by
    intro X hP hw hK hc i pins s σ H E I hf st hg
    subst hP hw hK
    obtain ⟨⟨old, he⟩, hit, hne, hai, hea⟩ := st
    obtain ⟨xs, x, hq, hx⟩ := hg
    obtain ⟨its, rv, p, hz⟩ := I.tuple hq
    obtain ⟨u, hu, ru⟩ := rv.get hx
    have hel : e < s.heap.objs.size := Heap.lt_size he
    have hil : it < s.heap.objs.size := by obtain ⟨_, q, _⟩ := hit; exact Heap.lt_size q
    have D := Draws.tuple (prog := X.prog) (w := X.w) (A := X.A.in1) (show X.A.in1.handled = none from I.ok.hd hc) it a hai its.toArray
    have hlt : i < its.toArray.size := by
      obtain ⟨h1, _⟩ := List.getElem?_eq_some_iff.mp hu
      simpa using h1
    refine wpAny_pyNext_enum_itemC (i := i) (c := (i : Int)) D he ⟨hit, p⟩ hlt hne (by simp [hne, hea]) fun x' h' tk hPx ho hit' hT hsz hk => ?_
    have : x' = u := by
      rw [List.getElem?_toArray, hu] at hPx
      exact (Option.some.inj hPx).symm
    subst this
    refine ⟨_, rfl, wpAny_letOwnedTupleGo_enum (s := { s with heap := h', toks := tk + 1 }) ho fun h'' he' sb => ?_⟩
    have hT2 : h''.get? s.heap.objs.size = some { cls := .type "tuple", data := .seq #[.int i tk, x'] } := (sb.2 _ (Nat.ne_of_gt hel)).trans hT
    have new : ObjOk X.prog X.w (upd H s.heap.objs.size (.tup [.int (i : Nat), x])) h'' s.heap.objs.size (.tup [.int (i : Nat), x]) :=
      ⟨by show 2 ≤ sizeLine; decide, [.int i tk, x'], .cons ⟨_, rfl⟩ (.cons ru .nil), ⟨_, hT2, rfl, _, rfl⟩⟩
    have I1 : Inv X pins σ (upd H s.heap.objs.size (.tup [.int (i : Nat), x])) { s with heap := h'', toks := tk + 1 } :=
      I.turnedNew (ch := [e, it]) (fun b ob hb q => (sb.2 b (fun z => hb (by simp [z]))).trans (hk b ob (fun z => hb (by simp [z])) (fun z => hb (by simp [z])) q)) hf (Nat.le_refl _) new
    refine ⟨.ref s.heap.objs.size, _, I1, rfl, ⟨_, x, rfl, I.hok.fresh (Nat.le_refl _), rfl, fun ys hy => by rw [I.tuple_inj hy hq]; exact hx⟩, ⟨⟨x', ?_⟩, hit'.1.at fun o q => (sb.2 it (Ne.symm hne)).trans q, hne, hai, hea⟩, fun b hb => ?_⟩
    · have e1 : ((i + 1 : Nat) : Int) = (i : Int) + 1 := by omega
      rw [e1]; exact he'
    · have hb' : b < s.heap.objs.size := by
        have e' : b = e ∨ b = it := by simpa using hb
        rcases e' with z | z
        · rw [z]; exact hel
        · rw [z]; exact hil
      rw [upd_ne (Nat.ne_of_lt hb')]
      exact (hf b hb).1
  done := by
    intro X hP hw hK hc i pins s σ H E I hf st hg
    subst hP hw hK
    obtain ⟨⟨old, he⟩, hit, hne, hai, hea⟩ := st
    obtain ⟨xs, hq, hx⟩ := hg
    obtain ⟨its, rv, p, hz⟩ := I.tuple hq
    obtain ⟨f0, f1, f2, f3, f4, f5⟩ := hf it (by simp)
    have hl := rv.length
    refine wpAny_pyNext_enum_endT he hit (show s.heap.IsTuple a its.toArray from p) (I.ok.hd hc) (by simp; omega) fun h' eb => ⟨rfl, I.turned (t' := s.toks) (fun b o hb q => eb b o hb q) f0 f1 f3 f4 f5⟩
  self := fun A i s Q E st h => let ⟨⟨_, he⟩, _⟩ := st; wpAny_pyIter_enum he h

set_option maxHeartbeats 1000000 in
theorem meets_enum1 {v : Value} {o : Obj} {H : Heap → Prop} (B : Begins v o H) :
    Meets (Builtin.«enumerate.__new__» ⟨[.type "enumerate", v], []⟩) (fun _ R s => H s.heap ∧
      R (.ok (.ret (.ref (s.heap.push o).objs.size))) { s with heap := (s.heap.push o).push { cls := .type "enumerate", data := .fields #[.none, .bool false, .ref s.heap.objs.size, rawInt 0, .none, .none] } }) :=
  .of_wp fun prog w A R s h => by
    obtain ⟨hp, g, d, tk, os⟩ := s; obtain ⟨h1, h⟩ := h
    have hsub := sub_enumerate
    have q1 : ∀ {A' : Around} {E : Value → Shared → Prop} {Q : Value → Shared → Prop}, Q (.ref hp.objs.size) ⟨hp.push o, g, d, tk, os⟩ → wpAny (model prog w) A' (pyIter v) Q E ⟨hp, g, d, tk, os⟩ :=
      fun q => B.iter prog w _ _ ⟨hp, g, d, tk, os⟩ _ h1 q
    wp_walk using q1
    refine wpAny_stack_any fun st => wpAny_pure ?_
    split
    · rename_i c _ _ _ _ _
      cases (c == Value.type "enumerate")
      · wp_walk using q1
        exact ⟨_, rfl, h⟩
      · wp_walk using q1
        exact ⟨_, rfl, h⟩
    · wp_walk using q1
      exact ⟨_, rfl, h⟩
theorem enum_begins1 {prog : Program} {w : World} {A : Around} {E : Value → Shared → Prop} {s : Shared} {v : Value} {o : Obj} {H : Heap → Prop} {Q : Value → Shared → Prop} (B : Begins v o H) (h1 : H s.heap)
    (h : ∀ h', IsEnum h' (s.heap.objs.size + 1) s.heap.objs.size 0 .none → h'.get? s.heap.objs.size = some o → h'.objs.size = s.heap.objs.size + 2 →
      (∀ b o, s.heap.get? b = some o → h'.get? b = some o) → Q (.ref (s.heap.objs.size + 1)) { s with heap := h' }) :
    wpAny (model prog w) A (call (.type "enumerate") [v]) Q E s := by
  refine callType_new PySem.F.called_enumerate (by decide) (PySem.F.typeCall_enumerate_1 _) (PySem.F.newCall_enumerate_1 _) (fun obj => PySem.F.args_object_init_2 obj _) PySem.F.entry_enumerate_new
    (meets_enum1 B) ⟨h1, ?_⟩
  have hz : (s.heap.push o).objs.size = s.heap.objs.size + 1 := Heap.size_push ..
  show _ ∧ _
  rw [hz]
  have he : IsEnum ((s.heap.push o).push { cls := .type "enumerate", data := .fields #[.none, .bool false, .ref s.heap.objs.size, rawInt 0, .none, .none] }) (s.heap.objs.size + 1) s.heap.objs.size 0 .none := by
    have := Heap.get?_push_size (s.heap.push o) (o := { cls := .type "enumerate", data := .fields #[.none, .bool false, .ref s.heap.objs.size, rawInt 0, .none, .none] }) rfl
    rw [hz] at this; exact this
  refine ⟨⟨_, he, rfl⟩, h _ he (Heap.get?_push_of_some _ (Heap.get?_push_size _ B.free)) (by rw [Heap.size_push, hz]) fun b o x => Heap.get?_push_of_some _ (Heap.get?_push_of_some _ x)⟩
def rEnum (K : PySem.W.Frag) (R : L2.It → Hp → Prop) (v : V) (H1 : Hp) : Prop := (∃ p xs, v = .ref p ∧ SqL K H1 p xs ∧ R (Ite K p) H1) ∨ (∃ p xs, v = .ref p ∧ SqT K H1 p xs ∧ R (IteT K p) H1)
def oneV (r : V → Hp → Prop) (vs : List V) (H : Hp) : Prop := match vs with
  | [v] => r v H
  | _ => False
theorem pi_enumA {X : Cx} {e : Expr} {te : TE} {p pos tpos : Pos} {elts : List Expr} {kk : Nat} (hg : Gl X "enumerate") (hm : X.mg "enumerate" = none) (he : PE X e te) (hs : starEach [e] X.env = [(false, eval e X.env)]) :
    PI X (.Tuple elts kk tpos) (.Call (.Name "enumerate" p) [e] [] pos) (fun σ H R => te σ H (rEnum X.K R)) := by
  refine ⟨fun pins s σ H R I h => ?_⟩
  have h2 : tCons te tNil σ H (oneV (rEnum X.K R)) := h
  refine Call_ (ld_blt I hg hm boot_enumerate (PyProof.Rows.callWith_type1 (thn ((pa_cons he pa_nil hs).run pos pins s σ H _ I h2) fun us s1 ⟨vs, H1, I1, r1, q1⟩ => ?_) hs rfl))
  cases r1 with
  | nil => exact q1.elim
  | cons r rr =>
    cases rr with
    | cons _ _ => exact q1.elim
    | nil =>
      rcases q1 with ⟨a, xs, ex, hq, q⟩ | ⟨a, xs, ex, hq, q⟩
      · subst ex
        cases r
        obtain ⟨its, rv, p', hz⟩ := I1.list hq
        refine call_enumerate_list p'.isList fun h' he hit hsz hk => wpAny_pyIter_enum he ?_
        have I2 : Inv X pins σ H1 { s1 with heap := h' } := I1.kept (t' := s1.toks) hk
        refine ⟨s1.heap.objs.size + 1, [s1.heap.objs.size + 1, s1.heap.objs.size], _, _, H1, rfl, I2, turn_enum a (s1.heap.objs.size + 1) s1.heap.objs.size, ⟨⟨.none, he⟩, hit, Nat.succ_ne_self _⟩, fun b hb => ?_, q⟩
        have e' : b = s1.heap.objs.size + 1 ∨ b = s1.heap.objs.size := by simpa using hb
        have hle : s1.heap.objs.size ≤ b := by
          rcases e' with z | z
          · rw [z]; exact Nat.le_add_right _ _
          · rw [z]; exact Nat.le_refl _
        exact I1.fpOk hle (I1.hok.fresh hle)
      · subst ex
        cases r
        obtain ⟨its, rv, p', hz⟩ := I1.tuple hq
        have pt : s1.heap.IsTuple a its.toArray := p'
        have hal : a < s1.heap.objs.size := by obtain ⟨o, q, _⟩ := p'; exact Heap.lt_size q
        refine enum_begins1 (begins_tuple a its.toArray) pt fun h' he hit hsz hk => wpAny_pyIter_enum he ?_
        have I2 : Inv X pins σ H1 { s1 with heap := h' } := I1.kept (t' := s1.toks) hk
        refine ⟨s1.heap.objs.size + 1, [s1.heap.objs.size + 1, s1.heap.objs.size], _, _, H1, rfl, I2, turn_enumT a (s1.heap.objs.size + 1) s1.heap.objs.size, ⟨⟨.none, he⟩, ⟨_, hit, rfl, rfl⟩, Nat.succ_ne_self _, Nat.ne_of_lt hal, Ne.symm (Nat.ne_of_lt (Nat.lt_succ_of_lt hal))⟩, fun b hb => ?_, q⟩
        have e' : b = s1.heap.objs.size + 1 ∨ b = s1.heap.objs.size := by simpa using hb
        have hle : s1.heap.objs.size ≤ b := by
          rcases e' with z | z
          · rw [z]; exact Nat.le_add_right _ _
          · rw [z]; exact Nat.le_refl _
        exact I1.fpOk hle (I1.hok.fresh hle)

/-! ### the iterables of the combinators -/
section
variable {X : Cx} {O : Ora} {a b c e tg : Expr} {fa fb fc : FE} {pos p tpos : Pos}
theorem pi_or {t t' : TI} (h : PI X tg e t) (h' : PI X tg e t') : PI X tg e fun σ H R => t σ H R ∨ t' σ H R :=
  ⟨fun pins s σ H R I w => w.elim (h.run pins s σ H R I) (h'.run pins s σ H R I)⟩
/-- by the value -/
theorem pi_by {t : TE} {r : V → Hp → (L2.It → Hp → Prop) → Prop} (h : PI X tg e (fun σ H R => t σ H fun x H1 => r x H1 R)) : PI X tg e (fun σ H R => t σ H fun x H1 => r x H1 R) := h
def rSeqI (K : PySem.W.Frag) (x : V) (H : Hp) (R : L2.It → Hp → Prop) : Prop := (∃ a, x = .ref a ∧ (∃ xs, SqL K H a xs) ∧ R (Itl K a) H) ∨ (∃ a, x = .ref a ∧ (∃ xs, SqT K H a xs) ∧ R (Itt K a) H) ∨ ∃ z, x = .str z ∧ R (Its z) H
theorem pi_seq {te : TE} (he : PE X e te) : PI X tg e (fun σ H R => te σ H fun x H1 => rSeqI X.K x H1 R) := by
  refine ⟨fun pins s σ H R I h => ?_⟩
  refine thn (he.run pins s σ H _ I h) fun v s1 ⟨x, H1, I1, r1, q1⟩ => ?_
  have D : PE X e fun σ H Q => False := ⟨fun _ _ _ _ _ _ z => z.elim⟩
  rcases q1 with ⟨a, rfl, ⟨xs, hq⟩, q⟩ | ⟨a, rfl, ⟨xs, hq⟩, q⟩ | ⟨z, rfl, q⟩
  · cases r1
    obtain ⟨its, rv, p, hz⟩ := I1.list hq
    exact wpAny_pyIter_list p.isList (pi_one (tk := s1.toks) I1 _ (turn_list a _) ⟨_, Heap.get?_push_size _ rfl, rfl, rfl⟩ q)
  · cases r1
    obtain ⟨its, rv, p, hz⟩ := I1.tuple hq
    exact wpAny_pyIter_tuple (show s1.heap.IsTuple a its.toArray from p) (pi_one (tk := s1.toks) I1 _ (turn_tuple a _) ⟨_, Heap.get?_push_size _ rfl, rfl, rfl⟩ q)
  · obtain ⟨t, rfl⟩ := r1
    cases ha : z.cps.all (· < 128)
    · exact wpAny_pyIter_wide ha (pi_one (tk := s1.toks) I1 _ (turn_str _ z t "str_iterator" (.inr rfl)) ⟨_, Heap.get?_push_size _ rfl, rfl, rfl⟩ q)
    · exact wpAny_pyIter_ascii ha (pi_one (tk := s1.toks) I1 _ (turn_str _ z t "str_ascii_iterator" (.inl rfl)) ⟨_, Heap.get?_push_size _ rfl, rfl, rfl⟩ q)
theorem scr_ok {z : Zt} {m : List Addr} {H : Hp} {q : Addr} {ns : List Int} (hs : Scr z.K H q (ns.map V.int)) : ItOk z m H ⟨ns.map .int, fun _ => True⟩ (Itl z.K q) where
  go := fun i m' h' H' e A ok hi => by
    have r' : RelAs z m' H' (ns.map .int) (ns.map V.int) := RelAs.ints ns
    obtain ⟨v, e1, r1⟩ := r'.get (List.getElem?_eq_getElem hi)
    exact ⟨⟨_, v, (e.scr hs).seq, e1⟩, fun x H2 ⟨e2, y⟩ => by
      subst e2
      have := y _ (e.scr hs).seq
      rw [e1] at this; cases this
      exact ⟨Ext.refl _ _, A, r1⟩⟩
  stop := fun m' h' H' e A ok => ⟨_, (e.scr hs).seq, by simp⟩
theorem di_val (ha : DE X O e fa) : DI X O tg e (iVal fa) := by
  refine PI.imp (pi_seq ha) fun σ H R ⟨m, h, as, A, S, w⟩ => ?_
  refine tE.then_ A S w fun x h1 m1 H1 v e1 A1 S1 r1 w1 => ?_
  cases x with
  | tup xs =>
    obtain ⟨p, vs, rfl, q1, q2⟩ := rtup r1
    exact .inr (.inl ⟨p, rfl, ⟨vs, q1⟩, w1.of_some m1 H1 _ (Ext.refl _ _) A1 (itt_ok q1 q2)⟩)
  | scr ns =>
    simp only [RelA] at r1
    obtain ⟨p, rfl, q1⟩ := r1
    exact .inl ⟨p, rfl, ⟨_, q1.seq⟩, w1.of_some m1 H1 _ (Ext.refl _ _) A1 (scr_ok q1)⟩
  | str z =>
    cases rstr r1
    exact .inr (.inr ⟨z, rfl, w1.of_some m1 H1 _ (Ext.refl _ _) A1 its_ok⟩)
  | ref n =>
    obtain ⟨p, rfl, hp⟩ := rref r1
    dsimp only at w1
    split at w1
    · rename_i xs e0
      obtain ⟨vs, q1, q2⟩ := A1.lst e0 hp
      exact .inl ⟨p, rfl, ⟨vs, SqL.of q1⟩, w1.of_some m1 H1 _ (Ext.refl _ _) A1 (itl_ok hp)⟩
    · exact (Wn.of_none w1).elim
  | _ => exact (Wn.of_none w1).elim
theorem di_rng1 (hg : Gl X "range") (hm : X.mg "range" = none) (ha : DE X O a fa) (hs : starEach [a] X.env = [(false, eval a X.env)]) : DI X O tg (.Call (.Name "range" p) [a] [] pos) (iRange1 fa) := by
  refine PI.imp (pi_range1 hg hm (pa_cons ha pa_nil hs) hs) fun σ H R ⟨m, h, as, A, S, w⟩ => ?_
  refine tE.then_ A S w fun x h1 m1 H1 v e1 A1 S1 r1 w1 => ?_
  cases x <;> try exact (Wn.of_none w1).elim
  rename_i j
  cases rint r1
  dsimp only at w1
  split at w1
  · rename_i hj
    have := itr_ok (z := zOf X) (m := m1) (H := H1) (i := 0) (j := j)
    rw [Int.sub_zero] at this
    exact ⟨j, rfl, hj.1, hj.2, w1.of_some m1 H1 _ (Ext.refl _ _) A1 this⟩
  · exact (Wn.of_none w1).elim
theorem di_rng2 (hg : Gl X "range") (hm : X.mg "range" = none) (ha : DE X O a fa) (hb : DE X O b fb) (hs : starEach [a, b] X.env = [(false, eval a X.env), (false, eval b X.env)]) (hs2 : starEach [b] X.env = [(false, eval b X.env)]) :
    DI X O tg (.Call (.Name "range" p) [a, b] [] pos) (iRange2 fa fb) := by
  refine PI.imp (pi_range2 hg hm (pa_cons ha (pa_cons hb pa_nil hs2) (by rw [hs, hs2])) hs hs2) fun σ H R ⟨m, h, as, A, S, w⟩ => ?_
  refine tE.then_ A S w fun x h1 m1 H1 v e1 A1 S1 r1 w1 => tE.then_ A1 S1 w1 fun y h2 m2 H2 u e2 A2 S2 r2 w2 => ?_
  cases x <;> cases y <;> try exact (Wn.of_none w2).elim
  rename_i i j
  cases rint r1
  cases rint r2
  dsimp only at w2
  split at w2
  · rename_i hj
    exact ⟨i, j, rfl, ⟨hj.1.1, hj.1.2, hj.2.1, hj.2.2⟩, w2.of_some m2 H2 _ (Ext.refl _ _) A2 itr_ok⟩
  · exact (Wn.of_none w2).elim
theorem di_rngD (hg : Gl X "range") (hm : X.mg "range" = none) (ha : DE X O a fa) (hb : DE X O b fb) (hc : DE X O c fc) (hs : starEach [a, b, c] X.env = (false, eval a X.env) :: starEach [b, c] X.env)
    (hs1 : starEach [b, c] X.env = (false, eval b X.env) :: starEach [c] X.env) (hs2 : starEach [c] X.env = [(false, eval c X.env)]) (hpl : (backTo pos (starEach [b, c] X.env)).any (·.1) = false) :
    DI X O tg (.Call (.Name "range" p) [a, b, c] [] pos) (iRangeD fa fb fc) := by
  refine PI.imp (pi_range3 hg hm (pa_cons ha (pa_cons hb (pa_cons hc pa_nil hs2) hs1) hs) hs hpl) fun σ H R ⟨m, h, as, A, S, w⟩ => ?_
  refine tE.then_ A S w fun x h1 m1 H1 v e1 A1 S1 r1 w1 => tE.then_ A1 S1 w1 fun y h2 m2 H2 u e2 A2 S2 r2 w2 => tE.then_ A2 S2 w2 fun t h3 m3 H3 k e3 A3 S3 r3 w3 => ?_
  split at w3
  · rename_i i j
    cases rint r1
    cases rint r2
    cases rint r3
    split at w3
    · rename_i hj
      exact ⟨i, j, -1, (i - j).toNat, rfl, RgC.neg hj.1.1 hj.1.2 hj.2.1 hj.2.2, w3.of_some m3 H3 _ (Ext.refl _ _) A3 itc_ok⟩
    · exact (Wn.of_none w3).elim
  · exact (Wn.of_none w3).elim
/-! enumerate -/
theorem ext_new {z : Zt} {m : List Addr} {h : AH} {H : Hp} {T : Addr} {u : HO} (A : Abs z m h H) (hT : H T = none) : Ext m H m (upd H T u) ∧ Abs z m h (upd H T u) := ⟨Ext.new0 hT, A.beside hT⟩
theorem enum_at {xs : List AV} {i : Nat} (hi : i < (enumAV xs).length) : (enumAV xs)[i] = .tup [.int (i : Int), xs.getD i .non] := by
  simp [enumAV]
theorem enum_len (xs : List AV) : (enumAV xs).length = xs.length := by simp [enumAV]
theorem enum_rel {z : Zt} {m : List Addr} {H : Hp} {xs : List AV} {i : Nat} {v : V} {T : Addr} (hi : i < (enumAV xs).length) (hT : H T = some (.tup [.int (i : Nat), v])) (r : RelA z m H (xs.getD i .non) v) : RelA z m H ((enumAV xs)[i]) (.ref T) := by
  rw [enum_at hi]
  simp only [RelA]
  exact ⟨T, _, rfl, SqT.of hT, .cons (by simp [RelA]) (.one r)⟩
theorem getD_of {xs : List AV} {i : Nat} {x : AV} (h : xs[i]? = some x) : xs.getD i .non = x := by simp [List.getD, h]
theorem ite_ok {z : Zt} {m : List Addr} {H : Hp} {n : Nat} {q : Addr} {xs : List AV} (hm : m[n]? = some q) : ItOk z m H ⟨enumAV xs, fun h => h[n]? = some (.lst xs)⟩ (Ite z.K q) where
  go := fun i m' h' H' e A ok hi => by
    have hi : i < (enumAV xs).length := hi
    obtain ⟨vs, q1, q2⟩ := A.lst ok (e.get hm)
    have hi2 : i < xs.length := by rw [← enum_len xs]; exact hi
    obtain ⟨v, e1, r⟩ := q2.get (List.getElem?_eq_getElem hi2)
    refine ⟨⟨vs, v, SqL.of q1, e1⟩, fun x H2 ⟨T, y, ex, hT, e2, g⟩ => ?_⟩
    subst e2 ex
    have := g vs (SqL.of q1)
    rw [e1] at this; cases this
    obtain ⟨e3, A3⟩ := ext_new (u := .tup [.int (i : Nat), v]) A hT
    exact ⟨e3, A3, enum_rel hi upd_same (by rw [getD_of (List.getElem?_eq_getElem hi2)]; exact r.ext e3 _ _)⟩
  stop := fun m' h' H' e A ok => by
    obtain ⟨vs, q1, q2⟩ := A.lst ok (e.get hm)
    exact ⟨vs, SqL.of q1, by rw [← q2.len, enum_len]; exact Nat.le_refl _⟩
theorem itet_ok {z : Zt} {m : List Addr} {H : Hp} {q : Addr} {xs : List AV} {vs : List V} (hq : SqT z.K H q vs) (r : RelAs z m H xs vs) : ItOk z m H ⟨enumAV xs, fun _ => True⟩ (IteT z.K q) where
  go := fun i m' h' H' e A ok hi => by
    have hi : i < (enumAV xs).length := hi
    have r' := r.ext e _ _
    have hi2 : i < xs.length := by rw [← enum_len xs]; exact hi
    obtain ⟨v, e1, r1⟩ := r'.get (List.getElem?_eq_getElem hi2)
    refine ⟨⟨vs, v, e.sqT hq, e1⟩, fun x H2 ⟨T, y, ex, hT, e2, g⟩ => ?_⟩
    subst e2 ex
    have := g vs (e.sqT hq)
    rw [e1] at this; cases this
    obtain ⟨e3, A3⟩ := ext_new (u := .tup [.int (i : Nat), v]) A hT
    exact ⟨e3, A3, enum_rel hi upd_same (by rw [getD_of (List.getElem?_eq_getElem hi2)]; exact r1.ext e3 _ _)⟩
  stop := fun m' h' H' e A ok => ⟨vs, e.sqT hq, by rw [← r.len, enum_len]; exact Nat.le_refl _⟩
theorem di_enum {elts : List Expr} {kk : Nat} (hg : Gl X "enumerate") (hm : X.mg "enumerate" = none) (ha : DE X O a fa) (hs : starEach [a] X.env = [(false, eval a X.env)]) : DI X O (.Tuple elts kk tpos) (.Call (.Name "enumerate" p) [a] [] pos) (SB.iEnum fa) := by
  refine PI.imp (pi_enumA hg hm ha hs) fun σ H R ⟨m, h, as, A, S, w⟩ => ?_
  refine tE.then_ A S w fun x h1 m1 H1 v e1 A1 S1 r1 w1 => ?_
  cases x with
  | tup xs =>
    obtain ⟨p, vs, rfl, q1, q2⟩ := rtup r1
    dsimp only at w1
    split at w1
    · exact .inr ⟨p, vs, rfl, q1, w1.of_some m1 H1 _ (Ext.refl _ _) A1 (itet_ok q1 q2)⟩
    · exact (Wn.of_none w1).elim
  | ref n =>
    obtain ⟨p, rfl, hp⟩ := rref r1
    dsimp only at w1
    split at w1
    · rename_i xs e0
      obtain ⟨vs, q1, q2⟩ := A1.lst e0 hp
      exact .inl ⟨p, vs, rfl, SqL.of q1, w1.of_some m1 H1 _ (Ext.refl _ _) A1 (ite_ok hp)⟩
    · exact (Wn.of_none w1).elim
  | _ => exact (Wn.of_none w1).elim
end
end SB

/-! Statements, comprehensions. -/
namespace SB
open PySem PySem.Spec PyProof.Rows L2

/-- what is wanted behind a statement -/
def WS (z : Zt) (m : List Addr) (H : Hp) (r : Rs Ct) (D : Ends) : Prop := ∃ c h', r = some (c, h') ∧ ∀ m' H', Ext m H m' H' → Abs z m' h' H' → match c with
  | .next as' => ∀ σ', RelE z m' H' as' σ' → D.nx σ' H'
  | .ret a => ∀ v, RelA z m' H' a v → D.rt v H'
def tS (z : Zt) (O : Ora) (f : FS) : TS := fun D σ H => ∃ m h as, Abs z m h H ∧ RelE z m H as σ ∧ WS z m H (f O as h) D
abbrev DS (X : Cx) (O : Ora) (e : Stmt) (f : FS) : Prop := PS X e (tS (zOf X) O f)
abbrev DB (X : Cx) (O : Ora) (e : List Stmt) (f : FS) : Prop := PSs X e (tS (zOf X) O f)
theorem PS.im {X : Cx} {e : Stmt} {t t' : TS} (h : PS X e t) (k : ∀ D σ H, t' D σ H → t D σ H) : PS X e t' := ⟨fun pins s σ H D I w => h.run pins s σ H D I (k D σ H w)⟩
theorem PSs.im {X : Cx} {e : List Stmt} {t t' : TS} (h : PSs X e t) (k : ∀ D σ H, t' D σ H → t D σ H) : PSs X e t' := ⟨fun pins s σ H D I w => h.run pins s σ H D I (k D σ H w)⟩
section
variable {z : Zt} {m m1 : List Addr} {H H1 : Hp} {D : Ends}
theorem WS.of_none (w : WS z m H none D) : False := by obtain ⟨_, _, e, _⟩ := w; cases e
theorem WS.next {as : En} {h : AH} (w : WS z m H (some (.next as, h)) D) : ∀ m' H' σ', Ext m H m' H' → Abs z m' h H' → RelE z m' H' as σ' → D.nx σ' H' := by
  obtain ⟨_, _, e, q⟩ := w
  cases e
  exact fun m' H' σ' e A S => q m' H' e A σ' S
theorem WS.ret {a : AV} {h : AH} (w : WS z m H (some (.ret a, h)) D) : ∀ m' H' v, Ext m H m' H' → Abs z m' h H' → RelA z m' H' a v → D.rt v H' := by
  obtain ⟨_, _, e, q⟩ := w
  cases e
  exact fun m' H' v e A r => q m' H' e A v r
theorem WS.mono {r : Rs Ct} (w : WS z m H r D) (e : Ext m H m1 H1) : WS z m1 H1 r D := by
  obtain ⟨c, h', er, q⟩ := w
  exact ⟨c, h', er, fun m' H' e' => q m' H' (e.trans e')⟩
theorem WS.bnd {α β : Type} {rel : List Addr → Hp → α → β → Prop} {r : Rs α} {k : α → AH → Rs Ct} {R : β → Hp → Prop}
    (h : WS z m H (bnd r k) D) (hk : ∀ a h', r = some (a, h') → WS z m H (k a h') D → ∀ m' H' v, Ext m H m' H' → Abs z m' h' H' → rel m' H' a v → R v H') : Wn z rel m H r R := by
  cases r with
  | none => exact h.of_none.elim
  | some p =>
    obtain ⟨a, h'⟩ := p
    exact ⟨a, h', rfl, hk a h' rfl h⟩
theorem WS.ifB {x : AV} {t e : Rs Ct} (w : WS z m H (SB.ifB x t e) D) : ∃ b, x = .bl b ∧ WS z m H (if b = true then t else e) D := by
  cases x with
  | bl b => rw [ifB_bl] at w; exact ⟨b, rfl, w⟩
  | _ => exact (WS.of_none w).elim
end
section
variable {z : Zt} {O : Ora} {m : List Addr} {h : AH} {H : Hp} {as : En} {σ : L2.St} {D : Ends}
theorem tE.thenS {a : FE} {k : AV → AH → Rs Ct} {R : VK} (A : Abs z m h H) (S : RelE z m H as σ)
    (w : WS z m H (bnd (a O as h) k) D) (hk : ∀ x h1 m1 H1 v, Ext m H m1 H1 → Abs z m1 h1 H1 → RelE z m1 H1 as σ → RelA z m1 H1 x v → WS z m1 H1 (k x h1) D → R v H1) : tE z O a σ H R :=
  ⟨m, h, as, A, S, WS.bnd w fun x h1 _ w1 m1 H1 v e A1 r => hk x h1 m1 H1 v e A1 (S.ext e) r (w1.mono e)⟩
theorem tI.thenS {a : FI} {k : It → AH → Rs Ct} {R : L2.It → Hp → Prop} (A : Abs z m h H) (S : RelE z m H as σ)
    (w : WS z m H (bnd (a O as h) k) D) (hk : ∀ x h1 m1 H1 v, Ext m H m1 H1 → Abs z m1 h1 H1 → RelE z m1 H1 as σ → ItOk z m1 H1 x v → WS z m1 H1 (k x h1) D → R v H1) : tI z O a σ H R :=
  ⟨m, h, as, A, S, WS.bnd w fun x h1 _ w1 m1 H1 v e A1 r => hk x h1 m1 H1 v e A1 (S.ext e) r (w1.mono e)⟩
theorem tG.thenS {a : FG} {x : AV} {v : V} {k : En → AH → Rs Ct} {R : L2.St → Hp → Prop} (A : Abs z m h H) (S : RelE z m H as σ) (r : RelA z m H x v)
    (w : WS z m H (bnd (a O x as h) k) D) (hk : ∀ as1 h1 m1 H1 σ1, Ext m H m1 H1 → Abs z m1 h1 H1 → RelE z m1 H1 as1 σ1 → WS z m1 H1 (k as1 h1) D → R σ1 H1) : tG z O a v σ H R :=
  ⟨m, h, as, x, A, S, r, WS.bnd w fun as1 h1 _ w1 m1 H1 σ1 e A1 S1 => hk as1 h1 m1 H1 σ1 e A1 S1 (w1.mono e)⟩
theorem tT.thenS {a : FE} {t e : AH → Rs Ct} {R : Bool → Hp → Prop} (A : Abs z m h H) (S : RelE z m H as σ)
    (w : WS z m H (bnd (a O as h) fun x h => ifB x (t h) (e h)) D) (hk : ∀ (b : Bool) h1 m1 H1, Ext m H m1 H1 → Abs z m1 h1 H1 → RelE z m1 H1 as σ → WS z m1 H1 (if b = true then t h1 else e h1) D → R b H1) : tT z O a σ H R := by
  refine ⟨m, h, as, A, S, ?_⟩
  unfold tst
  cases q : a O as h with
  | none => rw [q] at w; exact (WS.of_none w).elim
  | some p =>
    obtain ⟨x, h1⟩ := p
    rw [q] at w
    simp only [bnd_some] at w ⊢
    cases x with
    | bl b =>
      rw [ifB_bl] at w
      exact ⟨b, h1, rfl, fun m1 H1 b' e A1 r => by subst r; exact hk b h1 m1 H1 e A1 (S.ext e) (w.mono e)⟩
    | _ => exact (WS.of_none w).elim
/-- a statement, then the rest -/
theorem tS.then_ {a : FS} {k : En → AH → Rs Ct} (A : Abs z m h H) (S : RelE z m H as σ) {E : Ends}
    (w : WS z m H (bnd (a O as h) fun c h => match c with
      | .next σ => k σ h
      | .ret v => some (.ret v, h)) D) (hn : ∀ as1 h1 m1 H1 σ1, Ext m H m1 H1 → Abs z m1 h1 H1 → RelE z m1 H1 as1 σ1 → WS z m1 H1 (k as1 h1) D → E.nx σ1 H1) (hr : ∀ v H', D.rt v H' → E.rt v H') : tS z O a E σ H := by
  refine ⟨m, h, as, A, S, ?_⟩
  cases q : a O as h with
  | none => rw [q] at w; exact (WS.of_none w).elim
  | some p =>
    obtain ⟨c, h1⟩ := p
    rw [q] at w
    refine ⟨c, h1, rfl, fun m1 H1 e A1 => ?_⟩
    cases c with
    | next as1 => exact fun σ1 S1 => hn as1 h1 m1 H1 σ1 e A1 S1 (w.mono e)
    | ret v => exact fun u r => hr u H1 (w.ret m1 H1 u e A1 r)
end

section
variable {X : Cx} {O : Ora} {a b c e o tg : Expr} {fa fb fc fo : FE} {pos apos p : Pos} {st : Stmt} {sts rest : List Stmt} {f f1 f2 : FS} {g : FG} {fi : FI}
theorem ds_none : DS X O st sNone := ⟨fun _ _ _ _ _ _ ⟨_, _, _, _, _, w⟩ => (WS.of_none w).elim⟩
theorem db_none : DB X O sts sNone := ⟨fun _ _ _ _ _ _ ⟨_, _, _, _, _, w⟩ => (WS.of_none w).elim⟩
theorem db_nil : DB X O [] sNext := PSs.im pss_nil fun D σ H ⟨m, h, as, A, S, w⟩ => w.next m H σ (Ext.refl _ _) A S
theorem db_one (h1 : DS X O st f) : DB X O [st] f := pss_one h1
theorem db_cons (h1 : DS X O st f1) (h2 : DB X O rest f2) : DB X O (st :: rest) (sSeq f1 f2) := by
  refine PSs.im (pss_cons h1 h2) fun D σ H ⟨m, h, as, A, S, w⟩ => ?_
  exact tS.then_ (k := fun σ h => f2 O σ h) A S w (fun as1 h1 m1 H1 σ1 e1 A1 S1 w1 => ⟨m1, h1, as1, A1, S1, w1⟩) fun v H' q => q
theorem ds_expr (ha : DE X O a fa) (hs : swapsWith a none pos.line X.env = pure false) : DS X O (.Expr a pos) (sExpr fa) := by
  refine PS.im (ps_expr ha hs) fun D σ H ⟨m, h, as, A, S, w⟩ => ?_
  exact tE.thenS A S w fun x h1 m1 H1 v e1 A1 S1 r1 w1 => w1.next m1 H1 σ (Ext.refl _ _) A1 S1
theorem ds_doc {x : Str} {j : Nat} : DS X O (.Expr (.Constant (.str x) j p) pos) sNext := PS.im ps_doc fun D σ H ⟨m, h, as, A, S, w⟩ => w.next m H σ (Ext.refl _ _) A S
theorem ds_ret (ha : DE X O a fa) : DS X O (.Return (some a) pos) (sRet fa) := by
  refine PS.im (ps_ret ha) fun D σ H ⟨m, h, as, A, S, w⟩ => ?_
  exact tE.thenS A S w fun x h1 m1 H1 v e1 A1 S1 r1 w1 => w1.ret m1 H1 v (Ext.refl _ _) A1 r1
theorem ds_retN : DS X O (.Return none pos) (sRet (fC .non)) := by
  refine PS.im ps_retN fun D σ H ⟨m, h, as, A, S, w⟩ => ?_
  exact w.ret m H .non (Ext.refl _ _) A (by simp [RelA])
theorem ds_if {q r : List Stmt} (hc : DT X O c fc) (ha : DB X O q f1) (hb : DB X O r f2) : DS X O (.If c q r pos) (sIf fc f1 f2) := by
  refine PS.im (ps_if hc ha hb) fun D σ H ⟨m, h, as, A, S, w⟩ => ?_
  refine tT.thenS A S w fun k h1 m1 H1 e1 A1 S1 w1 => ?_
  cases k with
  | true => exact ⟨m1, h1, as, A1, S1, w1⟩
  | false => exact ⟨m1, h1, as, A1, S1, w1⟩
theorem ds_asg (ha : DE X O a fa) (hg : DG X O tg g) (hs : swapsWithSole [tg] a pos.line X.env = pure false) (hw : swappedStores [tg] a X.env = pure none) (h1 : (assignEach [tg] X.env).map (·.2) = [assign tg X.env]) : DS X O (.Assign [tg] a pos) (sAsg g fa) := by
  refine PS.im (ps_asg ha hg hs hw h1) fun D σ H ⟨m, h, as, A, S, w⟩ => ?_
  exact tE.thenS A S w fun x h1 m1 H1 v e1 A1 S1 r1 w1 => tG.thenS A1 S1 r1 w1 fun as2 h2 m2 H2 σ2 e2 A2 S2 w2 => w2.next m2 H2 σ2 (Ext.refl _ _) A2 S2
/-! a field -/
theorem putF_rel {z : Zt} {m : List Addr} {H : Hp} {fs : List (Str × AV)} {vs : List (Str × V)} (r : RelP z m H fs vs) (f : Str) {x : AV} {v : V} (rx : RelA z m H x v) : RelP z m H (fput f x fs) (putF f v vs) := by
  induction r with
  | nil => exact .cons ⟨rfl, rx⟩ .nil
  | @cons p q l1 l2 r t ih =>
    obtain ⟨p1, p2⟩ := p
    obtain ⟨q1, q2⟩ := q
    obtain ⟨r1, r2⟩ := r
    simp only at r1 r2
    subst r1
    unfold fput putF
    by_cases c : p1 = f
    · rw [if_pos c, if_pos c]; exact .cons ⟨rfl, rx⟩ t
    · rw [if_neg c, if_neg c]; exact .cons ⟨rfl, r2⟩ ih
theorem fput_names {f : Str} {x : AV} : ∀ {fs : List (Str × AV)} {g : Str}, g ∈ (fput f x fs).map (·.1) → g = f ∨ g ∈ fs.map (·.1)
  | [], g, h => by simp [fput] at h; exact .inl h
  | (k, y) :: r, g, h => by
    unfold fput at h
    by_cases c : k = f
    · rw [if_pos c] at h
      simp only [List.map_cons, List.mem_cons] at h ⊢
      exact .inr h
    · rw [if_neg c] at h
      simp only [List.map_cons, List.mem_cons] at h ⊢
      rcases h with h | h
      · exact .inr (.inl h)
      · rcases fput_names h with h | h
        · exact .inl h
        · exact .inr (.inr h)
theorem ds_fld {fn : Str} {cs : List Str} (hu : UF.lookup fn = some cs) (ha : DE X O a fa) (ho : DE X O o fo) (hs : swapsWith a (some (.Attribute o fn p)) pos.line X.env = pure false) : DS X O (.Assign [.Attribute o fn p] a pos) (sAsg (gFld cs fo fn) fa) := by
  refine PS.im (ps_fld ho ha hs) fun D σ H ⟨m, h, as, A, S, w⟩ => ?_
  refine tE.thenS A S w fun x h1 m1 H1 v e1 A1 S1 r1 w1 => ?_
  unfold gFld at w1
  have w1' : WS (zOf X) m1 H1 (bnd (fo O as h1) fun y h => match setFldA cs fn y x h with
    | some h => some (.next as, h)
    | none => none) D := by
    cases q : fo O as h1 with
    | none => rw [q] at w1; exact w1
    | some pr =>
      obtain ⟨y, h2⟩ := pr
      rw [q] at w1
      simp only [bnd_some] at w1 ⊢
      cases q2 : setFldA cs fn y x h2 with
      | none => rw [q2] at w1; exact w1
      | some h3 => rw [q2] at w1; exact w1
  refine tE.thenS A1 S1 w1' fun y h2 m2 H2 u e2 A2 S2 r2 w2 => ?_
  cases y <;> try exact (WS.of_none w2).elim
  rename_i n
  obtain ⟨q, rfl, hq⟩ := rref r2
  simp only [setFldA] at w2
  split at w2
  · rename_i h3 e3
    split at e3
    · rename_i C fs e0
      split at e3
      · rename_i hc
        cases e3
        obtain ⟨dx, vs, q1, rr, cc, nn⟩ := A2.ins e0 hq
        have hno := cc.no fn cs hu hc.1
        refine ⟨q, _, dx, vs, rfl, q1, cc.cl, hno, by rw [← Paired.length rr]; exact hc.2, ?_⟩
        have ew : Ext m2 H2 m2 (upd H2 q (.ins (He.ga X.K C) dx (putF fn v vs))) := Ext.wr q1 True.intro
        exact w2.next m2 _ σ ew (A2.write hq q1 True.intro ⟨dx, _, upd_same, (putF_rel rr fn (r1.ext e2 _ _)).ext ew, cc, fun f' hf' => (fput_names hf').elim (fun z => z ▸ hno) (nn f')⟩) (S2.ext ew)
      · cases e3
    · cases e3
  · exact (WS.of_none w2).elim
/-! two and three names at once -/
theorem gAll_vars2 {i j : Nat} {x y : AV} {as : En} {h : AH} : gAll [gVar i, gVar j] O [x, y] as h = some ((as.set i (some x)).set j (some y), h) := rfl
theorem ds_par2 {i j : Nat} {x y : Str} {px py pt : Pos} {kt k2 pt2} (hc : X.calm = true) (hN : X.N.Nodup) (hi : X.N[i]? = some x) (hj : X.N[j]? = some y) (hij : i ≠ j)
    (hx : X.env.scope.names.lookup x = some .local) (hy : X.env.scope.names.lookup y = some .local) (ha : DE X O a fa) (hb : DE X O b fb) (hs1 : starEach [a, b] X.env = (false, eval a X.env) :: starEach [b] X.env) (hs2 : starEach [b] X.env = [(false, eval b X.env)])
    (hw : swappedStores [.Tuple [.Name x px, .Name y py] kt pt] (.Tuple [a, b] k2 pt2) X.env = pure (some [x, y]))
    (hs : swapsWithSole [.Tuple [.Name x px, .Name y py] kt pt] (.Tuple [a, b] k2 pt2) pos.line X.env = pure false) :
    DS X O (.Assign [.Tuple [.Name x px, .Name y py] kt pt] (.Tuple [a, b] k2 pt2) pos) (sAsg (SB.gTup [gVar i, gVar j]) (fTup [fa, fb])) := by
  refine PS.im (ps_par hc hN hi hj hij hx hy (pa_cons ha (pa_cons hb pa_nil hs2) hs1) hw hs) fun D σ H ⟨m, h, as, A, S, w⟩ => ?_
  have w' : WS (zOf X) m H (bnd (fa O as h) fun x h => bnd (fb O as h) fun y h => some (.next ((as.set i (some x)).set j (some y)), h)) D := by
    unfold sAsg fTup aAll aCons at w
    cases q : fa O as h with
    | none => rw [q] at w; exact w
    | some pr =>
      obtain ⟨v1, h1⟩ := pr
      rw [q] at w
      simp only [bnd_some] at w ⊢
      unfold aAll aCons at w
      cases q2 : fb O as h1 with
      | none => rw [q2] at w; exact w
      | some pr =>
        obtain ⟨v2, h2⟩ := pr
        rw [q2] at w
        exact w
  exact tE.thenS A S w' fun v h1 m1 H1 u e1 A1 S1 r1 w1 => tE.thenS A1 S1 w1 fun v2 h2 m2 H2 u2 e2 A2 S2 r2 w2 =>
    ⟨u, u2, rfl, w2.next m2 H2 _ (Ext.refl _ _) A2 ((S2.set (r1.ext e2 _ _) i).set r2 j)⟩
theorem ds_par3 {i j l : Nat} {x y t : Str} {px py pz pt : Pos} {kt k2 pt2} (hc : X.calm = true) (hN : X.N.Nodup) (hi : X.N[i]? = some x) (hj : X.N[j]? = some y) (hl : X.N[l]? = some t) (hij : i ≠ j) (hil : i ≠ l) (hjl : j ≠ l)
    (hx : X.env.scope.names.lookup x = some .local) (hy : X.env.scope.names.lookup y = some .local) (hz : X.env.scope.names.lookup t = some .local) (ha : DE X O a fa) (hb : DE X O b fb) (hcc : DE X O c fc) (hs1 : starEach [a, b, c] X.env = (false, eval a X.env) :: starEach [b, c] X.env) (hs2 : starEach [b, c] X.env = (false, eval b X.env) :: starEach [c] X.env) (hs3 : starEach [c] X.env = [(false, eval c X.env)])
    (hw : swappedStores [.Tuple [.Name x px, .Name y py, .Name t pz] kt pt] (.Tuple [a, b, c] k2 pt2) X.env = pure (some [x, y, t]))
    (hs : swapsWithSole [.Tuple [.Name x px, .Name y py, .Name t pz] kt pt] (.Tuple [a, b, c] k2 pt2) pos.line X.env = pure false) :
    DS X O (.Assign [.Tuple [.Name x px, .Name y py, .Name t pz] kt pt] (.Tuple [a, b, c] k2 pt2) pos) (sAsg (SB.gTup [gVar i, gVar j, gVar l]) (fTup [fa, fb, fc])) := by
  refine PS.im (ps_par3 hc hN hi hj hl hij hil hjl hx hy hz (pa_cons ha (pa_cons hb (pa_cons hcc pa_nil hs3) hs2) hs1) hw hs) fun D σ H ⟨m, h, as, A, S, w⟩ => ?_
  have w' : WS (zOf X) m H (bnd (fa O as h) fun x h => bnd (fb O as h) fun y h => bnd (fc O as h) fun t h => some (.next (((as.set i (some x)).set j (some y)).set l (some t)), h)) D := by
    unfold sAsg fTup aAll aCons at w
    cases q : fa O as h with
    | none => rw [q] at w; exact w
    | some pr =>
      obtain ⟨v1, h1⟩ := pr
      rw [q] at w
      simp only [bnd_some] at w ⊢
      unfold aAll aCons at w
      cases q2 : fb O as h1 with
      | none => rw [q2] at w; exact w
      | some pr =>
        obtain ⟨v2, h2⟩ := pr
        rw [q2] at w
        simp only [bnd_some] at w ⊢
        unfold aAll aCons at w
        cases q3 : fc O as h2 with
        | none => rw [q3] at w; exact w
        | some pr =>
          obtain ⟨v3, h3⟩ := pr
          rw [q3] at w
          exact w
  exact tE.thenS A S w' fun v h1 m1 H1 u e1 A1 S1 r1 w1 => tE.thenS A1 S1 w1 fun v2 h2 m2 H2 u2 e2 A2 S2 r2 w2 => tE.thenS A2 S2 w2 fun v3 h3 m3 H3 u3 e3 A3 S3 r3 w3 =>
    ⟨u, u2, u3, rfl, w3.next m3 H3 _ (Ext.refl _ _) A3 (((S3.set (r1.ext (e2.trans e3) _ _) i).set (r2.ext e3 _ _) j).set r3 l)⟩

/-! ### loops -/
theorem ds_while (hp : PassesOwn (model X.prog X.w) X.A X.env X.xe) (hc : DT X O c fc) (hb : DB X O sts f) : DS X O (.While c sts [] pos) (sWhile fc f) := by
  refine PS.im (ps_while hp hc hb) fun D σ H ⟨m, h, as, A, S, w⟩ => ?_
  refine ⟨fun n σ H => ∃ m h as, Abs (zOf X) m h H ∧ RelE (zOf X) m H as σ ∧ WS (zOf X) m H (loopW fc f O n as h) D, ⟨100000, m, h, as, A, S, w⟩, ?_⟩
  rintro n σ H ⟨m, h, as, A, S, w⟩
  cases n with
  | zero => exact (WS.of_none w).elim
  | succ n =>
    unfold loopW at w
    refine tT.thenS A S w fun k h1 m1 H1 e1 A1 S1 w1 => ?_
    cases k with
    | false => exact w1.next m1 H1 σ (Ext.refl _ _) A1 S1
    | true =>
      simp only [if_true] at w1 ⊢
      refine ⟨fun σ' H' => ∃ m h as, Abs (zOf X) m h H' ∧ RelE (zOf X) m H' as σ' ∧ WS (zOf X) m H' (loopW fc f O n as h) D, fun σ' H' q => ⟨n, Nat.lt_succ_self n, q⟩, ?_⟩
      exact tS.then_ (D := D) (k := fun σ h => loopW fc f O n σ h) A1 S1 w1 (fun as2 h2 m2 H2 σ2 e2 A2 S2 w2 => ⟨m2, h2, as2, A2, S2, w2⟩) fun v H' q => q
open Classical in
theorem ds_for (hp : PassesOwn (model X.prog X.w) X.A X.env X.xe) (hc : X.calm = true) (hi : DI X O tg e fi) (hg : DG X O tg g) (hb : DB X O sts f) (hs : ∀ x, foldedSetIterable e X.env x = pure x) : DS X O (.For tg e sts [] pos) (sFor fi g f) := by
  refine PS.im (ps_for hp hc hi hg hb hs) fun D σ H ⟨m, h, as, A, S, w⟩ => ?_
  unfold sFor at w
  refine tI.thenS A S w fun I h1 m1 H1 J e1 A1 S1 ok w1 => ?_
  refine ⟨fun i k σ H' => ∃ m h as, Ext m1 H1 m H' ∧ Abs (zOf X) m h H' ∧ RelE (zOf X) m H' as σ ∧ k = I.its.length - i ∧ i ≤ I.its.length ∧ WS (zOf X) m H' (loopF I.ok g f O (I.its.drop i) as h) D, ⟨I.its.length, m1, h1, as, Ext.refl _ _, A1, S1, by simp, Nat.zero_le _, w1⟩, ?_⟩
  rintro i k σ H2 ⟨m2, h2, as2, e2, A2, S2, rfl, hi, w2⟩
  by_cases hlt : i < I.its.length
  · rw [List.drop_eq_getElem_cons hlt] at w2
    unfold loopF at w2
    split at w2
    · rename_i hok
      obtain ⟨go, yld⟩ := ok.go i m2 h2 H2 e2 A2 hok hlt
      refine .inr ⟨go, fun σ' H' => ∃ m h as, Ext m1 H1 m H' ∧ Abs (zOf X) m h H' ∧ RelE (zOf X) m H' as σ' ∧ WS (zOf X) m H' (loopF I.ok g f O (I.its.drop (i + 1)) as h) D,
        fun σ' H' ⟨m, h, as, e, A, S, w⟩ => ⟨I.its.length - (i + 1), by omega, m, h, as, e, A, S, rfl, hlt, w⟩, fun x H3 y => ?_⟩
      obtain ⟨e3, A3, r3⟩ := yld x H3 y
      refine tG.thenS A3 (S2.ext e3) r3 (w2.mono e3) fun as4 h4 m4 H4 σ4 e4 A4 S4 w4 => ?_
      exact tS.then_ (D := D) (k := fun σ h => loopF I.ok g f O (I.its.drop (i + 1)) σ h) A4 S4 w4 (fun as5 h5 m5 H5 σ5 e5 A5 S5 w5 => ⟨m5, h5, as5, ((e2.trans e3).trans e4).trans e5, A5, S5, w5⟩) fun v H' q => q
    · exact (WS.of_none w2).elim
  · have e : i = I.its.length := by omega
    subst e
    rw [List.drop_length] at w2
    unfold loopF at w2
    split at w2
    · rename_i hok
      exact .inl ⟨ok.stop m2 h2 H2 e2 A2 hok, w2.next m2 H2 σ (Ext.refl _ _) A2 S2⟩
    · exact (WS.of_none w2).elim
end
end SB

/-! List comprehensions. -/
namespace SB
open PySem PySem.Spec PyProof.Rows L2

/-! targets that touch the slots vs alone -/
theorem set_none_comm (σ : L2.St) (i j : Nat) (v : Option V) (h : i ≠ j) : (σ.set i v).set j none = (σ.set j none).set i v := List.set_comm _ _ h
theorem wipe_set {vs : List Nat} : ∀ {σ : L2.St} {i : Nat} {v : Option V}, i ∈ vs → wipe (σ.set i v) vs = wipe σ vs := by
  induction vs with
  | nil => intro σ i v h; cases h
  | cons j vs ih =>
    intro σ i v h
    unfold wipe
    by_cases c : i ∈ vs
    · rw [ih c]
    · have : i = j := by simpa [c] using h
      subst this
      have w : ∀ ws : List Nat, i ∉ ws → wipe (σ.set i v) ws = (wipe σ ws).set i v := by
        intro ws
        induction ws with
        | nil => intro _; rfl
        | cons k ws ih2 =>
          intro hk
          have h1 : i ≠ k := fun e => hk (by simp [e])
          have h2 : i ∉ ws := fun e => hk (by simp [e])
          unfold wipe
          rw [ih2 h2, List.set_comm _ _ h1]
      rw [w vs c, List.set_set]
theorem wipe_wipe (σ : L2.St) : ∀ vs : List Nat, wipe (wipe σ vs) vs = wipe σ vs
  | [] => rfl
  | v :: vs => by
    show wipe ((wipe σ vs).set v none) (v :: vs) = _
    rw [wipe_set (List.mem_cons_self ..)]
    show (wipe (wipe σ vs) vs).set v none = _
    rw [wipe_wipe σ vs]
    rfl
def relW (z : Zt) (vs : List Nat) (σ : L2.St) : List Addr → Hp → En → L2.St → Prop := fun m H as' σ' => RelE z m H as' σ' ∧ wipe σ' vs = wipe σ vs
def tGv (z : Zt) (O : Ora) (vs : List Nat) (f : FG) : TG := fun v σ H Q => ∃ m h as a, Abs z m h H ∧ RelE z m H as σ ∧ RelA z m H a v ∧ Wn z (relW z vs σ) m H (f O a as h) Q
def tGsv (z : Zt) (O : Ora) (vs : List Nat) (f : List FG) : TGs := fun us σ H Q => ∃ m h as xs, Abs z m h H ∧ RelE z m H as σ ∧ RelAs z m H xs us ∧ Wn z (relW z vs σ) m H (gAll f O xs as h) Q
abbrev DGv (X : Cx) (O : Ora) (vs : List Nat) (e : Expr) (f : FG) : Prop := PG X e (tGv (zOf X) O vs f)
abbrev DGsv (X : Cx) (O : Ora) (vs : List Nat) (e : List Expr) (f : List FG) : Prop := PGs X e (tGsv (zOf X) O vs f)
def tOp (z : Zt) (O : Ora) (t : Option FE) : TT := match t with
  | none => tYes
  | some t => tT z O t
abbrev DTs (X : Cx) (O : Ora) (ifs : List Expr) (t : Option FE) : Prop := PTs X ifs (tOp (zOf X) O t)
section
variable {X : Cx} {O : Ora} {a b c e o tg iter elt : Expr} {fa fb fc fo fe : FE} {pos apos p : Pos} {g : FG} {gs : List FG} {es : List Expr} {fi : FI} {vs : List Nat} {ifs : List Expr} {ft : Option FE}
theorem dgv_none : DGv X O vs e gNone := ⟨fun _ _ _ _ _ _ _ _ _ ⟨_, _, _, _, _, _, _, w⟩ => (Wn.of_none w).elim⟩
theorem dgv_var {j : Nat} {x : Str} (hN : X.N.Nodup) (hi : X.N[j]? = some x) (hx : Loc X.env.scope x) (hf : X.fn x = true ∨ X.env.scope.names.lookup x = some .local) (hv : j ∈ vs) : DGv X O vs (.Name x pos) (gVar j) := by
  refine PG.imp (pg_name hN hi hx hf) fun v σ H Q ⟨m, h, as, x, A, S, r, w⟩ => ?_
  exact w.of_some m H _ (Ext.refl _ _) A ⟨S.set r j, wipe_set hv⟩
theorem dgsv_nil : DGsv X O vs [] [] := by
  refine PGs.imp pgs_nil fun us σ H Q ⟨m, h, as, xs, A, S, r, w⟩ => ?_
  cases xs with
  | nil =>
    simp only [RelAs] at r
    exact ⟨r, w.of_some m H _ (Ext.refl _ _) A ⟨S, rfl⟩⟩
  | cons x xs => exact (Wn.of_none w).elim
theorem dgsv_cons (h1 : DGv X O vs e g) (h2 : DGsv X O vs es gs) (hs : (assignEach (e :: es) X.env).map (·.2) = assign e X.env :: (assignEach es X.env).map (·.2)) : DGsv X O vs (e :: es) (g :: gs) := by
  refine PGs.imp (pgs_cons h1 h2 hs) fun us σ H Q ⟨m, h, as, xs, A, S, r, w⟩ => ?_
  cases xs with
  | nil => exact (Wn.of_none w).elim
  | cons x xs =>
    simp only [RelAs] at r
    obtain ⟨v, vr, rfl, r1, r2⟩ := r
    refine ⟨v, vr, rfl, m, h, as, x, A, S, r1, ?_⟩
    unfold gAll at w
    refine Wn.bnd w fun as1 h1 _ w1 m1 H1 σ1 e1 A1 ⟨S1, ew⟩ => ⟨m1, h1, as1, xs, A1, S1, r2.ext e1 _ _, ?_⟩
    obtain ⟨a2, h2, q, k⟩ := w1.mono e1
    exact ⟨a2, h2, q, fun m' H' σ' e' A' ⟨S', ew'⟩ => k m' H' σ' e' A' ⟨S', ew'.trans ew⟩⟩
theorem dgv_tup {k : Nat} (hc : X.calm = true) (h : DGsv X O vs es gs) (hl : es.length = gs.length)
    (hn : (assignEach es X.env).length = es.length) (hst : (assignEach es X.env).findIdx? (·.1) = none) : DGv X O vs (.Tuple es k pos) (SB.gTup gs) := by
  refine PG.imp (pg_or (pg_tup hc h hn hst) (pg_lst hc h hn hst)) fun v σ H Q ⟨m, h, as, x, A, S, r, w⟩ => ?_
  cases x with
  | tup xs =>
    obtain ⟨p, us, rfl, q1, q2⟩ := rtup r
    simp only [SB.gTup] at w
    split at w
    · rename_i c
      exact .inl ⟨p, us, rfl, q1, by rw [← q2.len, c, hl], m, h, as, xs, A, S, q2, w⟩
    · exact (Wn.of_none w).elim
  | ref n =>
    obtain ⟨p, rfl, hp⟩ := rref r
    simp only [SB.gTup] at w
    split at w
    · rename_i xs e0
      obtain ⟨us, q1, q2⟩ := A.lst e0 hp
      split at w
      · rename_i c
        exact .inr ⟨p, us, rfl, SqL.of q1, by rw [← q2.len, c, hl], m, h, as, xs, A, S, q2, w⟩
      · exact (Wn.of_none w).elim
    · exact (Wn.of_none w).elim
  | _ => exact (Wn.of_none w).elim
theorem dts_nil : DTs X O [] none := pts_nil
theorem dts_one (h : DT X O c fc) : DTs X O [c] (some fc) := pts_one h
theorem tGv.then_ {z : Zt} {m : List Addr} {h : AH} {H : Hp} {as : En} {σ : L2.St} {α β : Type} {rel : List Addr → Hp → α → β → Prop} {Q : β → Hp → Prop} {x : AV} {v : V} {k : En → AH → Rs α} {R : L2.St → Hp → Prop} (A : Abs z m h H) (S : RelE z m H as σ) (r : RelA z m H x v)
    (w : Wn z rel m H (bnd (g O x as h) k) Q) (hk : ∀ as1 h1 m1 H1 σ1, Ext m H m1 H1 → Abs z m1 h1 H1 → RelE z m1 H1 as1 σ1 → wipe σ1 vs = wipe σ vs → Wn z rel m1 H1 (k as1 h1) Q → R σ1 H1) : tGv z O vs g v σ H R :=
  ⟨m, h, as, x, A, S, r, Wn.bnd w fun as1 h1 _ w1 m1 H1 σ1 e A1 ⟨S1, ew⟩ => hk as1 h1 m1 H1 σ1 e A1 S1 ew (w1.mono e)⟩
theorem tI.then_ {z : Zt} {m : List Addr} {h : AH} {H : Hp} {as : En} {σ : L2.St} {α β : Type} {rel : List Addr → Hp → α → β → Prop} {Q : β → Hp → Prop} {a : FI} {k : It → AH → Rs α} {R : L2.It → Hp → Prop} (A : Abs z m h H) (S : RelE z m H as σ)
    (w : Wn z rel m H (bnd (a O as h) k) Q) (hk : ∀ x h1 m1 H1 v, Ext m H m1 H1 → Abs z m1 h1 H1 → RelE z m1 H1 as σ → ItOk z m1 H1 x v → Wn z rel m1 H1 (k x h1) Q → R v H1) : tI z O a σ H R :=
  ⟨m, h, as, A, S, Wn.bnd w fun x h1 _ w1 m1 H1 v e A1 r => hk x h1 m1 H1 v e A1 (S.ext e) r (w1.mono e)⟩
open Classical in
theorem lc_ok {z : Zt} {σ : L2.St} {H : Hp} {Q : VK} (w : tE z O (fLC vs fi g ft fe) σ H Q) : tLc (tI z O fi) (tGv z O vs g) (tOp z O ft) (tE z O fe) vs σ H Q := by
  obtain ⟨m, h, as, A, S, w⟩ := w
  unfold fLC at w
  refine tI.then_ A S w fun I h1 m1 H1 J e1 A1 S1 ok w1 => fun D hD => ?_
  have A2 := A1.push (o := .lst []) hD ⟨[], upd_same, .nil⟩
  have e2 : Ext m1 H1 (m1 ++ [D]) (upd H1 D (.lst [])) := Ext.new hD [D]
  have S2 := (S1.ext e2).wiped vs
  have hm : (m1 ++ [D])[h1.length]? = some D := by rw [← A1.len, List.getElem?_append_right (Nat.le_refl _)]; simp
  refine ⟨fun i k H' => ∃ m h, Ext (m1 ++ [D]) (upd H1 D (.lst [])) m H' ∧ Abs z m h H' ∧ k = I.its.length - i ∧ i ≤ I.its.length ∧ Wn z (RelA z) m H' (loopC h1.length I.ok g ft fe O (wipeA as vs) (I.its.drop i) h) Q, ⟨I.its.length, m1 ++ [D], _, Ext.refl _ _, A2, by simp, Nat.zero_le _, w1.mono e2⟩, ?_⟩
  rintro i k H2 ⟨m2, h2, e3, A3, rfl, hi, w2⟩
  by_cases hlt : i < I.its.length
  · rw [List.drop_eq_getElem_cons hlt] at w2
    unfold loopC at w2
    split at w2
    · rename_i hok
      obtain ⟨go, yld⟩ := ok.go i m2 h2 H2 (e2.trans e3) A3 hok hlt
      refine .inr ⟨go, fun H' => ∃ m h, Ext (m1 ++ [D]) (upd H1 D (.lst [])) m H' ∧ Abs z m h H' ∧ Wn z (RelA z) m H' (loopC h1.length I.ok g ft fe O (wipeA as vs) (I.its.drop (i + 1)) h) Q,
        fun H' ⟨m, h, e, A, w⟩ => ⟨I.its.length - (i + 1), by omega, m, h, e, A, rfl, hlt, w⟩, fun x H3 y => ?_⟩
      obtain ⟨e4, A4, r4⟩ := yld x H3 y
      refine tGv.then_ A4 ((S2.ext e3).ext e4) r4 (w2.mono e4) fun as5 h5 m5 H5 σ5 e5 A5 S5 ew w5 => ⟨?_, ?_⟩
      · rw [ew]
        clear w5 ew w2 yld
        have : ∀ ws : List Nat, wipe (wipe σ ws) ws = wipe σ ws := fun ws => wipe_wipe σ ws
        exact this vs
      have eA := ((e3.trans e4).trans e5)
      have fin : ∀ (b : Bool) (h6 : AH) (m6 : List Addr) (H6 : Hp), Ext m5 H5 m6 H6 → Abs z m6 h6 H6 → RelE z m6 H6 as5 σ5 → Wn z (RelA z) m6 H6 (if b = true then (bnd (fe O as5 h6) fun y h => match h[h1.length]? with
            | some (.lst acc) => if acc.length < lim then loopC h1.length I.ok g ft fe O (wipeA as vs) (I.its.drop (i + 1)) (h.set h1.length (.lst (acc ++ [y]))) else none
            | _ => none) else loopC h1.length I.ok g ft fe O (wipeA as vs) (I.its.drop (i + 1)) h6) Q →
          if b = true then tE z O fe σ5 H6 fun y H4 => ∃ acc, H4 D = some (.lst acc) ∧ acc.length < sizeLine ∧ ∃ m h, Ext (m1 ++ [D]) (upd H1 D (.lst [])) m (upd H4 D (.lst (acc ++ [y]))) ∧ Abs z m h (upd H4 D (.lst (acc ++ [y]))) ∧ Wn z (RelA z) m (upd H4 D (.lst (acc ++ [y]))) (loopC h1.length I.ok g ft fe O (wipeA as vs) (I.its.drop (i + 1)) h) Q
          else ∃ m h, Ext (m1 ++ [D]) (upd H1 D (.lst [])) m H6 ∧ Abs z m h H6 ∧ Wn z (RelA z) m H6 (loopC h1.length I.ok g ft fe O (wipeA as vs) (I.its.drop (i + 1)) h) Q := by
        intro b h6 m6 H6 e6 A6 S6 w6
        cases b with
        | false =>
          simp only [Bool.false_eq_true, if_false] at w6 ⊢
          exact ⟨m6, h6, eA.trans e6, A6, w6⟩
        | true =>
          simp only [if_true] at w6 ⊢
          refine tE.then_ A6 S6 w6 fun y h7 m7 H7 v e7 A7 S7 r7 w7 => ?_
          split at w7
          · rename_i acc e8
            have hm7 : m7[h1.length]? = some D := ((eA.trans e6).trans e7).get hm
            obtain ⟨us, q1, q2⟩ := A7.lst e8 hm7
            split at w7
            · rename_i hl
              have ew := Ext.wr (m := m7) (u' := .lst (us ++ [v])) q1 True.intro
              exact ⟨us, q1, by rw [sz, ← q2.len]; exact hl, m7, _, ((eA.trans e6).trans e7).trans ew, A7.write (o' := .lst (acc ++ [y])) hm7 q1 True.intro ⟨_, upd_same, (q2.ext ew _ _).app (.one (r7.ext ew _ _))⟩, w7.mono ew⟩
            · exact (Wn.of_none w7).elim
          · exact (Wn.of_none w7).elim
      cases ft with
      | none =>
        dsimp only [bnd_some] at w5
        rw [ifB_bl] at w5
        exact fin true h5 m5 H5 (Ext.refl _ _) A5 S5 w5
      | some t =>
        exact tT.then_ A5 S5 w5 fun b h6 m6 H6 e6 A6 S6 w6 => fin b h6 m6 H6 e6 A6 S6 w6
    · exact (Wn.of_none w2).elim
  · have e : i = I.its.length := by omega
    subst e
    rw [List.drop_length] at w2
    unfold loopC at w2
    split at w2
    · rename_i hok
      exact .inl ⟨ok.stop m2 h2 H2 (e2.trans e3) A3 hok, w2.of_some m2 H2 (.ref D) (Ext.refl _ _) A3 (rref' (e3.get hm))⟩
    · exact (Wn.of_none w2).elim
theorem de_lc {scope : Scope} {own : List (Str × Nat)} (hc : X.calm = true) (hN : X.N.Nodup) (hi : DI X O tg iter fi) (ok : BlkOk X.N X.env.scope scope own)
    (hg : ∀ (s : Shared) (H : Hp) (C : Addr) (cl : List (Str × Addr)) (fp : List Addr), DGv (X.blk s H scope (compEnvC scope cl C X.env) fp) O (own.map (·.2)) tg g) (ht : ∀ (s : Shared) (H : Hp) (C : Addr) (cl : List (Str × Addr)) (fp : List Addr), DTs (X.blk s H scope (compEnvC scope cl C X.env) fp) O ifs ft)
    (he : ∀ (s : Shared) (H : Hp) (C : Addr) (cl : List (Str × Addr)) (fp : List Addr), DE (X.blk s H scope (compEnvC scope cl C X.env) fp) O elt fe) (hs : ∀ x, foldedSetIterable iter X.env x = pure x) :
    DE X O (.ListComp elt [⟨tg, iter, ifs, 0⟩] scope pos) (fLC (own.map (·.2)) fi g ft fe) :=
  PE.imp (pe_lc hc hN hi ok hg ht he hs) fun σ H Q w => lc_ok w
theorem ds_setLc {i : Nat} {y : Str} {py spos : Pos} {scope : Scope} {own : List (Str × Nat)} (hc : X.calm = true) (hN : X.N.Nodup) (hy : X.N[i]? = some y) (hyl : X.env.scope.names.lookup y = some .local)
    (hsw : swapsWith (.ListComp elt [⟨tg, iter, ifs, 0⟩] scope pos) (some (.Name y py)) spos.line X.env = pure true) (hi : DI X O tg iter fi) (ok : BlkOk X.N X.env.scope scope own)
    (hg : ∀ (s : Shared) (H : Hp) (C : Addr) (cl : List (Str × Addr)) (fp : List Addr), DGv (X.blk s H scope (compEnvC scope cl C X.env) fp) O (own.map (·.2)) tg g) (ht : ∀ (s : Shared) (H : Hp) (C : Addr) (cl : List (Str × Addr)) (fp : List Addr), DTs (X.blk s H scope (compEnvC scope cl C X.env) fp) O ifs ft)
    (he : ∀ (s : Shared) (H : Hp) (C : Addr) (cl : List (Str × Addr)) (fp : List Addr), DE (X.blk s H scope (compEnvC scope cl C X.env) fp) O elt fe) (hs : ∀ x, foldedSetIterable iter X.env x = pure x) :
    DS X O (.Assign [.Name y py] (.ListComp elt [⟨tg, iter, ifs, 0⟩] scope pos) spos) (sAsg (gVar i) (fLC (own.map (·.2)) fi g ft fe)) := by
  refine PS.im (ps_setLc (wi := tI (zOf X) O fi) (g := tGv (zOf X) O (own.map (·.2)) g) (tt := tOp (zOf X) O ft) (te := tE (zOf X) O fe) hc hN hy hyl hsw hi ok hg ht he hs) fun D σ H ⟨m, h, as, A, S, w⟩ => ?_
  exact lc_ok (tE.thenS A S w fun x h1 m1 H1 v e1 A1 S1 r1 w1 => w1.next m1 H1 _ (Ext.refl _ _) A1 (S1.set r1 i))
end
end SB

/-! The text translated. -/
namespace SB
open PySem PySem.Spec PyProof.Rows L2

structure Gs where
  con : List (Str × AV)
  cls : List Str
  free : List Str
structure Cu where
  N : List Str
  sc : Scope
  own : Option (List Str)
def Cu.isOwn (C : Cu) (x : Str) : Bool := match C.own with
  | none => true
  | some l => l.contains x
def idx : List Str → Str → Option Nat
  | [], _ => none
  | y :: r, x => if y = x then some 0 else (idx r x).map (· + 1)
theorem idx_ok : ∀ {N : List Str} {x : Str} {i : Nat}, idx N x = some i → N[i]? = some x
  | [], _, _, h => by cases h
  | y :: r, x, i, h => by
    unfold idx at h
    split at h
    · rename_i e
      cases h; subst e; rfl
    · rw [Option.map_eq_some_iff] at h
      obtain ⟨j, h1, rfl⟩ := h
      simpa using idx_ok h1
/-- no reserved word -/
def plainN (x : Str) : Bool := !(x == ("__debug__" : Str)) && !(x == ("__classdict__" : Str))
def trName (G : Gs) (C : Cu) (x : Str) : FE := if plainN x = true then match C.sc.names.lookup x with
    | some .local => (match idx C.N x with | some i => fVar i | none => fNone)
    | some .cell => (match idx C.N x with | some i => fVar i | none => fNone)
    | some .free => (match idx C.N x with | some i => fVar i | none => fNone)
    | some .globalImplicit => (match G.con.lookup x with | some av => fC av | none => fNone)
    | _ => fNone
  else fNone
def trConst : Const → FE
  | .int i => fC (.int i)
  | .bool b => fC (.bl b)
  | .str s => fC (.str s)
  | .none => fC .non
  | _ => fNone
def fAnds : List FE → FE
  | [] => fNone
  | [a] => a
  | a :: b :: r => fAnd a (fAnds (b :: r))
def fOrs : List FE → FE
  | [] => fNone
  | [a] => a
  | a :: b :: r => fOr a (fOrs (b :: r))
def b1 (x : Str) : Option (AV → AH → Rs AV) :=
  if x = "len" then some lenA else if x = "int" then some intA else if x = "list" then some listA else if x = "tuple" then some tupleA else if x = "sorted" then some sortedA
  else if x = "all" then some allA else if x = "sum" then some sumA else if x = "max" then some maxLA else if x = "min" then some minLA else if x = "abs" then some absA else none
def b2 (x : Str) : Option (AV → AV → AH → Rs AV) := if x = "max" then some max2A else if x = "min" then some min2A else none
def tyS (x : Str) : Option String := if x = "int" then some "int" else if x = "bool" then some "bool" else if x = "str" then some "str" else if x = "tuple" then some "tuple" else if x = "list" then some "list" else none
def isGl (C : Cu) (x : Str) : Bool := C.sc.names.lookup x == some .globalImplicit && !(x == ("__debug__" : Str))
def trIsi (G : Gs) (C : Cu) (x : Str) (fa : FE) (t : Str) : FE :=
  if x = "isinstance" ∧ isGl C t = true ∧ t ∈ G.free then match tyS t with
    | some s => fUn (isinstA s) fa
    | none => fNone
  else fNone
def trCall (G : Gs) (C : Cu) (x : Str) (es : List Expr) (fs : List FE) : FE :=
  if isGl C x = true then
    if x ∈ G.free then match es, fs with
      | [_], [fa] => (match b1 x with | some g => fUn g fa | none => fNone)
      | [_, .Name t _], [fa, fb] => (match b2 x with | some g => fBin g fa fb | none => trIsi G C x fa t)
      | [_, _], [fa, fb] => (match b2 x with | some g => fBin g fa fb | none => fNone)
      | _, _ => fNone
    else if x ∈ G.cls then fMake x fs
    else fCall (x, none) fs
  else fNone
def isIntC : Expr → Bool
  | .Constant (.int _) _ _ => true
  | _ => false
def isLst : Expr → Bool
  | .List _ _ => true
  | _ => false
def isDic : Expr → Bool
  | .Dict _ _ _ => true
  | _ => false
def trMeth (m : Str) (fo : FE) (es : List Expr) (fs : List FE) : FE :=
  if m = "append" then (match es, fs with | [_], [fa] => fM1 false appendA fo fa | _, _ => fNone)
  else if m = "clear" then (match es with | [] => fM0 false clearA fo | _ => fNone)
  else if m = "pop" then (match es, fs with | [e], [fa] => if isIntC e = true then fM1 false popAtA fo fa else fM1 true dpopA fo fa | _, _ => fNone)
  else if m = "update" then (match es, fs with | [e], [fa] => if isLst e = true then fM1 true updPA fo fa else if isDic e = true then fM1 true updDA fo fa else fNone | _, _ => fNone)
  else if m = "get" then (match es, fs with | [_, _], [fa, fb] => fGet fo fa fb | _, _ => fNone)
  else fMeth m fo fs
def iterOf (G : Gs) (C : Cu) (E : Expr → FE) (tg it : Expr) : FI := match it with
  | .Call (.Name x _) es [] _ => if isGl C x = true ∧ x ∈ G.free ∧ es.all notStar = true then
      if x = "range" then (match es with
        | [a] => iRange1 (E a)
        | [a, b] => iRange2 (E a) (E b)
        | [a, b, c] => iRangeD (E a) (E b) (E c)
        | _ => iNone)
      else if x = "enumerate" then (match tg, es with
        | .Tuple _ _ _, [a] => iEnum (E a)
        | _, _ => iNone)
      else iVal (E it)
    else iVal (E it)
  | .Set _ _ _ => iNone
  | _ => iVal (E it)
def tgOf (E : Expr → FE) (C : Cu) : Nat → Expr → FG
  | 0, _ => gNone
  | n + 1, e => match e with
    | .Name x _ => if (C.sc.names.lookup x = some .local) ∨ (C.sc.names.lookup x = some .cell ∧ C.isOwn x = true) then (match idx C.N x with | some i => gVar i | none => gNone) else gNone
    | .Tuple es _ _ => if es.all notStar = true then gTup (es.map (tgOf E C n)) else gNone
    | .Subscript o (.Slice _ _ _ _) _ => gNone
    | .Subscript o i _ => gIx (E o) (E i)
    | _ => gNone
/-- .. of the slots vs alone -/
def tgV (C : Cu) (vs : List Nat) : Nat → Expr → FG
  | 0, _ => gNone
  | n + 1, e => match e with
    | .Name x _ => if (C.sc.names.lookup x = some .local) ∨ (C.sc.names.lookup x = some .cell ∧ C.isOwn x = true) then (match idx C.N x with | some i => if i ∈ vs then gVar i else gNone | none => gNone) else gNone
    | .Tuple es _ _ => if es.all notStar = true then gTup (es.map (tgV C vs n)) else gNone
    | _ => gNone
def ownOf (N : List Str) : List (Str × NameKind) → List (Str × Nat)
  | [] => []
  | (y, k) :: r => if k = .local ∨ k = .cell then (match idx N y with | some i => (y, i) :: ownOf N r | none => ownOf N r) else ownOf N r
def cellsOf (names : List (Str × NameKind)) : List Str := (names.filter fun p => p.2 == .cell).map (·.1)
def blkCu (C : Cu) (scope : Scope) : Cu := ⟨C.N, relS scope C.sc, some ((scope.names.map (·.1)).filter fun x => scope.names.lookup x == some .cell)⟩
def dictGo (E : Expr → FE) : List (Option Expr) → List Expr → List (FE × FE)
  | some k :: ks, v :: vs => (E k, E v) :: dictGo E ks vs
  | _, _ => []
def opS : Operator → Bool
  | .Add | .Sub | .Mult | .Mod | .FloorDiv | .Pow => true
  | _ => false
def notSet : Expr → Bool
  | .Set _ _ _ => false
  | _ => true
noncomputable def tr (G : Gs) : Nat → Bool → Cu → Expr → FE
  | 0, _, _, _ => fNone
  | n + 1, t, C, e => match e with
    | .Name x _ => trName G C x
    | .Constant c _ _ => trConst c
    | .BinOp a op b _ => if opS op = true then fOp op (tr G n false C a) (tr G n false C b) else fNone
    | .UnaryOp op a _ => (match op with
      | .Not => fUn notA (tr G n t C a)
      | .USub => fUn negA (tr G n false C a)
      | _ => fNone)
    | .BoolOp op es _ => (match op with
      | .And => fAnds (es.map (tr G n t C))
      | .Or => fOrs (es.map (tr G n t C)))
    | .IfExp c a b _ => if t = true then fNone else fIf (tr G n true C c) (tr G n false C a) (tr G n false C b)
    | .Compare a ops es _ => (match ops, es with
      | [op], [b] => if behindInMarks op b = true then fNone else fCmp op (tr G n false C a) (tr G n false C b)
      | [op, op'], [b, c] => if lastMarks [op, op'] [b, c] = true then fNone else fChain op op' (tr G n false C a) (tr G n false C b) (tr G n false C c)
      | _, _ => fNone)
    | .Tuple es _ _ => if es.all notStar = true then fTup (es.map (tr G n false C)) else fNone
    | .List es _ => if es.all notStar = true then fLst (es.map (tr G n false C)) else fNone
    | .Dict keys vals _ => (match keys, vals with
      | [], [] => fDic0
      | keys, vals => if keys.all (·.isSome) = true ∧ keys.length = vals.length ∧ keys ≠ [] ∧ keys.length ≤ 15 then fDic (dictGo (tr G n false C) keys vals) else fNone)
    | .Subscript a s _ => (match s with
      | .Slice lo hi none _ => fSlice (tr G n false C a) (lo.map (tr G n false C)) (hi.map (tr G n false C))
      | .Slice _ _ _ _ => fNone
      | b => fBin ixA (tr G n false C a) (tr G n false C b))
    | .Attribute a f _ => if baseOk a = true then fUn (fldA f) (tr G n false C a) else fNone
    | .Call f es kws pos => (match f, kws with
      | .Name x _, [] => if es.all notStar = true then trCall G C x es (es.map (tr G n false C)) else fNone
      | .Attribute o m apos, [] => if es.all notStar = true ∧ baseOk o = true ∧ es.length < 30 ∧ (apos.endLine == pos.line) = true then trMeth m (tr G n false C o) es (es.map (tr G n false C)) else fNone
      | _, _ => fNone)
    | .ListComp elt gens scope _ => (match gens with
      | [⟨tg, it, ifs, as⟩] => if as = 0 ∧ notSet it = true ∧ blkC C.N C.sc scope (ownOf C.N scope.names) = true then
          (match ifs with
            | [] => fLC ((ownOf C.N scope.names).map (·.2)) (iterOf G C (tr G n false C) tg it) (tgV (blkCu C scope) ((ownOf C.N scope.names).map (·.2)) n tg) none (tr G n false (blkCu C scope) elt)
            | [c] => fLC ((ownOf C.N scope.names).map (·.2)) (iterOf G C (tr G n false C) tg it) (tgV (blkCu C scope) ((ownOf C.N scope.names).map (·.2)) n tg) (some (tr G n true (blkCu C scope) c)) (tr G n false (blkCu C scope) elt)
            | _ => fNone)
        else fNone
      | _ => fNone)
    | _ => fNone
def isLC : Expr → Bool
  | .ListComp _ _ _ _ => true
  | .SetComp _ _ _ _ => true
  | .DictComp _ _ _ _ _ => true
  | _ => false
/-- do the compilers swap a comprehension's store -/
def swC (C : Cu) (t : Str) (pos : Pos) (v : Expr) : Bool := match v with
  | .ListComp _ _ s p => C.sc.names.lookup t == some .local && pos.line == p.line && !(s.names.any fun (n, k) => n == t && (k == .local || k == .cell))
  | .SetComp _ _ s p => C.sc.names.lookup t == some .local && pos.line == p.line && !(s.names.any fun (n, k) => n == t && (k == .local || k == .cell))
  | .DictComp _ _ _ s p => C.sc.names.lookup t == some .local && pos.line == p.line && !(s.names.any fun (n, k) => n == t && (k == .local || k == .cell))
  | _ => false
/-- which names are stored from the right; none: it cannot be told -/
def swS (C : Cu) (ts vs : List Expr) : Option (Option (List Str)) :=
  if !(ts.length == 2 || ts.length == 3) || vs.length != ts.length then some none
  else if vs.any (fun | .Starred .. => true | _ => false) then some none
  else
    let line := (ts.head?.map (·.pos.line)).getD 0
    let names := ts.filterMap fun
      | .Name id pos => if C.sc.names.lookup id == some .local && pos.line == line then some id else none
      | _ => none
    if names.length != ts.length || names.eraseDups.length != names.length then some none
    else if vs.all (foldedForSure 8) then some none
    else if vs.all (constantsAlone 8) then none
    else some (some names)
def trAsg (C : Cu) (E : Expr → FE) (T : Expr → FG) (tg v : Expr) : FS := match tg with
  | .Name x p => if swC C x p v = true then (match idx C.N x with | some i => sAsg (gVar i) (E v) | none => sNone) else sAsg (T tg) (E v)
  | .Attribute o f _ => (match UF.lookup f with | some cs => sAsg (gFld cs (E o) f) (E v) | none => sNone)
  | .Tuple ts _ _ => (match v with
    | .Tuple vs _ _ => (match swS C ts vs with
      | some none => sAsg (T tg) (E v)
      | some (some ns) => (match ts, vs with
        | [.Name x _, .Name y _], [a, b] => (match idx C.N x, idx C.N y with
          | some i, some j => if ns = [x, y] ∧ i ≠ j ∧ C.sc.names.lookup x = some .local ∧ C.sc.names.lookup y = some .local ∧ vs.all notStar = true then sAsg (gTup [gVar i, gVar j]) (fTup [E a, E b]) else sNone
          | _, _ => sNone)
        | [.Name x _, .Name y _, .Name z _], [a, b, c] => (match idx C.N x, idx C.N y, idx C.N z with
          | some i, some j, some l => if ns = [x, y, z] ∧ i ≠ j ∧ i ≠ l ∧ j ≠ l ∧ C.sc.names.lookup x = some .local ∧ C.sc.names.lookup y = some .local ∧ C.sc.names.lookup z = some .local ∧ vs.all notStar = true then sAsg (gTup [gVar i, gVar j, gVar l]) (fTup [E a, E b, E c]) else sNone
          | _, _, _ => sNone)
        | _, _ => sNone)
      | none => sNone)
    | v => sAsg (T tg) (E v))
  | .Starred _ _ => sNone
  | .List _ _ => sNone
  | tg => sAsg (T tg) (E v)
noncomputable def trS (G : Gs) (C : Cu) (k : Nat) : Nat → Stmt → FS
  | 0, _ => sNone
  | n + 1, st => match st with
    | .Return (some e) _ => sRet (tr G k false C e)
    | .Return none _ => sRet (fC .non)
    | .Expr e _ => (match e with
      | .Constant (.str _) _ _ => sNext
      | e => if isLC e = true then sNone else sExpr (tr G k false C e))
    | .Assign ts v _ => (match ts with
      | [tg] => trAsg C (tr G k false C) (tgOf (tr G k false C) C k) tg v
      | _ => sNone)
    | .If c a b _ => sIf (tr G k true C c) (sAll (a.map (trS G C k n))) (sAll (b.map (trS G C k n)))
    | .While c a b _ => (match b with
      | [] => sWhile (tr G k true C c) (sAll (a.map (trS G C k n)))
      | _ => sNone)
    | .For tg it a b _ => (match b with
      | [] => if notSet it = true then sFor (iterOf G C (tr G k false C) tg it) (tgOf (tr G k false C) C k tg) (sAll (a.map (trS G C k n))) else sNone
      | _ => sNone)
    | _ => sNone
end SB

/-! The translation is sound: expressions. -/
namespace SB
open PySem PySem.Spec PyProof.Rows L2

structure Good (X : Cx) (O : Ora) (lev : Nat) (G : Gs) (C : Cu) : Prop where
  N : X.N = C.N
  nd : C.N.Nodup
  sc : X.env.scope = C.sc
  kind : C.sc.kind = .function
  calm : X.calm = true
  un : X.A.units + 65 < cLine
  cls : Cls' X O lev
  free : ∀ x ∈ G.free, X.mg x = none
  con : ∀ x av, G.con.lookup x = some av → ∃ v u, X.mg x = some u ∧ RelV v u ∧ ∀ m H, RelA (zOf X) m H av v
  fn : ∀ x, C.isOwn x = true → X.fn x = true

section
variable {X : Cx} {O : Ora} {lev : Nat} {G : Gs} {C : Cu} {a b c e o : Expr} {es : List Expr} {fa fb fc fo : FE} {pos p apos : Pos}
theorem Good.nodup (g : Good X O lev G C) : X.N.Nodup := by rw [g.N]; exact g.nd
theorem Good.ix (g : Good X O lev G C) {x : Str} {i : Nat} (h : idx C.N x = some i) : X.N[i]? = some x := by rw [g.N]; exact idx_ok h
theorem Good.un1 (g : Good X O lev G C) : X.A.units + 1 < cLine := by have := g.un; omega
theorem Good.un64 (g : Good X O lev G C) : X.A.units + 64 < cLine := by have := g.un; omega
theorem plainN_ok {x : Str} (h : plainN x = true) : (x == ("__debug__" : Str)) = false ∧ (x == ("__classdict__" : Str)) = false := by
  unfold plainN at h
  rw [Bool.and_eq_true, Bool.not_eq_true', Bool.not_eq_true'] at h
  exact h
theorem isGl_ok (g : Good X O lev G C) {x : Str} (h : isGl C x = true) : Gl X x ∧ (x == ("__debug__" : Str)) = false := by
  unfold isGl at h
  rw [Bool.and_eq_true, Bool.not_eq_true', beq_iff_eq] at h
  refine ⟨?_, h.2⟩
  show X.env.scope.names.lookup x = _
  rw [g.sc]; exact h.1
theorem tr_name (g : Good X O lev G C) {x : Str} : DE X O (.Name x pos) (trName G C x) := by
  unfold trName
  split
  · rename_i hp
    obtain ⟨h1, h2⟩ := plainN_ok hp
    have vis : ∀ {k : NameKind}, C.sc.names.lookup x = some k → X.env.scope.names.lookup x = some k := fun h => by rw [g.sc]; exact h
    split
    · rename_i hk
      split
      · rename_i i hi
        exact de_var (g.ix hi) (.inl (vis hk)) h1 h2
      · exact de_none
    · rename_i hk
      split
      · rename_i i hi
        exact de_var (g.ix hi) (.inr (.inl (vis hk))) h1 h2
      · exact de_none
    · rename_i hk
      split
      · rename_i i hi
        exact de_var (g.ix hi) (.inr (.inr (vis hk))) h1 h2
      · exact de_none
    · rename_i hk
      split
      · rename_i av ha
        obtain ⟨v, u, h3, h4, h5⟩ := g.con x av ha
        exact de_glob (vis hk) h3 h4 h1 h5
      · exact de_none
    · exact de_none
  · exact de_none
theorem tr_const {k : Const} {j : Nat} : DE X O (.Constant k j pos) (trConst k) := by
  cases k with
  | none => exact de_non
  | bool b => exact de_bl
  | int i => exact de_int
  | str s => exact de_str
  | _ => exact de_none
theorem tr_binop (g : Good X O lev G C) {op : Operator} (ha : DE X O a fa) (hb : DE X O b fb) : DE X O (.BinOp a op b pos) (if opS op = true then fOp op fa fb else fNone) := by
  cases op with
  | Add => exact de_op op_addA ans_add ha hb
  | Sub => exact de_op op_sub ans_sub ha hb
  | Mult => exact de_op op_mulA ans_mul ha hb
  | Mod => exact de_op op_mod ans_mod ha hb
  | FloorDiv => exact de_op op_fdiv ans_fdiv ha hb
  | Pow => exact de_op op_pow ans_pow ha hb
  | _ => exact de_none
theorem cmp_rule (g : Good X O lev G C) (op : CmpOp) : ∃ r, OpR X (compareOp op) r ∧ Ans2 (zOf X) r (cmpA op) := by
  cases op with
  | Eq => exact ⟨_, op_eqD g.un64, ans_eq⟩
  | NotEq => exact ⟨_, op_neD g.un64, ans_ne⟩
  | Lt => exact ⟨_, op_lt, ans_lt⟩
  | LtE => exact ⟨_, op_le, ans_le⟩
  | Gt => exact ⟨_, op_gt, ans_gt⟩
  | GtE => exact ⟨_, op_ge, ans_ge⟩
  | Is => exact ⟨_, op_isN, ans_is⟩
  | IsNot => exact ⟨_, op_notN, ans_isnot⟩
  | In => exact ⟨_, op_inA g.un, ans_in rfl⟩
  | NotIn => exact ⟨_, op_notInA g.un, ans_nin rfl⟩
theorem tr_cmp (g : Good X O lev G C) {op : CmpOp} (ha : DE X O a fa) (hb : DE X O b fb) (hm : behindInMarks op b = false) : DE X O (.Compare a [op] [b] pos) (fCmp op fa fb) ∧ DT X O (.Compare a [op] [b] pos) (fCmp op fa fb) := by
  obtain ⟨r, h1, h2⟩ := cmp_rule g op
  exact ⟨de_cmp h1 h2 ha hb hm, dt_cmp h1 h2 ha hb hm⟩
theorem tr_chain (g : Good X O lev G C) {op op' : CmpOp} (ha : DE X O a fa) (hb : DE X O b fb) (hc : DE X O c fc) (hm : lastMarks [op, op'] [b, c] = false) :
    DE X O (.Compare a [op, op'] [b, c] pos) (fChain op op' fa fb fc) ∧ DT X O (.Compare a [op, op'] [b, c] pos) (fChain op op' fa fb fc) := by
  obtain ⟨r, h1, h2⟩ := cmp_rule g op
  obtain ⟨r', h3, h4⟩ := cmp_rule g op'
  exact ⟨de_chain h1 h3 h2 h4 ha hb hc hm, dt_chain h1 h3 h2 h4 ha hb hc hm⟩
/-! and, or -/
theorem tr_ands {f : Expr → FE} : ∀ {es : List Expr}, (∀ e ∈ es, DE X O e (f e)) → DE X O (.BoolOp .And es pos) (fAnds (es.map f))
  | [], _ => de_none
  | [a], h => pe_one (h a (by simp))
  | a :: b :: r, h => de_and (h a (by simp)) (tr_ands (es := b :: r) fun e he => h e (by simp [he]))
theorem tr_ors {f : Expr → FE} : ∀ {es : List Expr}, (∀ e ∈ es, DE X O e (f e)) → DE X O (.BoolOp .Or es pos) (fOrs (es.map f))
  | [], _ => de_none
  | [a], h => pe_one (h a (by simp))
  | a :: b :: r, h => de_or (h a (by simp)) (tr_ors (es := b :: r) fun e he => h e (by simp [he]))
theorem tw_ands {f : Expr → FE} : ∀ {es : List Expr}, (∀ e ∈ es, DT X O e (f e)) → DW X O (.BoolOp .And es pos) (fAnds (es.map f))
  | [], _ => dw_none
  | [a], h => pw_and1 (h a (by simp))
  | a :: b :: r, h => dw_and (h a (by simp)) (tw_ands (es := b :: r) fun e he => h e (by simp [he]))
theorem tw_ors {f : Expr → FE} : ∀ {es : List Expr}, (∀ e ∈ es, DT X O e (f e)) → DW X O (.BoolOp .Or es pos) (fOrs (es.map f))
  | [], _ => dw_none
  | [a], h => pw_or1 (h a (by simp))
  | a :: b :: r, h => dw_or (h a (by simp)) (tw_ors (es := b :: r) fun e he => h e (by simp [he]))
/-! argument lists -/
theorem da_all {f : Expr → FE} : ∀ {es : List Expr}, (∀ e ∈ es, DE X O e (f e)) → es.all notStar = true → DA X O es (aAll (es.map f))
  | [], _, _ => da_nil
  | e :: es, h, hs => by
    rw [List.all_cons, Bool.and_eq_true] at hs
    exact da_cons (h e (by simp)) (da_all (es := es) (fun e he => h e (by simp [he])) hs.2) (star_cons hs.1)
/-! dict displays -/
theorem pps_go {f : Expr → FE} : ∀ {ks : List (Option Expr)} {vs : List Expr}, (∀ k, some k ∈ ks → DE X O k (f k)) → (∀ v ∈ vs, DE X O v (f v)) → ks.all (·.isSome) = true → ks.length = vs.length →
    PPs X pos ks vs ((dictGo f ks vs).map fun p => (tE (zOf X) O p.1, tE (zOf X) O p.2))
  | [], [], _, _, _, _ => pps_nil
  | [], _ :: _, _, _, _, h => by cases h
  | _ :: _, [], _, _, _, h => by cases h
  | none :: ks, v :: vs, _, _, h, _ => by simp at h
  | some k :: ks, v :: vs, h1, h2, h3, h4 => by
    rw [List.all_cons, Bool.and_eq_true] at h3
    exact pps_cons (h1 k (by simp)) (h2 v (by simp)) (pps_go (fun k hk => h1 k (by simp [hk])) (fun v hv => h2 v (by simp [hv])) h3.2 (by simpa using h4))
/-! subscripts -/
def notSl : Expr → Bool
  | .Slice _ _ _ _ => false
  | _ => true
theorem notSl_of {s : Expr} (h : ∀ a b c d, s = .Slice a b c d → False) : notSl s = true := by
  cases s <;> first | rfl | exact (h _ _ _ _ rfl).elim
theorem plainIx_of {b : Expr} (h : notSl b = true) : PlainIx b := by
  intro o i
  cases b <;> first | rfl | cases h
/-! tests -/
def plainT : Expr → Bool
  | .UnaryOp .Not _ _ => false
  | .BoolOp _ _ _ => false
  | .IfExp _ _ _ _ => false
  | .Compare _ _ _ _ => false
  | _ => true
theorem plain_true {e : Expr} {env : Env} (h : plainT e = true) (whole : Sem Value) : isTrue e env whole = (do let v ← whole; standAt e.pos; holding [v] (truthy v)) := by
  cases e with
  | UnaryOp op x q => cases op <;> first | rfl | cases h
  | _ => first | rfl | cases h
/-! built-ins -/
theorem pe_tyName {x : Str} {t : String} (hg : Gl X x) (hm : X.mg x = none) (hv : bootBuiltins x = some (.type t)) (hn : x ≠ "__name__") (hd : (x == ("__debug__" : Str)) = false) : PE X (.Name x pos) (tC (.ty t)) :=
  ⟨fun pins s σ H Q I q => ld_blt I hg hm hv ⟨.ty t, H, I, rfl, q⟩ hn hd⟩
theorem b1_ok (g : Good X O lev G C) {x : Str} {gg : AV → AH → Rs AV} (h : b1 x = some gg) (hg : Gl X x) (hf : x ∈ G.free) (ha : DE X O a fa) (hs : notStar a = true) : DE X O (.Call (.Name x p) [a] [] pos) (fUn gg fa) := by
  have hm := g.free x hf
  have st : starEach [a] X.env = [(false, eval a X.env)] := star_cons hs
  unfold b1 at h
  split at h
  · rename_i e; subst e; cases h; exact ans1_call ans_len ha (fun t => pe_callB call_len hg hm boot_len t (by decide) (by decide) st rfl) st
  split at h
  · rename_i e; subst e; cases h; exact ans1_call ans_int ha (fun t => pe_callTy call_int1 hg hm (by rfl) t (by decide) (by decide) st rfl) st
  split at h
  · rename_i e; subst e; cases h; exact ans1_call ans_list ha (fun t => pe_callTy call_list_of hg hm (by rfl) t (by decide) (by decide) st rfl) st
  split at h
  · rename_i e; subst e; cases h; exact ans1_call ans_tuple ha (fun t => pe_callTy call_tuple_of hg hm (by rfl) t (by decide) (by decide) st rfl) st
  split at h
  · rename_i e; subst e; cases h; exact ans1_call ans_sorted ha (fun t => pe_callB (CallR.or cr_sortedI (call_sortedDI g.calm)) hg hm (by rfl) t (by decide) (by decide) st rfl) st
  split at h
  · rename_i e; subst e; cases h; exact ans1_call ans_all ha (fun t => pe_callB (cr_all g.calm) hg hm (by rfl) t (by decide) (by decide) st rfl) st
  split at h
  · rename_i e; subst e; cases h; exact ans1_call ans_sum ha (fun t => pe_callB (cr_sum g.calm) hg hm (by rfl) t (by decide) (by decide) st rfl) st
  split at h
  · rename_i e; subst e; cases h; exact ans1_call ans_maxL ha (fun t => pe_callB (cr_max g.calm) hg hm (by rfl) t (by decide) (by decide) st rfl) st
  split at h
  · rename_i e; subst e; cases h; exact ans1_call ans_minL ha (fun t => pe_callB (cr_min g.calm) hg hm (by rfl) t (by decide) (by decide) st rfl) st
  split at h
  · rename_i e; subst e; cases h; exact ans1_call ans_abs ha (fun t => pe_callB call_abs hg hm (by rfl) t (by decide) (by decide) st rfl) st
  · cases h
theorem b2_ok (g : Good X O lev G C) {x : Str} {gg : AV → AV → AH → Rs AV} (h : b2 x = some gg) (hg : Gl X x) (hf : x ∈ G.free) (ha : DE X O a fa) (hb : DE X O b fb) (hs : [a, b].all notStar = true) : DE X O (.Call (.Name x p) [a, b] [] pos) (fBin gg fa fb) := by
  have hm := g.free x hf
  simp only [List.all_cons, List.all_nil, Bool.and_true, Bool.and_eq_true] at hs
  have st : starEach [a, b] X.env = (false, eval a X.env) :: starEach [b] X.env := star_cons hs.1
  have st2 : starEach [b] X.env = [(false, eval b X.env)] := star_cons hs.2
  have np : (backTo pos (starEach [b] X.env)).any (·.1) = false := star_any (by simp [hs.2])
  unfold b2 at h
  split at h
  · rename_i e; subst e; cases h; exact ansB_call ans_max2 ha hb (fun t => pe_callB (call_max2 g.calm) hg hm (by rfl) t (by decide) (by decide) st np) st st2
  split at h
  · rename_i e; subst e; cases h; exact ansB_call ans_min2 ha hb (fun t => pe_callB (call_min2 g.calm) hg hm (by rfl) t (by decide) (by decide) st np) st st2
  · cases h
theorem tyS_ok {t : Str} {s : String} (h : tyS t = some s) : s ∈ tys ∧ bootBuiltins t = some (.type s) ∧ t ≠ "__name__" := by
  unfold tyS at h
  split at h
  · rename_i e; subst e; cases h; exact ⟨by decide, by rfl, by decide⟩
  split at h
  · rename_i e; subst e; cases h; exact ⟨by decide, by rfl, by decide⟩
  split at h
  · rename_i e; subst e; cases h; exact ⟨by decide, by rfl, by decide⟩
  split at h
  · rename_i e; subst e; cases h; exact ⟨by decide, by rfl, by decide⟩
  split at h
  · rename_i e; subst e; cases h; exact ⟨by decide, by rfl, by decide⟩
  · cases h
theorem isi_ok (g : Good X O lev G C) {x t : Str} {q : Pos} (hg : Gl X x) (hf : x ∈ G.free) (ha : DE X O a fa) (hs : notStar a = true) : DE X O (.Call (.Name x p) [a, .Name t q] [] pos) (trIsi G C x fa t) := by
  unfold trIsi
  split
  · rename_i h
    obtain ⟨rfl, ht, hft⟩ := h
    split
    · rename_i s e
      obtain ⟨h1, h2, h3⟩ := tyS_ok e
      obtain ⟨h4, h5⟩ := isGl_ok g ht
      have st : starEach [a, .Name t q] X.env = (false, eval a X.env) :: starEach [.Name t q] X.env := star_cons hs
      exact isinst_call h1 ha (pe_tyName h4 (g.free t hft) h2 h3 h5) (fun tt => pe_callB call_isi hg (g.free _ hf) (by rfl) tt (by decide) (by decide) st rfl) st rfl
    · exact de_none
  · exact de_none
theorem tr_call (g : Good X O lev G C) {x : Str} {f : Expr → FE} (h : ∀ e ∈ es, DE X O e (f e)) (hs : es.all notStar = true) : DE X O (.Call (.Name x p) es [] pos) (trCall G C x es (es.map f)) := by
  unfold trCall
  split
  · rename_i hgl
    obtain ⟨hg, hd⟩ := isGl_ok g hgl
    split
    · rename_i hf
      rcases es with _ | ⟨a, _ | ⟨b, _ | ⟨c, r⟩⟩⟩
      · exact de_none
      · simp only [List.map_cons, List.map_nil]
        split
        · rename_i gg e
          exact b1_ok g e hg hf (h a (by simp)) (by simpa using hs)
        · exact de_none
      · have two : DE X O (.Call (.Name x p) [a, b] [] pos) (match b2 x with | some g => fBin g (f a) (f b) | none => fNone) := by
          split
          · rename_i gg e
            exact b2_ok g e hg hf (h a (by simp)) (h b (by simp)) hs
          · exact de_none
        have hsa : notStar a = true := by
          rw [List.all_cons, Bool.and_eq_true] at hs
          exact hs.1
        cases b <;> try exact two
        rename_i t q
        show DE X O _ (match b2 x with | some g => fBin g (f a) (f (.Name t q)) | none => trIsi G C x (f a) t)
        cases e : b2 x with
        | some gg =>
          rw [e] at two
          exact two
        | none => exact isi_ok g hg hf (h a (by simp)) hsa
      · simp only [List.map_cons]
        cases b <;> exact de_none
    · split
      · cases es with
        | nil => exact de_make0 g.cls hg hd
        | cons a r =>
          have hs2 := hs
          rw [List.all_cons, Bool.and_eq_true] at hs2
          exact de_make g.cls hg hd (da_all h hs) (star_cons hs2.1) (star_any hs2.2)
      · cases es with
        | nil => exact de_call0 g.cls hg hd
        | cons a r =>
          have hs2 := hs
          rw [List.all_cons, Bool.and_eq_true] at hs2
          exact de_call g.cls hg hd (da_all h hs) (star_cons hs2.1) (star_any hs2.2)
  · exact de_none
/-! methods -/
theorem tr_meth (g : Good X O lev G C) {m : Str} {f : Expr → FE} (ho : DE X O o fo) (h : ∀ e ∈ es, DE X O e (f e)) (hs : es.all notStar = true) (hb : baseOk o = true) (hn : es.length < 30) (hl : (apos.endLine == pos.line) = true) :
    DE X O (.Call (.Attribute o m apos) es [] pos) (trMeth m fo es (es.map f)) := by
  have one : ∀ a, es = [a] → notStar a = true := fun a e => by subst e; simpa using hs
  unfold trMeth
  split
  · rename_i em; subst em
    rcases es with _ | ⟨a, _ | ⟨b, r⟩⟩
    · exact de_none
    · exact de_m1 (d := false) PySem.F.plainAttrs_list PySem.F.slot_list_append PySem.F.type_list_append mt_append ans_append ho (h a (by simp)) hb (one a rfl) hl
    · exact de_none
  split
  · rename_i em; subst em
    rcases es with _ | ⟨a, r⟩
    · exact de_m0 (d := false) PySem.F.plainAttrs_list PySem.F.slot_list_clear PySem.F.type_list_clear mt_clear ans_clear ho hb hl
    · exact de_none
  split
  · rename_i em; subst em
    rcases es with _ | ⟨a, _ | ⟨b, r⟩⟩
    · exact de_none
    · simp only [List.map_cons, List.map_nil]
      split
      · exact de_m1 (d := false) PySem.F.plainAttrs_list PySem.F.slot_list_pop PySem.F.type_list_pop mt_popAt ans_popAt ho (h a (by simp)) hb (one a rfl) hl
      · exact de_m1 (d := true) PySem.F.plainAttrs_dict PySem.F.slot_dict_pop PySem.F.type_dict_pop mt_dpop ans_dpop ho (h a (by simp)) hb (one a rfl) hl
    · exact de_none
  split
  · rename_i em; subst em
    rcases es with _ | ⟨a, _ | ⟨b, r⟩⟩
    · exact de_none
    · simp only [List.map_cons, List.map_nil]
      split
      · exact de_m1 (d := true) PySem.F.plainAttrs_dict PySem.F.slot_dict_update PySem.F.type_dict_update (mt_upd g.calm) ans_upd ho (h a (by simp)) hb (one a rfl) hl
      · split
        · exact de_m1 (d := true) PySem.F.plainAttrs_dict PySem.F.slot_dict_update PySem.F.type_dict_update mt_updD ans_updD ho (h a (by simp)) hb (one a rfl) hl
        · exact de_none
    · exact de_none
  split
  · rename_i em; subst em
    rcases es with _ | ⟨a, _ | ⟨b, _ | ⟨c, r⟩⟩⟩
    · exact de_none
    · exact de_none
    · simp only [List.all_cons, List.all_nil, Bool.and_true, Bool.and_eq_true] at hs
      refine de_get g.un1 ho (h a (by simp)) (h b (by simp)) (base_ok hb) hl ?_
      rw [star_cons hs.1, star_cons hs.2]
      rfl
    · exact de_none
  · cases es with
    | nil => exact de_meth0 g.cls ho (meth_form hb hs hn hl)
    | cons a r =>
      have hs2 := hs
      rw [List.all_cons, Bool.and_eq_true] at hs2
      exact de_meth g.cls ho (da_all h hs) (star_cons hs2.1) (star_any hs2.2) (meth_form hb hs hn hl)
/-! iterables -/
theorem tr_iter (g : Good X O lev G C) {f : Expr → FE} {tg it : Expr} (h : ∀ e, DE X O e (f e)) : DI X O tg it (iterOf G C f tg it) := by
  unfold iterOf
  split
  · rename_i x q es q2
    split
    · rename_i hc
      obtain ⟨hgl, hf, hs⟩ := hc
      obtain ⟨hg, hd⟩ := isGl_ok g hgl
      split
      · rename_i ex; subst ex
        rcases es with _ | ⟨a, _ | ⟨b, _ | ⟨c, _ | ⟨d, r⟩⟩⟩⟩
        · exact di_none
        · exact di_rng1 hg (g.free _ hf) (h a) (star_cons (by simpa using hs))
        · simp only [List.all_cons, List.all_nil, Bool.and_true, Bool.and_eq_true] at hs
          exact di_rng2 hg (g.free _ hf) (h a) (h b) (by rw [star_cons hs.1, star_cons hs.2]; rfl) (star_cons hs.2)
        · simp only [List.all_cons, List.all_nil, Bool.and_true, Bool.and_eq_true] at hs
          exact di_rngD hg (g.free _ hf) (h a) (h b) (h c) (star_cons hs.1) (star_cons hs.2.1) (star_cons hs.2.2) (star_any (by simp [hs.2.1, hs.2.2]))
        · exact di_none
      split
      · rename_i ex; subst ex
        split
        · rename_i a
          exact di_enum hg (g.free _ hf) (h a) (star_cons (by simpa using hs))
        · exact di_none
      · exact di_val (h _)
    · exact di_val (h _)
  · exact di_none
  · exact di_val (h _)
theorem folded_ok {it : Expr} {env : Env} (h : notSet it = true) (x : Value) : foldedSetIterable it env x = pure x := by
  cases it <;> first | rfl | cases h
/-! targets -/
theorem assign_cons {e : Expr} {es : List Expr} {env : Env} (h : notStar e = true) : assignEach (e :: es) env = (false, assign e env) :: assignEach es env := by
  cases e <;> first | rfl | cases h
theorem assign_len : ∀ {es : List Expr} {env : Env}, es.all notStar = true → (assignEach es env).length = es.length ∧ (assignEach es env).findIdx? (·.1) = none
  | [], _, _ => ⟨rfl, rfl⟩
  | e :: es, env, h => by
    rw [List.all_cons, Bool.and_eq_true] at h
    obtain ⟨h1, h2⟩ := assign_len (es := es) (env := env) h.2
    rw [assign_cons h.1]
    refine ⟨by simp [h1], ?_⟩
    rw [List.findIdx?_cons, h2]
    rfl
theorem dgs_all {f : Expr → FG} : ∀ {es : List Expr}, (∀ e ∈ es, DG X O e (f e)) → es.all notStar = true → DGs X O es (es.map f)
  | [], _, _ => dgs_nil
  | e :: es, h, hs => by
    rw [List.all_cons, Bool.and_eq_true] at hs
    exact dgs_cons (h e (by simp)) (dgs_all (es := es) (fun e he => h e (by simp [he])) hs.2) (by rw [assign_cons hs.1]; rfl)
theorem dgsv_all {vs : List Nat} {f : Expr → FG} : ∀ {es : List Expr}, (∀ e ∈ es, DGv X O vs e (f e)) → es.all notStar = true → DGsv X O vs es (es.map f)
  | [], _, _ => dgsv_nil
  | e :: es, h, hs => by
    rw [List.all_cons, Bool.and_eq_true] at hs
    exact dgsv_cons (h e (by simp)) (dgsv_all (es := es) (fun e he => h e (by simp [he])) hs.2) (by rw [assign_cons hs.1]; rfl)
theorem loc_ok (g : Good X O lev G C) {x : Str} (h : (C.sc.names.lookup x = some .local) ∨ (C.sc.names.lookup x = some .cell ∧ C.isOwn x = true)) : Loc X.env.scope x ∧ (X.fn x = true ∨ X.env.scope.names.lookup x = some .local) := by
  rw [g.sc]
  rcases h with h | ⟨h, h2⟩
  · exact ⟨.inl h, .inr h⟩
  · exact ⟨.inr h, .inl (g.fn x h2)⟩
theorem tr_tg (g : Good X O lev G C) {f : Expr → FE} (h : ∀ e, DE X O e (f e)) : ∀ (n : Nat) (e : Expr), DG X O e (tgOf f C n e)
  | 0, e => dg_none
  | n + 1, e => by
    unfold tgOf
    split
    · split
      · rename_i hl
        split
        · rename_i i hi
          exact dg_var g.nodup (g.ix hi) (loc_ok g hl).1 (loc_ok g hl).2
        · exact dg_none
      · exact dg_none
    · split
      · rename_i hs
        exact dg_tup g.calm (dgs_all (fun e _ => tr_tg g h n e) hs) (by simp) (assign_len hs).1 (assign_len hs).2
      · exact dg_none
    · exact dg_none
    · rename_i o i q hi
      refine dg_ix g.un1 (h o) (h i) fun v => ?_
      cases i <;> first | rfl | exact absurd rfl (hi _ _ _ _)
    · exact dg_none
theorem tr_tgv (g : Good X O lev G C) {vs : List Nat} : ∀ (n : Nat) (e : Expr), DGv X O vs e (tgV C vs n e)
  | 0, e => dgv_none
  | n + 1, e => by
    unfold tgV
    split
    · split
      · rename_i hl
        split
        · rename_i i hi
          split
          · rename_i hv
            exact dgv_var g.nodup (g.ix hi) (loc_ok g hl).1 (loc_ok g hl).2 hv
          · exact dgv_none
        · exact dgv_none
      · exact dgv_none
    · split
      · rename_i hs
        exact dgv_tup g.calm (dgsv_all (fun e _ => tr_tgv g n e) hs) (by simp) (assign_len hs).1 (assign_len hs).2
      · exact dgv_none
    · exact dgv_none
/-! blocks of comprehensions -/
theorem Good.blkOk (g : Good X O lev G C) {scope : Scope} (ok : blkC C.N C.sc scope (ownOf C.N scope.names) = true) : BlkOk X.N X.env.scope scope (ownOf C.N scope.names) := by rw [g.N, g.sc]; exact blkOk_by ok
theorem Good.blk (g : Good X O lev G C) {scope : Scope} (ok : blkC C.N C.sc scope (ownOf C.N scope.names) = true) (s : Shared) (H : Hp) (K : Addr) (cl : List (Str × Addr)) (fp : List Addr) : Good (X.blk s H scope (compEnvC scope cl K X.env) fp) O lev G (blkCu C scope) where
  N := g.N
  nd := g.nd
  sc := by show relS scope X.env.scope = relS scope C.sc; rw [g.sc]
  kind := (blkOk_by ok).kind
  calm := g.calm
  un := g.un
  cls := ⟨g.cls.room, fun x => (g.cls.fn x).imp (fun ⟨f, F, h⟩ => ⟨f, ⟨F.ex⟩, h⟩) id, fun D m => (g.cls.me D m).imp (fun ⟨f, F, h⟩ => ⟨f, ⟨F.ex⟩, h⟩) id, fun D => (g.cls.mak D).imp (fun ⟨f, F, h⟩ => ⟨f, ⟨F.ex⟩, h⟩) id⟩
  free := g.free
  con := g.con
  fn := fun x h => by
    have h : ((scope.names.map (·.1)).filter fun x => scope.names.lookup x == some .cell).contains x = true := h
    have h := List.contains_iff_mem.mp h
    exact (List.mem_filter.mp h).2
theorem tr_ok : ∀ (n : Nat) {X : Cx} {C : Cu}, Good X O lev G C → ∀ (t : Bool) (e : Expr), DE X O e (tr G n t C e) ∧ (t = true → DT X O e (tr G n t C e))
  | 0, X, C, g, t, e => ⟨de_none, fun _ => dt_none⟩
  | n + 1, X, C, g, t, e => by
    have ih : ∀ (e : Expr), DE X O e (tr G n false C e) := fun e => (tr_ok n g false e).1
    have it : ∀ (e : Expr), DT X O e (tr G n true C e) := fun e => (tr_ok n g true e).2 rfl
    have mk : ∀ {e : Expr} {f : FE}, plainT e = true → DE X O e f → DE X O e f ∧ (t = true → DT X O e f) := fun hp h => ⟨h, fun _ => dt_val h (plain_true hp)⟩
    unfold tr
    split
    · exact mk rfl (tr_name g)
    · exact mk rfl tr_const
    · exact mk rfl (tr_binop g (ih _) (ih _))
    · split
      · exact ⟨de_not (tr_ok n g t _).1, fun ht => dt_not ((tr_ok n g t _).2 ht)⟩
      · exact mk rfl (de_neg (ih _))
      · exact ⟨de_none, fun _ => dt_none⟩
    · split
      · exact ⟨tr_ands fun e _ => (tr_ok n g t e).1, fun ht => (tw_ands fun e _ => (tr_ok n g t e).2 ht).pt⟩
      · exact ⟨tr_ors fun e _ => (tr_ok n g t e).1, fun ht => (tw_ors fun e _ => (tr_ok n g t e).2 ht).pt⟩
    · split
      · exact ⟨de_none, fun _ => dt_none⟩
      · rename_i ht
        exact ⟨de_if (it _) (ih _) (ih _), fun h => absurd h ht⟩
    · split
      · split
        · exact ⟨de_none, fun _ => dt_none⟩
        · rename_i hm
          exact ⟨(tr_cmp g (ih _) (ih _) (by simpa using hm)).1, fun _ => (tr_cmp g (ih _) (ih _) (by simpa using hm)).2⟩
      · split
        · exact ⟨de_none, fun _ => dt_none⟩
        · rename_i hm
          exact ⟨(tr_chain g (ih _) (ih _) (ih _) (by simpa using hm)).1, fun _ => (tr_chain g (ih _) (ih _) (ih _) (by simpa using hm)).2⟩
      · exact ⟨de_none, fun _ => dt_none⟩
    · split
      · rename_i hs
        exact mk rfl (de_tup (da_all (fun e _ => ih e) hs))
      · exact ⟨de_none, fun _ => dt_none⟩
    · split
      · rename_i hs
        exact mk rfl (de_lst (da_all (fun e _ => ih e) hs))
      · exact ⟨de_none, fun _ => dt_none⟩
    · split
      · exact mk rfl de_dic0
      · split
        · rename_i hc
          exact mk rfl (de_dic (pps_go (fun k _ => ih k) (fun v _ => ih v) hc.1 hc.2.1) hc.1 hc.2.1 hc.2.2.1 hc.2.2.2)
        · exact ⟨de_none, fun _ => dt_none⟩
    · split
      · rename_i lo hi q
        have opt : ∀ o : Option Expr, PO X o (tP (zOf X) O (o.map (tr G n false C))) := fun o => by
          cases o with
          | none => exact dp_none
          | some a => exact dp_some (ih a)
        exact mk rfl (de_slice (ih _) (opt lo) (opt hi))
      · exact ⟨de_none, fun _ => dt_none⟩
      · exact mk rfl (de_ix g.un1 (ih _) (ih _) (plainIx_of (notSl_of (by assumption))))
    · split
      · rename_i hb
        exact mk rfl (de_fld (ih _) (base_ok hb))
      · exact ⟨de_none, fun _ => dt_none⟩
    · split
      · split
        · rename_i hs
          exact mk rfl (tr_call g (fun e _ => ih e) hs)
        · exact ⟨de_none, fun _ => dt_none⟩
      · split
        · rename_i hc
          exact mk rfl (tr_meth g (ih _) (fun e _ => ih e) hc.1 hc.2.1 hc.2.2.1 hc.2.2.2)
        · exact ⟨de_none, fun _ => dt_none⟩
      · exact ⟨de_none, fun _ => dt_none⟩
    · split
      · split
        · rename_i hc
          obtain ⟨rfl, hns, hk⟩ := hc
          have ok := g.blkOk hk
          split
          · refine mk rfl (de_lc g.calm g.nodup (tr_iter g ih) ok (fun s H K cl fp => tr_tgv (g.blk hk s H K cl fp) n _) (fun s H K cl fp => dts_nil) (fun s H K cl fp => (tr_ok n (g.blk hk s H K cl fp) false _).1) (folded_ok hns))
          · refine mk rfl (de_lc g.calm g.nodup (tr_iter g ih) ok (fun s H K cl fp => tr_tgv (g.blk hk s H K cl fp) n _) (fun s H K cl fp => dts_one ((tr_ok n (g.blk hk s H K cl fp) true _).2 rfl)) (fun s H K cl fp => (tr_ok n (g.blk hk s H K cl fp) false _).1) (folded_ok hns))
          · exact ⟨de_none, fun _ => dt_none⟩
        · exact ⟨de_none, fun _ => dt_none⟩
      · exact ⟨de_none, fun _ => dt_none⟩
    · exact ⟨de_none, fun _ => dt_none⟩
end
end SB

/-! The translation is sound: statements, defs. -/
namespace SB
open PySem PySem.Spec PyProof.Rows L2

section
variable {X : Cx} {O : Ora} {lev : Nat} {G : Gs} {C : Cu} {a b c e o v tg : Expr} {es ts vs : List Expr} {fa fb fc fo : FE} {pos p apos : Pos} {E : Expr → FE} {T : Expr → FG}
theorem blockKind_of {env : Env} (h : env.scope.kind = .function) : env.blockKind = .function := by unfold Env.blockKind; rw [h]; rfl
theorem isLC_ok {env : Env} {l : Nat} {t : Option Expr} (h : isLC v = false) : swapsWith v t l env = pure false := by
  cases v <;> first | rfl | cases h
theorem swAttr_ok {env : Env} {l : Nat} {f : Str} : swapsWith v (some (.Attribute o f p)) l env = pure false := by
  cases v <;> rfl
theorem swOther_ok {env : Env} {l : Nat} (h : ∀ x q, tg ≠ .Name x q) : swapsWith v (some tg) l env = pure false := by
  cases v <;> first | rfl | (cases tg <;> first | rfl | exact absurd rfl (h _ _))
theorem swSole_ok {env : Env} {l : Nat} (h : ∀ x q, tg = .Name x q → False) : swapsWithSole [tg] v l env = pure false := swOther_ok (tg := tg) fun x q e => h x q e
theorem swC_ok (g : Good X O lev G C) {l : Nat} {x : Str} : swapsWith v (some (.Name x p)) l X.env = pure (swC C x p v) := by
  have hb := blockKind_of (env := X.env) (by rw [g.sc]; exact g.kind)
  have hk : X.env.kindOf x = C.sc.names.lookup x := by show X.env.scope.names.lookup x = _; rw [g.sc]
  cases v <;> first | rfl | (unfold swapsWith swC; simp only [hb, hk, Expr.pos]; rfl)
theorem swS_ok (g : Good X O lev G C) {k k2 : Nat} {p2 : Pos} {r : Option (List Str)} (h : swS C ts vs = some r) : swappedStores [.Tuple ts k p] (.Tuple vs k2 p2) X.env = pure r := by
  have hb := blockKind_of (env := X.env) (by rw [g.sc]; exact g.kind)
  have hk : ∀ x, X.env.kindOf x = C.sc.names.lookup x := fun x => by show X.env.scope.names.lookup x = _; rw [g.sc]
  unfold swS at h
  unfold swappedStores
  simp only [hb, hk]
  by_cases c1 : (!(ts.length == 2 || ts.length == 3) || vs.length != ts.length) = true
  · rw [if_pos c1] at h
    cases h
    rw [if_pos (by rw [c1]; rfl)]
  · rw [if_neg c1] at h
    rw [if_neg (by rw [Bool.not_eq_true] at c1; rw [c1]; decide)]
    dsimp only at h
    split at h
    · rename_i c2
      cases h
      exact if_pos c2
    · rename_i c2
      refine (if_neg c2).trans ?_
      split at h
      · rename_i c3
        cases h
        exact if_pos c3
      · rename_i c3
        refine (if_neg c3).trans ?_
        split at h
        · rename_i c4
          cases h
          exact if_pos c4
        · rename_i c4
          refine (if_neg c4).trans ?_
          split at h
          · cases h
          · rename_i c5
            cases h
            exact if_neg c5
theorem swOne_ok {env : Env} (h : (∀ us k q, tg = .Tuple us k q → ∀ ws k2 q2, v ≠ .Tuple ws k2 q2) ∧ ∀ us q, tg ≠ .List us q) : swappedStores [tg] v env = pure none := by
  cases tg <;> first | rfl | exact absurd rfl (h.2 _ _) | (cases v <;> first | rfl | exact absurd rfl (h.1 _ _ _ rfl _ _ _))
theorem ds_asgN {st : Stmt} {gg : FG} : DS X O st (sAsg gg fNone) := ⟨fun _ _ _ _ _ _ ⟨_, _, _, _, _, w⟩ => (WS.of_none w).elim⟩
theorem swC_true (g : Good X O lev G C) {x : Str} {s : Scope} {elt : Expr} {gens : List Comprehension} (h : swC C x p (.ListComp elt gens s apos) = true) {l : Nat} :
    C.sc.names.lookup x = some .local ∧ swapsWith (.ListComp elt gens s apos) (some (.Name x p)) l X.env = pure true := by
  have e := swC_ok g (l := l) (x := x) (p := p) (v := .ListComp elt gens s apos)
  rw [h] at e
  refine ⟨?_, e⟩
  unfold swC at h
  simp only [Bool.and_eq_true, beq_iff_eq] at h
  exact h.1.1
theorem tr_setLc (g : Good X O lev G C) {x : Str} {i k : Nat} (hi : idx C.N x = some i) (hs : swC C x p v = true) : DS X O (.Assign [.Name x p] v pos) (sAsg (gVar i) (tr G k false C v)) := by
  cases k with
  | zero => exact ds_asgN
  | succ k =>
    cases v <;> first | (cases hs; done) | exact ds_asgN | skip
    rename_i elt gens scope lp
    unfold tr
    dsimp only
    have hE : ∀ e, DE X O e (tr G k false C e) := fun e => (tr_ok k g false e).1
    split
    · split
      · rename_i hc
        obtain ⟨rfl, hns, hk⟩ := hc
        have ok := g.blkOk hk
        obtain ⟨hl, hsw⟩ := swC_true g hs (l := pos.line)
        split
        · exact ds_setLc g.calm g.nodup (g.ix hi) (by rw [g.sc]; exact hl) hsw (tr_iter g hE) ok (fun s H K cl fp => tr_tgv (g.blk hk s H K cl fp) k _) (fun s H K cl fp => dts_nil) (fun s H K cl fp => (tr_ok k (g.blk hk s H K cl fp) false _).1) (folded_ok hns)
        · exact ds_setLc g.calm g.nodup (g.ix hi) (by rw [g.sc]; exact hl) hsw (tr_iter g hE) ok (fun s H K cl fp => tr_tgv (g.blk hk s H K cl fp) k _) (fun s H K cl fp => dts_one ((tr_ok k (g.blk hk s H K cl fp) true _).2 rfl)) (fun s H K cl fp => (tr_ok k (g.blk hk s H K cl fp) false _).1) (folded_ok hns)
        · exact ds_asgN
      · exact ds_asgN
    · exact ds_asgN
theorem tr_asg (g : Good X O lev G C) (hE : ∀ e, DE X O e (E e)) (hT : ∀ e, DG X O e (T e)) (hlc : ∀ (i : Nat) (x : Str) (q lp : Pos) (v : Expr), idx C.N x = some i → swC C x q v = true → DS X O (.Assign [.Name x q] v pos) (sAsg (gVar i) (E v))) :
    DS X O (.Assign [tg] v pos) (trAsg C E T tg v) := by
  unfold trAsg
  split
  · rename_i x q
    split
    · rename_i hs
      split
      · rename_i i hi
        exact hlc i x q pos v hi hs
      · exact ds_none
    · rename_i hs
      refine ds_asg (hE v) (hT _) ?_ rfl rfl
      show swapsWith v (some (.Name x q)) pos.line X.env = pure false
      rw [swC_ok g]
      simp only [Bool.not_eq_true] at hs
      rw [hs]
  · rename_i ob f q
    split
    · rename_i cs hu
      exact ds_fld hu (hE v) (hE ob) swAttr_ok
    · exact ds_none
  · rename_i ts k q
    split
    · rename_i vs k2 q2
      split
      · rename_i hs
        exact ds_asg (hE _) (hT _) (swSole_ok (by intro x q; simp)) (swS_ok g hs) rfl
      · rename_i ns hs
        split
        · rename_i x px y py a b
          split
          · rename_i i j hi hj
            split
            · rename_i hc
              obtain ⟨rfl, hij, hx, hy, hst⟩ := hc
              simp only [List.all_cons, List.all_nil, Bool.and_true, Bool.and_eq_true] at hst
              exact ds_par2 g.calm g.nodup (g.ix hi) (g.ix hj) hij (by rw [g.sc]; exact hx) (by rw [g.sc]; exact hy) (hE a) (hE b) (star_cons hst.1) (star_cons hst.2) (swS_ok g hs) (swSole_ok (by intro x q; simp))
            · exact ds_none
          · exact ds_none
        · rename_i x px y py t pt a b c
          split
          · rename_i i j l hi hj hl
            split
            · rename_i hc
              obtain ⟨rfl, hij, hil, hjl, hx, hy, hz, hst⟩ := hc
              simp only [List.all_cons, List.all_nil, Bool.and_true, Bool.and_eq_true] at hst
              exact ds_par3 g.calm g.nodup (g.ix hi) (g.ix hj) (g.ix hl) hij hil hjl (by rw [g.sc]; exact hx) (by rw [g.sc]; exact hy) (by rw [g.sc]; exact hz) (hE a) (hE b) (hE c) (star_cons hst.1) (star_cons hst.2.1) (star_cons hst.2.2) (swS_ok g hs) (swSole_ok (by intro x q; simp))
            · exact ds_none
          · exact ds_none
        · exact ds_none
      · exact ds_none
    · rename_i v' hv
      exact ds_asg (hE _) (hT _) (swSole_ok (by intro x q; simp)) (swOne_ok ⟨fun us k q _ ws k2 q2 e => hv ws k2 q2 e, fun us q h => by cases h⟩) rfl
  · exact ds_none
  · exact ds_none
  · rename_i t h1 h2 h3 h4 h5
    refine ds_asg (hE _) (hT _) (swSole_ok fun x q e => h1 x q e) (swOne_ok ⟨fun us k q e => (h3 us k q e).elim, fun us q e => h5 us q e⟩) ?_
    rw [assign_cons]
    · rfl
    · cases tg <;> first | rfl | exact (h4 _ _ rfl).elim
theorem db_all {f : Stmt → FS} : ∀ {sts : List Stmt}, (∀ st ∈ sts, DS X O st (f st)) → DB X O sts (sAll (sts.map f))
  | [], _ => db_nil
  | [st], h => db_one (h st (by simp))
  | st :: st2 :: r, h => db_cons (h st (by simp)) (db_all (sts := st2 :: r) fun st hs => h st (by simp [hs]))
theorem tr_stmt (hp : PassesOwn (model X.prog X.w) X.A X.env X.xe) (g : Good X O lev G C) {k : Nat} : ∀ (n : Nat) (st : Stmt), DS X O st (trS G C k n st)
  | 0, st => ds_none
  | n + 1, st => by
    have hE : ∀ e, DE X O e (tr G k false C e) := fun e => (tr_ok k g false e).1
    have hT : ∀ e, DT X O e (tr G k true C e) := fun e => (tr_ok k g true e).2 rfl
    unfold trS
    split
    · exact ds_ret (hE _)
    · exact ds_retN
    · split
      · exact ds_doc
      · split
        · exact ds_none
        · rename_i hl
          exact ds_expr (hE _) (isLC_ok (by simpa using hl))
    · split
      · exact tr_asg g hE (tr_tg g hE k) fun i x q lp v hi hs => tr_setLc g hi hs
      · exact ds_none
    · exact ds_if (hT _) (db_all fun st _ => tr_stmt hp g n st) (db_all fun st _ => tr_stmt hp g n st)
    · split
      · exact ds_while hp (hT _) (db_all fun st _ => tr_stmt hp g n st)
      · exact ds_none
    · split
      · split
        · rename_i hns
          exact ds_for hp g.calm (tr_iter g hE) (tr_tg g hE k _) (db_all fun st _ => tr_stmt hp g n st) (folded_ok hns)
        · exact ds_none
      · exact ds_none
    · exact ds_none
end
end SB

/-! Defs, the law. -/
namespace SB
open PySem PySem.Spec PyProof.Rows L2

/-- what is known of one def: its written form is the combinators' -/
def DefOk (K : PySem.W.Frag) (G : Gs) (n : Dn) (d : Df) : Prop := ∃ (x qual : Str) (params : Arguments) (body : List Stmt) (scope : Scope) (fd : FuncData) (ps N : List Str) (k : Nat),
  FunD K x qual params body scope [] [] (He.fAd K n) fd ∧ Binds K fd ps [] ∧ FnScope N ps scope ∧ d.n = ps.length ∧ d.m = N.length ∧ d.body = sAll (body.map (trS G ⟨N, scope, none⟩ k k))
structure LawF (w : World) (K : PySem.W.Frag) (mg : Str → Option Value) (G : Gs) (T : Dn → Option Df) : Prop where
  df : ∀ n d, T n = some d → DefOk K G n d
  fn : ∀ x d, T (x, none) = some d → mg x = some (.ref (He.ga K x))
  me : ∀ C m d, T (C, some m) = some d → Meth K (He.ga K C) m (He.ma K (He.ga K C) m)
  mak : ∀ C d, T (C, some "__init__") = some d → Mk K (He.ga K C) (He.ma K (He.ga K C) "__init__") ∧ mg C = some (.ref (He.ga K C)) ∧ ClsOk ⟨K, w⟩ C
  free : ∀ x ∈ G.free, mg x = none
  con : ∀ x av, G.con.lookup x = some av → ∃ v u, mg x = some u ∧ RelV v u ∧ ∀ m H, RelA ⟨K, w⟩ m H av v
theorem ora_some {T : Dn → Option Df} {n : Dn} {d : Df} (k : Nat) (h : T n = some d) (vs : List AV) (hp : AH) : ora T (k + 1) n vs hp = d.run (ora T k) vs hp := by
  show (match T n with | some d => d.run (ora T k) vs hp | none => none) = _
  rw [h]
theorem ora_none {T : Dn → Option Df} {n : Dn} (h : T n = none) : ∀ (k : Nat) (vs : List AV) (hp : AH), ora T k n vs hp = none
  | 0, _, _ => rfl
  | k + 1, vs, hp => by
    show (match T n with | some d => d.run (ora T k) vs hp | none => none) = _
    rw [h]
theorem ora_len {T : Dn → Option Df} {n : Dn} {d : Df} (h : T n = some d) : ∀ (k : Nat) (vs : List AV) (hp : AH) (r : AV × AH), ora T k n vs hp = some r → vs.length = d.n
  | 0, _, _, _, e => by cases e
  | k + 1, vs, hp, r, e => by
    rw [ora_some k h] at e
    unfold Df.run at e
    split at e
    · assumption
    · cases e
section
variable {P : Program} {w : World} {K : PySem.W.Frag} {mg : Str → Option Value} {base : Heap} {G : Gs} {T : Dn → Option Df}
/-- the calls of a body, when the defs below keep their promises -/
theorem fn_body (L : LawF w K mg G T) (k : Nat) (low : ∀ (n : Dn) (d : Df), T n = some d → ∃ fd ps, FnOk P w K mg base CX0 (2 * k) (He.fAd K n) fd ps (spA ⟨K, w⟩ (ora T k) n ps.length) ∧ Binds K fd ps [] ∧ (∀ vs h r, ora T k n vs h = some r → vs.length = ps.length) ∧ PySem.W.keepIn K (.ref (He.fAd K n)) = true)
    {n : Dn} {d : Df} (hd : T n = some d) {x qual : Str} {params : Arguments} {body : List Stmt} {scope : Scope} {fd : FuncData} {ps N : List Str} {kk : Nat}
    (F : FunD K x qual params body scope [] [] (He.fAd K n) fd) (S : FnScope N ps scope) (h1 : d.n = ps.length) (h2 : d.m = N.length) (h3 : d.body = sAll (body.map (trS G ⟨N, scope, none⟩ kk kk))) :
    FnOk P w K mg base CX0 (2 * (k + 1)) (He.fAd K n) fd ps (spA ⟨K, w⟩ (ora T (k + 1)) n ps.length) := by
    have e2 : 2 * (k + 1) = (2 * k + 1) + 1 := by omega
    rw [e2]
    refine F.ok (N := N) S (fun vs H Q E h => h.1) fun cdv A outer s H vs Q E hr hsp => ⟨tS ⟨K, w⟩ (ora T k) d.body, ?_, ?_⟩
    · refine PSs.nox ?_
      rw [h3]
      refine db_all (f := trS G ⟨N, scope, none⟩ kk kk) fun st _ => tr_stmt (lev := 2 * k) PassesOwn.never ?_ kk st
      have lk : ∀ (n : Dn) (d : Df), T n = some d → FnAt (cxOf CX0 P w K mg base N qual scope (He.fAd K n) cdv A outer s H E).nox (ora T k) n (He.fAd K n) (2 * k) := fun n d hd => by
        obtain ⟨fd, ps, h1, h2, h3, _⟩ := low n d hd
        exact ⟨fd, ps, h1, h2, h3⟩
      refine ⟨rfl, S.nd, rfl, S.kind, rfl, ?_, ⟨hr, fun y => ?_, fun D m => ?_, fun D => ?_⟩, L.free, L.con, fun _ _ => rfl⟩
      · have := hr.un
        show (A.deeper _).units + 65 < cLine
        omega
      · cases e : T (y, none) with
        | none => exact .inr (ora_none e k)
        | some d' => exact .inl ⟨He.fAd K (y, none), ⟨(lk _ _ e).ex⟩, L.fn y d' e, (low _ d' e).choose_spec.choose_spec.2.2.2⟩
      · cases e : T (D, some m) with
        | none => exact .inr (ora_none e k)
        | some d' => exact .inl ⟨He.fAd K (D, some m), ⟨(lk _ _ e).ex⟩, L.me D m d' e⟩
      · cases e : T (D, some "__init__") with
        | none => exact .inr (ora_none e k)
        | some d' =>
          obtain ⟨m1, m2, m3⟩ := L.mak D d' e
          exact .inl ⟨He.fAd K (D, some "__init__"), ⟨(lk _ _ e).ex⟩, m1, m2, m3⟩
    · obtain ⟨hl, m, h, as, A', r, w'⟩ := hsp
      have ha : as.length = d.n := by rw [r.len, hl, h1]
      rw [ora_some k hd] at w'
      unfold Df.run at w'
      rw [if_pos ha] at w'
      refine ⟨m, h, as.map some ++ List.replicate (d.m - d.n) none, A', ?_, ?_⟩
      · have := RelE.start (d.m - d.n) r
        show RelE _ _ _ _ (vs.map some ++ List.replicate (N.length - vs.length) none)
        rw [hl, ← h1, ← h2]
        exact this
      · cases q : d.body (ora T k) (as.map some ++ List.replicate (d.m - d.n) none) h with
        | none => rw [q] at w'; exact (Wn.of_none w').elim
        | some pr =>
          obtain ⟨c, h'⟩ := pr
          rw [q] at w'
          refine ⟨c, h', rfl, fun m' H' e A2 => ?_⟩
          cases c with
          | next as' => exact fun σ' _ => w'.of_some m' H' .non e A2 (by simp [RelA])
          | ret a => exact fun v rv => w'.of_some m' H' v e A2 rv
/-- a def, at a depth -/
theorem fn_lev (L : LawF w K mg G T) : ∀ (k : Nat) (n : Dn) (d : Df), T n = some d → ∃ fd ps, FnOk P w K mg base CX0 (2 * k) (He.fAd K n) fd ps (spA ⟨K, w⟩ (ora T k) n ps.length) ∧ Binds K fd ps [] ∧ (∀ vs h r, ora T k n vs h = some r → vs.length = ps.length) ∧ PySem.W.keepIn K (.ref (He.fAd K n)) = true
  | 0, n, d, hd => by
    obtain ⟨x, qual, params, body, scope, fd, ps, N, kk, F, B, S, h1, h2, h3⟩ := L.df n d hd
    refine ⟨fd, ps, ⟨fun vs H Q E h => h.1, fun A outer s H args us vs Q E hr e0 hb hv hs => ?_⟩, B, (fun vs h r e => by cases e), F.kp⟩
    obtain ⟨_, m, h, as, _, _, w⟩ := hs
    exact (Wn.of_none w).elim
  | k + 1, n, d, hd => by
    obtain ⟨x, qual, params, body, scope, fd, ps, N, kk, F, B, S, h1, h2, h3⟩ := L.df n d hd
    exact ⟨fd, ps, fn_body L k (fn_lev L k) hd F S h1 h2 h3, B, fun vs h r e => by rw [← h1]; exact ora_len hd (k + 1) vs h r e, F.kp⟩
/-- the law's promise -/
def spL (w : World) (K : PySem.W.Frag) (T : Dn → Option Df) (k : Nat) : Sp := spA ⟨K, w⟩ (ora T k) ("law", none) 1
theorem spL_of {k : Nat} {H : Hp} {a : Addr} {ns : List Int} {E : XK} (hS : SqL K H a (ns.map V.int)) (hO : ∀ b, H b = none ∨ ∃ o xs, H b = some (.frz o (.lst xs))) (h : ∃ h', ora T k ("law", none) [.scr ns] [] = some (.bl true, h')) :
    spL w K T k [.ref a] H (fun v _ => v = .bl true) E := by
  obtain ⟨h', e⟩ := h
  refine ⟨rfl, [], [], [.scr ns], ⟨rfl, List.nodup_nil, fun i o a h => by simp at h⟩, .one ?_, .bl true, h', e, fun m' H' v _ _ r => rbl r⟩
  simp only [RelA]
  refine ⟨a, rfl, ?_⟩
  rcases hS with (h1 | h1) | h1
  · rcases hO a with q | ⟨o, xs, q⟩
    · rw [q] at h1; cases h1
    · rw [q] at h1; cases h1
  · exact .inl h1
  · exact .inr h1
end
end SB

/-! What a law's head must say. -/
namespace SB
open PySem PySem.Spec PyProof.Rows L2
theorem zip_look : ∀ {ps : List Str} {us : List Value} {x : Str}, us.length = ps.length → x ∈ ps → ((ps.zip us).lookup x).isSome = true
  | [], _, x, _, hx => by cases hx
  | p :: ps, [], x, hl, _ => by cases hl
  | p :: ps, u :: us, x, hl, hx => by
    rw [List.zip_cons_cons, List.lookup_cons]
    cases e : x == p with
    | true => rfl
    | false =>
      refine zip_look (by simpa using hl) ?_
      rcases List.mem_cons.mp hx with h | h
      · subst h; simp at e
      · exact h
theorem zip_filter : ∀ {ps : List Str} {us : List Value} (qs : List (Str × Value)), ps.Nodup → us.length = ps.length → (∀ x ∈ ps, ∀ v, qs.lookup x = some v ↔ (ps.zip us).lookup x = some v) → ps.filterMap (fun n => (qs.lookup n).map (n, ·)) = ps.zip us
  | [], us, qs, _, _, _ => by simp
  | p :: ps, [], qs, _, hl, _ => by cases hl
  | p :: ps, u :: us, qs, hn, hl, h => by
    rw [List.nodup_cons] at hn
    have e : qs.lookup p = some u := (h p (by simp) u).mpr (by rw [List.zip_cons_cons, List.lookup_cons, beq_self_eq_true])
    rw [List.filterMap_cons, e]
    show (p, u) :: _ = _
    rw [zip_filter (ps := ps) (us := us) qs hn.2 (by simpa using hl)]
    · rfl
    · intro x hx v
      rw [h x (by simp [hx]) v, List.zip_cons_cons, List.lookup_cons]
      have : (x == p) = false := by
        rw [beq_eq_false_iff_ne]; rintro rfl; exact hn.1 hx
      rw [this]
theorem bind_ok {x qual : Str} {params : Arguments} {body : List Stmt} {scope : Scope} {kV doc pm cdv ct : Value} {an : Option Addr} {ps : List Str} {us : List Value}
    (h1 : params.posonlyargs = []) (h2 : params.args.map (·.arg) = ps) (h3 : params.vararg = none) (h4 : params.kwonlyargs = []) (h5 : params.kwarg = none) (hn : ps.Nodup) (hl : us.length = ps.length) :
    bindArgs (PySem.W.fnOf x qual params body scope .none kV doc pm an cdv ct) ⟨us, []⟩ = pure (ps.zip us) := by
  unfold bindArgs PySem.W.fnOf
  simp only [h1, h2, h3, h4, h5, List.map_nil, List.nil_append, List.append_nil]
  have hs : seqItems? Value.none = pure none := rfl
  rw [hs]
  have d1 : (decide (us.length > ps.length) && (none : Option Arg).isNone) = false := by
    have : ¬ us.length > ps.length := by omega
    simp [this]
  have d2 : (List.filter (fun n => (List.lookup n (ps.zip us)).isNone) ps) = [] := by
    rw [List.filter_eq_nil_iff]
    intro y hy
    have := zip_look hl hy
    cases e : List.lookup y (ps.zip us) with
    | none => rw [e] at this; cases this
    | some _ => simp
  have d3 := zip_filter (ps := ps) (us := us) (ps.zip us) hn hl (fun _ _ _ => Iff.rfl)
  simp only [List.forIn_nil, pure_bind, d1, Option.getD_none, Array.toList_empty, List.length_nil, Nat.zero_sub, List.drop_nil, Nat.sub_zero, List.take_length, d2, List.isEmpty_nil, Bool.not_true, Bool.false_eq_true, if_false, List.drop_length, List.zip_nil_right, d3]

/-- a constant of the top -/
inductive CV where
  | i (n : Int) | s (z : Str) | t (kvs : List (Str × Key)) | u (xs : List Key)
def CV.av (x : Str) : CV → AV
  | .i n => .int n
  | .s z => .str z
  | .t kvs => .tab x kvs
  | .u xs => .tup (xs.map keyV)
structure Ent where
  at_ : Dn
  st : Stmt
  N : List Str
  ps : List Str
  f : Df
def qualOf : Dn → Str
  | (x, none) => x
  | (C, some m) => C ++ "." ++ m
def nameOf : Dn → Str
  | (x, none) => x
  | (_, some m) => m
def Ent.d (e : Ent) : He.DefD := ⟨e.at_, nameOf e.at_, qualOf e.at_, defArgs e.st, defBody e.st, defScope e.st, [], []⟩
structure LD where
  cons : List (Str × CV)
  ents : List Ent
  clss : List Str
  free : List Str
def kDv : Key → He.Dv
  | .inl i => .int i
  | .inr x => .str x
def pairsB : List (Str × Key) → List DictEntry → Bool
  | [], [] => true
  | (k, v) :: r, e :: t => (match e.key with | .str y _ => decide (y = k) | _ => false) && (He.relB (kV v) e.val && pairsB r t)
  | _, _ => false
def tabB (K : PySem.W.Frag) (x : Str) (kvs : List (Str × Key)) : Bool := match K.lookup (He.ga K x) with
  | some ⟨_, _, .dict es _, _⟩ => pairsB kvs es.toList
  | _ => false
def fieldsOf (C : Str) : List Str := (UF.filter fun p => p.2.contains C).map (·.1)
def conFa : Str × CV → He.Fa
  | (x, .i n) => .int x n
  | (x, .s z) => .str x z
  | (x, .t _) => .glo x
  | (x, .u _) => .glo x
def entFa (e : Ent) : He.Fa := match e.at_ with
  | (x, none) => .glo x
  | (C, some m) => .meth C m
def LD.fa (L : LD) : List He.Fa := L.cons.map conFa ++ (L.ents.map entFa ++ (L.free.map .free ++ L.clss.flatMap fun C => .glo C :: .mkr C :: .cls C :: (fieldsOf C).map (.noat C)))
def LD.fn (L : LD) : List He.DefD := L.ents.map Ent.d
def LD.tabs (L : LD) : List (Str × List (Str × Key)) := L.cons.filterMap fun p => match p.2 with
  | .t kvs => some (p.1, kvs)
  | _ => none
def LD.ts (L : LD) : List He.Tab := L.tabs.map fun p => (fun K => He.ga K p.1, p.2.map (·.1))
def LD.ex (L : LD) (K : PySem.W.Frag) : Bool := L.cons.all fun p => match p.2 with
  | .t kvs => tabB K p.1 kvs
  | .u xs => He.tupB K p.1 (xs.map kDv)
  | _ => true
def LD.G (L : LD) : Gs := ⟨L.cons.map fun p => (p.1, p.2.av p.1), L.clss, L.free⟩
def LD.T (L : LD) : Dn → Option Df := fun n => (L.ents.map fun e => (e.at_, e.f)).lookup n
/-- what is to be seen of one def's text -/
def Ent.okB (e : Ent) : Bool := C8.scC e.N e.ps (defScope e.st) && (decide (e.f.n = e.ps.length) && (decide (e.f.m = e.N.length) && (match defArgs e.st with
  | ⟨[], as, none, [], _, none, _⟩ => decide (as.map (·.arg) = e.ps)
  | _ => false)))
structure Ent.Ok (G : Gs) (e : Ent) : Prop where
  b : e.okB = true
  body : ∃ k, e.f.body = sAll ((defBody e.st).map (trS G ⟨e.N, defScope e.st, none⟩ k k))
theorem and4 {a b : Bool} (h : (a && b) = true) : a = true ∧ b = true := by rwa [Bool.and_eq_true] at h
theorem pairsB_ok : ∀ {kvs : List (Str × Key)} {es : List DictEntry}, pairsB kvs es = true → Paired (fun (p : Str × Key) (e : DictEntry) => (∃ t, e.key = .str p.1 t) ∧ RelV (kV p.2) e.val) kvs es
  | [], [], _ => .nil
  | [], _ :: _, h => by cases h
  | _ :: _, [], h => by cases h
  | (k, v) :: r, e :: t, h => by
    unfold pairsB at h
    obtain ⟨h1, h2⟩ := and4 h
    obtain ⟨h3, h4⟩ := and4 h2
    refine .cons ⟨?_, He.relB_ok h3⟩ (pairsB_ok h4)
    split at h1
    · rename_i y t' q
      have := of_decide_eq_true h1
      subst this
      exact ⟨t', q⟩
    · cases h1
theorem tabB_ok {w : World} {K : PySem.W.Frag} {x : Str} {kvs : List (Str × Key)} (h : tabB K x kvs = true) {es : Array DictEntry} {n : Nat} (D : KDict K w (He.ga K x) es n) : TabOk ⟨K, w⟩ (He.ga K x) kvs := by
  refine ⟨es, n, D, ?_⟩
  unfold tabB at h
  rw [D.at_] at h
  exact pairsB_ok h
theorem lookup_mem {α : Type} {x : Str} {v : α} : ∀ {l : List (Str × α)}, l.lookup x = some v → (x, v) ∈ l
  | [], h => by cases h
  | (y, u) :: r, h => by
    rw [List.lookup_cons] at h
    cases e : x == y with
    | true =>
      rw [e] at h
      cases h
      have : x = y := by simpa using e
      subst this
      exact List.mem_cons_self ..
    | false =>
      rw [e] at h
      exact List.mem_cons_of_mem _ (lookup_mem h)
theorem dn_mem {α : Type} {x : Dn} {v : α} : ∀ {l : List (Dn × α)}, l.lookup x = some v → (x, v) ∈ l
  | [], h => by cases h
  | (y, u) :: r, h => by
    rw [List.lookup_cons] at h
    cases e : x == y with
    | true =>
      rw [e] at h
      cases h
      have : x = y := by simpa using e
      subst this
      exact List.mem_cons_self ..
    | false =>
      rw [e] at h
      exact List.mem_cons_of_mem _ (dn_mem h)
theorem rel_keys {z : Zt} {m : List Addr} {H : Hp} {K : PySem.W.Frag} : ∀ xs : List Key, RelAs z m H (xs.map keyV) ((xs.map kDv).map (He.Dv.v K))
  | [] => .nil
  | .inl i :: r => .cons (by simp [RelA, keyV, kDv, He.Dv.v]) (rel_keys r)
  | .inr i :: r => .cons (by simp [RelA, keyV, kDv, He.Dv.v]) (rel_keys r)
section
variable {L : LD} {w : World} {h h' : Heap} {K : PySem.W.Frag} {mg : Str → Option Value}
theorem LD.facts (c : He.SaysX L.fa L.fn L.ts [] L.ex w h K) {f : He.Fa} (hf : f ∈ L.fa) : f.ok K = true := c.t.d.facts hf
theorem LD.law (c : He.SaysX L.fa L.fn L.ts [] L.ex w h K) (X : K.In h') (G : h'.Ns mainGlobals mg) (ok : ∀ e ∈ L.ents, Ent.Ok L.G e) (hini : (L.ents.all fun e => match e.at_ with | (C, some m) => !(m == ("__init__" : Str)) || L.clss.contains C | _ => true) = true) : LawF w K mg L.G L.T := by
  have ent : ∀ n d, L.T n = some d → ∃ e ∈ L.ents, e.at_ = n ∧ e.f = d := fun n d hd => by
    obtain ⟨e, he, q⟩ := List.mem_map.mp (dn_mem hd)
    cases q
    exact ⟨e, he, rfl, rfl⟩
  have faE : ∀ e ∈ L.ents, (entFa e).ok K = true := fun e he => LD.facts c (by
    unfold LD.fa
    exact List.mem_append_right _ (List.mem_append_left _ (List.mem_map_of_mem he)))
  have faC : ∀ C ∈ L.clss, ∀ f, f ∈ (He.Fa.glo C :: He.Fa.mkr C :: He.Fa.cls C :: (fieldsOf C).map (He.Fa.noat C)) → f.ok K = true := fun C hC f hf => LD.facts c (by
    unfold LD.fa
    exact List.mem_append_right _ (List.mem_append_right _ (List.mem_append_right _ (List.mem_flatMap.mpr ⟨C, hC, hf⟩))))
  refine ⟨fun n d hd => ?_, fun x d hd => ?_, fun C m d hd => ?_, fun C d hd => ?_, fun x hx => ?_, fun x av hx => ?_⟩
  · obtain ⟨e, he, rfl, rfl⟩ := ent n d hd
    obtain ⟨fd, F⟩ := c.t.d.defs (d := e.d) (List.mem_map_of_mem he)
    obtain ⟨h1, k, h2⟩ := ok e he
    unfold Ent.okB at h1
    obtain ⟨h3, h4⟩ := and4 h1
    obtain ⟨h5, h6⟩ := and4 h4
    obtain ⟨h7, h8⟩ := and4 h6
    refine ⟨_, _, _, _, _, fd, e.ps, e.N, k, F, ?_, C8.fnScope_by h3, of_decide_eq_true h5, of_decide_eq_true h7, h2⟩
    have S := C8.fnScope_by h3
    have nd : e.ps.Nodup := by rw [← S.pre]; exact S.nd.sublist (List.take_sublist _ _)
    show Binds K fd e.ps []
    have F2 : FunD K (nameOf e.at_) (qualOf e.at_) (defArgs e.st) (defBody e.st) (defScope e.st) [] [] (He.fAd K e.at_) fd := F
    split at h8
    · rename_i as kd df q
      rw [q] at F2
      exact F2.bindsN fun kV doc pm an cdv ct us hl => bind_ok rfl (of_decide_eq_true h8) rfl rfl rfl nd hl
    · cases h8
  · obtain ⟨e, he, q, rfl⟩ := ent _ d hd
    have := faE e he
    unfold entFa at this
    rw [q] at this
    exact He.glo_ok X G this
  · obtain ⟨e, he, q, rfl⟩ := ent _ d hd
    have := faE e he
    unfold entFa at this
    rw [q] at this
    exact He.meth_ok this
  · obtain ⟨e, he, q, rfl⟩ := ent _ d hd
    have hc := List.all_eq_true.mp hini e he
    rw [q] at hc
    have hC : C ∈ L.clss := by simpa using hc
    refine ⟨He.mkr_ok (faC C hC (.mkr C) (by simp)), He.glo_ok X G (faC C hC (.glo C) (by simp)), He.cls_ok (faC C hC (.cls C) (by simp)), fun f cs hu hm => He.noat_ok (faC C hC (.noat C f) ?_)⟩
    simp only [List.mem_cons, List.mem_map]
    refine .inr (.inr (.inr ⟨f, ?_, rfl⟩))
    unfold fieldsOf
    exact List.mem_map.mpr ⟨(f, cs), List.mem_filter.mpr ⟨lookup_mem hu, by simpa using hm⟩, rfl⟩
  · exact He.free_ok X G (LD.facts c (by
      unfold LD.fa
      exact List.mem_append_right _ (List.mem_append_right _ (List.mem_append_left _ (List.mem_map_of_mem hx)))))
  · obtain ⟨p, hp, q⟩ := List.mem_map.mp (lookup_mem hx)
    cases q
    obtain ⟨x, cv⟩ := p
    have hf : (conFa (x, cv)).ok K = true := LD.facts c (by
      unfold LD.fa
      exact List.mem_append_left _ (List.mem_map_of_mem hp))
    have hex := List.all_eq_true.mp c.more (x, cv) hp
    cases cv with
    | i n =>
      obtain ⟨t, e⟩ := He.int_ok X G hf
      exact ⟨.int n, _, e, ⟨t, rfl⟩, fun m H => by simp [RelA, CV.av]⟩
    | s z =>
      obtain ⟨t, e⟩ := He.str_ok X G hf
      exact ⟨.str z, _, e, ⟨t, rfl⟩, fun m H => by simp [RelA, CV.av]⟩
    | t kvs =>
      refine ⟨.ref (He.ga K x), _, He.glo_ok X G hf, rfl, fun m H => ?_⟩
      simp only [CV.av, RelA]
      refine ⟨_, rfl, ?_⟩
      have ht : (x, kvs) ∈ L.tabs := List.mem_filterMap.mpr ⟨(x, .t kvs), hp, rfl⟩
      obtain ⟨j, hj, ej⟩ := List.mem_iff_getElem.mp ht
      obtain ⟨es, n, D⟩ := c.t.tab j (t := (fun K => He.ga K x, kvs.map (·.1))) (by
        unfold LD.ts
        rw [List.getElem?_map, List.getElem?_eq_getElem hj, ej]
        rfl)
      exact tabB_ok hex D
    | u xs =>
      refine ⟨.ref (He.ga K x), _, He.glo_ok X G hf, rfl, fun m H => ?_⟩
      simp only [CV.av, RelA]
      exact ⟨_, _, rfl, He.tupB_ok hex H, rel_keys xs⟩
theorem LD.law_fn {P : Program} (c : He.SaysX L.fa L.fn L.ts [] L.ex w h K) (F : LawF w K mg L.G L.T) {e : Ent} (he : e ∈ L.ents) (hat : e.at_ = (("law" : Str), none)) (hps : e.ps = [("_law_script" : Str)]) (hT : L.T ("law", none) = some e.f) (ok : Ent.Ok L.G e) (k : Nat) :
    ∃ fd, (∀ (s : Shared) (u : Value), BindsTo s fd ⟨[u], []⟩ [("_law_script", u)]) ∧ ∀ base : Heap, K.In base → base.Ns mainGlobals mg → FnOk P w K mg base CX0 (2 * (k + 1)) (He.ga K "law") fd ["_law_script"] (spL w K L.T (k + 1)) := by
  obtain ⟨fd, F0⟩ := c.t.d.defs (d := e.d) (List.mem_map_of_mem he)
  obtain ⟨h1, kk, h2⟩ := ok
  unfold Ent.okB at h1
  obtain ⟨h3, h4⟩ := and4 h1
  obtain ⟨h5, h6⟩ := and4 h4
  obtain ⟨h7, h8⟩ := and4 h6
  have S := C8.fnScope_by h3
  have nd : e.ps.Nodup := by rw [← S.pre]; exact S.nd.sublist (List.take_sublist _ _)
  have F1 : FunD K (nameOf e.at_) (qualOf e.at_) (defArgs e.st) (defBody e.st) (defScope e.st) [] [] (He.fAd K e.at_) fd := F0
  have F2 := F1
  refine ⟨fd, fun s u => ?_, fun base _ _ => ?_⟩
  · split at h8
    · rename_i as kd df q
      rw [q] at F2
      have := F2.bindsA (ps := e.ps) (fun kV doc pm an cdv ct us hl => bind_ok rfl (of_decide_eq_true h8) rfl rfl rfl nd hl) s [u] (by rw [hps]; rfl)
      rw [hps] at this
      exact this
    · cases h8
  · rw [hat] at F1
    have := fn_body (P := P) (base := base) F k (fn_lev F k) hT F1 S (of_decide_eq_true h5) (of_decide_eq_true h7) h2
    rw [hps] at this
    exact this
end
end SB

/-! The program's defs as combinators (printed by genprog.py). -/
namespace SB
open PySem PySem.Spec PyProof.Rows L2
def kv_FORMS : List (Str × Key) := [("set", .inr "rn"), ("add", .inr "rr"), ("less", .inr "rr"), ("get", .inr "ra"), ("getx", .inr "rr"), ("put", .inr "ar"), ("putx", .inr "rr"), ("pair", .inr "ha"), ("lay", .inr "ah"), ("go", .inr "l"), ("if", .inr "rl"), ("ask", .inr "w"), ("done", .inr "rw"), ("mark", .inr "m"), ("clear", .inr "m"), ("rest", .inr "b"), ("end", .inr "")]
@[reducible] def c_FORMS : AV := .tab "FORMS" kv_FORMS
def kv_TAKES : List (Str × Key) := [("get", .inl 1), ("getx", .inl 1), ("put", .inl 1), ("putx", .inl 1), ("pair", .inl 2), ("lay", .inl 2)]
@[reducible] def c_TAKES : AV := .tab "TAKES" kv_TAKES
@[reducible] def c_GREEDS : AV := .tup [.str "all", .str "turn", .str "idle"]
/- Going_init: 0 self, 1 number, 2 work, 3 mine -/
noncomputable def b_Going_init : FS := sAll [
  sAsg (gFld ["Going"] (fVar 0) "number") (fVar 1),
  sAsg (gFld ["Going"] (fVar 0) "work") (fVar 2),
  sAsg (gFld ["Going"] (fVar 0) "moved") (fC (.int 0)),
  sAsg (gFld ["Going"] (fVar 0) "hand") (fTup []),
  sAsg (gFld ["Going"] (fVar 0) "mine") (fVar 3)]
noncomputable def f_Going_init : Df := ⟨4, 4, b_Going_init⟩
abbrev n_Going_init : Dn := ("Going", some "__init__")
/- Going_is_held: 0 self, 1 marks, 2 is_within -/
noncomputable def b_Going_is_held : FS := sAll [
  sAsg (gVar 2) (fOr (fCmp .NotEq (fUn (fldA "hand") (fVar 0)) (fTup [])) (fCmp .NotEq (fOp .Mod (fUn (fldA "moved") (fVar 0)) (fBin ixA (fUn (fldA "work") (fVar 0)) (fC (.int 3)))) (fC (.int 0)))),
  sRet (fAnd (fUn notA (fVar 2)) (fAnd (fCmp .IsNot (fBin ixA (fUn (fldA "work") (fVar 0)) (fC (.int 5))) (fC .non)) (fBin ixA (fVar 1) (fBin ixA (fUn (fldA "work") (fVar 0)) (fC (.int 5))))))]
noncomputable def f_Going_is_held : Df := ⟨2, 3, b_Going_is_held⟩
abbrev n_Going_is_held : Dn := ("Going", some "is_held")
/- Going_may_take: 0 self, 1 is_wanted, 2 took -/
noncomputable def b_Going_may_take : FS := sAll [
  sIf (fCmp .Eq (fBin ixA (fUn (fldA "work") (fVar 0)) (fC (.int 4))) (fC (.str "idle"))) (sAll [
    sRet (fUn notA (fVar 1))]) (sAll []),
  sRet (fOr (fCmp .Eq (fBin ixA (fUn (fldA "work") (fVar 0)) (fC (.int 4))) (fC (.str "all"))) (fUn notA (fAnd (fVar 1) (fVar 2))))]
noncomputable def f_Going_may_take : Df := ⟨3, 3, b_Going_may_take⟩
abbrev n_Going_may_take : Dn := ("Going", some "may_take")
/- Device_init: 0 self, 1 works -/
noncomputable def b_Device_init : FS := sAll [
  sAsg (gFld ["Device", "Reader"] (fVar 0) "works") (fUn listA (fVar 1)),
  sAsg (gFld ["Device", "Look"] (fVar 0) "on") (fDic0),
  sAsg (gFld ["Device"] (fVar 0) "begun") (fC (.int 0)),
  sAsg (gFld ["Device"] (fVar 0) "took") (fC (.bl false))]
noncomputable def f_Device_init : Df := ⟨2, 2, b_Device_init⟩
abbrev n_Device_init : Dn := ("Device", some "__init__")
/- Device_begin: 0 self, 1 number -/
noncomputable def b_Device_begin : FS := sAll [
  sIf (fAnd (fCmp .Lt (fVar 1) (fUn lenA (fUn (fldA "works") (fVar 0)))) (fCmp .NotIn (fVar 1) (fUn (fldA "on") (fVar 0)))) (sAll [
    sAsg (gIx (fUn (fldA "on") (fVar 0)) (fVar 1)) (fMake "Going" [fVar 1, fBin ixA (fUn (fldA "works") (fVar 0)) (fVar 1), fUn (fldA "begun") (fVar 0)]),
    sAsg (gFld ["Device"] (fVar 0) "begun") (fOp .Add (fUn (fldA "begun") (fVar 0)) (fC (.int 1)))]) (sAll [])]
noncomputable def f_Device_begin : Df := ⟨2, 2, b_Device_begin⟩
abbrev n_Device_begin : Dn := ("Device", some "begin")
/- Device_chosen: 0 self, 1 marks, 2 is_wanted, 3 number, 4 going -/
noncomputable def b_Device_chosen : FS := sAll [
  sFor (iVal (fUn sortedA (fUn (fldA "on") (fVar 0)))) (gVar 3) (sAll [
    sAsg (gVar 4) (fBin ixA (fUn (fldA "on") (fVar 0)) (fVar 3)),
    sIf (fAnd (fUn notA (fMeth "is_held" (fVar 4) [fVar 1])) (fMeth "may_take" (fVar 4) [fVar 2, fUn (fldA "took") (fVar 0)])) (sAll [
      sRet (fVar 4)]) (sAll [])]),
  sRet (fC .non)]
noncomputable def f_Device_chosen : Df := ⟨3, 5, b_Device_chosen⟩
abbrev n_Device_chosen : Dn := ("Device", some "chosen")
/- Device_beat: 0 self, 1 memory, 2 marks, 3 is_wanted, 4 going, 5 address -/
noncomputable def b_Device_beat : FS := sAll [
  sAsg (gVar 4) (fMeth "chosen" (fVar 0) [fVar 2, fVar 3]),
  sAsg (gFld ["Device"] (fVar 0) "took") (fCmp .IsNot (fVar 4) (fC .non)),
  sIf (fCmp .Is (fVar 4) (fC .non)) (sAll [
    sRet (fTup [fC .non, fC .non])]) (sAll []),
  sIf (fCmp .Eq (fUn (fldA "hand") (fVar 4)) (fTup [])) (sAll [
    sAsg (gVar 5) (fOp .Mod (fOp .Add (fBin ixA (fUn (fldA "work") (fVar 4)) (fC (.int 0))) (fUn (fldA "moved") (fVar 4))) (fUn lenA (fVar 1))),
    sAsg (gFld ["Going"] (fVar 4) "hand") (fTup [fBin ixA (fVar 1) (fVar 5)]),
    sRet (fTup [fTup [fUn (fldA "number") (fVar 4), fC (.str "get"), fVar 5, fBin ixA (fVar 1) (fVar 5)], fUn (fldA "mine") (fVar 4)])]) (sAll []),
  sAsg (gVar 5) (fOp .Mod (fOp .Add (fBin ixA (fUn (fldA "work") (fVar 4)) (fC (.int 1))) (fUn (fldA "moved") (fVar 4))) (fUn lenA (fVar 1))),
  sAsg (gIx (fVar 1) (fVar 5)) (fBin ixA (fUn (fldA "hand") (fVar 4)) (fC (.int 0))),
  sAsg (gFld ["Going"] (fVar 4) "hand") (fTup []),
  sAsg (gFld ["Going"] (fVar 4) "moved") (fOp .Add (fUn (fldA "moved") (fVar 4)) (fC (.int 1))),
  sIf (fCmp .Eq (fUn (fldA "moved") (fVar 4)) (fBin ixA (fUn (fldA "work") (fVar 4)) (fC (.int 2)))) (sAll [
    sExpr (fM1 true dpopA (fUn (fldA "on") (fVar 0)) (fUn (fldA "number") (fVar 4))),
    sIf (fCmp .IsNot (fBin ixA (fUn (fldA "work") (fVar 4)) (fC (.int 6))) (fC .non)) (sAll [
      sExpr (fMeth "begin" (fVar 0) [fBin ixA (fUn (fldA "work") (fVar 4)) (fC (.int 6))])]) (sAll [])]) (sAll []),
  sRet (fTup [fTup [fUn (fldA "number") (fVar 4), fC (.str "put"), fVar 5, fBin ixA (fVar 1) (fVar 5)], fUn (fldA "mine") (fVar 4)])]
noncomputable def f_Device_beat : Df := ⟨4, 6, b_Device_beat⟩
abbrev n_Device_beat : Dn := ("Device", some "beat")
/- Device_told: 0 self, 1 number -/
noncomputable def b_Device_told : FS := sAll [
  sRet (fLC [1] (iVal (fUn sortedA (fUn (fldA "on") (fVar 0)))) (gVar 1) none (fTup [fVar 1, fUn (fldA "moved") (fBin ixA (fUn (fldA "on") (fVar 0)) (fVar 1)), fCmp .NotEq (fUn (fldA "hand") (fBin ixA (fUn (fldA "on") (fVar 0)) (fVar 1))) (fTup [])]))]
noncomputable def f_Device_told : Df := ⟨1, 2, b_Device_told⟩
abbrev n_Device_told : Dn := ("Device", some "told")
/- is_between: 0 part, 1 low, 2 high -/
noncomputable def b_is_between : FS := sAll [
  sRet (fAnd (fUn (isinstA "int") (fVar 0)) (fAnd (fUn notA (fUn (isinstA "bool") (fVar 0))) (fChain .LtE .LtE (fVar 1) (fVar 0) (fVar 2))))]
noncomputable def f_is_between : Df := ⟨3, 3, b_is_between⟩
abbrev n_is_between : Dn := ("is_between", none)
/- is_field: 0 sort, 1 part, 2 many, 3 bounds -/
noncomputable def b_is_field : FS := sAll [
  sAsg (gVar 3) (fDic [(fC (.str "r"), fTup [fC (.int 0), fOp .Sub (fC (.int 4)) (fC (.int 1))]), (fC (.str "h"), fTup [fC (.int 0), fOp .Sub (fC (.int 4)) (fC (.int 2))]), (fC (.str "n"), fTup [fC (.int 0), fC (.int 999)]), (fC (.str "a"), fTup [fC (.int 0), fOp .Sub (fC (.int 32)) (fC (.int 1))])]),
  sExpr (fM1 true updPA (fVar 3) (fLst [fTup [fC (.str "l"), fTup [fC (.int 0), fOp .Sub (fVar 2) (fC (.int 1))]], fTup [fC (.str "w"), fTup [fC (.int 0), fOp .Sub (fC (.int 6)) (fC (.int 1))]], fTup [fC (.str "m"), fTup [fC (.int 0), fOp .Sub (fC (.int 3)) (fC (.int 1))]], fTup [fC (.str "b"), fTup [fC (.int 1), fC (.int 9)]]])),
  sRet (fCall ("is_between", none) [fVar 1, fBin ixA (fBin ixA (fVar 3) (fVar 0)) (fC (.int 0)), fBin ixA (fBin ixA (fVar 3) (fVar 0)) (fC (.int 1))])]
noncomputable def f_is_field : Df := ⟨3, 4, b_is_field⟩
abbrev n_is_field : Dn := ("is_field", none)
/- is_row: 0 row, 1 many, 2 form, 3 k -/
noncomputable def b_is_row : FS := sAll [
  sIf (fOr (fUn notA (fUn (isinstA "tuple") (fVar 0))) (fOr (fCmp .Eq (fVar 0) (fTup [])) (fOr (fUn notA (fUn (isinstA "str") (fBin ixA (fVar 0) (fC (.int 0))))) (fCmp .NotIn (fBin ixA (fVar 0) (fC (.int 0))) (fC c_FORMS))))) (sAll [
    sRet (fC (.bl false))]) (sAll []),
  sAsg (gVar 2) (fBin ixA (fC c_FORMS) (fBin ixA (fVar 0) (fC (.int 0)))),
  sIf (fCmp .NotEq (fUn lenA (fVar 0)) (fOp .Add (fUn lenA (fVar 2)) (fC (.int 1)))) (sAll [
    sRet (fC (.bl false))]) (sAll []),
  sRet (fCmp .Eq (fLC [3] (iRange1 (fUn lenA (fVar 2))) (gVar 3) (some (fUn notA (fCall ("is_field", none) [fBin ixA (fVar 2) (fVar 3), fBin ixA (fVar 0) (fOp .Add (fVar 3) (fC (.int 1))), fVar 1]))) (fVar 3)) (fLst []))]
noncomputable def f_is_row : Df := ⟨2, 4, b_is_row⟩
abbrev n_is_row : Dn := ("is_row", none)
/- need_program: 0 program, 1 at, 2 row -/
noncomputable def b_need_program : FS := sAll [
  sIf (fOr (fUn notA (fUn (isinstA "tuple") (fVar 0))) (fCmp .Eq (fVar 0) (fTup []))) (sAll [
    sNone]) (sAll []),
  sFor (iEnum (fVar 0)) (gTup [gVar 1, gVar 2]) (sAll [
    sIf (fOr (fCmp .GtE (fVar 1) (fC (.int 40))) (fUn notA (fCall ("is_row", none) [fVar 2, fUn lenA (fVar 0)]))) (sAll [
      sNone]) (sAll [])])]
noncomputable def f_need_program : Df := ⟨1, 3, b_need_program⟩
abbrev n_need_program : Dn := ("need_program", none)
/- need_straight: 0 program, 1 row -/
noncomputable def b_need_straight : FS := sAll [
  sIf (fCmp .NotEq (fLC [1] (iVal (fVar 0)) (gVar 1) (some (fCmp .In (fBin ixA (fVar 1) (fC (.int 0))) (fTup [fC (.str "go"), fC (.str "if")]))) (fVar 1)) (fLst [])) (sAll [
    sNone]) (sAll [])]
noncomputable def f_need_straight : Df := ⟨1, 2, b_need_straight⟩
abbrev n_need_straight : Dn := ("need_straight", none)
/- beats_of: 0 row -/
noncomputable def b_beats_of : FS := sAll [
  sRet (fIf (fCmp .Eq (fBin ixA (fVar 0) (fC (.int 0))) (fC (.str "rest"))) (fBin ixA (fVar 0) (fC (.int 1))) (fGet (fC c_TAKES) (fBin ixA (fVar 0) (fC (.int 0))) (fC (.int 1))))]
noncomputable def f_beats_of : Df := ⟨1, 1, b_beats_of⟩
abbrev n_beats_of : Dn := ("beats_of", none)
/- wants_bus: 0 row -/
noncomputable def b_wants_bus : FS := sAll [
  sRet (fCmp .In (fBin ixA (fVar 0) (fC (.int 0))) (fC c_TAKES))]
noncomputable def f_wants_bus : Df := ⟨1, 1, b_wants_bus⟩
abbrev n_wants_bus : Dn := ("wants_bus", none)
/- is_work: 0 work, 1 many -/
noncomputable def b_is_work : FS := sAll [
  sIf (fOr (fUn notA (fUn (isinstA "tuple") (fVar 0))) (fCmp .NotEq (fUn lenA (fVar 0)) (fC (.int 7)))) (sAll [
    sRet (fC (.bl false))]) (sAll []),
  sIf (fOr (fUn notA (fCall ("is_between", none) [fBin ixA (fVar 0) (fC (.int 0)), fC (.int 0), fOp .Sub (fC (.int 32)) (fC (.int 1))])) (fUn notA (fCall ("is_between", none) [fBin ixA (fVar 0) (fC (.int 1)), fC (.int 0), fOp .Sub (fC (.int 32)) (fC (.int 1))]))) (sAll [
    sRet (fC (.bl false))]) (sAll []),
  sIf (fOr (fUn notA (fCall ("is_between", none) [fBin ixA (fVar 0) (fC (.int 2)), fC (.int 1), fC (.int 16)])) (fUn notA (fCall ("is_between", none) [fBin ixA (fVar 0) (fC (.int 3)), fC (.int 1), fC (.int 4)]))) (sAll [
    sRet (fC (.bl false))]) (sAll []),
  sIf (fOr (fUn notA (fUn (isinstA "str") (fBin ixA (fVar 0) (fC (.int 4))))) (fCmp .NotIn (fBin ixA (fVar 0) (fC (.int 4))) (fC c_GREEDS))) (sAll [
    sRet (fC (.bl false))]) (sAll []),
  sIf (fAnd (fCmp .IsNot (fBin ixA (fVar 0) (fC (.int 5))) (fC .non)) (fUn notA (fCall ("is_between", none) [fBin ixA (fVar 0) (fC (.int 5)), fC (.int 0), fOp .Sub (fC (.int 3)) (fC (.int 1))]))) (sAll [
    sRet (fC (.bl false))]) (sAll []),
  sRet (fOr (fCmp .Is (fBin ixA (fVar 0) (fC (.int 6))) (fC .non)) (fCall ("is_between", none) [fBin ixA (fVar 0) (fC (.int 6)), fC (.int 0), fOp .Sub (fVar 1) (fC (.int 1))]))]
noncomputable def f_is_work : Df := ⟨2, 2, b_is_work⟩
abbrev n_is_work : Dn := ("is_work", none)
/- need_works: 0 works, 1 at, 2 work -/
noncomputable def b_need_works : FS := sAll [
  sFor (iEnum (fVar 0)) (gTup [gVar 1, gVar 2]) (sAll [
    sIf (fOr (fCmp .GtE (fVar 1) (fC (.int 6))) (fUn notA (fCall ("is_work", none) [fVar 2, fUn lenA (fVar 0)]))) (sAll [
      sNone]) (sAll [])])]
noncomputable def f_need_works : Df := ⟨1, 3, b_need_works⟩
abbrev n_need_works : Dn := ("need_works", none)
/- need_memory: 0 memory, 1 word -/
noncomputable def b_need_memory : FS := sAll [
  sIf (fUn notA (fChain .LtE .LtE (fC (.int 4)) (fUn lenA (fVar 0)) (fC (.int 32)))) (sAll [
    sNone]) (sAll []),
  sIf (fCmp .NotEq (fLC [1] (iVal (fVar 0)) (gVar 1) (some (fUn notA (fCall ("is_between", none) [fVar 1, fC (.int 0), fC (.int 999)]))) (fVar 1)) (fLst [])) (sAll [
    sNone]) (sAll [])]
noncomputable def f_need_memory : Df := ⟨1, 2, b_need_memory⟩
abbrev n_need_memory : Dn := ("need_memory", none)
/- need_asks: 0 asks, 1 many, 2 ahead, 3 at, 4 ask -/
noncomputable def b_need_asks : FS := sAll [
  sAsg (gVar 2) (fC (.int 0)),
  sFor (iEnum (fVar 0)) (gTup [gVar 3, gVar 4]) (sAll [
    sIf (fOr (fCmp .GtE (fVar 3) (fC (.int 8))) (fOr (fUn notA (fUn (isinstA "tuple") (fVar 4))) (fCmp .NotEq (fUn lenA (fVar 4)) (fC (.int 2))))) (sAll [
      sNone]) (sAll []),
    sIf (fOr (fUn notA (fCall ("is_between", none) [fBin ixA (fVar 4) (fC (.int 0)), fVar 2, fC (.int 200)])) (fUn notA (fCall ("is_between", none) [fBin ixA (fVar 4) (fC (.int 1)), fC (.int 0), fOp .Sub (fVar 1) (fC (.int 1))]))) (sAll [
      sNone]) (sAll []),
    sAsg (gVar 2) (fBin ixA (fVar 4) (fC (.int 0)))])]
noncomputable def f_need_asks : Df := ⟨2, 5, b_need_asks⟩
abbrev n_need_asks : Dn := ("need_asks", none)
/- need_beats: 0 beats -/
noncomputable def b_need_beats : FS := sAll [
  sIf (fUn notA (fCall ("is_between", none) [fVar 0, fC (.int 0), fC (.int 300)])) (sAll [
    sNone]) (sAll [])]
noncomputable def f_need_beats : Df := ⟨1, 1, b_need_beats⟩
abbrev n_need_beats : Dn := ("need_beats", none)
/- need_window: 0 works, 1 work, 2 low, 3 high -/
noncomputable def b_need_window : FS := sAll [
  sIf (fOr (fUn notA (fCall ("is_between", none) [fVar 1, fC (.int 0), fOp .Sub (fUn lenA (fVar 0)) (fC (.int 1))])) (fUn notA (fCall ("is_between", none) [fVar 2, fC (.int 0), fC (.int 200)]))) (sAll [
    sNone]) (sAll []),
  sIf (fUn notA (fCall ("is_between", none) [fVar 3, fVar 2, fBin min2A (fC (.int 200)) (fOp .Add (fVar 2) (fC (.int 40)))])) (sAll [
    sNone]) (sAll [])]
noncomputable def f_need_window : Df := ⟨4, 4, b_need_window⟩
abbrev n_need_window : Dn := ("need_window", none)
/- Hall_init: 0 self, 1 program, 2 works, 3 memory, 4 asks -/
noncomputable def b_Hall_init : FS := sAll [
  sExpr (fCall ("need_program", none) [fVar 1]),
  sExpr (fCall ("need_works", none) [fVar 2]),
  sExpr (fCall ("need_memory", none) [fVar 3]),
  sExpr (fCall ("need_asks", none) [fVar 4, fUn lenA (fVar 2)]),
  sAsg (gFld ["Hall"] (fVar 0) "program") (fVar 1),
  sAsg (gFld ["Hall", "Reader"] (fVar 0) "memory") (fUn listA (fVar 3)),
  sAsg (gFld ["Hall", "Reader"] (fVar 0) "asks") (fUn listA (fVar 4)),
  sAsg (gFld ["Hall"] (fVar 0) "device") (fMake "Device" [fVar 2]),
  sAsg (gFld ["Hall"] (fVar 0) "cells") (fOp .Mult (fLst [fC (.int 0)]) (fC (.int 4))),
  sAsg (gFld ["Hall"] (fVar 0) "marks") (fOp .Mult (fLst [fC (.bl false)]) (fC (.int 3))),
  sAsg (gFld ["Hall"] (fVar 0) "row") (fC (.int 0)),
  sAsg (gFld ["Hall"] (fVar 0) "step") (fC (.int 0)),
  sAsg (gFld ["Hall"] (fVar 0) "time") (fC (.int 0)),
  sAsg (gFld ["Hall"] (fVar 0) "is_over") (fC (.bl false)),
  sAsg (gFld ["Hall"] (fVar 0) "dones") (fLst [])]
noncomputable def f_Hall_init : Df := ⟨5, 5, b_Hall_init⟩
abbrev n_Hall_init : Dn := ("Hall", some "__init__")
/- Hall_is_wanted: 0 self -/
noncomputable def b_Hall_is_wanted : FS := sAll [
  sRet (fAnd (fUn notA (fUn (fldA "is_over") (fVar 0))) (fCall ("wants_bus", none) [fBin ixA (fUn (fldA "program") (fVar 0)) (fUn (fldA "row") (fVar 0))]))]
noncomputable def f_Hall_is_wanted : Df := ⟨1, 1, b_Hall_is_wanted⟩
abbrev n_Hall_is_wanted : Dn := ("Hall", some "is_wanted")
/- Hall_beat: 0 self -/
noncomputable def b_Hall_beat : FS := sAll [
  sRet (fSlice (fMeth "full_beat" (fVar 0) []) none (some (fC (.int 2))))]
noncomputable def f_Hall_beat : Df := ⟨1, 1, b_Hall_beat⟩
abbrev n_Hall_beat : Dn := ("Hall", some "beat")
/- Hall_full_beat: 0 self, 1 is_wanted, 2 told, 3 mine, 4 did -/
noncomputable def b_Hall_full_beat : FS := sAll [
  sWhile (fAnd (fCmp .NotEq (fUn (fldA "asks") (fVar 0)) (fLst [])) (fCmp .LtE (fBin ixA (fBin ixA (fUn (fldA "asks") (fVar 0)) (fC (.int 0))) (fC (.int 0))) (fUn (fldA "time") (fVar 0)))) (sAll [
    sExpr (fMeth "begin" (fUn (fldA "device") (fVar 0)) [fBin ixA (fM1 false popAtA (fUn (fldA "asks") (fVar 0)) (fC (.int 0))) (fC (.int 1))])]),
  sAsg (gVar 1) (fMeth "is_wanted" (fVar 0) []),
  sAsg (gTup [gVar 2, gVar 3]) (fMeth "beat" (fUn (fldA "device") (fVar 0)) [fUn (fldA "memory") (fVar 0), fUn (fldA "marks") (fVar 0), fVar 1]),
  sAsg (gVar 4) (fIf (fAnd (fVar 1) (fCmp .IsNot (fVar 2) (fC .non))) (fC (.str "waits")) (fMeth "machine_beat" (fVar 0) [])),
  sAsg (gFld ["Hall"] (fVar 0) "time") (fOp .Add (fUn (fldA "time") (fVar 0)) (fC (.int 1))),
  sRet (fTup [fVar 2, fVar 4, fVar 3])]
noncomputable def f_Hall_full_beat : Df := ⟨1, 5, b_Hall_full_beat⟩
abbrev n_Hall_full_beat : Dn := ("Hall", some "full_beat")
/- Hall_machine_beat: 0 self, 1 row, 2 did -/
noncomputable def b_Hall_machine_beat : FS := sAll [
  sIf (fUn (fldA "is_over") (fVar 0)) (sAll [
    sRet (fC (.str "ends"))]) (sAll []),
  sAsg (gVar 1) (fBin ixA (fUn (fldA "program") (fVar 0)) (fUn (fldA "row") (fVar 0))),
  sAsg (gVar 2) (fIf (fCall ("wants_bus", none) [fVar 1]) (fMeth "words" (fVar 0) [fVar 1]) (fC (.str "goes"))),
  sAsg (gFld ["Hall"] (fVar 0) "step") (fOp .Add (fUn (fldA "step") (fVar 0)) (fC (.int 1))),
  sIf (fCmp .Eq (fUn (fldA "step") (fVar 0)) (fCall ("beats_of", none) [fVar 1])) (sAll [
    sAsg (gFld ["Hall"] (fVar 0) "step") (fC (.int 0)),
    sExpr (fM1 false appendA (fUn (fldA "dones") (fVar 0)) (fTup [fUn (fldA "row") (fVar 0), fUn (fldA "time") (fVar 0)])),
    sAsg (gFld ["Hall"] (fVar 0) "row") (fMeth "next_row" (fVar 0) [fVar 1]),
    sAsg (gFld ["Hall"] (fVar 0) "is_over") (fCmp .Eq (fUn (fldA "row") (fVar 0)) (fUn lenA (fUn (fldA "program") (fVar 0))))]) (sAll []),
  sRet (fVar 2)]
noncomputable def f_Hall_machine_beat : Df := ⟨1, 3, b_Hall_machine_beat⟩
abbrev n_Hall_machine_beat : Dn := ("Hall", some "machine_beat")
/- Hall_words: 0 self, 1 row, 2 word, 3 place, 4 address -/
noncomputable def b_Hall_words : FS := sAll [
  sAsg (gVar 2) (fBin ixA (fVar 1) (fC (.int 0))),
  sIf (fCmp .In (fVar 2) (fTup [fC (.str "get"), fC (.str "getx"), fC (.str "pair")])) (sAll [
    sAsg (gVar 3) (fIf (fCmp .Eq (fVar 2) (fC (.str "getx"))) (fBin ixA (fUn (fldA "cells") (fVar 0)) (fBin ixA (fVar 1) (fC (.int 2)))) (fBin ixA (fVar 1) (fC (.int 2)))),
    sAsg (gVar 4) (fOp .Mod (fOp .Add (fVar 3) (fUn (fldA "step") (fVar 0))) (fUn lenA (fUn (fldA "memory") (fVar 0)))),
    sAsg (gIx (fUn (fldA "cells") (fVar 0)) (fOp .Add (fBin ixA (fVar 1) (fC (.int 1))) (fUn (fldA "step") (fVar 0)))) (fBin ixA (fUn (fldA "memory") (fVar 0)) (fVar 4)),
    sRet (fTup [fC (.str "get"), fVar 4, fBin ixA (fUn (fldA "memory") (fVar 0)) (fVar 4)])]) (sAll []),
  sAsg (gVar 3) (fIf (fCmp .Eq (fVar 2) (fC (.str "putx"))) (fBin ixA (fUn (fldA "cells") (fVar 0)) (fBin ixA (fVar 1) (fC (.int 1)))) (fBin ixA (fVar 1) (fC (.int 1)))),
  sAsg (gVar 4) (fOp .Mod (fOp .Add (fVar 3) (fUn (fldA "step") (fVar 0))) (fUn lenA (fUn (fldA "memory") (fVar 0)))),
  sAsg (gIx (fUn (fldA "memory") (fVar 0)) (fVar 4)) (fBin ixA (fUn (fldA "cells") (fVar 0)) (fOp .Add (fBin ixA (fVar 1) (fC (.int 2))) (fUn (fldA "step") (fVar 0)))),
  sRet (fTup [fC (.str "put"), fVar 4, fBin ixA (fUn (fldA "memory") (fVar 0)) (fVar 4)])]
noncomputable def f_Hall_words : Df := ⟨2, 5, b_Hall_words⟩
abbrev n_Hall_words : Dn := ("Hall", some "words")
/- Hall_next_row: 0 self, 1 row, 2 word -/
noncomputable def b_Hall_next_row : FS := sAll [
  sAsg (gVar 2) (fBin ixA (fVar 1) (fC (.int 0))),
  sIf (fCmp .Eq (fVar 2) (fC (.str "set"))) (sAll [
    sAsg (gIx (fUn (fldA "cells") (fVar 0)) (fBin ixA (fVar 1) (fC (.int 1)))) (fBin ixA (fVar 1) (fC (.int 2)))]) (sAll []),
  sIf (fCmp .Eq (fVar 2) (fC (.str "add"))) (sAll [
    sAsg (gIx (fUn (fldA "cells") (fVar 0)) (fBin ixA (fVar 1) (fC (.int 1)))) (fOp .Mod (fOp .Add (fBin ixA (fUn (fldA "cells") (fVar 0)) (fBin ixA (fVar 1) (fC (.int 1)))) (fBin ixA (fUn (fldA "cells") (fVar 0)) (fBin ixA (fVar 1) (fC (.int 2))))) (fOp .Add (fC (.int 999)) (fC (.int 1))))]) (sAll []),
  sIf (fCmp .Eq (fVar 2) (fC (.str "less"))) (sAll [
    sAsg (gIx (fUn (fldA "cells") (fVar 0)) (fBin ixA (fVar 1) (fC (.int 1)))) (fUn intA (fCmp .Lt (fBin ixA (fUn (fldA "cells") (fVar 0)) (fBin ixA (fVar 1) (fC (.int 1)))) (fBin ixA (fUn (fldA "cells") (fVar 0)) (fBin ixA (fVar 1) (fC (.int 2))))))]) (sAll []),
  sIf (fCmp .Eq (fVar 2) (fC (.str "done"))) (sAll [
    sAsg (gIx (fUn (fldA "cells") (fVar 0)) (fBin ixA (fVar 1) (fC (.int 1)))) (fUn intA (fCmp .NotIn (fBin ixA (fVar 1) (fC (.int 2))) (fUn (fldA "on") (fUn (fldA "device") (fVar 0)))))]) (sAll []),
  sIf (fCmp .Eq (fVar 2) (fC (.str "ask"))) (sAll [
    sExpr (fMeth "begin" (fUn (fldA "device") (fVar 0)) [fBin ixA (fVar 1) (fC (.int 1))])]) (sAll []),
  sIf (fCmp .In (fVar 2) (fTup [fC (.str "mark"), fC (.str "clear")])) (sAll [
    sAsg (gIx (fUn (fldA "marks") (fVar 0)) (fBin ixA (fVar 1) (fC (.int 1)))) (fCmp .Eq (fVar 2) (fC (.str "mark")))]) (sAll []),
  sIf (fOr (fCmp .Eq (fVar 2) (fC (.str "go"))) (fAnd (fCmp .Eq (fVar 2) (fC (.str "if"))) (fCmp .NotEq (fBin ixA (fUn (fldA "cells") (fVar 0)) (fBin ixA (fVar 1) (fC (.int 1)))) (fC (.int 0))))) (sAll [
    sRet (fBin ixA (fVar 1) (fUn negA (fC (.int 1))))]) (sAll []),
  sRet (fIf (fCmp .Eq (fVar 2) (fC (.str "end"))) (fUn lenA (fUn (fldA "program") (fVar 0))) (fOp .Add (fUn (fldA "row") (fVar 0)) (fC (.int 1))))]
noncomputable def f_Hall_next_row : Df := ⟨2, 3, b_Hall_next_row⟩
abbrev n_Hall_next_row : Dn := ("Hall", some "next_row")
/- Hall_shown: 0 self, 1 row -/
noncomputable def b_Hall_shown : FS := sAll [
  sAsg (gVar 1) (fIf (fUn (fldA "is_over") (fVar 0)) (fC .non) (fUn (fldA "row") (fVar 0))),
  sRet (fTup [fUn (fldA "time") (fVar 0), fVar 1, fUn listA (fUn (fldA "cells") (fVar 0)), fUn listA (fUn (fldA "memory") (fVar 0)), fUn listA (fUn (fldA "marks") (fVar 0)), fMeth "told" (fUn (fldA "device") (fVar 0)) []])]
noncomputable def f_Hall_shown : Df := ⟨1, 2, b_Hall_shown⟩
abbrev n_Hall_shown : Dn := ("Hall", some "shown")
/- run: 0 program, 1 works, 2 memory, 3 asks, 4 beats, 5 hall, 6 log, 7 beat -/
noncomputable def b_run : FS := sAll [
  sAsg (gVar 5) (fMake "Hall" [fVar 0, fVar 1, fVar 2, fVar 3]),
  sExpr (fCall ("need_beats", none) [fVar 4]),
  sAsg (gVar 6) (fLC [7] (iRange1 (fVar 4)) (gVar 7) none (fMeth "beat" (fVar 5) [])),
  sRet (fTup [fVar 6, fMeth "shown" (fVar 5) []])]
noncomputable def f_run : Df := ⟨5, 8, b_run⟩
abbrev n_run : Dn := ("run", none)
/- first_dones: 0 dones, 1 many, 2 found, 3 row, 4 beat -/
noncomputable def b_first_dones : FS := sAll [
  sAsg (gVar 2) (fOp .Mult (fLst [fC .non]) (fVar 1)),
  sFor (iVal (fVar 0)) (gTup [gVar 3, gVar 4]) (sAll [
    sIf (fCmp .Is (fBin ixA (fVar 2) (fVar 3)) (fC .non)) (sAll [
      sAsg (gIx (fVar 2) (fVar 3)) (fVar 4)]) (sAll [])]),
  sRet (fVar 2)]
noncomputable def f_first_dones : Df := ⟨2, 5, b_first_dones⟩
abbrev n_first_dones : Dn := ("first_dones", none)
/- dones_of: 0 program, 1 works, 2 asks, 3 hall -/
noncomputable def b_dones_of : FS := sAll [
  sAsg (gVar 3) (fMake "Hall" [fVar 0, fVar 1, fOp .Mult (fLst [fC (.int 0)]) (fC (.int 4)), fVar 2]),
  sWhile (fAnd (fCmp .Lt (fUn (fldA "time") (fVar 3)) (fC (.int 300))) (fUn notA (fUn (fldA "is_over") (fVar 3)))) (sAll [
    sExpr (fMeth "full_beat" (fVar 3) [])]),
  sRet (fCall ("first_dones", none) [fUn (fldA "dones") (fVar 3), fUn lenA (fVar 0)])]
noncomputable def f_dones_of : Df := ⟨3, 4, b_dones_of⟩
abbrev n_dones_of : Dn := ("dones_of", none)
/- times: 0 program, 1 works, 2 asks -/
noncomputable def b_times : FS := sAll [
  sExpr (fCall ("need_program", none) [fVar 0]),
  sExpr (fCall ("need_works", none) [fVar 1]),
  sExpr (fCall ("need_asks", none) [fVar 2, fUn lenA (fVar 1)]),
  sExpr (fCall ("need_straight", none) [fVar 0]),
  sRet (fCall ("dones_of", none) [fVar 0, fVar 1, fVar 2])]
noncomputable def f_times : Df := ⟨3, 3, b_times⟩
abbrev n_times : Dn := ("times", none)
/- spread: 0 program, 1 works, 2 work, 3 low, 4 high, 5 rows, 6 found, 7 at, 8 some, 9 sure, 10 beat, 11 row -/
noncomputable def b_spread : FS := sAll [
  sExpr (fCall ("need_program", none) [fVar 0]),
  sExpr (fCall ("need_works", none) [fVar 1]),
  sExpr (fCall ("need_window", none) [fVar 1, fVar 2, fVar 3, fVar 4]),
  sExpr (fCall ("need_straight", none) [fVar 0]),
  sAsg (gVar 5) (fLC [10] (iRange2 (fVar 3) (fOp .Add (fVar 4) (fC (.int 1)))) (gVar 10) none (fCall ("dones_of", none) [fVar 0, fVar 1, fLst [fTup [fVar 10, fVar 2]]])),
  sAsg (gVar 6) (fLst []),
  sFor (iRange1 (fUn lenA (fVar 0))) (gVar 7) (sAll [
    sAsg (gVar 8) (fLC [11] (iVal (fVar 5)) (gVar 11) none (fBin ixA (fVar 11) (fVar 7))),
    sAsg (gVar 9) (fLC [10] (iVal (fVar 8)) (gVar 10) (some (fCmp .IsNot (fVar 10) (fC .non))) (fVar 10)),
    sExpr (fM1 false appendA (fVar 6) (fTup [fIf (fCmp .NotEq (fVar 9) (fLst [])) (fUn minLA (fVar 9)) (fC .non), fIf (fCmp .In (fC .non) (fVar 8)) (fC .non) (fUn maxLA (fVar 9))]))]),
  sRet (fVar 6)]
noncomputable def f_spread : Df := ⟨5, 12, b_spread⟩
abbrev n_spread : Dn := ("spread", none)
/- overs: 0 program, 1 works, 2 asks, 3 hall, 4 laid, 5 found, 6 told, 7 did -/
noncomputable def b_overs : FS := sAll [
  sExpr (fCall ("need_program", none) [fVar 0]),
  sExpr (fCall ("need_works", none) [fVar 1]),
  sExpr (fCall ("need_asks", none) [fVar 2, fUn lenA (fVar 1)]),
  sExpr (fCall ("need_straight", none) [fVar 0]),
  sAsg (gVar 3) (fMake "Hall" [fVar 0, fVar 1, fOp .Mult (fLst [fC (.int 0)]) (fC (.int 4)), fVar 2]),
  sAsg (gVar 4) (fOp .Mult (fLst [fC (.int 0)]) (fUn lenA (fVar 1))),
  sAsg (gVar 5) (fOp .Mult (fLst [fC .non]) (fUn lenA (fVar 1))),
  sWhile (fCmp .Lt (fUn (fldA "time") (fVar 3)) (fC (.int 300))) (sAll [
    sAsg (gTup [gVar 6, gVar 7]) (fMeth "beat" (fVar 3) []),
    sIf (fAnd (fCmp .IsNot (fVar 6) (fC .non)) (fCmp .Eq (fBin ixA (fVar 6) (fC (.int 1))) (fC (.str "put")))) (sAll [
      sAsg (gIx (fVar 4) (fBin ixA (fVar 6) (fC (.int 0)))) (fOp .Add (fBin ixA (fVar 4) (fBin ixA (fVar 6) (fC (.int 0)))) (fC (.int 1))),
      sIf (fCmp .Eq (fBin ixA (fVar 4) (fBin ixA (fVar 6) (fC (.int 0)))) (fBin ixA (fBin ixA (fVar 1) (fBin ixA (fVar 6) (fC (.int 0)))) (fC (.int 2)))) (sAll [
        sAsg (gIx (fVar 5) (fBin ixA (fVar 6) (fC (.int 0)))) (fOp .Sub (fUn (fldA "time") (fVar 3)) (fC (.int 1)))]) (sAll [])]) (sAll [])]),
  sRet (fVar 5)]
noncomputable def f_overs : Df := ⟨3, 8, b_overs⟩
abbrev n_overs : Dn := ("overs", none)
/- Watch_init: 0 self, 1 hall -/
noncomputable def b_Watch_init : FS := sAll [
  sAsg (gFld ["Sight", "Watch"] (fVar 0) "hall") (fVar 1),
  sAsg (gFld ["Watch"] (fVar 0) "goings") (fDic0),
  sAsg (gFld ["Watch"] (fVar 0) "laid") (fLst []),
  sAsg (gFld ["Watch"] (fVar 0) "torn") (fLst []),
  sAsg (gFld ["Watch"] (fVar 0) "ahead") (fC (.int 0))]
noncomputable def f_Watch_init : Df := ⟨2, 2, b_Watch_init⟩
abbrev n_Watch_init : Dn := ("Watch", some "__init__")
/- Watch_beat: 0 self, 1 hall, 2 row, 3 number, 4 step, 5 told, 6 did, 7 mine -/
noncomputable def b_Watch_beat : FS := sAll [
  sAsg (gVar 1) (fUn (fldA "hall") (fVar 0)),
  sAsg (gVar 2) (fIf (fUn (fldA "is_over") (fVar 1)) (fC .non) (fBin ixA (fUn (fldA "program") (fVar 1)) (fUn (fldA "row") (fVar 1)))),
  sAsg (gTup [gVar 3, gVar 4]) (fTup [fUn (fldA "row") (fVar 1), fUn (fldA "step") (fVar 1)]),
  sAsg (gTup [gVar 5, gVar 6, gVar 7]) (fMeth "full_beat" (fVar 1) []),
  sIf (fAnd (fCmp .IsNot (fVar 5) (fC .non)) (fCmp .Eq (fBin ixA (fVar 5) (fC (.int 1))) (fC (.str "put")))) (sAll [
    sAsg (gIx (fUn (fldA "goings") (fVar 0)) (fVar 7)) (fBin ixA (fVar 5) (fC (.int 0))),
    sExpr (fM1 false appendA (fUn (fldA "laid") (fVar 0)) (fTup [fVar 7, fBin ixA (fVar 5) (fC (.int 2)), fOp .Sub (fUn (fldA "time") (fVar 1)) (fC (.int 1))]))]) (sAll []),
  sIf (fAnd (fCmp .IsNot (fVar 2) (fC .non)) (fAnd (fCmp .Eq (fBin ixA (fVar 2) (fC (.int 0))) (fC (.str "pair"))) (fUn (isinstA "tuple") (fVar 6)))) (sAll [
    sIf (fCmp .Eq (fVar 4) (fC (.int 0))) (sAll [
      sAsg (gFld ["Watch"] (fVar 0) "ahead") (fOp .Sub (fUn (fldA "time") (fVar 1)) (fC (.int 1)))]) (sAll [
      sExpr (fMeth "look" (fVar 0) [fVar 3, fVar 2])])]) (sAll [])]
noncomputable def f_Watch_beat : Df := ⟨1, 8, b_Watch_beat⟩
abbrev n_Watch_beat : Dn := ("Watch", some "beat")
/- Watch_look: 0 self, 1 number, 2 row, 3 hall, 4 size, 5 low, 6 high, 7 mine, 8 work, 9 goals, 10 ahead, 11 behind, 12 k, 13 one -/
noncomputable def b_Watch_look : FS := sAll [
  sAsg (gVar 3) (fUn (fldA "hall") (fVar 0)),
  sAsg (gVar 4) (fUn lenA (fUn (fldA "memory") (fVar 3))),
  sAsg (gTup [gVar 5, gVar 6]) (fTup [fOp .Mod (fBin ixA (fVar 2) (fC (.int 2))) (fVar 4), fOp .Mod (fOp .Add (fBin ixA (fVar 2) (fC (.int 2))) (fC (.int 1))) (fVar 4)]),
  sFor (iVal (fUn sortedA (fUn (fldA "goings") (fVar 0)))) (gVar 7) (sAll [
    sAsg (gVar 8) (fBin ixA (fUn (fldA "works") (fUn (fldA "device") (fVar 3))) (fBin ixA (fUn (fldA "goings") (fVar 0)) (fVar 7))),
    sAsg (gVar 9) (fLC [12] (iRange1 (fBin ixA (fVar 8) (fC (.int 2)))) (gVar 12) none (fOp .Mod (fOp .Add (fBin ixA (fVar 8) (fC (.int 1))) (fVar 12)) (fVar 4))),
    sIf (fAnd (fCmp .In (fVar 5) (fVar 9)) (fCmp .In (fVar 6) (fVar 9))) (sAll [
      sAsg (gVar 10) (fUn lenA (fLC [13] (iVal (fUn (fldA "laid") (fVar 0))) (gVar 13) (some (fAnd (fCmp .Eq (fSlice (fVar 13) none (some (fC (.int 2)))) (fTup [fVar 7, fVar 5])) (fCmp .Lt (fBin ixA (fVar 13) (fC (.int 2))) (fUn (fldA "ahead") (fVar 0))))) (fVar 13))),
      sAsg (gVar 11) (fUn lenA (fLC [13] (iVal (fUn (fldA "laid") (fVar 0))) (gVar 13) (some (fAnd (fCmp .Eq (fSlice (fVar 13) none (some (fC (.int 2)))) (fTup [fVar 7, fVar 6])) (fCmp .Lt (fBin ixA (fVar 13) (fC (.int 2))) (fOp .Sub (fUn (fldA "time") (fVar 3)) (fC (.int 1)))))) (fVar 13))),
      sIf (fCmp .NotEq (fVar 10) (fVar 11)) (sAll [
        sExpr (fM1 false appendA (fUn (fldA "torn") (fVar 0)) (fTup [fVar 1, fOp .Sub (fUn (fldA "time") (fVar 3)) (fC (.int 1)), fBin ixA (fUn (fldA "goings") (fVar 0)) (fVar 7)]))]) (sAll [])]) (sAll [])])]
noncomputable def f_Watch_look : Df := ⟨3, 14, b_Watch_look⟩
abbrev n_Watch_look : Dn := ("Watch", some "look")
/- torn_within: 0 program, 1 works, 2 memory, 3 asks, 4 beats, 5 watch -/
noncomputable def b_torn_within : FS := sAll [
  sAsg (gVar 5) (fMake "Watch" [fMake "Hall" [fVar 0, fVar 1, fVar 2, fVar 3]]),
  sWhile (fAnd (fCmp .Lt (fUn (fldA "time") (fUn (fldA "hall") (fVar 5))) (fVar 4)) (fUn notA (fUn (fldA "is_over") (fUn (fldA "hall") (fVar 5))))) (sAll [
    sExpr (fMeth "beat" (fVar 5) [])]),
  sRet (fUn (fldA "torn") (fVar 5))]
noncomputable def f_torn_within : Df := ⟨5, 6, b_torn_within⟩
abbrev n_torn_within : Dn := ("torn_within", none)
/- torns: 0 program, 1 works, 2 memory, 3 asks, 4 beats -/
noncomputable def b_torns : FS := sAll [
  sExpr (fMake "Hall" [fVar 0, fVar 1, fVar 2, fVar 3]),
  sExpr (fCall ("need_beats", none) [fVar 4]),
  sRet (fCall ("torn_within", none) [fVar 0, fVar 1, fVar 2, fVar 3, fVar 4])]
noncomputable def f_torns : Df := ⟨5, 5, b_torns⟩
abbrev n_torns : Dn := ("torns", none)
/- first_torn: 0 program, 1 works, 2 memory, 3 work, 4 low, 5 high, 6 beat -/
noncomputable def b_first_torn : FS := sAll [
  sExpr (fMake "Hall" [fVar 0, fVar 1, fVar 2, fLst []]),
  sExpr (fCall ("need_window", none) [fVar 1, fVar 3, fVar 4, fVar 5]),
  sFor (iRange2 (fVar 4) (fOp .Add (fVar 5) (fC (.int 1)))) (gVar 6) (sAll [
    sIf (fCmp .NotEq (fCall ("torn_within", none) [fVar 0, fVar 1, fVar 2, fLst [fTup [fVar 6, fVar 3]], fC (.int 300)]) (fLst [])) (sAll [
      sRet (fVar 6)]) (sAll [])]),
  sRet (fC .non)]
noncomputable def f_first_torn : Df := ⟨6, 7, b_first_torn⟩
abbrev n_first_torn : Dn := ("first_torn", none)
/- is_claim: 0 claim, 1 program, 2 works, 3 last, 4 good -/
noncomputable def b_is_claim : FS := sAll [
  sIf (fOr (fUn notA (fUn (isinstA "tuple") (fVar 0))) (fOr (fCmp .Eq (fVar 0) (fTup [])) (fUn notA (fUn (isinstA "str") (fBin ixA (fVar 0) (fC (.int 0))))))) (sAll [
    sRet (fC (.bl false))]) (sAll []),
  sAsg (gVar 3) (fOp .Sub (fUn lenA (fVar 1)) (fC (.int 1))),
  sIf (fCmp .Eq (fBin ixA (fVar 0) (fC (.int 0))) (fC (.str "over"))) (sAll [
    sRet (fAnd (fCmp .Eq (fUn lenA (fVar 0)) (fC (.int 3))) (fAnd (fCall ("is_between", none) [fBin ixA (fVar 0) (fC (.int 1)), fC (.int 0), fOp .Sub (fUn lenA (fVar 2)) (fC (.int 1))]) (fCall ("is_between", none) [fBin ixA (fVar 0) (fC (.int 2)), fC (.int 0), fVar 3])))]) (sAll []),
  sIf (fCmp .Eq (fBin ixA (fVar 0) (fC (.int 0))) (fC (.str "whole"))) (sAll [
    sRet (fAnd (fCmp .Eq (fUn lenA (fVar 0)) (fC (.int 2))) (fAnd (fCall ("is_between", none) [fBin ixA (fVar 0) (fC (.int 1)), fC (.int 0), fVar 3]) (fCmp .Eq (fBin ixA (fBin ixA (fVar 1) (fBin ixA (fVar 0) (fC (.int 1)))) (fC (.int 0))) (fC (.str "pair")))))]) (sAll []),
  sIf (fOr (fCmp .NotEq (fBin ixA (fVar 0) (fC (.int 0))) (fC (.str "kept"))) (fOr (fCmp .NotEq (fUn lenA (fVar 0)) (fC (.int 5))) (fUn notA (fCall ("is_between", none) [fBin ixA (fVar 0) (fC (.int 1)), fC (.int 0), fOp .Sub (fC (.int 32)) (fC (.int 1))])))) (sAll [
    sRet (fC (.bl false))]) (sAll []),
  sAsg (gVar 4) (fCall ("is_between", none) [fBin ixA (fVar 0) (fC (.int 2)), fBin ixA (fVar 0) (fC (.int 1)), fOp .Sub (fC (.int 32)) (fC (.int 1))]),
  sRet (fAnd (fVar 4) (fAnd (fCall ("is_between", none) [fBin ixA (fVar 0) (fC (.int 3)), fC (.int 0), fVar 3]) (fCall ("is_between", none) [fBin ixA (fVar 0) (fC (.int 4)), fC (.int 0), fVar 3])))]
noncomputable def f_is_claim : Df := ⟨3, 5, b_is_claim⟩
abbrev n_is_claim : Dn := ("is_claim", none)
/- Look_init: 0 self, 1 hall, 2 going, 3 address, 4 beat -/
noncomputable def b_Look_init : FS := sAll [
  sAsg (gFld ["Look"] (fVar 0) "watch") (fMake "Watch" [fVar 1]),
  sAsg (gFld ["Device", "Look"] (fVar 0) "on") (fLst []),
  sWhile (fCmp .Lt (fUn (fldA "time") (fVar 1)) (fC (.int 300))) (sAll [
    sExpr (fMeth "beat" (fUn (fldA "watch") (fVar 0)) []),
    sExpr (fM1 false appendA (fUn (fldA "on") (fVar 0)) (fUn sortedA (fUn (fldA "on") (fUn (fldA "device") (fVar 1)))))]),
  sAsg (gFld ["Look", "Sight"] (fVar 0) "puts") (fLC [2, 3, 4] (iVal (fUn (fldA "laid") (fUn (fldA "watch") (fVar 0)))) (gTup [gVar 2, gVar 3, gVar 4]) none (fTup [fVar 4, fVar 3])),
  sAsg (gFld ["Look"] (fVar 0) "firsts") (fCall ("first_dones", none) [fUn (fldA "dones") (fVar 1), fUn lenA (fUn (fldA "program") (fVar 1))])]
noncomputable def f_Look_init : Df := ⟨2, 5, b_Look_init⟩
abbrev n_Look_init : Dn := ("Look", some "__init__")
/- Look_holds: 0 self, 1 claim, 2 beat, 3 begin, 4 end, 5 some, 6 address, 7 one -/
noncomputable def b_Look_holds : FS := sAll [
  sIf (fCmp .Eq (fBin ixA (fVar 1) (fC (.int 0))) (fC (.str "whole"))) (sAll [
    sRet (fCmp .Eq (fLC [7] (iVal (fUn (fldA "torn") (fUn (fldA "watch") (fVar 0)))) (gVar 7) (some (fCmp .Eq (fBin ixA (fVar 7) (fC (.int 0))) (fBin ixA (fVar 1) (fC (.int 1))))) (fVar 7)) (fLst []))]) (sAll []),
  sIf (fCmp .Eq (fBin ixA (fVar 1) (fC (.int 0))) (fC (.str "over"))) (sAll [
    sAsg (gVar 2) (fBin ixA (fUn (fldA "firsts") (fVar 0)) (fBin ixA (fVar 1) (fC (.int 2)))),
    sRet (fOr (fCmp .Is (fVar 2) (fC .non)) (fCmp .NotIn (fBin ixA (fVar 1) (fC (.int 1))) (fBin ixA (fUn (fldA "on") (fVar 0)) (fVar 2))))]) (sAll []),
  sAsg (gTup [gVar 3, gVar 4]) (fTup [fBin ixA (fUn (fldA "firsts") (fVar 0)) (fBin ixA (fVar 1) (fC (.int 3))), fBin ixA (fUn (fldA "firsts") (fVar 0)) (fBin ixA (fVar 1) (fC (.int 4)))]),
  sIf (fCmp .Is (fVar 3) (fC .non)) (sAll [
    sRet (fC (.bl true))]) (sAll []),
  sAsg (gVar 4) (fIf (fCmp .Is (fVar 4) (fC .non)) (fC (.int 300)) (fVar 4)),
  sAsg (gVar 5) (fLC [2, 6] (iVal (fUn (fldA "puts") (fVar 0))) (gTup [gVar 2, gVar 6]) (some (fChain .Lt .LtE (fVar 3) (fVar 2) (fVar 4))) (fVar 6)),
  sRet (fCmp .Eq (fLC [6] (iVal (fVar 5)) (gVar 6) (some (fChain .LtE .LtE (fBin ixA (fVar 1) (fC (.int 1))) (fVar 6) (fBin ixA (fVar 1) (fC (.int 2))))) (fVar 6)) (fLst []))]
noncomputable def f_Look_holds : Df := ⟨2, 8, b_Look_holds⟩
abbrev n_Look_holds : Dn := ("Look", some "holds")
/- leans: 0 program, 1 works, 2 memory, 3 work, 4 low, 5 high, 6 claim, 7 beat -/
noncomputable def b_leans : FS := sAll [
  sExpr (fMake "Hall" [fVar 0, fVar 1, fVar 2, fLst []]),
  sExpr (fCall ("need_window", none) [fVar 1, fVar 3, fVar 4, fVar 5]),
  sIf (fUn notA (fCall ("is_claim", none) [fVar 6, fVar 0, fVar 1])) (sAll [
    sNone]) (sAll []),
  sFor (iRange2 (fVar 4) (fOp .Add (fVar 5) (fC (.int 1)))) (gVar 7) (sAll [
    sIf (fUn notA (fMeth "holds" (fMake "Look" [fMake "Hall" [fVar 0, fVar 1, fVar 2, fLst [fTup [fVar 7, fVar 3]]]]) [fVar 6])) (sAll [
      sRet (fVar 7)]) (sAll [])]),
  sRet (fC .non)]
noncomputable def f_leans : Df := ⟨7, 8, b_leans⟩
abbrev n_leans : Dn := ("leans", none)
/- is_whole: 0 hall, 1 row, 2 watch, 3 one -/
noncomputable def b_is_whole : FS := sAll [
  sAsg (gVar 2) (fMake "Watch" [fVar 0]),
  sWhile (fAnd (fCmp .Lt (fUn (fldA "time") (fVar 0)) (fC (.int 300))) (fUn notA (fUn (fldA "is_over") (fVar 0)))) (sAll [
    sExpr (fMeth "beat" (fVar 2) [])]),
  sRet (fCmp .Eq (fLC [3] (iVal (fUn (fldA "torn") (fVar 2))) (gVar 3) (some (fCmp .Eq (fBin ixA (fVar 3) (fC (.int 0))) (fVar 1))) (fVar 3)) (fLst []))]
noncomputable def f_is_whole : Df := ⟨2, 4, b_is_whole⟩
abbrev n_is_whole : Dn := ("is_whole", none)
/- are_whole: 0 program, 1 works, 2 memory, 3 rows, 4 ahead, 5 window, 6 work, 7 low, 8 high, 9 beat, 10 hall -/
noncomputable def b_are_whole : FS := sAll [
  sAsg (gTup [gVar 6, gVar 7, gVar 8]) (fVar 5),
  sFor (iRange2 (fVar 7) (fOp .Add (fVar 8) (fC (.int 1)))) (gVar 9) (sAll [
    sAsg (gVar 10) (fMake "Hall" [fVar 0, fVar 1, fVar 2, fLst [fTup [fVar 9, fVar 6]]]),
    sAsg (gFld ["Hall"] (fVar 10) "program") (fVar 3),
    sIf (fUn notA (fCall ("is_whole", none) [fVar 10, fVar 4])) (sAll [
      sRet (fC (.bl false))]) (sAll [])]),
  sRet (fC (.bl true))]
noncomputable def f_are_whole : Df := ⟨6, 11, b_are_whole⟩
abbrev n_are_whole : Dn := ("are_whole", none)
/- need_pair: 0 program, 1 row -/
noncomputable def b_need_pair : FS := sAll [
  sIf (fOr (fUn notA (fCall ("is_between", none) [fVar 1, fC (.int 0), fOp .Sub (fUn lenA (fVar 0)) (fC (.int 1))])) (fCmp .NotEq (fBin ixA (fBin ixA (fVar 0) (fVar 1)) (fC (.int 0))) (fC (.str "pair")))) (sAll [
    sNone]) (sAll [])]
noncomputable def f_need_pair : Df := ⟨2, 2, b_need_pair⟩
abbrev n_need_pair : Dn := ("need_pair", none)
/- rest_of: 0 many -/
noncomputable def b_rest_of : FS := sAll [
  sRet (fOp .Mult (fTup [fTup [fC (.str "rest"), fVar 0]]) (fUn intA (fCmp .Gt (fVar 0) (fC (.int 0)))))]
noncomputable def f_rest_of : Df := ⟨1, 1, b_rest_of⟩
abbrev n_rest_of : Dn := ("rest_of", none)
/- rests: 0 program, 1 works, 2 memory, 3 work, 4 low, 5 high, 6 row, 7 many, 8 rows -/
noncomputable def b_rests : FS := sAll [
  sExpr (fMake "Hall" [fVar 0, fVar 1, fVar 2, fLst []]),
  sExpr (fCall ("need_window", none) [fVar 1, fVar 3, fVar 4, fVar 5]),
  sExpr (fCall ("need_pair", none) [fVar 0, fVar 6]),
  sExpr (fCall ("need_straight", none) [fVar 0]),
  sFor (iRange1 (fOp .Add (fC (.int 40)) (fC (.int 1)))) (gVar 7) (sAll [
    sAsg (gVar 8) (fOp .Add (fOp .Add (fSlice (fVar 0) none (some (fVar 6))) (fCall ("rest_of", none) [fVar 7])) (fSlice (fVar 0) (some (fVar 6)) none)),
    sIf (fCall ("are_whole", none) [fVar 0, fVar 1, fVar 2, fVar 8, fOp .Add (fVar 6) (fUn intA (fCmp .Gt (fVar 7) (fC (.int 0)))), fTup [fVar 3, fVar 4, fVar 5]]) (sAll [
      sRet (fVar 7)]) (sAll [])]),
  sRet (fC .non)]
noncomputable def f_rests : Df := ⟨7, 9, b_rests⟩
abbrev n_rests : Dn := ("rests", none)
/- guards: 0 program, 1 works, 2 memory, 3 work, 4 low, 5 high, 6 row, 7 mark, 8 many, 9 ahead, 10 rows -/
noncomputable def b_guards : FS := sAll [
  sExpr (fMake "Hall" [fVar 0, fVar 1, fVar 2, fLst []]),
  sExpr (fCall ("need_window", none) [fVar 1, fVar 3, fVar 4, fVar 5]),
  sExpr (fCall ("need_pair", none) [fVar 0, fVar 6]),
  sIf (fUn notA (fCall ("is_between", none) [fVar 7, fC (.int 0), fOp .Sub (fC (.int 3)) (fC (.int 1))])) (sAll [
    sNone]) (sAll []),
  sExpr (fCall ("need_straight", none) [fVar 0]),
  sFor (iRange1 (fOp .Add (fC (.int 40)) (fC (.int 1)))) (gVar 8) (sAll [
    sAsg (gVar 9) (fOp .Add (fOp .Add (fSlice (fVar 0) none (some (fVar 6))) (fTup [fTup [fC (.str "mark"), fVar 7]])) (fCall ("rest_of", none) [fVar 8])),
    sAsg (gVar 10) (fOp .Add (fOp .Add (fVar 9) (fTup [fBin ixA (fVar 0) (fVar 6), fTup [fC (.str "clear"), fVar 7]])) (fSlice (fVar 0) (some (fOp .Add (fVar 6) (fC (.int 1)))) none)),
    sIf (fCall ("are_whole", none) [fVar 0, fVar 1, fVar 2, fVar 10, fUn lenA (fVar 9), fTup [fVar 3, fVar 4, fVar 5]]) (sAll [
      sRet (fVar 8)]) (sAll [])]),
  sRet (fC .non)]
noncomputable def f_guards : Df := ⟨8, 11, b_guards⟩
abbrev n_guards : Dn := ("guards", none)
/- Sight_init: 0 self, 1 hall -/
noncomputable def b_Sight_init : FS := sAll [
  sAsg (gFld ["Sight", "Watch"] (fVar 0) "hall") (fVar 1),
  sAsg (gFld ["Sight"] (fVar 0) "last") (fOp .Mult (fLst [fC .non]) (fUn lenA (fUn (fldA "memory") (fVar 1)))),
  sAsg (gFld ["Sight"] (fVar 0) "got") (fLst []),
  sAsg (gFld ["Look", "Sight"] (fVar 0) "puts") (fLst [])]
noncomputable def f_Sight_init : Df := ⟨2, 2, b_Sight_init⟩
abbrev n_Sight_init : Dn := ("Sight", some "__init__")
/- Sight_take: 0 self, 1 who, 2 access, 3 beat, 4 word, 5 address, 6 worth -/
noncomputable def b_Sight_take : FS := sAll [
  sAsg (gVar 3) (fOp .Sub (fUn (fldA "time") (fUn (fldA "hall") (fVar 0))) (fC (.int 1))),
  sAsg (gTup [gVar 4, gVar 5, gVar 6]) (fVar 2),
  sIf (fCmp .Eq (fVar 4) (fC (.str "get"))) (sAll [
    sExpr (fM1 false appendA (fUn (fldA "got") (fVar 0)) (fTup [fVar 1, fVar 3, fVar 5, fBin ixA (fUn (fldA "last") (fVar 0)) (fVar 5)]))]) (sAll [
    sAsg (gIx (fUn (fldA "last") (fVar 0)) (fVar 5)) (fTup [fVar 3, fVar 1]),
    sExpr (fM1 false appendA (fUn (fldA "puts") (fVar 0)) (fTup [fVar 3, fVar 1, fVar 5, fVar 6]))])]
noncomputable def f_Sight_take : Df := ⟨3, 7, b_Sight_take⟩
abbrev n_Sight_take : Dn := ("Sight", some "take")
/- Sight_beat: 0 self, 1 told, 2 did -/
noncomputable def b_Sight_beat : FS := sAll [
  sAsg (gTup [gVar 1, gVar 2]) (fMeth "beat" (fUn (fldA "hall") (fVar 0)) []),
  sIf (fCmp .IsNot (fVar 1) (fC .non)) (sAll [
    sExpr (fMeth "take" (fVar 0) [fBin ixA (fVar 1) (fC (.int 0)), fSlice (fVar 1) (some (fC (.int 1))) none])]) (sAll []),
  sIf (fUn (isinstA "tuple") (fVar 2)) (sAll [
    sExpr (fMeth "take" (fVar 0) [fC .non, fVar 2])]) (sAll [])]
noncomputable def f_Sight_beat : Df := ⟨1, 3, b_Sight_beat⟩
abbrev n_Sight_beat : Dn := ("Sight", some "beat")
/- sight_of: 0 program, 1 works, 2 memory, 3 asks, 4 beats, 5 sight, 6 beat -/
noncomputable def b_sight_of : FS := sAll [
  sAsg (gVar 5) (fMake "Sight" [fMake "Hall" [fVar 0, fVar 1, fVar 2, fVar 3]]),
  sExpr (fCall ("need_beats", none) [fVar 4]),
  sFor (iRange1 (fVar 4)) (gVar 6) (sAll [
    sExpr (fMeth "beat" (fVar 5) [])]),
  sRet (fVar 5)]
noncomputable def f_sight_of : Df := ⟨5, 7, b_sight_of⟩
abbrev n_sight_of : Dn := ("sight_of", none)
/- sights: 0 program, 1 works, 2 memory, 3 asks, 4 beats -/
noncomputable def b_sights : FS := sAll [
  sRet (fUn (fldA "got") (fCall ("sight_of", none) [fVar 0, fVar 1, fVar 2, fVar 3, fVar 4]))]
noncomputable def f_sights : Df := ⟨5, 5, b_sights⟩
abbrev n_sights : Dn := ("sights", none)
/- worths: 0 program, 1 works, 2 memory, 3 asks, 4 beats, 5 address, 6 sight, 7 beat, 8 who, 9 place, 10 worth -/
noncomputable def b_worths : FS := sAll [
  sAsg (gVar 6) (fCall ("sight_of", none) [fVar 0, fVar 1, fVar 2, fVar 3, fVar 4]),
  sIf (fUn notA (fCall ("is_between", none) [fVar 5, fC (.int 0), fOp .Sub (fUn lenA (fVar 2)) (fC (.int 1))])) (sAll [
    sNone]) (sAll []),
  sRet (fLC [7, 8, 9, 10] (iVal (fUn (fldA "puts") (fVar 6))) (gTup [gVar 7, gVar 8, gVar 9, gVar 10]) (some (fCmp .Eq (fVar 9) (fVar 5))) (fTup [fVar 7, fVar 8, fVar 10]))]
noncomputable def f_worths : Df := ⟨6, 11, b_worths⟩
abbrev n_worths : Dn := ("worths", none)
/- is_access: 0 thing -/
noncomputable def b_is_access : FS := sAll [
  sIf (fOr (fUn notA (fUn (isinstA "tuple") (fVar 0))) (fOr (fCmp .NotEq (fUn lenA (fVar 0)) (fC (.int 3))) (fUn notA (fUn (isinstA "str") (fBin ixA (fVar 0) (fC (.int 0))))))) (sAll [
    sRet (fC (.bl false))]) (sAll []),
  sIf (fCmp .NotIn (fBin ixA (fVar 0) (fC (.int 0))) (fTup [fC (.str "get"), fC (.str "put")])) (sAll [
    sRet (fC (.bl false))]) (sAll []),
  sRet (fAnd (fCall ("is_between", none) [fBin ixA (fVar 0) (fC (.int 1)), fC (.int 0), fOp .Sub (fC (.int 32)) (fC (.int 1))]) (fCall ("is_between", none) [fBin ixA (fVar 0) (fC (.int 2)), fC (.int 0), fC (.int 999)]))]
noncomputable def f_is_access : Df := ⟨1, 1, b_is_access⟩
abbrev n_is_access : Dn := ("is_access", none)
/- is_entry: 0 entry, 1 told, 2 did -/
noncomputable def b_is_entry : FS := sAll [
  sIf (fOr (fUn notA (fUn (isinstA "tuple") (fVar 0))) (fCmp .NotEq (fUn lenA (fVar 0)) (fC (.int 2)))) (sAll [
    sRet (fC (.bl false))]) (sAll []),
  sAsg (gTup [gVar 1, gVar 2]) (fVar 0),
  sIf (fCmp .IsNot (fVar 1) (fC .non)) (sAll [
    sIf (fOr (fUn notA (fUn (isinstA "tuple") (fVar 1))) (fOr (fCmp .NotEq (fUn lenA (fVar 1)) (fC (.int 4))) (fUn notA (fCall ("is_between", none) [fBin ixA (fVar 1) (fC (.int 0)), fC (.int 0), fOp .Sub (fC (.int 6)) (fC (.int 1))])))) (sAll [
      sRet (fC (.bl false))]) (sAll []),
    sIf (fUn notA (fCall ("is_access", none) [fSlice (fVar 1) (some (fC (.int 1))) none])) (sAll [
      sRet (fC (.bl false))]) (sAll [])]) (sAll []),
  sRet (fOr (fAnd (fUn (isinstA "str") (fVar 2)) (fCmp .In (fVar 2) (fTup [fC (.str "waits"), fC (.str "goes"), fC (.str "ends")]))) (fCall ("is_access", none) [fVar 2]))]
noncomputable def f_is_entry : Df := ⟨1, 3, b_is_entry⟩
abbrev n_is_entry : Dn := ("is_entry", none)
/- need_log: 0 log, 1 at, 2 entry -/
noncomputable def b_need_log : FS := sAll [
  sFor (iEnum (fVar 0)) (gTup [gVar 1, gVar 2]) (sAll [
    sIf (fOr (fCmp .GtE (fVar 1) (fC (.int 300))) (fUn notA (fCall ("is_entry", none) [fVar 2]))) (sAll [
      sNone]) (sAll [])])]
noncomputable def f_need_log : Df := ⟨1, 3, b_need_log⟩
abbrev n_need_log : Dn := ("need_log", none)
/- judged: 0 program, 1 works, 2 memory, 3 asks, 4 log, 5 hall, 6 at, 7 entry -/
noncomputable def b_judged : FS := sAll [
  sAsg (gVar 5) (fMake "Hall" [fVar 0, fVar 1, fVar 2, fVar 3]),
  sExpr (fCall ("need_log", none) [fVar 4]),
  sFor (iEnum (fVar 4)) (gTup [gVar 6, gVar 7]) (sAll [
    sIf (fCmp .NotEq (fMeth "beat" (fVar 5) []) (fVar 7)) (sAll [
      sRet (fVar 6)]) (sAll [])]),
  sRet (fC .non)]
noncomputable def f_judged : Df := ⟨5, 8, b_judged⟩
abbrev n_judged : Dn := ("judged", none)
/- word_of: 0 part -/
noncomputable def b_word_of : FS := sAll [
  sRet (fIf (fCmp .Is (fVar 0) (fC .non)) (fC (.str "-")) (fNone))]
noncomputable def f_word_of : Df := ⟨1, 1, b_word_of⟩
abbrev n_word_of : Dn := ("word_of", none)
/- written: 0 program, 1 works, 2 memory, 3 asks, 4 rows, 5 work, 6 row, 7 ask, 8 word, 9 part -/
noncomputable def b_written : FS := sAll [
  sExpr (fCall ("need_program", none) [fVar 0]),
  sExpr (fCall ("need_works", none) [fVar 1]),
  sExpr (fCall ("need_memory", none) [fVar 2]),
  sExpr (fCall ("need_asks", none) [fVar 3, fUn lenA (fVar 1)]),
  sAsg (gVar 4) (fLst [fOp .Add (fLst [fC (.str "words")]) (fLC [8] (iVal (fVar 2)) (gVar 8) none (fCall ("word_of", none) [fVar 8]))]),
  sExpr (fMeth "extend" (fVar 4) [fLC [5] (iVal (fVar 1)) (gVar 5) none (fOp .Add (fLst [fC (.str "work")]) (fLC [9] (iVal (fVar 5)) (gVar 9) none (fCall ("word_of", none) [fVar 9])))]),
  sExpr (fMeth "extend" (fVar 4) [fLC [6] (iVal (fVar 0)) (gVar 6) none (fLC [9] (iVal (fVar 6)) (gVar 9) none (fCall ("word_of", none) [fVar 9]))]),
  sExpr (fMeth "extend" (fVar 4) [fLC [7] (iVal (fVar 3)) (gVar 7) none (fOp .Add (fLst [fC (.str "at")]) (fLC [9] (iVal (fVar 7)) (gVar 9) none (fCall ("word_of", none) [fVar 9])))]),
  sRet (fMeth "join" (fC (.str "\n")) [fLC [6] (iVal (fVar 4)) (gVar 6) none (fMeth "join" (fC (.str " ")) [fVar 6])])]
noncomputable def f_written : Df := ⟨4, 10, b_written⟩
abbrev n_written : Dn := ("written", none)
/- number_of: 0 word, 1 sign -/
noncomputable def b_number_of : FS := sAll [
  sIf (fOr (fUn notA (fChain .LtE .LtE (fC (.int 1)) (fUn lenA (fVar 0)) (fC (.int 3)))) (fCmp .NotEq (fLC [1] (iVal (fVar 0)) (gVar 1) (some (fCmp .NotIn (fVar 1) (fC (.str "0123456789")))) (fVar 1)) (fLst []))) (sAll [
    sRet (fC .non)]) (sAll []),
  sRet (fIf (fCmp .Eq (fNone) (fVar 0)) (fUn intA (fVar 0)) (fC .non))]
noncomputable def f_number_of : Df := ⟨1, 2, b_number_of⟩
abbrev n_number_of : Dn := ("number_of", none)
/- numbers_of: 0 words, 1 found, 2 word -/
noncomputable def b_numbers_of : FS := sAll [
  sAsg (gVar 1) (fLC [2] (iVal (fVar 0)) (gVar 2) none (fCall ("number_of", none) [fVar 2])),
  sRet (fIf (fCmp .In (fC .non) (fVar 1)) (fC .non) (fVar 1))]
noncomputable def f_numbers_of : Df := ⟨1, 3, b_numbers_of⟩
abbrev n_numbers_of : Dn := ("numbers_of", none)
/- work_of: 0 words, 1 rest, 2 word, 3 k -/
noncomputable def b_work_of : FS := sAll [
  sIf (fOr (fCmp .NotEq (fUn lenA (fVar 0)) (fC (.int 7))) (fOr (fCmp .NotIn (fBin ixA (fVar 0) (fC (.int 4))) (fC c_GREEDS)) (fCmp .Is (fCall ("numbers_of", none) [fSlice (fVar 0) none (some (fC (.int 4)))]) (fC .non)))) (sAll [
    sRet (fC .non)]) (sAll []),
  sAsg (gVar 1) (fLC [2] (iVal (fSlice (fVar 0) (some (fC (.int 5))) none)) (gVar 2) none (fIf (fCmp .Eq (fVar 2) (fC (.str "-"))) (fC .non) (fCall ("number_of", none) [fVar 2]))),
  sIf (fCmp .NotEq (fLC [3] (iRange1 (fC (.int 2))) (gVar 3) (some (fAnd (fCmp .Is (fBin ixA (fVar 1) (fVar 3)) (fC .non)) (fCmp .NotEq (fBin ixA (fVar 0) (fOp .Add (fC (.int 5)) (fVar 3))) (fC (.str "-"))))) (fVar 3)) (fLst [])) (sAll [
    sRet (fC .non)]) (sAll []),
  sRet (fUn tupleA (fOp .Add (fOp .Add (fCall ("numbers_of", none) [fSlice (fVar 0) none (some (fC (.int 4)))]) (fLst [fBin ixA (fVar 0) (fC (.int 4))])) (fVar 1)))]
noncomputable def f_work_of : Df := ⟨1, 4, b_work_of⟩
abbrev n_work_of : Dn := ("work_of", none)
/- Reader_init: 0 self -/
noncomputable def b_Reader_init : FS := sAll [
  sAsg (gFld ["Hall", "Reader"] (fVar 0) "memory") (fC .non),
  sAsg (gFld ["Device", "Reader"] (fVar 0) "works") (fLst []),
  sAsg (gFld ["Reader"] (fVar 0) "rows") (fLst []),
  sAsg (gFld ["Hall", "Reader"] (fVar 0) "asks") (fLst [])]
noncomputable def f_Reader_init : Df := ⟨1, 1, b_Reader_init⟩
abbrev n_Reader_init : Dn := ("Reader", some "__init__")
/- Reader_take: 0 self, 1 words, 2 numbers, 3 work -/
noncomputable def b_Reader_take : FS := sAll [
  sAsg (gVar 2) (fCall ("numbers_of", none) [fSlice (fVar 1) (some (fC (.int 1))) none]),
  sIf (fCmp .Is (fUn (fldA "memory") (fVar 0)) (fC .non)) (sAll [
    sAsg (gFld ["Hall", "Reader"] (fVar 0) "memory") (fVar 2),
    sRet (fAnd (fCmp .Eq (fBin ixA (fVar 1) (fC (.int 0))) (fC (.str "words"))) (fCmp .IsNot (fVar 2) (fC .non)))]) (sAll []),
  sIf (fCmp .Eq (fBin ixA (fVar 1) (fC (.int 0))) (fC (.str "work"))) (sAll [
    sAsg (gVar 3) (fCall ("work_of", none) [fSlice (fVar 1) (some (fC (.int 1))) none]),
    sExpr (fM1 false appendA (fUn (fldA "works") (fVar 0)) (fVar 3)),
    sRet (fAnd (fCmp .IsNot (fVar 3) (fC .non)) (fCmp .Eq (fUn (fldA "rows") (fVar 0)) (fLst [])))]) (sAll []),
  sIf (fCmp .Eq (fBin ixA (fVar 1) (fC (.int 0))) (fC (.str "at"))) (sAll [
    sExpr (fM1 false appendA (fUn (fldA "asks") (fVar 0)) (fIf (fCmp .IsNot (fVar 2) (fC .non)) (fUn tupleA (fVar 2)) (fTup []))),
    sRet (fAnd (fCmp .IsNot (fVar 2) (fC .non)) (fAnd (fCmp .Eq (fUn lenA (fVar 2)) (fC (.int 2))) (fCmp .NotEq (fUn (fldA "rows") (fVar 0)) (fLst []))))]) (sAll []),
  sIf (fOr (fCmp .NotIn (fBin ixA (fVar 1) (fC (.int 0))) (fC c_FORMS)) (fOr (fCmp .Is (fVar 2) (fC .non)) (fOr (fCmp .NotEq (fUn lenA (fVar 2)) (fUn lenA (fBin ixA (fC c_FORMS) (fBin ixA (fVar 1) (fC (.int 0)))))) (fCmp .NotEq (fUn (fldA "asks") (fVar 0)) (fLst []))))) (sAll [
    sRet (fC (.bl false))]) (sAll []),
  sExpr (fM1 false appendA (fUn (fldA "rows") (fVar 0)) (fOp .Add (fTup [fBin ixA (fVar 1) (fC (.int 0))]) (fUn tupleA (fVar 2)))),
  sRet (fC (.bl true))]
noncomputable def f_Reader_take : Df := ⟨2, 4, b_Reader_take⟩
abbrev n_Reader_take : Dn := ("Reader", some "take")
/- read: 0 text, 1 reader, 2 lines, 3 number, 4 line, 5 program -/
noncomputable def b_read : FS := sAll [
  sAsg (gVar 1) (fMake "Reader" []),
  sAsg (gVar 2) (fMeth "split" (fVar 0) [fC (.str "\n")]),
  sFor (iEnum (fVar 2)) (gTup [gVar 3, gVar 4]) (sAll [
    sIf (fUn notA (fMeth "take" (fVar 1) [fMeth "split" (fVar 4) [fC (.str " ")]])) (sAll [
      sNone]) (sAll [])]),
  sIf (fCmp .Eq (fUn (fldA "rows") (fVar 1)) (fLst [])) (sAll [
    sNone]) (sAll []),
  sAsg (gVar 5) (fUn tupleA (fUn (fldA "rows") (fVar 1))),
  sExpr (fCall ("need_program", none) [fVar 5]),
  sExpr (fCall ("need_works", none) [fUn (fldA "works") (fVar 1)]),
  sExpr (fCall ("need_memory", none) [fUn (fldA "memory") (fVar 1)]),
  sExpr (fCall ("need_asks", none) [fUn (fldA "asks") (fVar 1), fUn lenA (fUn (fldA "works") (fVar 1))]),
  sRet (fTup [fVar 5, fUn (fldA "works") (fVar 1), fUn (fldA "memory") (fVar 1), fUn (fldA "asks") (fVar 1)])]
noncomputable def f_read : Df := ⟨1, 6, b_read⟩
abbrev n_read : Dn := ("read", none)
end SB

/-! The laws' own helpers as combinators (printed by genlaws.py). -/
namespace SB
open PySem PySem.Spec PyProof.Rows L2
/- law_dice: 0 _law_script, 1 _law_k, 2 _law_found, 3 _law_cell -/
noncomputable def b_law_dice : FS := sAll [
  sAsg (gVar 2) (fVar 1),
  sFor (iVal (fVar 0)) (gVar 3) (sAll [
    sAsg (gVar 2) (fOp .Mod (fOp .Add (fOp .Mult (fVar 2) (fC (.int 31))) (fUn absA (fVar 3))) (fC (.int 2147483647)))]),
  sRet (fLst [fVar 2, fUn listA (fVar 0), fC (.int 0)])]
noncomputable def f_law_dice : Df := ⟨2, 4, b_law_dice⟩
abbrev n_law_dice : Dn := ("_law_dice", none)
/- law_off: 0 _law_d, 1 _law_most, 2 _law_at, 3 _law_cell -/
noncomputable def b_law_off : FS := sAll [
  sAsg (gVar 2) (fOp .Mod (fBin ixA (fVar 0) (fC (.int 2))) (fBin max2A (fC (.int 1)) (fUn lenA (fBin ixA (fVar 0) (fC (.int 1)))))),
  sAsg (gVar 3) (fIf (fCmp .NotEq (fBin ixA (fVar 0) (fC (.int 1))) (fLst [])) (fBin ixA (fBin ixA (fVar 0) (fC (.int 1))) (fVar 2)) (fC (.int 0))),
  sIf (fCmp .GtE (fVar 3) (fOp .Pow (fC (.int 10)) (fC (.int 18)))) (sAll [
    sAsg (gIx (fBin ixA (fVar 0) (fC (.int 1))) (fVar 2)) (fOp .FloorDiv (fVar 3) (fVar 1)),
    sRet (fOp .Mod (fVar 3) (fVar 1))]) (sAll []),
  sAsg (gIx (fVar 0) (fC (.int 0))) (fOp .Mod (fOp .Add (fOp .Add (fOp .Mult (fBin ixA (fVar 0) (fC (.int 0))) (fC (.int 48271))) (fOp .Mult (fVar 3) (fC (.int 69621)))) (fC (.int 11))) (fC (.int 2147483647))),
  sAsg (gIx (fVar 0) (fC (.int 2))) (fOp .Add (fBin ixA (fVar 0) (fC (.int 2))) (fC (.int 1))),
  sRet (fOp .Mod (fOp .FloorDiv (fBin ixA (fVar 0) (fC (.int 0))) (fC (.int 64))) (fVar 1))]
noncomputable def f_law_off : Df := ⟨2, 4, b_law_off⟩
abbrev n_law_off : Dn := ("_law_off", none)
/- law_word: 0 _law_work, 1 _law_kinds, 2 _law_words, 3 _law_word_here -/
noncomputable def b_law_word : FS := sAll [
  sNone,
  sRet (fC .non)]
noncomputable def f_law_word : Df := ⟨1, 4, b_law_word⟩
abbrev n_law_word : Dn := ("_law_word", none)
/- law_are: 0 _law_works, 1 _law_due, 2 _law_work -/
noncomputable def b_law_are : FS := sAll [
  sRet (fCmp .Eq (fLC [2] (iVal (fVar 0)) (gVar 2) (some (fCmp .NotEq (fCall ("_law_word", none) [fVar 2]) (fVar 1))) (fVar 2)) (fLst []))]
noncomputable def f_law_are : Df := ⟨2, 3, b_law_are⟩
abbrev n_law_are : Dn := ("_law_are", none)
/- law_row: 0 _law_d, 1 _law_many, 2 _law_straight, 3 _law_words, 4 _law_word_here, 5 _law_r, 6 _law_s, 7 _law_address, 8 _law_some -/
noncomputable def b_law_row : FS := sAll [
  sAsg (gVar 3) (fLst [fC (.str "set"), fC (.str "add"), fC (.str "less"), fC (.str "get"), fC (.str "getx"), fC (.str "put"), fC (.str "putx"), fC (.str "pair"), fC (.str "pair"), fC (.str "lay"), fC (.str "ask"), fC (.str "ask"), fC (.str "done"), fC (.str "mark")]),
  sAsg (gVar 3) (fOp .Add (fVar 3) (fSlice (fLst [fC (.str "clear"), fC (.str "rest"), fC (.str "get"), fC (.str "put"), fC (.str "set"), fC (.str "if"), fC (.str "go"), fC (.str "if")]) none (some (fOp .Sub (fC (.int 8)) (fOp .Mult (fC (.int 3)) (fUn intA (fVar 2))))))),
  sAsg (gVar 4) (fIf (fCmp .Gt (fCall ("_law_off", none) [fVar 0, fC (.int 25)]) (fC (.int 0))) (fBin ixA (fVar 3) (fCall ("_law_off", none) [fVar 0, fUn lenA (fVar 3)])) (fC (.str "end"))),
  sAsg (gTup [gVar 5, gVar 6]) (fTup [fCall ("_law_off", none) [fVar 0, fC (.int 4)], fCall ("_law_off", none) [fVar 0, fC (.int 4)]]),
  sAsg (gVar 7) (fCall ("_law_off", none) [fVar 0, fBin ixA (fLst [fC (.int 8), fC (.int 32)]) (fCall ("_law_off", none) [fVar 0, fC (.int 2)])]),
  sIf (fCmp .In (fVar 4) (fTup [fC (.str "add"), fC (.str "less"), fC (.str "getx"), fC (.str "putx")])) (sAll [
    sRet (fTup [fVar 4, fVar 5, fVar 6])]) (sAll []),
  sIf (fCmp .In (fVar 4) (fTup [fC (.str "get"), fC (.str "put")])) (sAll [
    sRet (fIf (fCmp .Eq (fVar 4) (fC (.str "get"))) (fTup [fVar 4, fVar 5, fVar 7]) (fTup [fVar 4, fVar 7, fVar 5]))]) (sAll []),
  sIf (fCmp .In (fVar 4) (fTup [fC (.str "pair"), fC (.str "lay")])) (sAll [
    sRet (fIf (fCmp .Eq (fVar 4) (fC (.str "pair"))) (fTup [fVar 4, fOp .Mod (fVar 5) (fC (.int 3)), fVar 7]) (fTup [fVar 4, fVar 7, fOp .Mod (fVar 5) (fC (.int 3))]))]) (sAll []),
  sIf (fCmp .In (fVar 4) (fTup [fC (.str "go"), fC (.str "if")])) (sAll [
    sRet (fIf (fCmp .Eq (fVar 4) (fC (.str "go"))) (fTup [fVar 4, fCall ("_law_off", none) [fVar 0, fVar 1]]) (fTup [fVar 4, fVar 5, fCall ("_law_off", none) [fVar 0, fVar 1]]))]) (sAll []),
  sAsg (gVar 8) (fDic [(fC (.str "set"), fTup [fVar 5, fCall ("_law_off", none) [fVar 0, fC (.int 1000)]]), (fC (.str "ask"), fTup [fCall ("_law_off", none) [fVar 0, fC (.int 6)]]), (fC (.str "done"), fTup [fVar 5, fCall ("_law_off", none) [fVar 0, fC (.int 6)]]), (fC (.str "end"), fTup [])]),
  sExpr (fM1 true updPA (fVar 8) (fLst [fTup [fC (.str "mark"), fTup [fOp .Mod (fVar 5) (fC (.int 3))]], fTup [fC (.str "clear"), fTup [fOp .Mod (fVar 5) (fC (.int 3))]], fTup [fC (.str "rest"), fTup [fOp .Add (fC (.int 1)) (fCall ("_law_off", none) [fVar 0, fC (.int 9)])]]])),
  sRet (fOp .Add (fTup [fVar 4]) (fBin ixA (fVar 8) (fVar 4)))]
noncomputable def f_law_row : Df := ⟨3, 9, b_law_row⟩
abbrev n_law_row : Dn := ("_law_row", none)
/- law_program: 0 _law_d, 1 _law_straight, 2 _law_many, 3 _law_k -/
noncomputable def b_law_program : FS := sAll [
  sAsg (gVar 2) (fOp .Add (fC (.int 1)) (fCall ("_law_off", none) [fVar 0, fBin ixA (fLst [fC (.int 8), fC (.int 20), fC (.int 40)]) (fCall ("_law_off", none) [fVar 0, fC (.int 3)])])),
  sRet (fUn tupleA (fLC [3] (iRange1 (fVar 2)) (gVar 3) none (fCall ("_law_row", none) [fVar 0, fVar 2, fVar 1])))]
noncomputable def f_law_program : Df := ⟨2, 4, b_law_program⟩
abbrev n_law_program : Dn := ("_law_program", none)
/- law_is: 0 _law_thing, 1 _law_low, 2 _law_high -/
noncomputable def b_law_is : FS := sAll [
  sRet (fAnd (fUn (isinstA "int") (fVar 0)) (fAnd (fUn notA (fUn (isinstA "bool") (fVar 0))) (fChain .LtE .LtE (fVar 1) (fVar 0) (fVar 2))))]
noncomputable def f_law_is : Df := ⟨3, 3, b_law_is⟩
abbrev n_law_is : Dn := ("_law_is", none)
/- law_is_row: 0 _law_row_here, 1 _law_many, 2 _law_most, 3 _law_least, 4 _law_k -/
noncomputable def b_law_is_row : FS := sAll [
  sIf (fOr (fUn notA (fUn (isinstA "tuple") (fVar 0))) (fOr (fCmp .Eq (fVar 0) (fTup [])) (fUn notA (fUn (isinstA "str") (fBin ixA (fVar 0) (fC (.int 0))))))) (sAll [
    sRet (fC (.bl false))]) (sAll []),
  sAsg (gVar 2) (fDic [(fC (.str "set"), fLst [fC (.int 3), fC (.int 999)]), (fC (.str "add"), fLst [fC (.int 3), fC (.int 3)]), (fC (.str "less"), fLst [fC (.int 3), fC (.int 3)]), (fC (.str "get"), fLst [fC (.int 3), fC (.int 31)]), (fC (.str "put"), fLst [fC (.int 31), fC (.int 3)]), (fC (.str "getx"), fLst [fC (.int 3), fC (.int 3)])]),
  sExpr (fNone),
  sExpr (fNone),
  sIf (fOr (fCmp .NotIn (fBin ixA (fVar 0) (fC (.int 0))) (fVar 2)) (fCmp .NotEq (fUn lenA (fVar 0)) (fOp .Add (fC (.int 1)) (fUn lenA (fBin ixA (fVar 2) (fBin ixA (fVar 0) (fC (.int 0)))))))) (sAll [
    sRet (fC (.bl false))]) (sAll []),
  sAsg (gVar 3) (fUn intA (fCmp .Eq (fBin ixA (fVar 0) (fC (.int 0))) (fC (.str "rest")))),
  sRet (fCmp .Eq (fLC [4] (iRange2 (fC (.int 1)) (fUn lenA (fVar 0))) (gVar 4) (some (fUn notA (fCall ("_law_is", none) [fBin ixA (fVar 0) (fVar 4), fVar 3, fBin ixA (fBin ixA (fVar 2) (fBin ixA (fVar 0) (fC (.int 0)))) (fOp .Sub (fVar 4) (fC (.int 1)))]))) (fVar 4)) (fLst []))]
noncomputable def f_law_is_row : Df := ⟨2, 5, b_law_is_row⟩
abbrev n_law_is_row : Dn := ("_law_is_row", none)
/- law_first_row: 0 _law_program_here, 1 _law_some, 2 _law_k -/
noncomputable def b_law_first_row : FS := sAll [
  sIf (fOr (fUn notA (fUn (isinstA "tuple") (fVar 0))) (fCmp .Eq (fVar 0) (fTup []))) (sAll [
    sRet (fC (.int 0))]) (sAll []),
  sAsg (gVar 1) (fLC [2] (iRange1 (fUn lenA (fVar 0))) (gVar 2) (some (fOr (fCmp .Gt (fVar 2) (fC (.int 39))) (fUn notA (fCall ("_law_is_row", none) [fBin ixA (fVar 0) (fVar 2), fUn lenA (fVar 0)])))) (fVar 2)),
  sRet (fIf (fCmp .NotEq (fVar 1) (fLst [])) (fBin ixA (fVar 1) (fC (.int 0))) (fC .non))]
noncomputable def f_law_first_row : Df := ⟨1, 3, b_law_first_row⟩
abbrev n_law_first_row : Dn := ("_law_first_row", none)
/- law_odd: 0 _law_d, 1 _law_old, 2 _law_way, 3 _law_far -/
noncomputable def b_law_odd : FS := sAll [
  sAsg (gVar 2) (fCall ("_law_off", none) [fVar 0, fC (.int 6)]),
  sAsg (gVar 3) (fBin ixA (fLst [fC (.int 0), fCall ("_law_off", none) [fVar 0, fOp .Pow (fC (.int 10)) (fC (.int 6))]]) (fCall ("_law_off", none) [fVar 0, fC (.int 2)])),
  sIf (fCmp .Eq (fVar 2) (fC (.int 0))) (sAll [
    sRet (fBin ixA (fLst [fC (.bl true), fC .non, fC (.str "0"), fTup [], fC (.str "all")]) (fCall ("_law_off", none) [fVar 0, fC (.int 5)]))]) (sAll []),
  sIf (fAnd (fUn (isinstA "int") (fVar 1)) (fUn notA (fUn (isinstA "bool") (fVar 1)))) (sAll [
    sRet (fBin ixA (fLst [fOp .Add (fVar 1) (fC (.int 1)), fOp .Sub (fVar 1) (fC (.int 1)), fOp .Sub (fUn negA (fC (.int 1))) (fVar 3), fOp .Add (fC (.int 32)) (fVar 3), fOp .Add (fC (.int 1000)) (fVar 3)]) (fOp .Sub (fVar 2) (fC (.int 1))))]) (sAll []),
  sIf (fUn (isinstA "str") (fVar 1)) (sAll [
    sRet (fBin ixA (fLst [fOp .Add (fVar 1) (fC (.str "x")), fSlice (fVar 1) none (some (fUn negA (fC (.int 1)))), fC (.str ""), fC (.str "pair"), fC (.str "end")]) (fOp .Sub (fVar 2) (fC (.int 1))))]) (sAll []),
  sRet (fBin ixA (fLst [fVar 1, fC (.int 0), fVar 3, fTup [], fC (.str "turn")]) (fOp .Sub (fVar 2) (fC (.int 1))))]
noncomputable def f_law_odd : Df := ⟨2, 4, b_law_odd⟩
abbrev n_law_odd : Dn := ("_law_odd", none)
/- law_bent_row: 0 _law_d, 1 _law_row_here, 2 _law_way, 3 _law_at -/
noncomputable def b_law_bent_row : FS := sAll [
  sAsg (gTup [gVar 2, gVar 3]) (fTup [fCall ("_law_off", none) [fVar 0, fC (.int 5)], fCall ("_law_off", none) [fVar 0, fUn lenA (fVar 1)]]),
  sIf (fCmp .Eq (fVar 2) (fC (.int 0))) (sAll [
    sRet (fOp .Add (fSlice (fVar 1) none (some (fVar 3))) (fSlice (fVar 1) (some (fOp .Add (fVar 3) (fC (.int 1)))) none))]) (sAll []),
  sIf (fCmp .Eq (fVar 2) (fC (.int 1))) (sAll [
    sRet (fOp .Add (fOp .Add (fSlice (fVar 1) none (some (fVar 3))) (fSlice (fVar 1) (some (fVar 3)) (some (fOp .Add (fVar 3) (fC (.int 1)))))) (fSlice (fVar 1) (some (fVar 3)) none))]) (sAll []),
  sRet (fOp .Add (fOp .Add (fSlice (fVar 1) none (some (fVar 3))) (fTup [fCall ("_law_odd", none) [fVar 0, fBin ixA (fVar 1) (fVar 3)]])) (fSlice (fVar 1) (some (fOp .Add (fVar 3) (fC (.int 1)))) none))]
noncomputable def f_law_bent_row : Df := ⟨2, 4, b_law_bent_row⟩
abbrev n_law_bent_row : Dn := ("_law_bent_row", none)
/- law_doors: 0 _law_program_here, 1 _law_works, 2 _law_memory, 3 _law_asks, 4 _law_found -/
noncomputable def b_law_doors : FS := sAll [
  sAsg (gVar 4) (fLst [fNone, fNone]),
  sAsg (gVar 4) (fOp .Add (fVar 4) (fLst [fNone])),
  sAsg (gVar 4) (fOp .Add (fVar 4) (fLst [fNone])),
  sAsg (gVar 4) (fOp .Add (fVar 4) (fLst [fNone])),
  sAsg (gVar 4) (fOp .Add (fVar 4) (fLst [fNone])),
  sRet (fOp .Add (fVar 4) (fLst [fNone]))]
noncomputable def f_law_doors : Df := ⟨4, 5, b_law_doors⟩
abbrev n_law_doors : Dn := ("_law_doors", none)
/- law_windows: 0 _law_program_here, 1 _law_works, 2 _law_memory, 3 _law_found -/
noncomputable def b_law_windows : FS := sAll [
  sAsg (gVar 3) (fLst [fNone]),
  sAsg (gVar 3) (fOp .Add (fVar 3) (fLst [fNone])),
  sAsg (gVar 3) (fOp .Add (fVar 3) (fLst [fNone])),
  sRet (fOp .Add (fVar 3) (fLst [fNone]))]
noncomputable def f_law_windows : Df := ⟨3, 4, b_law_windows⟩
abbrev n_law_windows : Dn := ("_law_windows", none)
/- law_words: 0 _law_d, 1 _law_k -/
noncomputable def b_law_words : FS := sAll [
  sRet (fLC [1] (iRange1 (fOp .Add (fC (.int 4)) (fCall ("_law_off", none) [fVar 0, fBin ixA (fLst [fC (.int 5), fC (.int 29)]) (fCall ("_law_off", none) [fVar 0, fC (.int 2)])]))) (gVar 1) none (fCall ("_law_off", none) [fVar 0, fC (.int 1000)]))]
noncomputable def f_law_words : Df := ⟨1, 2, b_law_words⟩
abbrev n_law_words : Dn := ("_law_words", none)
/- law_work: 0 _law_d, 1 _law_many, 2 _law_mark, 3 _law_follow, 4 _law_has_mark, 5 _law_has_next, 6 _law_size, 7 _law_greed, 8 _law_begin, 9 _law_goal, 10 _law_k -/
noncomputable def b_law_work : FS := sAll [
  sAsg (gTup [gVar 2, gVar 3]) (fTup [fCall ("_law_off", none) [fVar 0, fC (.int 3)], fCall ("_law_off", none) [fVar 0, fVar 1]]),
  sAsg (gTup [gVar 4, gVar 5]) (fTup [fCmp .Eq (fCall ("_law_off", none) [fVar 0, fC (.int 2)]) (fC (.int 0)), fCmp .Eq (fCall ("_law_off", none) [fVar 0, fC (.int 3)]) (fC (.int 0))]),
  sAsg (gVar 6) (fOp .Add (fC (.int 1)) (fCall ("_law_off", none) [fVar 0, fBin ixA (fLst [fC (.int 4), fC (.int 16)]) (fCall ("_law_off", none) [fVar 0, fC (.int 2)])])),
  sAsg (gVar 7) (fBin ixA (fLst [fC (.str "all"), fC (.str "turn"), fC (.str "idle"), fC (.str "turn")]) (fCall ("_law_off", none) [fVar 0, fC (.int 4)])),
  sAsg (gTup [gVar 8, gVar 9]) (fLC [10] (iRange1 (fC (.int 2))) (gVar 10) none (fCall ("_law_off", none) [fVar 0, fBin ixA (fLst [fC (.int 8), fC (.int 32)]) (fCall ("_law_off", none) [fVar 0, fC (.int 2)])])),
  sRet (fTup [fVar 8, fVar 9, fVar 6, fOp .Add (fC (.int 1)) (fCall ("_law_off", none) [fVar 0, fC (.int 4)]), fVar 7, fIf (fVar 4) (fVar 2) (fC .non), fIf (fVar 5) (fVar 3) (fC .non)])]
noncomputable def f_law_work : Df := ⟨2, 11, b_law_work⟩
abbrev n_law_work : Dn := ("_law_work", none)
/- law_works: 0 _law_d, 1 _law_most, 2 _law_many, 3 _law_k -/
noncomputable def b_law_works : FS := sAll [
  sAsg (gVar 2) (fCall ("_law_off", none) [fVar 0, fOp .Add (fVar 1) (fC (.int 1))]),
  sRet (fLC [3] (iRange1 (fVar 2)) (gVar 3) none (fCall ("_law_work", none) [fVar 0, fVar 2]))]
noncomputable def f_law_works : Df := ⟨2, 4, b_law_works⟩
abbrev n_law_works : Dn := ("_law_works", none)
/- law_asked: 0 _law_d, 1 _law_many, 2 _law_beats, 3 _law_beat, 4 _law_k -/
noncomputable def b_law_asked : FS := sAll [
  sAsg (gVar 2) (fUn sortedA (fLC [4] (iRange1 (fOp .Mult (fCall ("_law_off", none) [fVar 0, fC (.int 9)]) (fUn intA (fCmp .Gt (fVar 1) (fC (.int 0)))))) (gVar 4) none (fCall ("_law_off", none) [fVar 0, fBin ixA (fLst [fC (.int 20), fC (.int 201)]) (fCall ("_law_off", none) [fVar 0, fC (.int 2)])]))),
  sRet (fLC [3] (iVal (fVar 2)) (gVar 3) none (fTup [fVar 3, fCall ("_law_off", none) [fVar 0, fVar 1]]))]
noncomputable def f_law_asked : Df := ⟨2, 5, b_law_asked⟩
abbrev n_law_asked : Dn := ("_law_asked", none)
/- law_first_work: 0 _law_works_here, 1 _law_many, 2 _law_k, 3 _law_work_here, 4 _law_good -/
noncomputable def b_law_first_work : FS := sAll [
  sAsg (gVar 1) (fUn lenA (fVar 0)),
  sFor (iRange1 (fVar 1)) (gVar 2) (sAll [
    sAsg (gVar 3) (fBin ixA (fVar 0) (fVar 2)),
    sIf (fOr (fCmp .Gt (fVar 2) (fC (.int 5))) (fOr (fUn notA (fUn (isinstA "tuple") (fVar 3))) (fCmp .NotEq (fUn lenA (fVar 3)) (fC (.int 7))))) (sAll [
      sRet (fVar 2)]) (sAll []),
    sAsg (gVar 4) (fLst [fCall ("_law_is", none) [fBin ixA (fVar 3) (fC (.int 0)), fC (.int 0), fC (.int 31)], fCall ("_law_is", none) [fBin ixA (fVar 3) (fC (.int 1)), fC (.int 0), fC (.int 31)], fCall ("_law_is", none) [fBin ixA (fVar 3) (fC (.int 2)), fC (.int 1), fC (.int 16)], fCall ("_law_is", none) [fBin ixA (fVar 3) (fC (.int 3)), fC (.int 1), fC (.int 4)]]),
    sExpr (fM1 false appendA (fVar 4) (fAnd (fUn (isinstA "str") (fBin ixA (fVar 3) (fC (.int 4)))) (fCmp .In (fBin ixA (fVar 3) (fC (.int 4))) (fTup [fC (.str "all"), fC (.str "turn"), fC (.str "idle")])))),
    sAsg (gVar 4) (fOp .Add (fVar 4) (fLst [fOr (fCmp .Is (fBin ixA (fVar 3) (fC (.int 5))) (fC .non)) (fCall ("_law_is", none) [fBin ixA (fVar 3) (fC (.int 5)), fC (.int 0), fC (.int 2)]), fOr (fCmp .Is (fBin ixA (fVar 3) (fC (.int 6))) (fC .non)) (fCall ("_law_is", none) [fBin ixA (fVar 3) (fC (.int 6)), fC (.int 0), fOp .Sub (fVar 1) (fC (.int 1))])])),
    sIf (fCmp .In (fC (.bl false)) (fVar 4)) (sAll [
      sRet (fVar 2)]) (sAll [])]),
  sRet (fC .non)]
noncomputable def f_law_first_work : Df := ⟨1, 5, b_law_first_work⟩
abbrev n_law_first_work : Dn := ("_law_first_work", none)
/- law_bad_asks: 0 _law_d, 1 _law_asks, 2 _law_many, 3 _law_at, 4 _law_ahead, 5 _law_far, 6 _law_some, 7 _law_odd_here -/
noncomputable def b_law_bad_asks : FS := sAll [
  sAsg (gVar 3) (fCall ("_law_off", none) [fVar 0, fOp .Add (fUn lenA (fVar 1)) (fC (.int 1))]),
  sAsg (gVar 4) (fIf (fCmp .Gt (fVar 3) (fC (.int 0))) (fBin ixA (fBin ixA (fVar 1) (fOp .Sub (fVar 3) (fC (.int 1)))) (fC (.int 0))) (fC (.int 0))),
  sAsg (gVar 5) (fBin ixA (fLst [fC (.int 0), fCall ("_law_off", none) [fVar 0, fOp .Pow (fC (.int 10)) (fC (.int 6))]]) (fCall ("_law_off", none) [fVar 0, fC (.int 2)])),
  sAsg (gVar 6) (fLst [fTup [], fTup [fC (.int 1)], fTup [fOp .Add (fC (.int 201)) (fVar 5), fC (.int 0)], fTup [fOp .Sub (fVar 4) (fC (.int 1)), fC (.int 0)], fTup [fVar 4, fOp .Add (fVar 2) (fVar 5)], fTup [fVar 4, fUn negA (fC (.int 1))], fTup [fC (.bl true), fC (.int 0)], fTup [fVar 4, fC .non], fC (.int 5)]),
  sAsg (gVar 7) (fBin ixA (fOp .Add (fVar 6) (fLst [fTup [fVar 4, fC (.int 0), fC (.int 0)]])) (fCall ("_law_off", none) [fVar 0, fC (.int 10)])),
  sRet (fTup [fOp .Add (fOp .Add (fSlice (fVar 1) none (some (fVar 3))) (fLst [fVar 7])) (fSlice (fVar 1) (some (fVar 3)) none), fVar 3])]
noncomputable def f_law_bad_asks : Df := ⟨3, 8, b_law_bad_asks⟩
abbrev n_law_bad_asks : Dn := ("_law_bad_asks", none)
/- law_bad_claim: 0 _law_d, 1 _law_program_here, 2 _law_works, 3 _law_far, 4 _law_last, 5 _law_many, 6 _law_some, 7 _law_rows, 8 _law_k -/
noncomputable def b_law_bad_claim : FS := sAll [
  sAsg (gVar 3) (fBin ixA (fLst [fC (.int 0), fCall ("_law_off", none) [fVar 0, fOp .Pow (fC (.int 10)) (fC (.int 6))]]) (fCall ("_law_off", none) [fVar 0, fC (.int 2)])),
  sAsg (gTup [gVar 4, gVar 5]) (fTup [fUn lenA (fVar 1), fUn lenA (fVar 2)]),
  sAsg (gVar 6) (fLst [fTup [fC (.str "over"), fOp .Add (fVar 5) (fVar 3), fC (.int 0)], fTup [fC (.str "over"), fC (.int 0), fOp .Add (fVar 4) (fVar 3)], fTup [fC (.str "over"), fUn negA (fC (.int 1)), fC (.int 0)], fTup [fC (.str "over"), fC (.int 0)], fTup [fC (.str "whole"), fOp .Add (fVar 4) (fVar 3)]]),
  sAsg (gVar 6) (fOp .Add (fVar 6) (fLst [fTup [fC (.str "whole"), fOp .Sub (fUn negA (fC (.int 1))) (fVar 3)], fTup [fC (.str "kept"), fC (.int 5), fC (.int 4), fC (.int 0), fC (.int 0)], fTup [fC (.str "kept"), fC (.int 0), fOp .Add (fC (.int 32)) (fVar 3), fC (.int 0), fC (.int 0)], fTup [fC (.str "kept"), fC (.int 0), fC (.int 0), fVar 4, fC (.int 0)]])),
  sAsg (gVar 6) (fOp .Add (fVar 6) (fLst [fTup [fC (.str "kept"), fC (.int 0), fC (.int 0), fC (.int 0), fOp .Add (fVar 4) (fVar 3)], fTup [fC (.str "kept"), fC (.bl true), fC (.int 1), fC (.int 0), fC (.int 0)], fTup [fC (.str "Over"), fC (.int 0), fC (.int 0)], fTup [fC (.str "over"), fC (.int 0), fC (.int 0), fC (.int 0)]])),
  sAsg (gVar 6) (fOp .Add (fVar 6) (fLst [fTup [fC (.str "kept"), fC (.int 0), fC (.int 0)], fTup [], fC (.int 5), fC .non])),
  sAsg (gVar 7) (fLC [8] (iRange1 (fVar 4)) (gVar 8) (some (fCmp .NotEq (fBin ixA (fBin ixA (fVar 1) (fVar 8)) (fC (.int 0))) (fC (.str "pair")))) (fVar 8)),
  sRet (fIf (fAnd (fCmp .NotEq (fVar 7) (fLst [])) (fCmp .Eq (fCall ("_law_off", none) [fVar 0, fC (.int 4)]) (fC (.int 0)))) (fTup [fC (.str "whole"), fBin ixA (fVar 7) (fC (.int 0))]) (fBin ixA (fVar 6) (fCall ("_law_off", none) [fVar 0, fUn lenA (fVar 6)])))]
noncomputable def f_law_bad_claim : Df := ⟨3, 9, b_law_bad_claim⟩
abbrev n_law_bad_claim : Dn := ("_law_bad_claim", none)
/- law_counts_right: 0 _law_d, 1 _law_program_here, 2 _law_works, 3 _law_memory, 4 _law_far, 5 _law_beats, 6 _law_doors, 7 _law_low, 8 _law_windows, 9 _law_work_here, 10 _law_one, 11 _law_other -/
noncomputable def b_law_counts_right : FS := sAll [
  sAsg (gVar 4) (fBin ixA (fLst [fC (.int 0), fCall ("_law_off", none) [fVar 0, fOp .Pow (fC (.int 10)) (fC (.int 6))]]) (fCall ("_law_off", none) [fVar 0, fC (.int 2)])),
  sAsg (gVar 5) (fBin ixA (fLst [fOp .Add (fC (.int 301)) (fVar 4), fOp .Sub (fUn negA (fC (.int 1))) (fVar 4), fC (.bl true), fC .non]) (fCall ("_law_off", none) [fVar 0, fC (.int 4)])),
  sAsg (gVar 6) (fLst [fNone, fNone]),
  sAsg (gVar 6) (fOp .Add (fVar 6) (fLst [fNone])),
  sIf (fUn notA (fCall ("_law_are", none) [fOp .Add (fVar 6) (fLst [fNone]), fTup [fC (.str "beats"), fC (.int 0)]])) (sAll [
    sRet (fC (.bl false))]) (sAll []),
  sAsg (gVar 7) (fCall ("_law_off", none) [fVar 0, fC (.int 160)]),
  sAsg (gVar 8) (fLst [fTup [fOp .Add (fUn lenA (fVar 2)) (fVar 4), fC (.int 0), fC (.int 0)], fTup [fUn negA (fC (.int 1)), fC (.int 0), fC (.int 0)], fTup [fC (.int 0), fOp .Sub (fUn negA (fC (.int 1))) (fVar 4), fC (.int 3)], fTup [fC (.int 0), fVar 7, fOp .Sub (fVar 7) (fC (.int 1))], fTup [fC (.int 0), fVar 7, fOp .Add (fOp .Add (fVar 7) (fC (.int 41))) (fVar 4)]]),
  sAsg (gTup [gVar 9, gVar 10, gVar 11]) (fBin ixA (fOp .Add (fVar 8) (fLst [fTup [fC (.int 0), fC (.int 190), fC (.int 201)], fTup [fC (.bl true), fC (.int 0), fC (.int 0)], fTup [fC (.int 0), fC (.int 201), fC (.int 201)]])) (fCall ("_law_off", none) [fVar 0, fC (.int 8)])),
  sAsg (gVar 6) (fLst [fNone]),
  sAsg (gVar 6) (fOp .Add (fVar 6) (fLst [fNone])),
  sAsg (gVar 6) (fOp .Add (fVar 6) (fLst [fNone])),
  sAsg (gVar 6) (fOp .Add (fVar 6) (fLst [fNone])),
  sRet (fCall ("_law_are", none) [fOp .Add (fVar 6) (fLst [fNone]), fTup [fC (.str "window"), fC (.int 0)]])]
noncomputable def f_law_counts_right : Df := ⟨4, 12, b_law_counts_right⟩
abbrev n_law_counts_right : Dn := ("_law_counts_right", none)
/- law_rows_right: 0 _law_d, 1 _law_program_here, 2 _law_works, 3 _law_memory, 4 _law_far, 5 _law_low, 6 _law_claim, 7 _law_pairs, 8 _law_row_here, 9 _law_doors, 10 _law_others, 11 _law_at, 12 _law_mark, 13 _law_place, 14 _law_k -/
noncomputable def b_law_rows_right : FS := sAll [
  sAsg (gTup [gVar 4, gVar 5]) (fTup [fBin ixA (fLst [fC (.int 0), fCall ("_law_off", none) [fVar 0, fOp .Pow (fC (.int 10)) (fC (.int 6))]]) (fCall ("_law_off", none) [fVar 0, fC (.int 2)]), fCall ("_law_off", none) [fVar 0, fC (.int 160)]]),
  sAsg (gVar 6) (fCall ("_law_bad_claim", none) [fVar 0, fVar 1, fVar 2]),
  sIf (fUn notA (fCall ("_law_are", none) [fLst [fNone], fTup [fC (.str "claim"), fC (.int 0)]])) (sAll [
    sRet (fC (.bl false))]) (sAll []),
  sAsg (gVar 7) (fLC [14] (iRange1 (fUn lenA (fVar 1))) (gVar 14) (some (fCmp .Eq (fBin ixA (fBin ixA (fVar 1) (fVar 14)) (fC (.int 0))) (fC (.str "pair")))) (fVar 14)),
  sAsg (gVar 8) (fBin ixA (fLst [fOp .Add (fUn lenA (fVar 1)) (fVar 4), fOp .Sub (fUn negA (fC (.int 1))) (fVar 4)]) (fCall ("_law_off", none) [fVar 0, fC (.int 2)])),
  sAsg (gVar 9) (fLst [fNone]),
  sExpr (fM1 false appendA (fVar 9) (fNone)),
  sAsg (gVar 10) (fLC [14] (iRange1 (fUn lenA (fVar 1))) (gVar 14) (some (fCmp .NotEq (fBin ixA (fBin ixA (fVar 1) (fVar 14)) (fC (.int 0))) (fC (.str "pair")))) (fVar 14)),
  sIf (fCmp .NotEq (fVar 10) (fLst [])) (sAll [
    sAsg (gVar 11) (fBin ixA (fVar 10) (fCall ("_law_off", none) [fVar 0, fUn lenA (fVar 10)])),
    sExpr (fM1 false appendA (fVar 9) (fNone)),
    sExpr (fM1 false appendA (fVar 9) (fNone))]) (sAll []),
  sAsg (gVar 12) (fBin ixA (fLst [fOp .Add (fC (.int 3)) (fVar 4), fOp .Sub (fUn negA (fC (.int 1))) (fVar 4)]) (fCall ("_law_off", none) [fVar 0, fC (.int 2)])),
  sIf (fCmp .NotEq (fVar 7) (fLst [])) (sAll [
    sExpr (fM1 false appendA (fVar 9) (fNone))]) (sAll []),
  sAsg (gVar 13) (fBin ixA (fLst [fOp .Add (fUn lenA (fVar 3)) (fVar 4), fOp .Sub (fUn negA (fC (.int 1))) (fVar 4)]) (fCall ("_law_off", none) [fVar 0, fC (.int 2)])),
  sRet (fCall ("_law_are", none) [fOp .Add (fVar 9) (fLst [fNone]), fTup [fC (.str "row"), fC (.int 0)]])]
noncomputable def f_law_rows_right : Df := ⟨4, 15, b_law_rows_right⟩
abbrev n_law_rows_right : Dn := ("_law_rows_right", none)
/- law_straight_right: 0 _law_d, 1 _law_program_here, 2 _law_works, 3 _law_memory, 4 _law_low, 5 _law_pairs, 6 _law_doors, 7 _law_k, 8 _law_one -/
noncomputable def b_law_straight_right : FS := sAll [
  sIf (fCmp .Eq (fLC [8] (iVal (fVar 1)) (gVar 8) (some (fCmp .In (fBin ixA (fVar 8) (fC (.int 0))) (fTup [fC (.str "go"), fC (.str "if")]))) (fVar 8)) (fLst [])) (sAll [
    sRet (fC (.bl true))]) (sAll []),
  sAsg (gVar 4) (fCall ("_law_off", none) [fVar 0, fC (.int 160)]),
  sAsg (gVar 5) (fLC [7] (iRange1 (fUn lenA (fVar 1))) (gVar 7) (some (fCmp .Eq (fBin ixA (fBin ixA (fVar 1) (fVar 7)) (fC (.int 0))) (fC (.str "pair")))) (fVar 7)),
  sAsg (gVar 6) (fLst [fNone, fNone]),
  sExpr (fM1 false appendA (fVar 6) (fNone)),
  sIf (fCmp .NotEq (fVar 5) (fLst [])) (sAll [
    sExpr (fM1 false appendA (fVar 6) (fNone)),
    sExpr (fM1 false appendA (fVar 6) (fNone))]) (sAll []),
  sRet (fCall ("_law_are", none) [fVar 6, fTup [fC (.str "crooked"), fC (.int 0)]])]
noncomputable def f_law_straight_right : Df := ⟨4, 9, b_law_straight_right⟩
abbrev n_law_straight_right : Dn := ("_law_straight_right", none)
/- law_alike: 0 _law_found, 1 _law_due, 2 _law_k -/
noncomputable def b_law_alike : FS := sAll [
  sIf (fCmp .Is (fVar 1) (fC .non)) (sAll [
    sRet (fCmp .Is (fVar 0) (fC .non))]) (sAll []),
  sIf (fUn (isinstA "bool") (fVar 1)) (sAll [
    sRet (fAnd (fUn (isinstA "bool") (fVar 0)) (fCmp .Eq (fVar 0) (fVar 1)))]) (sAll []),
  sIf (fUn (isinstA "int") (fVar 1)) (sAll [
    sRet (fAnd (fUn (isinstA "int") (fVar 0)) (fAnd (fUn notA (fUn (isinstA "bool") (fVar 0))) (fCmp .Eq (fVar 0) (fVar 1))))]) (sAll []),
  sIf (fUn (isinstA "str") (fVar 1)) (sAll [
    sRet (fAnd (fUn (isinstA "str") (fVar 0)) (fCmp .Eq (fVar 0) (fVar 1)))]) (sAll []),
  sIf (fOr (fCmp .NotEq (fUn (isinstA "tuple") (fVar 1)) (fUn (isinstA "tuple") (fVar 0))) (fCmp .NotEq (fUn (isinstA "list") (fVar 1)) (fUn (isinstA "list") (fVar 0)))) (sAll [
    sRet (fC (.bl false))]) (sAll []),
  sIf (fCmp .NotEq (fUn lenA (fVar 0)) (fUn lenA (fVar 1))) (sAll [
    sRet (fC (.bl false))]) (sAll []),
  sRet (fUn allA (fLC [2] (iRange1 (fUn lenA (fVar 1))) (gVar 2) none (fCall ("_law_alike", none) [fBin ixA (fVar 0) (fVar 2), fBin ixA (fVar 1) (fVar 2)])))]
noncomputable def f_law_alike : Df := ⟨2, 3, b_law_alike⟩
abbrev n_law_alike : Dn := ("_law_alike", none)
/- law_hall: 0 _law_program_here, 1 _law_works, 2 _law_memory, 3 _law_asks, 4 _law_s -/
noncomputable def b_law_hall : FS := sAll [
  sAsg (gVar 4) (fDic [(fC (.str "program"), fVar 0), (fC (.str "works"), fVar 1), (fC (.str "memory"), fUn listA (fVar 2)), (fC (.str "asks"), fUn listA (fVar 3)), (fC (.str "cells"), fLst [fC (.int 0), fC (.int 0), fC (.int 0), fC (.int 0)])]),
  sExpr (fNone),
  sExpr (fNone),
  sRet (fVar 4)]
noncomputable def f_law_hall : Df := ⟨4, 5, b_law_hall⟩
abbrev n_law_hall : Dn := ("_law_hall", none)
/- law_long: 0 _law_program_here, 1 _law_row_here -/
noncomputable def b_law_long : FS := sAll [
  sIf (fCmp .GtE (fVar 1) (fUn lenA (fVar 0))) (sAll [
    sRet (fC (.int 0))]) (sAll []),
  sIf (fCmp .Eq (fBin ixA (fBin ixA (fVar 0) (fVar 1)) (fC (.int 0))) (fC (.str "rest"))) (sAll [
    sRet (fBin ixA (fBin ixA (fVar 0) (fVar 1)) (fC (.int 1)))]) (sAll []),
  sRet (fIf (fCmp .In (fBin ixA (fBin ixA (fVar 0) (fVar 1)) (fC (.int 0))) (fTup [fC (.str "pair"), fC (.str "lay")])) (fC (.int 2)) (fC (.int 1)))]
noncomputable def f_law_long : Df := ⟨2, 2, b_law_long⟩
abbrev n_law_long : Dn := ("_law_long", none)
/- law_is_for_word: 0 _law_s, 1 _law_some -/
noncomputable def b_law_is_for_word : FS := sAll [
  sAsg (gVar 1) (fTup [fC (.str "get"), fC (.str "getx"), fC (.str "put"), fC (.str "putx"), fC (.str "pair"), fC (.str "lay")]),
  sRet (fAnd (fCmp .Lt (fBin ixA (fVar 0) (fC (.str "row"))) (fUn lenA (fBin ixA (fVar 0) (fC (.str "program"))))) (fCmp .In (fBin ixA (fBin ixA (fBin ixA (fVar 0) (fC (.str "program"))) (fBin ixA (fVar 0) (fC (.str "row")))) (fC (.int 0))) (fVar 1)))]
noncomputable def f_law_is_for_word : Df := ⟨1, 2, b_law_is_for_word⟩
abbrev n_law_is_for_word : Dn := ("_law_is_for_word", none)
/- law_start: 0 _law_s, 1 _law_number, 2 _law_one -/
noncomputable def b_law_start : FS := sAll [
  sIf (fAnd (fCmp .Lt (fVar 1) (fUn lenA (fBin ixA (fVar 0) (fC (.str "works"))))) (fCmp .Eq (fLC [2] (iVal (fBin ixA (fVar 0) (fC (.str "on")))) (gVar 2) (some (fCmp .Eq (fBin ixA (fVar 2) (fC (.str "work"))) (fVar 1))) (fVar 2)) (fLst []))) (sAll [
    sExpr (fM1 false appendA (fBin ixA (fVar 0) (fC (.str "on"))) (fDic [(fC (.str "work"), fVar 1), (fC (.str "moved"), fC (.int 0)), (fC (.str "hand"), fC .non), (fC (.str "ever"), fBin ixA (fVar 0) (fC (.str "ever")))])),
    sAsg (gIx (fVar 0) (fC (.str "on"))) (fNone),
    sAsg (gIx (fVar 0) (fC (.str "ever"))) (fOp .Add (fBin ixA (fVar 0) (fC (.str "ever"))) (fC (.int 1)))]) (sAll [])]
noncomputable def f_law_start : Df := ⟨2, 3, b_law_start⟩
abbrev n_law_start : Dn := ("_law_start", none)
/- law_free: 0 _law_s, 1 _law_one, 2 _law_begin, 3 _law_goal, 4 _law_many, 5 _law_block, 6 _law_greed, 7 _law_mark, 8 _law_follow -/
noncomputable def b_law_free : FS := sAll [
  sAsg (gTup [gVar 2, gVar 3, gVar 4, gVar 5, gVar 6, gVar 7, gVar 8]) (fBin ixA (fBin ixA (fVar 0) (fC (.str "works"))) (fBin ixA (fVar 1) (fC (.str "work")))),
  sIf (fAnd (fCmp .Is (fBin ixA (fVar 1) (fC (.str "hand"))) (fC .non)) (fAnd (fCmp .Eq (fOp .Mod (fBin ixA (fVar 1) (fC (.str "moved"))) (fVar 5)) (fC (.int 0))) (fAnd (fCmp .IsNot (fVar 7) (fC .non)) (fBin ixA (fBin ixA (fVar 0) (fC (.str "marks"))) (fVar 7))))) (sAll [
    sRet (fC (.bl false))]) (sAll []),
  sIf (fOr (fCmp .Eq (fVar 6) (fC (.str "all"))) (fUn notA (fCall ("_law_is_for_word", none) [fVar 0]))) (sAll [
    sRet (fC (.bl true))]) (sAll []),
  sRet (fAnd (fCmp .Eq (fVar 6) (fC (.str "turn"))) (fUn notA (fBin ixA (fVar 0) (fC (.str "took")))))]
noncomputable def f_law_free : Df := ⟨2, 9, b_law_free⟩
abbrev n_law_free : Dn := ("_law_free", none)
/- law_device: 0 _law_s, 1 _law_some, 2 _law_one, 3 _law_begin, 4 _law_goal, 5 _law_many, 6 _law_block, 7 _law_greed, 8 _law_mark, 9 _law_follow, 10 _law_place, 11 _law_told, 12 _law_other -/
noncomputable def b_law_device : FS := sAll [
  sAsg (gVar 1) (fLC [2] (iVal (fBin ixA (fVar 0) (fC (.str "on")))) (gVar 2) (some (fCall ("_law_free", none) [fVar 0, fVar 2])) (fVar 2)),
  sAsg (gIx (fVar 0) (fC (.str "took"))) (fCmp .NotEq (fVar 1) (fLst [])),
  sIf (fCmp .Eq (fVar 1) (fLst [])) (sAll [
    sRet (fC .non)]) (sAll []),
  sAsg (gVar 2) (fBin ixA (fVar 1) (fC (.int 0))),
  sAsg (gTup [gVar 3, gVar 4, gVar 5, gVar 6, gVar 7, gVar 8, gVar 9]) (fBin ixA (fBin ixA (fVar 0) (fC (.str "works"))) (fBin ixA (fVar 2) (fC (.str "work")))),
  sIf (fCmp .Is (fBin ixA (fVar 2) (fC (.str "hand"))) (fC .non)) (sAll [
    sAsg (gVar 10) (fOp .Mod (fOp .Add (fVar 3) (fBin ixA (fVar 2) (fC (.str "moved")))) (fUn lenA (fBin ixA (fVar 0) (fC (.str "memory"))))),
    sAsg (gIx (fVar 2) (fC (.str "hand"))) (fBin ixA (fBin ixA (fVar 0) (fC (.str "memory"))) (fVar 10)),
    sRet (fTup [fBin ixA (fVar 2) (fC (.str "work")), fC (.str "get"), fVar 10, fBin ixA (fVar 2) (fC (.str "hand"))])]) (sAll []),
  sAsg (gVar 10) (fOp .Mod (fOp .Add (fVar 4) (fBin ixA (fVar 2) (fC (.str "moved")))) (fUn lenA (fBin ixA (fVar 0) (fC (.str "memory"))))),
  sAsg (gVar 11) (fTup [fBin ixA (fVar 2) (fC (.str "work")), fC (.str "put"), fVar 10, fBin ixA (fVar 2) (fC (.str "hand"))]),
  sAsg (gIx (fBin ixA (fVar 0) (fC (.str "memory"))) (fVar 10)) (fBin ixA (fVar 2) (fC (.str "hand"))),
  sExpr (fM1 false appendA (fBin ixA (fVar 0) (fC (.str "laid"))) (fTup [fBin ixA (fVar 2) (fC (.str "ever")), fVar 10, fBin ixA (fVar 0) (fC (.str "time")), fBin ixA (fVar 2) (fC (.str "work"))])),
  sAsg (gTup [gIx (fVar 2) (fC (.str "hand")), gIx (fVar 2) (fC (.str "moved"))]) (fTup [fC .non, fOp .Add (fBin ixA (fVar 2) (fC (.str "moved"))) (fC (.int 1))]),
  sIf (fCmp .Eq (fBin ixA (fVar 2) (fC (.str "moved"))) (fVar 5)) (sAll [
    sAsg (gIx (fVar 0) (fC (.str "on"))) (fLC [12] (iVal (fBin ixA (fVar 0) (fC (.str "on")))) (gVar 12) (some (fCmp .NotEq (fBin ixA (fVar 12) (fC (.str "work"))) (fBin ixA (fVar 2) (fC (.str "work"))))) (fVar 12)),
    sIf (fCmp .IsNot (fVar 9) (fC .non)) (sAll [
      sExpr (fCall ("_law_start", none) [fVar 0, fVar 9])]) (sAll [])]) (sAll []),
  sRet (fVar 11)]
noncomputable def f_law_device : Df := ⟨1, 13, b_law_device⟩
abbrev n_law_device : Dn := ("_law_device", none)
/- law_touch: 0 _law_s, 1 _law_row_here, 2 _law_word, 3 _law_part, 4 _law_size, 5 _law_place -/
noncomputable def b_law_touch : FS := sAll [
  sAsg (gTup [gVar 2, gVar 3]) (fTup [fBin ixA (fVar 1) (fC (.int 0)), fOp .Sub (fCall ("_law_long", none) [fBin ixA (fVar 0) (fC (.str "program")), fBin ixA (fVar 0) (fC (.str "row"))]) (fBin ixA (fVar 0) (fC (.str "left")))]),
  sAsg (gVar 4) (fUn lenA (fBin ixA (fVar 0) (fC (.str "memory")))),
  sIf (fCmp .In (fVar 2) (fTup [fC (.str "get"), fC (.str "getx"), fC (.str "pair")])) (sAll [
    sAsg (gVar 5) (fOp .Mod (fIf (fCmp .Eq (fVar 2) (fC (.str "getx"))) (fBin ixA (fBin ixA (fVar 0) (fC (.str "cells"))) (fBin ixA (fVar 1) (fC (.int 2)))) (fOp .Add (fBin ixA (fVar 1) (fC (.int 2))) (fVar 3))) (fVar 4)),
    sAsg (gIx (fBin ixA (fVar 0) (fC (.str "cells"))) (fOp .Add (fBin ixA (fVar 1) (fC (.int 1))) (fVar 3))) (fBin ixA (fBin ixA (fVar 0) (fC (.str "memory"))) (fVar 5)),
    sIf (fAnd (fCmp .Eq (fVar 2) (fC (.str "pair"))) (fCmp .Eq (fVar 3) (fC (.int 1)))) (sAll [
      sExpr (fM1 false appendA (fBin ixA (fVar 0) (fC (.str "pairs"))) (fTup [fBin ixA (fVar 0) (fC (.str "row")), fOp .Mod (fBin ixA (fVar 1) (fC (.int 2))) (fVar 4), fBin ixA (fVar 0) (fC (.str "half")), fVar 5, fBin ixA (fVar 0) (fC (.str "time"))]))]) (sAll []),
    sAsg (gIx (fVar 0) (fC (.str "half"))) (fBin ixA (fVar 0) (fC (.str "time"))),
    sRet (fTup [fC (.str "get"), fVar 5, fBin ixA (fBin ixA (fVar 0) (fC (.str "memory"))) (fVar 5)])]) (sAll []),
  sAsg (gVar 5) (fOp .Mod (fIf (fCmp .Eq (fVar 2) (fC (.str "putx"))) (fBin ixA (fBin ixA (fVar 0) (fC (.str "cells"))) (fBin ixA (fVar 1) (fC (.int 1)))) (fOp .Add (fBin ixA (fVar 1) (fC (.int 1))) (fVar 3))) (fVar 4)),
  sAsg (gIx (fBin ixA (fVar 0) (fC (.str "memory"))) (fVar 5)) (fBin ixA (fBin ixA (fVar 0) (fC (.str "cells"))) (fOp .Add (fBin ixA (fVar 1) (fC (.int 2))) (fVar 3))),
  sRet (fTup [fC (.str "put"), fVar 5, fBin ixA (fBin ixA (fVar 0) (fC (.str "memory"))) (fVar 5)])]
noncomputable def f_law_touch : Df := ⟨2, 6, b_law_touch⟩
abbrev n_law_touch : Dn := ("_law_touch", none)
/- law_effect: 0 _law_s, 1 _law_row_here, 2 _law_word, 3 _law_cells, 4 _law_one -/
noncomputable def b_law_effect : FS := sAll [
  sAsg (gTup [gVar 2, gVar 3]) (fTup [fBin ixA (fVar 1) (fC (.int 0)), fBin ixA (fVar 0) (fC (.str "cells"))]),
  sIf (fCmp .Eq (fVar 2) (fC (.str "add"))) (sAll [
    sAsg (gIx (fVar 3) (fBin ixA (fVar 1) (fC (.int 1)))) (fOp .Mod (fOp .Add (fBin ixA (fVar 3) (fBin ixA (fVar 1) (fC (.int 1)))) (fBin ixA (fVar 3) (fBin ixA (fVar 1) (fC (.int 2))))) (fC (.int 1000)))]) (sAll [
    sIf (fCmp .Eq (fVar 2) (fC (.str "less"))) (sAll [
      sAsg (gIx (fVar 3) (fBin ixA (fVar 1) (fC (.int 1)))) (fIf (fCmp .Lt (fBin ixA (fVar 3) (fBin ixA (fVar 1) (fC (.int 1)))) (fBin ixA (fVar 3) (fBin ixA (fVar 1) (fC (.int 2))))) (fC (.int 1)) (fC (.int 0)))]) (sAll [
      sIf (fCmp .Eq (fVar 2) (fC (.str "set"))) (sAll [
        sAsg (gIx (fVar 3) (fBin ixA (fVar 1) (fC (.int 1)))) (fBin ixA (fVar 1) (fC (.int 2)))]) (sAll [
        sIf (fCmp .Eq (fVar 2) (fC (.str "done"))) (sAll [
          sAsg (gIx (fVar 3) (fBin ixA (fVar 1) (fC (.int 1)))) (fIf (fCmp .Eq (fLC [4] (iVal (fBin ixA (fVar 0) (fC (.str "on")))) (gVar 4) (some (fCmp .Eq (fBin ixA (fVar 4) (fC (.str "work"))) (fBin ixA (fVar 1) (fC (.int 2))))) (fVar 4)) (fLst [])) (fC (.int 1)) (fC (.int 0)))]) (sAll [
          sIf (fCmp .Eq (fVar 2) (fC (.str "ask"))) (sAll [
            sExpr (fCall ("_law_start", none) [fVar 0, fBin ixA (fVar 1) (fC (.int 1))])]) (sAll [
            sIf (fCmp .In (fVar 2) (fTup [fC (.str "mark"), fC (.str "clear")])) (sAll [
              sAsg (gIx (fBin ixA (fVar 0) (fC (.str "marks"))) (fBin ixA (fVar 1) (fC (.int 1)))) (fCmp .Eq (fVar 2) (fC (.str "mark")))]) (sAll [])])])])])]),
  sIf (fCmp .Eq (fVar 2) (fC (.str "end"))) (sAll [
    sRet (fUn lenA (fBin ixA (fVar 0) (fC (.str "program"))))]) (sAll []),
  sIf (fOr (fCmp .Eq (fVar 2) (fC (.str "go"))) (fAnd (fCmp .Eq (fVar 2) (fC (.str "if"))) (fCmp .Gt (fBin ixA (fVar 3) (fBin ixA (fVar 1) (fC (.int 1)))) (fC (.int 0))))) (sAll [
    sRet (fBin ixA (fVar 1) (fUn negA (fC (.int 1))))]) (sAll []),
  sRet (fOp .Add (fBin ixA (fVar 0) (fC (.str "row"))) (fC (.int 1)))]
noncomputable def f_law_effect : Df := ⟨2, 5, b_law_effect⟩
abbrev n_law_effect : Dn := ("_law_effect", none)
/- law_tick: 0 _law_s, 1 _law_beat, 2 _law_number, 3 _law_wanted, 4 _law_told, 5 _law_did, 6 _law_row_here -/
noncomputable def b_law_tick : FS := sAll [
  sFor (iVal (fBin ixA (fVar 0) (fC (.str "asks")))) (gTup [gVar 1, gVar 2]) (sAll [
    sIf (fCmp .Eq (fVar 1) (fBin ixA (fVar 0) (fC (.str "time")))) (sAll [
      sExpr (fCall ("_law_start", none) [fVar 0, fVar 2])]) (sAll [])]),
  sAsg (gVar 3) (fCall ("_law_is_for_word", none) [fVar 0]),
  sAsg (gVar 4) (fCall ("_law_device", none) [fVar 0]),
  sAsg (gVar 5) (fC (.str "ends")),
  sIf (fAnd (fVar 3) (fCmp .IsNot (fVar 4) (fC .non))) (sAll [
    sAsg (gVar 5) (fC (.str "waits"))]) (sAll [
    sIf (fCmp .Lt (fBin ixA (fVar 0) (fC (.str "row"))) (fUn lenA (fBin ixA (fVar 0) (fC (.str "program"))))) (sAll [
      sAsg (gVar 6) (fBin ixA (fBin ixA (fVar 0) (fC (.str "program"))) (fBin ixA (fVar 0) (fC (.str "row")))),
      sAsg (gVar 5) (fIf (fVar 3) (fCall ("_law_touch", none) [fVar 0, fVar 6]) (fC (.str "goes"))),
      sAsg (gIx (fVar 0) (fC (.str "left"))) (fOp .Sub (fBin ixA (fVar 0) (fC (.str "left"))) (fC (.int 1))),
      sIf (fCmp .Eq (fBin ixA (fVar 0) (fC (.str "left"))) (fC (.int 0))) (sAll [
        sIf (fCmp .Is (fBin ixA (fBin ixA (fVar 0) (fC (.str "firsts"))) (fBin ixA (fVar 0) (fC (.str "row")))) (fC .non)) (sAll [
          sAsg (gIx (fBin ixA (fVar 0) (fC (.str "firsts"))) (fBin ixA (fVar 0) (fC (.str "row")))) (fBin ixA (fVar 0) (fC (.str "time")))]) (sAll []),
        sAsg (gIx (fVar 0) (fC (.str "row"))) (fCall ("_law_effect", none) [fVar 0, fVar 6]),
        sAsg (gIx (fVar 0) (fC (.str "left"))) (fCall ("_law_long", none) [fBin ixA (fVar 0) (fC (.str "program")), fBin ixA (fVar 0) (fC (.str "row"))])]) (sAll [])]) (sAll [])]),
  sAsg (gIx (fVar 0) (fC (.str "time"))) (fOp .Add (fBin ixA (fVar 0) (fC (.str "time"))) (fC (.int 1))),
  sRet (fTup [fVar 4, fVar 5])]
noncomputable def f_law_tick : Df := ⟨1, 7, b_law_tick⟩
abbrev n_law_tick : Dn := ("_law_tick", none)
/- law_seen: 0 _law_s, 1 _law_on, 2 _law_row_here, 3 _law_one -/
noncomputable def b_law_seen : FS := sAll [
  sAsg (gVar 1) (fLC [3] (iVal (fBin ixA (fVar 0) (fC (.str "on")))) (gVar 3) none (fTup [fBin ixA (fVar 3) (fC (.str "work")), fBin ixA (fVar 3) (fC (.str "moved")), fCmp .IsNot (fBin ixA (fVar 3) (fC (.str "hand"))) (fC .non)])),
  sAsg (gVar 2) (fIf (fCmp .Lt (fBin ixA (fVar 0) (fC (.str "row"))) (fUn lenA (fBin ixA (fVar 0) (fC (.str "program"))))) (fBin ixA (fVar 0) (fC (.str "row"))) (fC .non)),
  sRet (fTup [fBin ixA (fVar 0) (fC (.str "time")), fVar 2, fUn listA (fBin ixA (fVar 0) (fC (.str "cells"))), fUn listA (fBin ixA (fVar 0) (fC (.str "memory"))), fUn listA (fBin ixA (fVar 0) (fC (.str "marks"))), fVar 1])]
noncomputable def f_law_seen : Df := ⟨1, 4, b_law_seen⟩
abbrev n_law_seen : Dn := ("_law_seen", none)
/- law_ran: 0 _law_program_here, 1 _law_works, 2 _law_memory, 3 _law_asks, 4 _law_beats, 5 _law_s, 6 _law_beat -/
noncomputable def b_law_ran : FS := sAll [
  sAsg (gVar 5) (fCall ("_law_hall", none) [fVar 0, fVar 1, fVar 2, fVar 3]),
  sRet (fTup [fLC [6] (iRange1 (fVar 4)) (gVar 6) none (fCall ("_law_tick", none) [fVar 5]), fVar 5])]
noncomputable def f_law_ran : Df := ⟨5, 7, b_law_ran⟩
abbrev n_law_ran : Dn := ("_law_ran", none)
/- law_waits: 0 _law_log, 1 _law_beat -/
noncomputable def b_law_waits : FS := sAll [
  sRet (fLC [1] (iRange1 (fUn lenA (fVar 0))) (gVar 1) (some (fCmp .Eq (fBin ixA (fBin ixA (fVar 0) (fVar 1)) (fC (.int 1))) (fC (.str "waits")))) (fVar 1))]
noncomputable def f_law_waits : Df := ⟨1, 2, b_law_waits⟩
abbrev n_law_waits : Dn := ("_law_waits", none)
/- law_kinds: 0 _law_log, 1 _law_told, 2 _law_did -/
noncomputable def b_law_kinds : FS := sAll [
  sRet (fLC [1, 2] (iVal (fVar 0)) (gTup [gVar 1, gVar 2]) none (fIf (fUn (isinstA "str") (fVar 2)) (fVar 2) (fSlice (fVar 2) none (some (fC (.int 2))))))]
noncomputable def f_law_kinds : Df := ⟨1, 3, b_law_kinds⟩
abbrev n_law_kinds : Dn := ("_law_kinds", none)
/- law_goes: 0 _law_s, 1 _law_works_here, 2 _law_marks, 3 _law_told, 4 _law_size, 5 _law_number, 6 _law_word, 7 _law_address, 8 _law_worth, 9 _law_begin, 10 _law_goal, 11 _law_many, 12 _law_block, 13 _law_greed, 14 _law_mark, 15 _law_follow, 16 _law_laid, 17 _law_hand -/
noncomputable def b_law_goes : FS := sAll [
  sAsg (gTup [gVar 5, gVar 6, gVar 7, gVar 8]) (fVar 3),
  sAsg (gTup [gVar 9, gVar 10, gVar 11, gVar 12, gVar 13, gVar 14, gVar 15]) (fBin ixA (fVar 1) (fVar 5)),
  sAsg (gTup [gVar 16, gVar 17]) (fBin ixA (fVar 0) (fVar 5)),
  sIf (fCmp .Is (fVar 17) (fC .non)) (sAll [
    sIf (fAnd (fCmp .IsNot (fVar 14) (fC .non)) (fAnd (fBin ixA (fVar 2) (fVar 14)) (fCmp .Eq (fOp .Mod (fVar 16) (fVar 12)) (fC (.int 0))))) (sAll [
      sRet (fC (.bl false))]) (sAll []),
    sAsg (gIx (fVar 0) (fVar 5)) (fTup [fVar 16, fVar 8]),
    sRet (fAnd (fCmp .Eq (fVar 6) (fC (.str "get"))) (fCmp .Eq (fVar 7) (fOp .Mod (fOp .Add (fVar 9) (fVar 16)) (fVar 4))))]) (sAll []),
  sAsg (gIx (fVar 0) (fVar 5)) (fTup [fOp .Mod (fOp .Add (fVar 16) (fC (.int 1))) (fVar 11), fC .non]),
  sRet (fAnd (fCmp .Eq (fVar 6) (fC (.str "put"))) (fAnd (fCmp .Eq (fVar 7) (fOp .Mod (fOp .Add (fVar 10) (fVar 16)) (fVar 4))) (fCmp .Eq (fVar 8) (fVar 17))))]
noncomputable def f_law_goes : Df := ⟨5, 18, b_law_goes⟩
abbrev n_law_goes : Dn := ("_law_goes", none)
/- law_torn: 0 _law_s, 1 _law_works, 2 _law_found, 3 _law_size, 4 _law_row_here, 5 _law_low, 6 _law_first, 7 _law_high, 8 _law_second, 9 _law_ever, 10 _law_mine, 11 _law_work_here, 12 _law_goals, 13 _law_ahead, 14 _law_behind, 15 _law_one, 16 _law_k -/
noncomputable def b_law_torn : FS := sAll [
  sAsg (gVar 2) (fLst []),
  sAsg (gVar 3) (fUn lenA (fBin ixA (fVar 0) (fC (.str "memory")))),
  sFor (iVal (fBin ixA (fVar 0) (fC (.str "pairs")))) (gTup [gVar 4, gVar 5, gVar 6, gVar 7, gVar 8]) (sAll [
    sFor (iRange1 (fBin ixA (fVar 0) (fC (.str "ever")))) (gVar 9) (sAll [
      sAsg (gVar 10) (fLC [15] (iVal (fBin ixA (fVar 0) (fC (.str "laid")))) (gVar 15) (some (fCmp .Eq (fBin ixA (fVar 15) (fC (.int 0))) (fVar 9))) (fVar 15)),
      sIf (fCmp .NotEq (fVar 10) (fLst [])) (sAll [
        sAsg (gVar 11) (fBin ixA (fVar 1) (fBin ixA (fBin ixA (fVar 10) (fC (.int 0))) (fC (.int 3)))),
        sAsg (gVar 12) (fLC [16] (iRange1 (fBin ixA (fVar 11) (fC (.int 2)))) (gVar 16) none (fOp .Mod (fOp .Add (fBin ixA (fVar 11) (fC (.int 1))) (fVar 16)) (fVar 3))),
        sAsg (gVar 13) (fLC [15] (iVal (fVar 10)) (gVar 15) (some (fAnd (fCmp .Eq (fBin ixA (fVar 15) (fC (.int 1))) (fVar 5)) (fCmp .Lt (fBin ixA (fVar 15) (fC (.int 2))) (fVar 6)))) (fVar 15)),
        sAsg (gVar 14) (fLC [15] (iVal (fVar 10)) (gVar 15) (some (fAnd (fCmp .Eq (fBin ixA (fVar 15) (fC (.int 1))) (fVar 7)) (fCmp .Lt (fBin ixA (fVar 15) (fC (.int 2))) (fVar 8)))) (fVar 15)),
        sIf (fAnd (fCmp .In (fVar 5) (fVar 12)) (fAnd (fCmp .In (fVar 7) (fVar 12)) (fCmp .NotEq (fUn lenA (fVar 13)) (fUn lenA (fVar 14))))) (sAll [
          sExpr (fM1 false appendA (fVar 2) (fTup [fVar 4, fVar 8, fBin ixA (fBin ixA (fVar 10) (fC (.int 0))) (fC (.int 3))]))]) (sAll [])]) (sAll [])])]),
  sRet (fVar 2)]
noncomputable def f_law_torn : Df := ⟨2, 17, b_law_torn⟩
abbrev n_law_torn : Dn := ("_law_torn", none)
/- law_near: 0 _law_d, 1 _law_many, 2 _law_work_here -/
noncomputable def b_law_near : FS := sAll [
  sAsg (gVar 2) (fCall ("_law_work", none) [fVar 0, fVar 1]),
  sRet (fOp .Add (fTup [fBin ixA (fVar 2) (fC (.int 0)), fCall ("_law_off", none) [fVar 0, fC (.int 8)]]) (fSlice (fVar 2) (some (fC (.int 2))) none))]
noncomputable def f_law_near : Df := ⟨2, 3, b_law_near⟩
abbrev n_law_near : Dn := ("_law_near", none)
/- law_paired: 0 _law_d, 1 _law_straight, 2 _law_rows, 3 _law_k -/
noncomputable def b_law_paired : FS := sAll [
  sAsg (gVar 2) (fLst []),
  sFor (iRange1 (fOp .Add (fC (.int 1)) (fCall ("_law_off", none) [fVar 0, fC (.int 12)]))) (gVar 3) (sAll [
    sExpr (fM1 false appendA (fVar 2) (fBin ixA (fLst [fTup [fC (.str "pair"), fCall ("_law_off", none) [fVar 0, fC (.int 3)], fCall ("_law_off", none) [fVar 0, fC (.int 8)]], fCall ("_law_row", none) [fVar 0, fC (.int 13), fC (.bl true)]]) (fUn intA (fCmp .Eq (fCall ("_law_off", none) [fVar 0, fC (.int 3)]) (fC (.int 0))))))]),
  sExpr (fM1 false appendA (fVar 2) (fIf (fUn notA (fVar 1)) (fBin ixA (fLst [fTup [fC (.str "go"), fC (.int 0)], fTup [fC (.str "rest"), fC (.int 2)]]) (fCall ("_law_off", none) [fVar 0, fC (.int 2)])) (fTup [fC (.str "end")]))),
  sRet (fUn tupleA (fVar 2))]
noncomputable def f_law_paired : Df := ⟨2, 4, b_law_paired⟩
abbrev n_law_paired : Dn := ("_law_paired", none)
/- law_mixed: 0 _law_d, 1 _law_row, 2 _law_left, 3 _law_found -/
noncomputable def b_law_mixed : FS := sAll [
  sAsg (gVar 2) (fUn listA (fVar 1)),
  sAsg (gVar 3) (fLst []),
  sWhile (fCmp .NotEq (fVar 2) (fLst [])) (sAll [
    sExpr (fM1 false appendA (fVar 3) (fM1 true dpopA (fVar 2) (fCall ("_law_off", none) [fVar 0, fUn lenA (fVar 2)])))]),
  sRet (fVar 3)]
noncomputable def f_law_mixed : Df := ⟨2, 4, b_law_mixed⟩
abbrev n_law_mixed : Dn := ("_law_mixed", none)
/- law_look: 0 _law_program, 1 _law_works, 2 _law_memory, 3 _law_asks, 4 _law_s, 5 _law_on, 6 _law_one -/
noncomputable def b_law_look : FS := sAll [
  sAsg (gVar 4) (fCall ("_law_hall", none) [fVar 0, fVar 1, fVar 2, fVar 3]),
  sAsg (gVar 5) (fLst []),
  sWhile (fCmp .Lt (fBin ixA (fVar 4) (fC (.str "time"))) (fC (.int 300))) (sAll [
    sExpr (fCall ("_law_tick", none) [fVar 4]),
    sExpr (fM1 false appendA (fVar 5) (fLC [6] (iVal (fBin ixA (fVar 4) (fC (.str "on")))) (gVar 6) none (fBin ixA (fVar 6) (fC (.str "work")))))]),
  sRet (fTup [fVar 4, fVar 5])]
noncomputable def f_law_look : Df := ⟨4, 7, b_law_look⟩
abbrev n_law_look : Dn := ("_law_look", none)
/- law_holds: 0 _law_s, 1 _law_on, 2 _law_works, 3 _law_claim_here, 4 _law_beat, 5 _law_begin, 6 _law_end, 7 _law_places, 8 _law_ever, 9 _law_place, 10 _law_number, 11 _law_one -/
noncomputable def b_law_holds : FS := sAll [
  sIf (fCmp .Eq (fBin ixA (fVar 3) (fC (.int 0))) (fC (.str "whole"))) (sAll [
    sRet (fCmp .Eq (fLC [11] (iVal (fCall ("_law_torn", none) [fVar 0, fVar 2])) (gVar 11) (some (fCmp .Eq (fBin ixA (fVar 11) (fC (.int 0))) (fBin ixA (fVar 3) (fC (.int 1))))) (fVar 11)) (fLst []))]) (sAll []),
  sIf (fCmp .Eq (fBin ixA (fVar 3) (fC (.int 0))) (fC (.str "over"))) (sAll [
    sAsg (gVar 4) (fBin ixA (fBin ixA (fVar 0) (fC (.str "firsts"))) (fBin ixA (fVar 3) (fC (.int 2)))),
    sRet (fIf (fCmp .Is (fVar 4) (fC .non)) (fC (.bl true)) (fCmp .NotIn (fBin ixA (fVar 3) (fC (.int 1))) (fBin ixA (fVar 1) (fVar 4))))]) (sAll []),
  sAsg (gTup [gVar 5, gVar 6]) (fTup [fBin ixA (fBin ixA (fVar 0) (fC (.str "firsts"))) (fBin ixA (fVar 3) (fC (.int 3))), fBin ixA (fBin ixA (fVar 0) (fC (.str "firsts"))) (fBin ixA (fVar 3) (fC (.int 4)))]),
  sIf (fCmp .Is (fVar 5) (fC .non)) (sAll [
    sRet (fC (.bl true))]) (sAll []),
  sAsg (gVar 7) (fLC [8, 9, 4, 10] (iVal (fBin ixA (fVar 0) (fC (.str "laid")))) (gTup [gVar 8, gVar 9, gVar 4, gVar 10]) (some (fAnd (fCmp .Gt (fVar 4) (fVar 5)) (fOr (fCmp .Is (fVar 6) (fC .non)) (fCmp .LtE (fVar 4) (fVar 6))))) (fVar 9)),
  sRet (fCmp .Eq (fLC [9] (iVal (fVar 7)) (gVar 9) (some (fChain .LtE .LtE (fBin ixA (fVar 3) (fC (.int 1))) (fVar 9) (fBin ixA (fVar 3) (fC (.int 2))))) (fVar 9)) (fLst []))]
noncomputable def f_law_holds : Df := ⟨4, 12, b_law_holds⟩
abbrev n_law_holds : Dn := ("_law_holds", none)
/- law_claim: 0 _law_d, 1 _law_program, 2 _law_many, 3 _law_pairs, 4 _law_way, 5 _law_low, 6 _law_high, 7 _law_one, 8 _law_other, 9 _law_k -/
noncomputable def b_law_claim : FS := sAll [
  sAsg (gVar 3) (fLC [9] (iRange1 (fUn lenA (fVar 1))) (gVar 9) (some (fCmp .Eq (fBin ixA (fBin ixA (fVar 1) (fVar 9)) (fC (.int 0))) (fC (.str "pair")))) (fVar 9)),
  sAsg (gVar 4) (fCall ("_law_off", none) [fVar 0, fC (.int 3)]),
  sIf (fAnd (fCmp .Eq (fVar 4) (fC (.int 0))) (fCmp .NotEq (fVar 3) (fLst []))) (sAll [
    sRet (fTup [fC (.str "whole"), fBin ixA (fVar 3) (fCall ("_law_off", none) [fVar 0, fUn lenA (fVar 3)])])]) (sAll []),
  sIf (fCmp .Eq (fVar 4) (fC (.int 1))) (sAll [
    sRet (fTup [fC (.str "over"), fCall ("_law_off", none) [fVar 0, fVar 2], fCall ("_law_off", none) [fVar 0, fUn lenA (fVar 1)]])]) (sAll []),
  sAsg (gVar 5) (fCall ("_law_off", none) [fVar 0, fC (.int 8)]),
  sAsg (gVar 6) (fOp .Add (fVar 5) (fCall ("_law_off", none) [fVar 0, fBin ixA (fLst [fC (.int 4), fC (.int 24)]) (fCall ("_law_off", none) [fVar 0, fC (.int 2)])])),
  sAsg (gVar 7) (fCall ("_law_off", none) [fVar 0, fUn lenA (fVar 1)]),
  sAsg (gVar 8) (fBin ixA (fLst [fOp .Sub (fUn lenA (fVar 1)) (fC (.int 1)), fCall ("_law_off", none) [fVar 0, fUn lenA (fVar 1)]]) (fCall ("_law_off", none) [fVar 0, fC (.int 2)])),
  sRet (fTup [fC (.str "kept"), fVar 5, fVar 6, fVar 7, fVar 8])]
noncomputable def f_law_claim : Df := ⟨3, 10, b_law_claim⟩
abbrev n_law_claim : Dn := ("_law_claim", none)
/- law_is_done: 0 _law_program, 1 _law_works, 2 _law_memory, 3 _law_asks, 4 _law_row_here, 5 _law_s, 6 _law_one -/
noncomputable def b_law_is_done : FS := sAll [
  sAsg (gVar 5) (fCall ("_law_hall", none) [fVar 0, fVar 1, fVar 2, fVar 3]),
  sWhile (fAnd (fCmp .Lt (fBin ixA (fVar 5) (fC (.str "time"))) (fC (.int 300))) (fCmp .Lt (fBin ixA (fVar 5) (fC (.str "row"))) (fUn lenA (fVar 0)))) (sAll [
    sExpr (fCall ("_law_tick", none) [fVar 5])]),
  sRet (fCmp .Eq (fLC [6] (iVal (fCall ("_law_torn", none) [fVar 5, fVar 1])) (gVar 6) (some (fCmp .Eq (fBin ixA (fVar 6) (fC (.int 0))) (fVar 4))) (fVar 6)) (fLst []))]
noncomputable def f_law_is_done : Df := ⟨5, 7, b_law_is_done⟩
abbrev n_law_is_done : Dn := ("_law_is_done", none)
/- law_rest_rows: 0 _law_many -/
noncomputable def b_law_rest_rows : FS := sAll [
  sRet (fOp .Add (fOp .Mult (fTup [fTup [fC (.str "rest"), fC (.int 9)]]) (fOp .FloorDiv (fVar 0) (fC (.int 9)))) (fOp .Mult (fTup [fTup [fC (.str "rest"), fOp .Mod (fVar 0) (fC (.int 9))]]) (fUn intA (fCmp .Gt (fOp .Mod (fVar 0) (fC (.int 9))) (fC (.int 0))))))]
noncomputable def f_law_rest_rows : Df := ⟨1, 1, b_law_rest_rows⟩
abbrev n_law_rest_rows : Dn := ("_law_rest_rows", none)
/- law_other: 0 _law_d, 1 _law_entry, 2 _law_told, 3 _law_did, 4 _law_way, 5 _law_some, 6 _law_at, 7 _law_most -/
noncomputable def b_law_other : FS := sAll [
  sAsg (gTup [gVar 2, gVar 3]) (fVar 1),
  sAsg (gVar 4) (fCall ("_law_off", none) [fVar 0, fC (.int 6)]),
  sAsg (gVar 5) (fLst [fTup [fC (.str "get"), fCall ("_law_off", none) [fVar 0, fC (.int 32)], fCall ("_law_off", none) [fVar 0, fC (.int 1000)]], fTup [fC (.str "put"), fCall ("_law_off", none) [fVar 0, fC (.int 32)], fC (.int 0)], fC (.str "waits"), fC (.str "goes"), fC (.str "ends")]),
  sIf (fCmp .Lt (fVar 4) (fC (.int 2))) (sAll [
    sRet (fTup [fVar 2, fBin ixA (fVar 5) (fCall ("_law_off", none) [fVar 0, fC (.int 5)])])]) (sAll []),
  sIf (fOr (fCmp .Is (fVar 2) (fC .non)) (fCmp .Eq (fVar 4) (fC (.int 2)))) (sAll [
    sRet (fTup [fTup [fCall ("_law_off", none) [fVar 0, fC (.int 6)], fBin ixA (fLst [fC (.str "get"), fC (.str "put")]) (fCall ("_law_off", none) [fVar 0, fC (.int 2)]), fCall ("_law_off", none) [fVar 0, fC (.int 32)], fCall ("_law_off", none) [fVar 0, fC (.int 1000)]], fVar 3])]) (sAll []),
  sAsg (gVar 6) (fCall ("_law_off", none) [fVar 0, fC (.int 3)]),
  sIf (fCmp .Eq (fVar 6) (fC (.int 1))) (sAll [
    sRet (fTup [fOp .Add (fOp .Add (fSlice (fVar 2) none (some (fC (.int 1)))) (fTup [fBin ixA (fLst [fC (.str "put"), fC (.str "get")]) (fUn intA (fCmp .Eq (fBin ixA (fVar 2) (fC (.int 1))) (fC (.str "put"))))])) (fSlice (fVar 2) (some (fC (.int 2))) none), fVar 3])]) (sAll []),
  sAsg (gVar 7) (fBin ixA (fLst [fC (.int 6), fC (.int 0), fC (.int 32)]) (fVar 6)),
  sIf (fCmp .Eq (fVar 4) (fC (.int 3))) (sAll [
    sRet (fTup [fC .non, fVar 3])]) (sAll []),
  sRet (fTup [fOp .Add (fOp .Add (fSlice (fVar 2) none (some (fVar 6))) (fTup [fOp .Mod (fOp .Add (fBin ixA (fVar 2) (fVar 6)) (fC (.int 1))) (fVar 7)])) (fSlice (fVar 2) (some (fOp .Add (fVar 6) (fC (.int 1)))) none), fVar 3])]
noncomputable def f_law_other : Df := ⟨2, 8, b_law_other⟩
abbrev n_law_other : Dn := ("_law_other", none)
/- law_none: 0 _law_d, 1 _law_far, 2 _law_some -/
noncomputable def b_law_none : FS := sAll [
  sAsg (gVar 1) (fBin ixA (fLst [fC (.int 0), fCall ("_law_off", none) [fVar 0, fOp .Pow (fC (.int 10)) (fC (.int 6))]]) (fCall ("_law_off", none) [fVar 0, fC (.int 2)])),
  sAsg (gVar 2) (fLst [fTup [], fC (.int 5), fC .non, fTup [fC (.str "waits")], fTup [fC .non, fC (.str "goes"), fC (.int 0)], fTup [fC .non, fC (.str "Goes")], fTup [fC .non, fC .non], fTup [fC .non, fTup []], fTup [fC .non, fC (.bl true)]]),
  sAsg (gVar 2) (fOp .Add (fVar 2) (fLst [fTup [fC (.int 0), fC (.str "ends")], fTup [fTup [], fC (.str "ends")], fTup [fTup [fOp .Add (fC (.int 6)) (fVar 1), fC (.str "get"), fC (.int 0), fC (.int 0)], fC (.str "goes")], fTup [fTup [fUn negA (fC (.int 1)), fC (.str "get"), fC (.int 0), fC (.int 0)], fC (.str "goes")]])),
  sAsg (gVar 2) (fOp .Add (fVar 2) (fLst [fTup [fTup [fC (.int 0), fC (.str "go"), fC (.int 0), fC (.int 0)], fC (.str "goes")], fTup [fTup [fC (.int 0), fC (.str "get"), fOp .Add (fC (.int 32)) (fVar 1), fC (.int 0)], fC (.str "goes")], fTup [fTup [fC (.int 0), fC (.str "put"), fC (.int 0), fOp .Add (fC (.int 1000)) (fVar 1)], fC (.str "goes")]])),
  sAsg (gVar 2) (fOp .Add (fVar 2) (fLst [fTup [fC .non, fTup [fC (.str "get"), fC (.int 0), fOp .Add (fC (.int 1000)) (fVar 1)]]])),
  sAsg (gVar 2) (fOp .Add (fVar 2) (fLst [fTup [fC .non, fTup [fC (.str "put"), fOp .Add (fC (.int 32)) (fVar 1), fC (.int 0)]], fTup [fC .non, fTup [fC (.str "put"), fUn negA (fC (.int 1)), fC (.int 0)]], fTup [fC .non, fTup [fC (.str "lay"), fC (.int 0), fC (.int 0)]], fTup [fC .non, fTup [fC (.str "get"), fC (.int 0)]]])),
  sAsg (gVar 2) (fOp .Add (fVar 2) (fLst [fTup [fTup [fC (.bl true), fC (.str "get"), fC (.int 0), fC (.int 0)], fC (.str "goes")], fTup [fTup [fC (.int 0), fC (.str "get"), fC .non, fC (.int 0)], fC (.str "goes")], fTup [fC .non, fTup [fC (.str "get"), fC (.int 0), fC (.str "0")]]])),
  sRet (fBin ixA (fVar 2) (fCall ("_law_off", none) [fVar 0, fUn lenA (fVar 2)]))]
noncomputable def f_law_none : Df := ⟨1, 3, b_law_none⟩
abbrev n_law_none : Dn := ("_law_none", none)
/- law_greeds_right: 0 _law_w, 1 _law_block, 2 _law_program, 3 _law_gets, 4 _law_logs, 5 _law_mine, 6 _law_tail, 7 _law_sure, 8 _law_greed, 9 _law_works, 10 _law_due, 11 _law_found, 12 _law_shown, 13 _law_cell, 14 _law_behind, 15 _law_told, 16 _law_one -/
noncomputable def b_law_greeds_right : FS := sAll [
  sAsg (gVar 2) (fTup [fTup [fC (.str "get"), fC (.int 0), fC (.int 2)], fTup [fC (.str "end")]]),
  sAsg (gVar 3) (fLst [fTup [fC (.int 0), fC (.str "get"), fC (.int 0), fBin ixA (fVar 0) (fC (.int 0))], fTup [fC (.int 0), fC (.str "put"), fC (.int 2), fBin ixA (fVar 0) (fC (.int 0))], fTup [fC (.int 0), fC (.str "get"), fC (.int 1), fBin ixA (fVar 0) (fC (.int 1))], fTup [fC (.int 0), fC (.str "put"), fC (.int 3), fBin ixA (fVar 0) (fC (.int 1))]]),
  sAsg (gVar 4) (fDic [(fC (.str "all"), fOp .Add (fLC [16] (iVal (fVar 3)) (gVar 16) none (fTup [fVar 16, fC (.str "waits")])) (fLst [fTup [fC .non, fTup [fC (.str "get"), fC (.int 2), fBin ixA (fVar 0) (fC (.int 0))]], fTup [fC .non, fC (.str "goes")]]))]),
  sAsg (gTup [gVar 5, gVar 6]) (fTup [fTup [fC .non, fTup [fC (.str "get"), fC (.int 2), fBin ixA (fVar 0) (fC (.int 2))]], fLC [16] (iVal (fVar 3)) (gVar 16) none (fTup [fVar 16, fC (.str "ends")])]),
  sAsg (gIx (fVar 4) (fC (.str "turn"))) (fOp .Add (fLst [fTup [fBin ixA (fVar 3) (fC (.int 0)), fC (.str "waits")], fVar 5, fTup [fBin ixA (fVar 3) (fC (.int 1)), fC (.str "goes")]]) (fSlice (fVar 6) (some (fC (.int 2))) none)),
  sAsg (gIx (fVar 4) (fC (.str "idle"))) (fOp .Add (fLst [fVar 5, fTup [fBin ixA (fVar 3) (fC (.int 0)), fC (.str "goes")]]) (fSlice (fVar 6) (some (fC (.int 1))) none)),
  sAsg (gVar 7) (fDic [(fC (.str "all"), fTup [fLst [fC (.int 4), fC (.int 5)], fLst [fC (.int 3)]]), (fC (.str "turn"), fTup [fLst [fC (.int 1), fC (.int 2)], fLst [fC (.int 4)]]), (fC (.str "idle"), fTup [fLst [fC (.int 0), fC (.int 1)], fLst [fC (.int 4)]])]),
  sFor (iVal (fTup [fC (.str "all"), fC (.str "turn"), fC (.str "idle")])) (gVar 8) (sAll [
    sAsg (gVar 9) (fLst [fTup [fC (.int 0), fC (.int 2), fC (.int 2), fVar 1, fVar 8, fC .non, fC .non]]),
    sAsg (gVar 10) (fSlice (fOp .Add (fBin ixA (fVar 4) (fVar 8)) (fOp .Mult (fLst [fTup [fC .non, fC (.str "ends")]]) (fC (.int 9)))) none (some (fC (.int 8)))),
    sAsg (gTup [gVar 11, gVar 12]) (fCall ("run", none) [fVar 2, fVar 9, fVar 0, fLst [fTup [fC (.int 0), fC (.int 0)]], fC (.int 8)]),
    sAsg (gVar 13) (fIf (fCmp .Eq (fVar 8) (fC (.str "all"))) (fBin ixA (fVar 0) (fC (.int 0))) (fBin ixA (fVar 0) (fC (.int 2)))),
    sAsg (gVar 14) (fTup [fC (.int 8), fC .non, fLst [fVar 13, fC (.int 0), fC (.int 0), fC (.int 0)], fOp .Add (fSlice (fVar 0) none (some (fC (.int 2)))) (fSlice (fVar 0) none (some (fC (.int 2)))), fOp .Mult (fLst [fC (.bl false)]) (fC (.int 3)), fLst []]),
    sIf (fUn notA (fCall ("_law_alike", none) [fLst [fVar 11, fVar 12], fLst [fVar 10, fVar 14]])) (sAll [
      sRet (fC (.bl false))]) (sAll []),
    sAsg (gVar 15) (fLst [fCall ("times", none) [fVar 2, fVar 9, fLst [fTup [fC (.int 0), fC (.int 0)]]], fCall ("overs", none) [fVar 2, fVar 9, fLst [fTup [fC (.int 0), fC (.int 0)]]]]),
    sIf (fUn notA (fCall ("_law_alike", none) [fVar 15, fUn listA (fBin ixA (fVar 7) (fVar 8))])) (sAll [
      sRet (fC (.bl false))]) (sAll [])]),
  sRet (fC (.bl true))]
noncomputable def f_law_greeds_right : Df := ⟨2, 17, b_law_greeds_right⟩
abbrev n_law_greeds_right : Dn := ("_law_greeds_right", none)
/- law_pair_right: 0 _law_w, 1 _law_block, 2 _law_program, 3 _law_works, 4 _law_some, 5 _law_due -/
noncomputable def b_law_pair_right : FS := sAll [
  sAsg (gVar 2) (fTup [fTup [fC (.str "pair"), fC (.int 0), fC (.int 2)], fTup [fC (.str "end")]]),
  sAsg (gVar 3) (fLst [fTup [fC (.int 0), fC (.int 2), fC (.int 2), fVar 1, fC (.str "all"), fC .non, fC .non]]),
  sIf (fUn notA (fCall ("_law_alike", none) [fCall ("spread", none) [fVar 2, fVar 3, fC (.int 0), fC (.int 0), fC (.int 1)], fLst [fTup [fC (.int 5), fC (.int 5)], fTup [fC (.int 6), fC (.int 6)]]])) (sAll [
    sRet (fC (.bl false))]) (sAll []),
  sIf (fUn notA (fCall ("_law_alike", none) [fCall ("torns", none) [fVar 2, fVar 3, fVar 0, fLst [fTup [fC (.int 1), fC (.int 0)]], fC (.int 9)], fLst [fTup [fC (.int 0), fC (.int 5), fC (.int 0)]]])) (sAll [
    sRet (fC (.bl false))]) (sAll []),
  sIf (fOr (fCmp .NotEq (fCall ("torns", none) [fVar 2, fVar 3, fVar 0, fLst [fTup [fC (.int 1), fC (.int 0)]], fC (.int 5)]) (fLst [])) (fCmp .NotEq (fCall ("torns", none) [fVar 2, fVar 3, fVar 0, fLst [fTup [fC (.int 0), fC (.int 0)]], fC (.int 300)]) (fLst []))) (sAll [
    sRet (fC (.bl false))]) (sAll []),
  sIf (fCmp .NotEq (fBin ixA (fBin ixA (fCall ("run", none) [fVar 2, fVar 3, fVar 0, fLst [fTup [fC (.int 1), fC (.int 0)]], fC (.int 9)]) (fC (.int 1))) (fC (.int 2))) (fLst [fBin ixA (fVar 0) (fC (.int 2)), fBin ixA (fVar 0) (fC (.int 1)), fC (.int 0), fC (.int 0)])) (sAll [
    sRet (fC (.bl false))]) (sAll []),
  sAsg (gVar 4) (fLst [fCall ("first_torn", none) [fVar 2, fVar 3, fVar 0, fC (.int 0), fC (.int 0), fC (.int 9)], fCall ("leans", none) [fVar 2, fVar 3, fVar 0, fC (.int 0), fC (.int 0), fC (.int 9), fTup [fC (.str "whole"), fC (.int 0)]]]),
  sAsg (gVar 4) (fOp .Add (fVar 4) (fLst [fCall ("first_torn", none) [fVar 2, fVar 3, fVar 0, fC (.int 0), fC (.int 2), fC (.int 9)], fCall ("rests", none) [fVar 2, fVar 3, fVar 0, fC (.int 0), fC (.int 1), fC (.int 1), fC (.int 0)]])),
  sAsg (gVar 4) (fOp .Add (fVar 4) (fLst [fCall ("leans", none) [fVar 2, fVar 3, fVar 0, fC (.int 0), fC (.int 0), fC (.int 1), fTup [fC (.str "over"), fC (.int 0), fC (.int 0)]], fCall ("leans", none) [fVar 2, fVar 3, fVar 0, fC (.int 0), fC (.int 0), fC (.int 9), fTup [fC (.str "over"), fC (.int 0), fC (.int 1)]]])),
  sIf (fUn notA (fCall ("_law_alike", none) [fVar 4, fLst [fC (.int 1), fC (.int 1), fC .non, fC (.int 1), fC .non, fC (.int 2)]])) (sAll [
    sRet (fC (.bl false))]) (sAll []),
  sAsg (gVar 5) (fLst [fTup [fC .non, fC (.int 0), fC (.int 2), fC .non], fTup [fC (.int 0), fC (.int 1), fC (.int 0), fC .non], fTup [fC (.int 0), fC (.int 3), fC (.int 1), fC .non], fTup [fC .non, fC (.int 5), fC (.int 3), fTup [fC (.int 4), fC (.int 0)]]]),
  sIf (fUn notA (fCall ("_law_alike", none) [fCall ("sights", none) [fVar 2, fVar 3, fVar 0, fLst [fTup [fC (.int 1), fC (.int 0)]], fC (.int 9)], fVar 5])) (sAll [
    sRet (fC (.bl false))]) (sAll []),
  sRet (fCall ("_law_alike", none) [fCall ("worths", none) [fVar 2, fVar 3, fVar 0, fLst [fTup [fC (.int 1), fC (.int 0)]], fC (.int 9), fC (.int 3)], fLst [fTup [fC (.int 4), fC (.int 0), fBin ixA (fVar 0) (fC (.int 1))]]])]
noncomputable def f_law_pair_right : Df := ⟨2, 6, b_law_pair_right⟩
abbrev n_law_pair_right : Dn := ("_law_pair_right", none)
/- law_mark_right: 0 _law_w, 1 _law_block, 2 _law_many, 3 _law_program, 4 _law_works, 5 _law_moves, 6 _law_ahead, 7 _law_behind, 8 _law_due, 9 _law_told, 10 _law_did -/
noncomputable def b_law_mark_right : FS := sAll [
  sAsg (gVar 3) (fTup [fTup [fC (.str "mark"), fC (.int 1)], fTup [fC (.str "rest"), fVar 2], fTup [fC (.str "clear"), fC (.int 1)], fTup [fC (.str "end")]]),
  sAsg (gVar 4) (fLst [fTup [fC (.int 0), fC (.int 2), fC (.int 1), fVar 1, fC (.str "all"), fC (.int 1), fC .non]]),
  sAsg (gVar 5) (fLst [fTup [fC (.int 0), fC (.str "get"), fC (.int 0), fBin ixA (fVar 0) (fC (.int 0))], fTup [fC (.int 0), fC (.str "put"), fC (.int 2), fBin ixA (fVar 0) (fC (.int 0))]]),
  sAsg (gVar 6) (fBin ixA (fCall ("run", none) [fVar 3, fVar 4, fVar 0, fLst [fTup [fC (.int 0), fC (.int 0)]], fOp .Add (fVar 2) (fC (.int 6))]) (fC (.int 0))),
  sIf (fUn notA (fCall ("_law_alike", none) [fLC [9, 10] (iVal (fVar 6)) (gTup [gVar 9, gVar 10]) none (fVar 9), fOp .Add (fVar 5) (fOp .Mult (fLst [fC .non]) (fOp .Add (fVar 2) (fC (.int 4))))])) (sAll [
    sRet (fC (.bl false))]) (sAll []),
  sAsg (gVar 7) (fBin ixA (fCall ("run", none) [fVar 3, fVar 4, fVar 0, fLst [fTup [fC (.int 1), fC (.int 0)]], fOp .Add (fVar 2) (fC (.int 6))]) (fC (.int 0))),
  sAsg (gVar 8) (fOp .Add (fOp .Add (fOp .Mult (fLst [fC .non]) (fOp .Add (fVar 2) (fC (.int 2)))) (fVar 5)) (fOp .Mult (fLst [fC .non]) (fC (.int 2)))),
  sIf (fUn notA (fCall ("_law_alike", none) [fLC [9, 10] (iVal (fVar 7)) (gTup [gVar 9, gVar 10]) none (fVar 9), fVar 8])) (sAll [
    sRet (fC (.bl false))]) (sAll []),
  sIf (fCmp .NotEq (fLC [9, 10] (iVal (fVar 7)) (gTup [gVar 9, gVar 10]) none (fVar 10)) (fOp .Add (fOp .Mult (fLst [fC (.str "goes")]) (fOp .Add (fVar 2) (fC (.int 3)))) (fOp .Mult (fLst [fC (.str "ends")]) (fC (.int 3))))) (sAll [
    sRet (fC (.bl false))]) (sAll []),
  sAsg (gVar 4) (fLst [fTup [fC (.int 0), fC (.int 2), fC (.int 2), fC (.int 2), fC (.str "all"), fC (.int 0), fC .non]]),
  sIf (fCmp .NotEq (fCall ("guards", none) [fTup [fTup [fC (.str "pair"), fC (.int 0), fC (.int 2)], fTup [fC (.str "end")]], fVar 4, fVar 0, fC (.int 0), fC (.int 0), fC (.int 0), fC (.int 0), fC (.int 0)]) (fC (.int 0))) (sAll [
    sRet (fC (.bl false))]) (sAll []),
  sRet (fCmp .Eq (fCall ("overs", none) [fVar 3, fLst [fTup [fC (.int 0), fC (.int 2), fC (.int 1), fVar 1, fC (.str "all"), fC (.int 1), fC .non]], fLst [fTup [fC (.int 1), fC (.int 0)]]]) (fLst [fOp .Add (fVar 2) (fC (.int 3))]))]
noncomputable def f_law_mark_right : Df := ⟨3, 11, b_law_mark_right⟩
abbrev n_law_mark_right : Dn := ("_law_mark_right", none)
/- law_line: 0 _law_parts, 1 _law_part -/
noncomputable def b_law_line : FS := sAll [
  sRet (fMeth "join" (fC (.str " ")) [fLC [1] (iVal (fVar 0)) (gVar 1) none (fIf (fCmp .Is (fVar 1) (fC .non)) (fC (.str "-")) (fNone))])]
noncomputable def f_law_line : Df := ⟨1, 2, b_law_line⟩
abbrev n_law_line : Dn := ("_law_line", none)
/- law_number: 0 _law_word_here, 1 _law_sign -/
noncomputable def b_law_number : FS := sAll [
  sIf (fOr (fUn notA (fChain .LtE .LtE (fC (.int 1)) (fUn lenA (fVar 0)) (fC (.int 3)))) (fCmp .NotEq (fLC [1] (iVal (fVar 0)) (gVar 1) (some (fCmp .NotIn (fVar 1) (fC (.str "0123456789")))) (fVar 1)) (fLst []))) (sAll [
    sRet (fC .non)]) (sAll []),
  sRet (fIf (fCmp .Eq (fNone) (fVar 0)) (fUn intA (fVar 0)) (fC .non))]
noncomputable def f_law_number : Df := ⟨1, 2, b_law_number⟩
abbrev n_law_number : Dn := ("_law_number", none)
/- law_work_row: 0 _law_words_here, 1 _law_found, 2 _law_k, 3 _law_part -/
noncomputable def b_law_work_row : FS := sAll [
  sIf (fOr (fCmp .NotEq (fUn lenA (fVar 0)) (fC (.int 7))) (fCmp .NotIn (fBin ixA (fVar 0) (fC (.int 4))) (fTup [fC (.str "all"), fC (.str "turn"), fC (.str "idle")]))) (sAll [
    sRet (fC .non)]) (sAll []),
  sAsg (gVar 1) (fLst []),
  sFor (iRange1 (fC (.int 7))) (gVar 2) (sAll [
    sAsg (gVar 3) (fIf (fCmp .Eq (fVar 2) (fC (.int 4))) (fBin ixA (fVar 0) (fVar 2)) (fCall ("_law_number", none) [fBin ixA (fVar 0) (fVar 2)])),
    sIf (fAnd (fCmp .Is (fVar 3) (fC .non)) (fOr (fCmp .Lt (fVar 2) (fC (.int 5))) (fCmp .NotEq (fBin ixA (fVar 0) (fVar 2)) (fC (.str "-"))))) (sAll [
      sRet (fC .non)]) (sAll []),
    sExpr (fM1 false appendA (fVar 1) (fVar 3))]),
  sRet (fUn tupleA (fVar 1))]
noncomputable def f_law_work_row : Df := ⟨1, 4, b_law_work_row⟩
abbrev n_law_work_row : Dn := ("_law_work_row", none)
/- law_program_row: 0 _law_words_here, 1 _law_counts, 2 _law_numbers, 3 _law_word_here -/
noncomputable def b_law_program_row : FS := sAll [
  sAsg (gVar 1) (fDic [(fC (.str "set"), fC (.int 2)), (fC (.str "add"), fC (.int 2)), (fC (.str "less"), fC (.int 2)), (fC (.str "get"), fC (.int 2)), (fC (.str "put"), fC (.int 2)), (fC (.str "getx"), fC (.int 2)), (fC (.str "putx"), fC (.int 2)), (fC (.str "pair"), fC (.int 2)), (fC (.str "lay"), fC (.int 2)), (fC (.str "go"), fC (.int 1))]),
  sExpr (fNone),
  sAsg (gVar 2) (fLC [3] (iVal (fSlice (fVar 0) (some (fC (.int 1))) none)) (gVar 3) none (fCall ("_law_number", none) [fVar 3])),
  sIf (fOr (fCmp .NotEq (fGet (fVar 1) (fBin ixA (fVar 0) (fC (.int 0))) (fUn negA (fC (.int 1)))) (fUn lenA (fVar 2))) (fCmp .In (fC .non) (fVar 2))) (sAll [
    sRet (fC .non)]) (sAll []),
  sRet (fOp .Add (fTup [fBin ixA (fVar 0) (fC (.int 0))]) (fUn tupleA (fVar 2)))]
noncomputable def f_law_program_row : Df := ⟨1, 4, b_law_program_row⟩
abbrev n_law_program_row : Dn := ("_law_program_row", none)
/- law_read: 0 _law_text, 1 _law_memory, 2 _law_works_here, 3 _law_program_here, 4 _law_asks, 5 _law_lines, 6 _law_number_here, 7 _law_words_here, 8 _law_numbers, 9 _law_good, 10 _law_word_here -/
noncomputable def b_law_read : FS := sAll [
  sAsg (gTup [gVar 1, gVar 2, gVar 3, gVar 4]) (fTup [fC .non, fLst [], fLst [], fLst []]),
  sAsg (gVar 5) (fMeth "split" (fVar 0) [fC (.str "\n")]),
  sFor (iRange1 (fUn lenA (fVar 5))) (gVar 6) (sAll [
    sAsg (gVar 7) (fMeth "split" (fBin ixA (fVar 5) (fVar 6)) [fC (.str " ")]),
    sAsg (gVar 8) (fLC [10] (iVal (fSlice (fVar 7) (some (fC (.int 1))) none)) (gVar 10) none (fCall ("_law_number", none) [fVar 10])),
    sAsg (gVar 9) (fCmp .NotIn (fC .non) (fVar 8)),
    sIf (fCmp .Eq (fVar 6) (fC (.int 0))) (sAll [
      sAsg (gTup [gVar 1, gVar 9]) (fTup [fVar 8, fAnd (fVar 9) (fCmp .Eq (fBin ixA (fVar 7) (fC (.int 0))) (fC (.str "words")))])]) (sAll [
      sIf (fCmp .Eq (fBin ixA (fVar 7) (fC (.int 0))) (fC (.str "work"))) (sAll [
        sExpr (fM1 false appendA (fVar 2) (fCall ("_law_work_row", none) [fSlice (fVar 7) (some (fC (.int 1))) none])),
        sAsg (gVar 9) (fAnd (fCmp .IsNot (fBin ixA (fVar 2) (fUn negA (fC (.int 1)))) (fC .non)) (fCmp .Eq (fVar 3) (fLst [])))]) (sAll [
        sIf (fCmp .Eq (fBin ixA (fVar 7) (fC (.int 0))) (fC (.str "at"))) (sAll [
          sExpr (fM1 false appendA (fVar 4) (fUn tupleA (fVar 8))),
          sAsg (gVar 9) (fAnd (fVar 9) (fAnd (fCmp .Eq (fUn lenA (fVar 8)) (fC (.int 2))) (fCmp .NotEq (fVar 3) (fLst []))))]) (sAll [
          sExpr (fM1 false appendA (fVar 3) (fCall ("_law_program_row", none) [fVar 7])),
          sAsg (gVar 9) (fAnd (fCmp .IsNot (fBin ixA (fVar 3) (fUn negA (fC (.int 1)))) (fC .non)) (fCmp .Eq (fVar 4) (fLst [])))])])]),
    sIf (fUn notA (fVar 9)) (sAll [
      sRet (fTup [fC (.str "text"), fVar 6])]) (sAll [])]),
  sIf (fCmp .Eq (fVar 3) (fLst [])) (sAll [
    sRet (fTup [fC (.str "text"), fUn lenA (fVar 5)])]) (sAll []),
  sRet (fCall ("_law_looked", none) [fUn tupleA (fVar 3), fVar 2, fVar 1, fVar 4])]
noncomputable def f_law_read : Df := ⟨1, 11, b_law_read⟩
abbrev n_law_read : Dn := ("_law_read", none)
/- law_looked: 0 _law_program_here, 1 _law_works_here, 2 _law_memory, 3 _law_asks, 4 _law_k, 5 _law_ahead -/
noncomputable def b_law_looked : FS := sAll [
  sIf (fCmp .IsNot (fCall ("_law_first_row", none) [fVar 0]) (fC .non)) (sAll [
    sRet (fTup [fC (.str "program"), fCall ("_law_first_row", none) [fVar 0]])]) (sAll []),
  sIf (fCmp .IsNot (fCall ("_law_first_work", none) [fVar 1]) (fC .non)) (sAll [
    sRet (fTup [fC (.str "works"), fCall ("_law_first_work", none) [fVar 1]])]) (sAll []),
  sIf (fUn notA (fChain .LtE .LtE (fC (.int 4)) (fUn lenA (fVar 2)) (fC (.int 32)))) (sAll [
    sRet (fTup [fC (.str "memory"), fC (.int 0)])]) (sAll []),
  sFor (iRange1 (fUn lenA (fVar 3))) (gVar 4) (sAll [
    sAsg (gVar 5) (fIf (fCmp .Gt (fVar 4) (fC (.int 0))) (fBin ixA (fBin ixA (fVar 3) (fOp .Sub (fVar 4) (fC (.int 1)))) (fC (.int 0))) (fC (.int 0))),
    sIf (fOr (fCmp .Gt (fVar 4) (fC (.int 7))) (fOr (fUn notA (fChain .LtE .LtE (fVar 5) (fBin ixA (fBin ixA (fVar 3) (fVar 4)) (fC (.int 0))) (fC (.int 200)))) (fCmp .GtE (fBin ixA (fBin ixA (fVar 3) (fVar 4)) (fC (.int 1))) (fUn lenA (fVar 1))))) (sAll [
      sRet (fTup [fC (.str "asks"), fVar 4])]) (sAll [])]),
  sRet (fTup [fVar 0, fVar 1, fVar 2, fVar 3])]
noncomputable def f_law_looked : Df := ⟨4, 6, b_law_looked⟩
abbrev n_law_looked : Dn := ("_law_looked", none)
/- law_printable: 0 _law_some -/
noncomputable def b_law_printable : FS := sAll [
  sAsg (gVar 0) (fC (.str " !#$&'()*+,-./0123456789:;<=>?@ABCDEFGHIJKLMNOPQRSTUVWXYZ[]^_")),
  sRet (fOp .Add (fOp .Add (fVar 0) (fC (.str "abcdefghijklmnopqrstuvwxyz{|}~"))) (fC (.str "\"\\")))]
noncomputable def f_law_printable : Df := ⟨0, 1, b_law_printable⟩
abbrev n_law_printable : Dn := ("_law_printable", none)
/- law_spoilt: 0 _law_d, 1 _law_text, 2 _law_way, 3 _law_at, 4 _law_signs, 5 _law_sign, 6 _law_rows, 7 _law_k, 8 _law_words_here, 9 _law_n, 10 _law_odd, 11 _law_some, 12 _law_left, 13 _law_goal -/
noncomputable def b_law_spoilt : FS := sAll [
  sAsg (gTup [gVar 2, gVar 3]) (fTup [fCall ("_law_off", none) [fVar 0, fC (.int 8)], fCall ("_law_off", none) [fVar 0, fOp .Add (fUn lenA (fVar 1)) (fC (.int 1))]]),
  sAsg (gVar 4) (fBin ixA (fLst [fOp .Add (fCall ("_law_printable", none) []) (fC (.str "\n")), fC (.str "0123456789 \n-")]) (fCall ("_law_off", none) [fVar 0, fC (.int 2)])),
  sAsg (gVar 5) (fBin ixA (fVar 4) (fCall ("_law_off", none) [fVar 0, fUn lenA (fVar 4)])),
  sIf (fCmp .Lt (fVar 2) (fC (.int 3))) (sAll [
    sRet (fBin ixA (fLst [fOp .Add (fOp .Add (fSlice (fVar 1) none (some (fVar 3))) (fVar 5)) (fSlice (fVar 1) (some (fVar 3)) none), fOp .Add (fSlice (fVar 1) none (some (fVar 3))) (fSlice (fVar 1) (some (fOp .Add (fVar 3) (fC (.int 1)))) none), fOp .Add (fOp .Add (fSlice (fVar 1) none (some (fVar 3))) (fVar 5)) (fSlice (fVar 1) (some (fOp .Add (fVar 3) (fC (.int 1)))) none)]) (fVar 2))]) (sAll []),
  sAsg (gVar 6) (fMeth "split" (fVar 1) [fC (.str "\n")]),
  sAsg (gVar 7) (fBin ixA (fLst [fCall ("_law_off", none) [fVar 0, fUn lenA (fVar 6)], fOp .Sub (fUn lenA (fVar 6)) (fC (.int 1))]) (fUn intA (fCmp .Eq (fCall ("_law_off", none) [fVar 0, fC (.int 4)]) (fC (.int 0))))),
  sIf (fCmp .Lt (fVar 2) (fC (.int 6))) (sAll [
    sAsg (gVar 8) (fMeth "split" (fBin ixA (fVar 6) (fVar 7)) [fC (.str " ")]),
    sAsg (gVar 9) (fCall ("_law_off", none) [fVar 0, fUn lenA (fVar 8)]),
    sAsg (gVar 10) (fLst [fC (.str ""), fC (.str "00"), fC (.str "1000"), fC (.str "999"), fC (.str "-1"), fC (.str "-"), fC (.str "all"), fC (.str "words"), fC (.str "work"), fC (.str "at"), fC (.str "end"), fC (.str "rest"), fC (.str "03"), fC (.str "32"), fC (.str "6"), fC (.str "Set")]),
    sAsg (gVar 10) (fBin ixA (fVar 10) (fCall ("_law_off", none) [fVar 0, fC (.int 16)])),
    sAsg (gVar 11) (fLst [fOp .Add (fSlice (fVar 8) none (some (fVar 9))) (fSlice (fVar 8) (some (fOp .Add (fVar 9) (fC (.int 1)))) none), fOp .Add (fOp .Add (fSlice (fVar 8) none (some (fVar 9))) (fLst [fBin ixA (fVar 8) (fVar 9)])) (fSlice (fVar 8) (some (fVar 9)) none), fOp .Add (fOp .Add (fSlice (fVar 8) none (some (fVar 9))) (fLst [fVar 10])) (fSlice (fVar 8) (some (fOp .Add (fVar 9) (fC (.int 1)))) none)]),
    sRet (fMeth "join" (fC (.str "\n")) [fOp .Add (fOp .Add (fSlice (fVar 6) none (some (fVar 7))) (fLst [fMeth "join" (fC (.str " ")) [fBin ixA (fVar 11) (fOp .Sub (fVar 2) (fC (.int 3)))]])) (fSlice (fVar 6) (some (fOp .Add (fVar 7) (fC (.int 1)))) none)])]) (sAll []),
  sAsg (gVar 12) (fOp .Add (fSlice (fVar 6) none (some (fVar 7))) (fSlice (fVar 6) (some (fOp .Add (fVar 7) (fC (.int 1)))) none)),
  sIf (fCmp .Eq (fVar 2) (fC (.int 6))) (sAll [
    sRet (fMeth "join" (fC (.str "\n")) [fBin ixA (fLst [fVar 12, fOp .Add (fOp .Add (fSlice (fVar 6) none (some (fVar 7))) (fLst [fBin ixA (fVar 6) (fVar 7)])) (fSlice (fVar 6) (some (fVar 7)) none)]) (fCall ("_law_off", none) [fVar 0, fC (.int 2)])])]) (sAll []),
  sAsg (gVar 13) (fCall ("_law_off", none) [fVar 0, fOp .Add (fUn lenA (fVar 12)) (fC (.int 1))]),
  sRet (fMeth "join" (fC (.str "\n")) [fOp .Add (fOp .Add (fSlice (fVar 12) none (some (fVar 13))) (fLst [fBin ixA (fVar 6) (fVar 7)])) (fSlice (fVar 12) (some (fVar 13)) none)])]
noncomputable def f_law_spoilt : Df := ⟨2, 14, b_law_spoilt⟩
abbrev n_law_spoilt : Dn := ("_law_spoilt", none)
/- law_told: 0 _law_text, 1 _law_found, 2 _law_refused -/
noncomputable def b_law_told : FS := sAll [
  sAsg (gVar 1) (fLst []),
  sAsg (gVar 2) (fCall ("_law_word", none) [fNone]),
  sRet (fIf (fCmp .Is (fVar 2) (fC .non)) (fBin ixA (fVar 1) (fC (.int 0))) (fVar 2))]
noncomputable def f_law_told : Df := ⟨1, 3, b_law_told⟩
abbrev n_law_told : Dn := ("_law_told", none)
/- law_one: 0 _law_work_here, 1 _law_found, 2 _law_refused -/
noncomputable def b_law_one : FS := sAll [
  sAsg (gVar 1) (fLst []),
  sAsg (gVar 2) (fCall ("_law_word", none) [fNone]),
  sRet (fIf (fCmp .Is (fVar 2) (fC .non)) (fVar 1) (fVar 2))]
noncomputable def f_law_one : Df := ⟨1, 3, b_law_one⟩
abbrev n_law_one : Dn := ("_law_one", none)
/- law_all_told: 0 _law_w, 1 _law_program_here, 2 _law_works, 3 _law_memory, 4 _law_asks, 5 _law_low, 6 _law_found, 7 _law_work_here -/
noncomputable def b_law_all_told : FS := sAll [
  sAsg (gTup [gVar 1, gVar 2, gVar 3]) (fTup [fBin ixA (fVar 0) (fC (.str "program")), fBin ixA (fVar 0) (fC (.str "works")), fBin ixA (fVar 0) (fC (.str "memory"))]),
  sAsg (gTup [gVar 4, gVar 5]) (fTup [fBin ixA (fVar 0) (fC (.str "asks")), fBin ixA (fVar 0) (fC (.str "low"))]),
  sAsg (gVar 6) (fLst [fNone, fNone]),
  sAsg (gVar 6) (fOp .Add (fVar 6) (fLst [fNone, fNone])),
  sAsg (gVar 6) (fOp .Add (fVar 6) (fLst [fNone])),
  sAsg (gVar 6) (fOp .Add (fVar 6) (fLst [fNone])),
  sAsg (gVar 6) (fOp .Add (fVar 6) (fLst [fNone])),
  sAsg (gVar 6) (fOp .Add (fVar 6) (fLst [fNone])),
  sAsg (gVar 6) (fOp .Add (fVar 6) (fLst [fNone])),
  sAsg (gVar 6) (fOp .Add (fVar 6) (fLst [fNone])),
  sAsg (gVar 6) (fOp .Add (fVar 6) (fLst [fNone])),
  sAsg (gVar 6) (fOp .Add (fVar 6) (fLst [fNone])),
  sAsg (gVar 6) (fOp .Add (fVar 6) (fLst [fNone])),
  sExpr (fM1 false appendA (fVar 6) (fNone)),
  sRet (fLC [7] (iVal (fVar 6)) (gVar 7) none (fCall ("_law_one", none) [fVar 7]))]
noncomputable def f_law_all_told : Df := ⟨1, 8, b_law_all_told⟩
abbrev n_law_all_told : Dn := ("_law_all_told", none)
/- law_spoil: 0 _law_told, 1 _law_one_here -/
noncomputable def b_law_spoil : FS := sAll [
  sFor (iVal (fVar 0)) (gVar 1) (sAll [
    sIf (fNone) (sAll [
      sExpr (fCall ("_law_spoil", none) [fVar 1])]) (sAll [])]),
  sIf (fUn (isinstA "list") (fVar 0)) (sAll [
    sExpr (fM1 false appendA (fVar 0) (fC (.int 0))),
    sExpr (fMeth "reverse" (fVar 0) [])]) (sAll [])]
noncomputable def f_law_spoil : Df := ⟨1, 2, b_law_spoil⟩
abbrev n_law_spoil : Dn := ("_law_spoil", none)
end SB

/-! The law itself as a combinator (printed by gen2.py). -/
namespace SB
open PySem PySem.Spec PyProof.Rows L2
/- 0 _law_script, 1 _law_d, 2 _law_turn, 3 _law_memory, 4 _law_many, 5 _law_greed, 6 _law_work, 7 _law_rows, 8 _law_program, 9 _law_ask, 10 _law_log, 11 _law_shown, 12 _law_due, 13 _law_k, 14 _law_taken, 15 _law_told, 16 _law_did -/
noncomputable def b_law : FS := sAll [
  sAsg (gVar 1) (fCall ("_law_dice", none) [fVar 0, fC (.int 0)]),
  sFor (iRange1 (fC (.int 3))) (gVar 2) (sAll [
    sAsg (gVar 3) (fLC [13] (iRange1 (fC (.int 32))) (gVar 13) none (fCall ("_law_off", none) [fVar 1, fC (.int 1000)])),
    sAsg (gVar 4) (fOp .Add (fC (.int 1)) (fCall ("_law_off", none) [fVar 1, fC (.int 10)])),
    sAsg (gVar 5) (fBin ixA (fLst [fC (.str "all"), fC (.str "turn"), fC (.str "idle")]) (fCall ("_law_off", none) [fVar 1, fC (.int 3)])),
    sAsg (gVar 6) (fTup [fCall ("_law_off", none) [fVar 1, fC (.int 5)], fC (.int 16), fVar 4, fOp .Add (fC (.int 1)) (fCall ("_law_off", none) [fVar 1, fC (.int 4)]), fVar 5, fC .non, fC .non]),
    sAsg (gVar 7) (fTup [fTup [fC (.str "rest"), fOp .Add (fC (.int 1)) (fCall ("_law_off", none) [fVar 1, fC (.int 9)])], fTup [fC (.str "get"), fC (.int 0), fC (.int 30)], fTup [fC (.str "pair"), fC (.int 1), fC (.int 28)], fTup [fC (.str "add"), fC (.int 0), fC (.int 1)], fTup [fC (.str "set"), fC (.int 2), fC (.int 7)]]),
    sAsg (gVar 8) (fOp .Add (fUn tupleA (fLC [13] (iRange1 (fCall ("_law_off", none) [fVar 1, fC (.int 30)])) (gVar 13) none (fBin ixA (fVar 7) (fCall ("_law_off", none) [fVar 1, fC (.int 5)])))) (fTup [fTup [fC (.str "end")]])),
    sAsg (gVar 9) (fCall ("_law_off", none) [fVar 1, fC (.int 100)]),
    sAsg (gTup [gVar 10, gVar 11]) (fCall ("run", none) [fVar 8, fLst [fVar 6], fVar 3, fLst [fTup [fVar 9, fC (.int 0)]], fC (.int 300)]),
    sAsg (gVar 12) (fUn listA (fVar 3)),
    sFor (iRange1 (fVar 4)) (gVar 13) (sAll [
      sAsg (gIx (fVar 12) (fOp .Add (fC (.int 16)) (fVar 13))) (fBin ixA (fVar 3) (fOp .Add (fBin ixA (fVar 6) (fC (.int 0))) (fVar 13)))]),
    sAsg (gVar 14) (fLC [15, 16] (iVal (fVar 10)) (gTup [gVar 15, gVar 16]) (some (fCmp .IsNot (fVar 15) (fC .non))) (fVar 15)),
    sIf (fOr (fCmp .NotEq (fBin ixA (fVar 11) (fC (.int 3))) (fVar 12)) (fOr (fCmp .NotEq (fBin ixA (fVar 11) (fC (.int 5))) (fLst [])) (fCmp .NotEq (fUn lenA (fVar 14)) (fOp .Mult (fC (.int 2)) (fVar 4))))) (sAll [
      sRet (fC (.bl false))]) (sAll []),
    sIf (fCmp .NotEq (fSlice (fVar 10) none (some (fVar 9))) (fBin ixA (fCall ("run", none) [fVar 8, fLst [], fVar 3, fLst [], fVar 9]) (fC (.int 0)))) (sAll [
      sRet (fC (.bl false))]) (sAll []),
    sIf (fAnd (fCmp .Eq (fVar 5) (fC (.str "all"))) (fCmp .NotEq (fLC [15, 16] (iVal (fSlice (fVar 10) (some (fVar 9)) (some (fOp .Add (fVar 9) (fOp .Mult (fC (.int 2)) (fVar 4)))))) (gTup [gVar 15, gVar 16]) none (fVar 15)) (fVar 14))) (sAll [
      sRet (fC (.bl false))]) (sAll [])]),
  sRet (fC (.bl true))]
noncomputable def f_law : Df := ⟨1, 17, b_law⟩
abbrev n_law : Dn := ("law", none)
end SB

/-! Stepping through combinators. -/
namespace SB
open PySem
/-- the answer, and what is known of it -/
def wp {α : Type} (r : Rs α) (Q : α → AH → Prop) : Prop := ∃ a h', r = some (a, h') ∧ Q a h'
@[simp] theorem wp_some {α : Type} {a : α} {h : AH} {Q : α → AH → Prop} : wp (some (a, h)) Q ↔ Q a h :=
  ⟨fun ⟨_, _, e, q⟩ => by cases e; exact q, fun q => ⟨_, _, rfl, q⟩⟩
@[simp] theorem wp_none {α : Type} {Q : α → AH → Prop} : wp (none : Rs α) Q ↔ False := ⟨fun ⟨_, _, e, _⟩ => (by cases e), False.elim⟩
@[simp] theorem wp_bnd {α β : Type} {r : Rs α} {k : α → AH → Rs β} {Q : β → AH → Prop} : wp (bnd r k) Q ↔ wp r fun a h => wp (k a h) Q := by
  cases r with
  | none => exact ⟨fun ⟨_, _, e, _⟩ => (by cases e), fun ⟨_, _, e, _⟩ => (by cases e)⟩
  | some p =>
    obtain ⟨a, h⟩ := p
    rw [bnd_some, wp_some]
theorem wp_mono {α : Type} {r : Rs α} {Q Q' : α → AH → Prop} (h : wp r Q) (k : ∀ a h', Q a h' → Q' a h') : wp r Q' := by
  obtain ⟨a, h', e, q⟩ := h
  exact ⟨a, h', e, k a h' q⟩
theorem wp_ifB {α : Type} {b : Bool} {t e : Rs α} {Q : α → AH → Prop} : wp (ifB (.bl b) t e) Q ↔ if b = true then wp t Q else wp e Q := by
  cases b <;> simp
theorem wp_ite {α : Type} {c : Prop} [Decidable c] {t e : Rs α} {Q : α → AH → Prop} : wp (if c then t else e) Q ↔ if c then wp t Q else wp e Q := by
  split <;> rfl
/-- nothing that was is changed -/
def Keep (h h' : AH) : Prop := ∀ (i : Nat) (o : AO), h[i]? = some o → h'[i]? = some o
theorem Keep.refl (h : AH) : Keep h h := fun _ _ e => e
theorem Keep.trans {a b c : AH} (x : Keep a b) (y : Keep b c) : Keep a c := fun i o e => y i o (x i o e)
theorem Keep.app (h t : AH) : Keep h (h ++ t) := fun i o e => by
  rw [List.getElem?_append_left (List.getElem?_eq_some_iff.mp e).1]; exact e
theorem Keep.len {h h' : AH} (k : Keep h h') : h.length ≤ h'.length := by
  rcases Nat.eq_zero_or_pos h.length with e | e
  · omega
  · have := k (h.length - 1) h[h.length - 1] (List.getElem?_eq_getElem (by omega))
    have := (List.getElem?_eq_some_iff.mp this).1
    omega
@[simp] theorem wp_alloc {o : AO} {h : AH} {Q : AV → AH → Prop} : wp (alloc o h) Q ↔ Q (.ref h.length) (h ++ [o]) := wp_some
/-! ### the combinators unfolded -/
section
variable {O : Ora} {σ : En} {h : AH} {a b c o : FE} {x y v : AV}
@[simp] theorem s_fVar {i : Nat} : fVar i O σ h = (match σ[i]? with | some (some v) => some (v, h) | _ => none) := rfl
@[simp] theorem s_fC : fC v O σ h = some (v, h) := rfl
@[simp] theorem s_fOp {op : Operator} : fOp op a b O σ h = bnd (a O σ h) fun x h => bnd (b O σ h) fun y h => opA op x y h := rfl
@[simp] theorem s_fCmp {op : CmpOp} : fCmp op a b O σ h = bnd (a O σ h) fun x h => bnd (b O σ h) fun y h => cmpA op x y h := rfl
@[simp] theorem s_fChain {op op' : CmpOp} : fChain op op' a b c O σ h = bnd (a O σ h) fun x h => bnd (b O σ h) fun y h => bnd (cmpA op x y h) fun z h => ifB z (bnd (c O σ h) fun w h => cmpA op' y w h) (some (.bl false, h)) := rfl
@[simp] theorem s_fUn {g : AV → AH → Rs AV} : fUn g a O σ h = bnd (a O σ h) fun x h => g x h := rfl
@[simp] theorem s_fBin {g : AV → AV → AH → Rs AV} : fBin g a b O σ h = bnd (a O σ h) fun x h => bnd (b O σ h) fun y h => g x y h := rfl
@[simp] theorem s_fAnd : fAnd a b O σ h = bnd (a O σ h) fun x h => ifB x (b O σ h) (some (.bl false, h)) := rfl
@[simp] theorem s_fOr : fOr a b O σ h = bnd (a O σ h) fun x h => ifB x (some (.bl true, h)) (b O σ h) := rfl
@[simp] theorem s_fIf : fIf c a b O σ h = bnd (c O σ h) fun x h => ifB x (a O σ h) (b O σ h) := rfl
@[simp] theorem s_aNil : aNil O σ h = some ([], h) := rfl
@[simp] theorem s_aAll0 : aAll [] O σ h = some ([], h) := rfl
@[simp] theorem s_aAll1 {r : List FE} : aAll (a :: r) O σ h = bnd (a O σ h) fun x h => bnd (aAll r O σ h) fun xs h => some (x :: xs, h) := rfl
@[simp] theorem s_fTup {as : List FE} : fTup as O σ h = bnd (aAll as O σ h) fun xs h => if xs.length ≤ lim then some (.tup xs, h) else none := rfl
@[simp] theorem s_fLst {as : List FE} : fLst as O σ h = bnd (aAll as O σ h) fun xs h => if xs.length ≤ lim then alloc (.lst xs) h else none := rfl
@[simp] theorem s_fCall {n : Dn} {as : List FE} : fCall n as O σ h = bnd (aAll as O σ h) fun vs h => O n vs h := rfl
@[simp] theorem s_fMeth {m : Str} {as : List FE} : fMeth m o as O σ h = bnd (o O σ h) fun x h0 => bnd (aAll as O σ h0) fun vs h => callM O m x vs h0 h := rfl
@[simp] theorem s_fM0 {d : Bool} {g : AV → AH → Rs AV} : fM0 d g o O σ h = bnd (o O σ h) fun x h => if isK d h x = true then g x h else none := rfl
@[simp] theorem s_fM1 {d : Bool} {g : AV → AV → AH → Rs AV} : fM1 d g o a O σ h = bnd (o O σ h) fun x h => if isK d h x = true then bnd (a O σ h) fun y h => g x y h else none := rfl
@[simp] theorem s_fDic0 : fDic0 O σ h = alloc (.dic []) h := rfl
@[simp] theorem s_fSlice {l u : Option FE} : fSlice a l u O σ h = bnd (a O σ h) fun x h => bnd (pOpt l O σ h) fun l h => bnd (pOpt u O σ h) fun u h => sliceA l u x h := rfl
@[simp] theorem s_fMake {C : Str} {as : List FE} : fMake C as O σ h = bnd (aAll as O σ h) fun vs h => bnd (O (C, some "__init__") (.ref h.length :: vs) (h ++ [.ins C []])) fun v h' => match v with
    | .non => some (.ref h.length, h')
    | _ => none := rfl
@[simp] theorem s_gVar {i : Nat} : gVar i O v σ h = some (σ.set i (some v), h) := rfl
@[simp] theorem s_gFld {cs : List Str} {f : Str} : gFld cs o f O v σ h = bnd (o O σ h) fun x h => (setFldA cs f x v h).map fun h => (σ, h) := rfl
@[simp] theorem s_gIx : gIx o a O v σ h = bnd (o O σ h) fun x h => bnd (a O σ h) fun y h => (setIxA x y v h).map fun h => (σ, h) := rfl
@[simp] theorem s_gTup {gs : List FG} {xs : List AV} : SB.gTup gs O (.tup xs) σ h = if xs.length = gs.length then gAll gs O xs σ h else none := rfl
@[simp] theorem s_gAll0 : gAll [] O [] σ h = some (σ, h) := rfl
@[simp] theorem s_gAll1 {g : FG} {gs : List FG} {vs : List AV} : gAll (g :: gs) O (v :: vs) σ h = bnd (g O v σ h) fun σ h => gAll gs O vs σ h := rfl
@[simp] theorem s_sNext : sNext O σ h = some (.next σ, h) := rfl
@[simp] theorem s_sSeq {s t : FS} : sSeq s t O σ h = bnd (s O σ h) fun c h => match c with | .next σ => t O σ h | .ret v => some (.ret v, h) := rfl
@[simp] theorem s_sAll0 : sAll [] = sNext := rfl
@[simp] theorem s_sAll1 {s : FS} : sAll [s] = s := rfl
@[simp] theorem s_sAll2 {s t : FS} {r : List FS} : sAll (s :: t :: r) = sSeq s (sAll (t :: r)) := rfl
@[simp] theorem s_sExpr : sExpr a O σ h = bnd (a O σ h) fun _ h => some (.next σ, h) := rfl
@[simp] theorem s_sRet : sRet a O σ h = bnd (a O σ h) fun v h => some (.ret v, h) := rfl
@[simp] theorem s_sAsg {g : FG} : sAsg g a O σ h = bnd (a O σ h) fun v h => bnd (g O v σ h) fun σ h => some (.next σ, h) := rfl
@[simp] theorem s_sIf {s t : FS} : sIf c s t O σ h = bnd (c O σ h) fun x h => ifB x (s O σ h) (t O σ h) := rfl
/-! ### operators -/
@[simp] theorem o_add {i j : Int} : opA .Add (.int i) (.int j) h = some (.int (i + j), h) := rfl
@[simp] theorem o_sub {i j : Int} : opA .Sub (.int i) (.int j) h = some (.int (i - j), h) := rfl
theorem o_mod {i j : Int} (hj : 0 < j) : opA .Mod (.int i) (.int j) h = some (.int (i % j), h) := by
  show (if 0 < j then some (AV.int (i % j), h) else none) = _
  rw [if_pos hj]
theorem o_fdiv {i j : Int} (hj : 0 < j) (hl : j < 1073741824) : opA .FloorDiv (.int i) (.int j) h = some (.int (i / j), h) := by
  show (if 0 < j ∧ j < 1073741824 then some (AV.int (i / j), h) else none) = _
  rw [if_pos ⟨hj, hl⟩]
theorem o_mul {i j : Int} (hj : -(2 ^ 64) < j ∧ j < 2 ^ 64) : opA .Mult (.int i) (.int j) h = some (.int (i * j), h) := by
  show (if (-(2 ^ 64) < i ∧ i < 2 ^ 64) ∨ (-(2 ^ 64) < j ∧ j < 2 ^ 64) then some (AV.int (i * j), h) else none) = _
  rw [if_pos (.inr hj)]
@[simp] theorem eqA_int {i j : Int} : eqA h (.int i) (.int j) = some (decide (i = j)) := by
  unfold eqA toH toD eqD
  simp only
  rw [if_pos ⟨rfl, rfl⟩]
  unfold PyData.eqv
  rfl
@[simp] theorem c_eqI {i j : Int} : cmpA .Eq (.int i) (.int j) h = some (.bl (decide (i = j)), h) := by
  show eqO (.int i) (.int j) h = _; unfold eqO; rw [eqA_int]; rfl
@[simp] theorem c_neI {i j : Int} : cmpA .NotEq (.int i) (.int j) h = some (.bl (!decide (i = j)), h) := by
  show neO (.int i) (.int j) h = _; unfold neO; rw [eqA_int]; rfl
@[simp] theorem c_lt {i j : Int} : cmpA .Lt (.int i) (.int j) h = some (.bl (decide (i < j)), h) := rfl
@[simp] theorem c_le {i j : Int} : cmpA .LtE (.int i) (.int j) h = some (.bl (decide (i ≤ j)), h) := rfl
@[simp] theorem c_gt {i j : Int} : cmpA .Gt (.int i) (.int j) h = some (.bl (decide (j < i)), h) := rfl
@[simp] theorem c_ge {i j : Int} : cmpA .GtE (.int i) (.int j) h = some (.bl (decide (j ≤ i)), h) := rfl
@[simp] theorem c_isN : cmpA .Is x .non h = some (.bl (isNonA x), h) := by cases x <;> rfl
@[simp] theorem c_notN : cmpA .IsNot x .non h = some (.bl (!isNonA x), h) := by cases x <;> rfl
@[simp] theorem o_not {k : Bool} : notA (.bl k) h = some (.bl (!k), h) := rfl
@[simp] theorem o_neg {i : Int} : negA (.int i) h = some (.int (-i), h) := rfl
@[simp] theorem isNon_int {i : Int} : isNonA (.int i) = false := rfl
@[simp] theorem isNon_tup {xs : List AV} : isNonA (.tup xs) = false := rfl
@[simp] theorem isNon_ref {n : Nat} : isNonA (.ref n) = false := rfl
@[simp] theorem isNon_str {z : Str} : isNonA (.str z) = false := rfl
@[simp] theorem isNon_non : isNonA .non = true := rfl
@[simp] theorem le_lim {n : Nat} : (n ≤ lim) = (n ≤ 16777216) := rfl
@[simp] theorem ite_pure {p : Prop} [Decidable p] : (if p then some (x, h) else some (y, h) : Rs AV) = some (if p then x else y, h) := by split <;> rfl
@[simp] theorem ite_bl {p : Prop} [Decidable p] {k l : Bool} : (if p then AV.bl k else AV.bl l) = AV.bl (if p then k else l) := by split <;> rfl
@[simp] theorem ite_int {p : Prop} [Decidable p] {k l : Int} : (if p then AV.int k else AV.int l) = AV.int (if p then k else l) := by split <;> rfl
end
/-! ### the heap's things -/
section
variable {h h' : AH} {a i : Nat} {f C : Str} {fs : List (Str × AV)} {v x : AV} {xs : List AV} {o : AO}
theorem fld_of (ha : h[a]? = some (.ins C fs)) (e : fs.lookup f = some v) : fldA f (.ref a) h = some (v, h) := by
  unfold fldA; simp only [ha, e]; rfl
theorem setFld_of {cs : List Str} (ha : h[a]? = some (.ins C fs)) (hc : C ∈ cs) (hl : fs.length < 1000) : setFldA cs f (.ref a) v h = some (h.set a (.ins C (fput f v fs))) := by
  unfold setFldA; simp only [ha]; rw [if_pos ⟨hc, hl⟩]
theorem atI_nat {α : Type} {xs : List α} {i : Nat} : L2.atI xs (i : Int) = xs[i]? := by
  unfold L2.atI L2.ixN
  rw [if_pos (Int.natCast_nonneg i)]
  by_cases c : i < xs.length
  · rw [if_pos (by omega)]
    simp
  · rw [if_neg (by omega), List.getElem?_eq_none (by omega)]
    rfl
theorem ixN_nat {n i : Nat} (c : i < n) : L2.ixN n (i : Int) = some i := by
  unfold L2.ixN
  rw [if_pos (Int.natCast_nonneg i), if_pos (by omega)]
  simp
theorem ix_lst {i : Nat} (ha : h[a]? = some (.lst xs)) (e : xs[i]? = some v) : ixA (.ref a) (.int i) h = some (v, h) := by
  unfold ixA; simp only [ha]; rw [atI_nat, e]; rfl
theorem ix_tup {i : Nat} (e : xs[i]? = some v) : ixA (.tup xs) (.int i) h = some (v, h) := by
  unfold ixA; simp only []; rw [atI_nat, e]; rfl
theorem setIx_of {i : Nat} (ha : h[a]? = some (.lst xs)) (c : i < xs.length) : setIxA (.ref a) (.int i) v h = some (h.set a (.lst (xs.set i v))) := by
  unfold setIxA; simp only [ha]; rw [ixN_nat c]; rfl
theorem call_of {O : Ora} {m : Str} {vs : List AV} (ha : h[a]? = some (.ins C fs)) (e : fs.lookup m = none) : callM O m (.ref a) vs h h' = O (C, some m) (.ref a :: vs) h' := by
  unfold callM; simp only [ha, e]
theorem len_lst (ha : h[a]? = some (.lst xs)) : lenA (.ref a) h = some (.int xs.length, h) := by
  unfold lenA; simp only [ha]
theorem isK_lst (ha : h[a]? = some (.lst xs)) : isK false h (.ref a) = true := by unfold isK; simp only [ha]; rfl
theorem isK_dic {kvs : List (L2.Key × AV)} (ha : h[a]? = some (.dic kvs)) : isK true h (.ref a) = true := by unfold isK; simp only [ha]
theorem append_of (ha : h[a]? = some (.lst xs)) (hl : xs.length < lim) : appendA (.ref a) v h = some (.non, h.set a (.lst (xs ++ [v]))) := by
  unfold appendA; simp only [ha]; rw [if_pos hl]
theorem list_of (ha : h[a]? = some (.lst xs)) : listA (.ref a) h = alloc (.lst xs) h := by unfold listA; simp only [ha]
theorem setFld_set {cs : List Str} (ha : a < h.length) (hc : C ∈ cs) (hl : fs.length < 1000) : setFldA cs f (.ref a) v (h.set a (.ins C fs)) = some (h.set a (.ins C (fput f v fs))) := by
  rw [setFld_of (List.getElem?_set_self ha) hc hl, List.set_set]
theorem setFld_k {cs : List Str} {fs' : List (Str × AV)} (ha : a < h.length) (hc : C ∈ cs) (hl : fs.length < 1000) (e : fput f v fs = fs') : setFldA cs f (.ref a) v (h.set a (.ins C fs)) = some (h.set a (.ins C fs')) := by
  rw [setFld_set ha hc hl, e]
theorem setFld_0 {cs : List Str} {fs' : List (Str × AV)} (ha : h[a]? = some (.ins C fs)) (hc : C ∈ cs) (hl : fs.length < 1000) (e : fput f v fs = fs') : setFldA cs f (.ref a) v h = some (h.set a (.ins C fs')) := by
  rw [setFld_of ha hc hl, e]
theorem fld_set (ha : a < h.length) (e : fs.lookup f = some v) : fldA f (.ref a) (h.set a (.ins C fs)) = some (v, h.set a (.ins C fs)) := fld_of (List.getElem?_set_self ha) e
theorem lt_of (ha : h[a]? = some o) : a < h.length := (List.getElem?_eq_some_iff.mp ha).1
end
/-- what stands where -/
structure Has (h : AH) (L : List (Nat × AO)) : Prop where
  nd : (L.map (·.1)).Nodup
  at_ : ∀ p ∈ L, h[p.1]? = some p.2
/-- all but these stay -/
structure Fr (own : List Nat) (h h' : AH) : Prop where
  len : h.length ≤ h'.length
  at_ : ∀ (i : Nat) (o : AO), i ∉ own → h[i]? = some o → h'[i]? = some o
section
variable {h h' h2 : AH} {L L1 L2 : List (Nat × AO)} {i : Nat} {o o' : AO} {own own' : List Nat}
theorem Has.get (H : Has h L) {i : Nat} {o : AO} (m : (i, o) ∈ L) : h[i]? = some o := H.at_ _ m
theorem Has.lt (H : Has h L) {i : Nat} {o : AO} (m : (i, o) ∈ L) : i < h.length := (List.getElem?_eq_some_iff.mp (H.get m)).1
theorem Has.app (H : Has h L) (t : AH) : Has (h ++ t) L := ⟨H.nd, fun p hp => Keep.app h t p.1 p.2 (H.at_ p hp)⟩
theorem Has.keep (H : Has h L) (k : Keep h h') : Has h' L := ⟨H.nd, fun p hp => k _ _ (H.at_ p hp)⟩
theorem Has.setAt (H : Has h (L1 ++ (i, o) :: L2)) (o' : AO) : Has (h.set i o') (L1 ++ (i, o') :: L2) := by
  have nd := H.nd
  refine ⟨by simpa using nd, fun p hp => ?_⟩
  have hi : i < h.length := H.lt (o := o) (by simp)
  rw [List.map_append, List.map_cons, List.nodup_append] at nd
  obtain ⟨n1, n2, n3⟩ := nd
  rw [List.nodup_cons] at n2
  rcases List.mem_append.mp hp with hp | hp
  · have ne : i ≠ p.1 := fun e => n3 p.1 (List.mem_map_of_mem hp) i (by simp) e.symm
    rw [List.getElem?_set_ne ne]
    exact H.at_ p (by simp [hp])
  · rcases List.mem_cons.mp hp with hp | hp
    · subst hp; exact List.getElem?_set_self hi
    · have ne : i ≠ p.1 := fun e => n2.1 (e.symm ▸ List.mem_map_of_mem (f := (·.1)) hp)
      rw [List.getElem?_set_ne ne]
      exact H.at_ p (by simp [hp])
theorem Has.new (H : Has h L) (o : AO) : Has (h ++ [o]) (L ++ [(h.length, o)]) := by
  refine ⟨?_, fun p hp => ?_⟩
  · rw [List.map_append, List.nodup_append]
    refine ⟨H.nd, by simp, fun x hx y hy => ?_⟩
    obtain ⟨p, hp, rfl⟩ := List.mem_map.mp hx
    have := H.lt (i := p.1) (o := p.2) hp
    have hy : y = h.length := by simpa using hy
    omega
  · rcases List.mem_append.mp hp with hp | hp
    · exact Keep.app h [o] p.1 p.2 (H.at_ p hp)
    · have : p = (h.length, o) := by simpa using hp
      subst this
      simp
theorem Has.sub (H : Has h L) {M : List (Nat × AO)} (s : M.Sublist L) : Has h M := ⟨H.nd.sublist (s.map _), fun p hp => H.at_ p (s.subset hp)⟩
theorem Has.perm (H : Has h L) {M : List (Nat × AO)} (s : M.Perm L) : Has h M := ⟨(s.map _).nodup_iff.mpr H.nd, fun p hp => H.at_ p (s.mem_iff.mp hp)⟩
theorem Has.fr (H : Has h L) (F : Fr own h h') (d : ∀ p ∈ L, p.1 ∉ own) : Has h' L := ⟨H.nd, fun p hp => F.at_ p.1 p.2 (d p hp) (H.at_ p hp)⟩
theorem Fr.refl (own : List Nat) (h : AH) : Fr own h h := ⟨Nat.le_refl _, fun _ _ _ e => e⟩
theorem Fr.trans (F : Fr own h h') (G : Fr own' h' h2) (s : ∀ i ∈ own', i ∈ own ∨ h.length ≤ i) : Fr own h h2 :=
  ⟨Nat.le_trans F.len G.len, fun i o hi e => G.at_ i o (fun z => (s i z).elim hi fun q => by have := (List.getElem?_eq_some_iff.mp e).1; omega) (F.at_ i o hi e)⟩
theorem Fr.set (hi : i ∈ own) : Fr own h (h.set i o) := ⟨by simp, fun j u hj e => by
  rw [List.getElem?_set_ne (fun z => hj (by rw [← z]; exact hi))]; exact e⟩
theorem Fr.app (t : AH) : Fr own h (h ++ t) := ⟨by simp, fun j u _ e => Keep.app h t j u e⟩
theorem Fr.keep (k : Keep h h') : Fr own h h' := ⟨k.len, fun i o _ e => k i o e⟩
theorem Fr.mono (F : Fr own h h') (s : ∀ i ∈ own, i ∈ own') : Fr own' h h' := ⟨F.len, fun i o hi e => F.at_ i o (fun z => hi (s i z)) e⟩
end
end SB

/-! The hall as a pure thing. -/
namespace SB
open PySem
inductive Greed where
  | all | turn | idle
  deriving DecidableEq
def Greed.s : Greed → Str
  | .all => "all"
  | .turn => "turn"
  | .idle => "idle"
structure Wk where
  b : Nat
  g : Nat
  n : Nat
  k : Nat
  gr : Greed
  mark : Option Nat
  nxt : Option Nat
def optV : Option Nat → AV
  | none => .non
  | some n => .int n
def Wk.av (w : Wk) : AV := .tup [.int w.b, .int w.g, .int w.n, .int w.k, .str w.gr.s, optV w.mark, optV w.nxt]
structure Wk.Ok (many : Nat) (w : Wk) : Prop where
  b : w.b < 32
  g : w.g < 32
  n1 : 1 ≤ w.n
  n2 : w.n ≤ 16
  k1 : 1 ≤ w.k
  k2 : w.k ≤ 4
  mark : ∀ m, w.mark = some m → m < 3
  nxt : ∀ m, w.nxt = some m → m < many
structure Going where
  num : Nat
  moved : Nat
  hand : Option Int
  mine : Nat
structure Dev where
  works : List Wk
  on : List Going
  begun : Nat
  took : Bool
def nilWk : Wk := ⟨0, 0, 1, 1, .all, none, none⟩
def Dev.wk (d : Dev) (g : Going) : Wk := d.works.getD g.num nilWk
def handV : Option Int → AV
  | none => .tup []
  | some i => .tup [.int i]
def Going.av (w : Wk) (g : Going) : AO := .ins "Going" [("number", .int g.num), ("work", w.av), ("moved", .int g.moved), ("hand", handV g.hand), ("mine", .int g.mine)]
def Dev.begin (d : Dev) (n : Nat) : Dev := if n < d.works.length ∧ n ∉ d.on.map (·.num) then { d with on := d.on ++ [⟨n, 0, none, d.begun⟩], begun := d.begun + 1 } else d
def held (w : Wk) (g : Going) (marks : List Bool) : Bool := decide (g.hand = none) && decide (g.moved % w.k = 0) && (match w.mark with
  | none => false
  | some m => marks.getD m false)
def mayTake (w : Wk) (wanted took : Bool) : Bool := match w.gr with
  | .idle => !wanted
  | .all => true
  | .turn => !(wanted && took)
def Dev.sorted (d : Dev) : List Going := (isort (d.on.map fun g => (g.num : Int))).filterMap fun i => d.on.find? fun g => decide ((g.num : Int) = i)
def Dev.chosen (d : Dev) (marks : List Bool) (wanted : Bool) : Option Going := d.sorted.find? fun g => !held (d.wk g) g marks && mayTake (d.wk g) wanted d.took
inductive Row where
  | set (r n : Nat) | add (r s : Nat) | less (r s : Nat) | get (r a : Nat) | getx (r s : Nat) | put (a r : Nat) | putx (r s : Nat) | pair (r a : Nat) | lay (a r : Nat)
  | go (l : Nat) | iff (r l : Nat) | ask (w : Nat) | done (r w : Nat) | mark (m : Nat) | clear (m : Nat) | rest (b : Nat) | fin
  deriving DecidableEq
def Row.av : Row → AV
  | .set r n => .tup [.str "set", .int r, .int n]
  | .add r s => .tup [.str "add", .int r, .int s]
  | .less r s => .tup [.str "less", .int r, .int s]
  | .get r a => .tup [.str "get", .int r, .int a]
  | .getx r s => .tup [.str "getx", .int r, .int s]
  | .put a r => .tup [.str "put", .int a, .int r]
  | .putx r s => .tup [.str "putx", .int r, .int s]
  | .pair r a => .tup [.str "pair", .int r, .int a]
  | .lay a r => .tup [.str "lay", .int a, .int r]
  | .go l => .tup [.str "go", .int l]
  | .iff r l => .tup [.str "if", .int r, .int l]
  | .ask w => .tup [.str "ask", .int w]
  | .done r w => .tup [.str "done", .int r, .int w]
  | .mark m => .tup [.str "mark", .int m]
  | .clear m => .tup [.str "clear", .int m]
  | .rest b => .tup [.str "rest", .int b]
  | .fin => .tup [.str "end"]
def Row.Ok (many : Nat) : Row → Prop
  | .set r n => r < 4 ∧ n < 1000
  | .add r s => r < 4 ∧ s < 4
  | .less r s => r < 4 ∧ s < 4
  | .get r a => r < 4 ∧ a < 32
  | .getx r s => r < 4 ∧ s < 4
  | .put a r => a < 32 ∧ r < 4
  | .putx r s => r < 4 ∧ s < 4
  | .pair r a => r < 3 ∧ a < 32
  | .lay a r => a < 32 ∧ r < 3
  | .go l => l < many
  | .iff r l => r < 4 ∧ l < many
  | .ask w => w < 6
  | .done r w => r < 4 ∧ w < 6
  | .mark m => m < 3
  | .clear m => m < 3
  | .rest b => 1 ≤ b ∧ b ≤ 9
  | .fin => True
def Row.wants : Row → Bool
  | .get _ _ | .getx _ _ | .put _ _ | .putx _ _ | .pair _ _ | .lay _ _ => true
  | _ => false
def Row.beats : Row → Nat
  | .pair _ _ | .lay _ _ => 2
  | .rest b => b
  | _ => 1
/-! leaf defs -/
theorem sp_between (O : Ora) (x a b : Int) (h : AH) : wp (f_is_between.run O [.int x, .int a, .int b] h) fun v h' => v = .bl (decide (a ≤ x) && decide (x ≤ b)) ∧ h' = h := by
  by_cases c : a ≤ x <;> simp [f_is_between, Df.run, b_is_between, isinstA, tyA, isTy, c]
theorem sp_wants (O : Ora) (r : Row) (h : AH) : wp (f_wants_bus.run O [r.av] h) fun v h' => v = .bl r.wants ∧ h' = h := by
  cases r <;> exact ⟨_, _, by kernel_rfl, by rfl, rfl⟩
theorem sp_beats (O : Ora) (r : Row) (h : AH) : wp (f_beats_of.run O [r.av] h) fun v h' => v = .int r.beats ∧ h' = h := by
  cases r <;> exact ⟨_, _, by kernel_rfl, by rfl, rfl⟩
section
variable {h : AH} {a : Nat} {w : Wk} {g : Going}
theorem go_num (ha : h[a]? = some (g.av w)) : fldA "number" (.ref a) h = some (.int g.num, h) := fld_of ha (by kernel_rfl)
theorem go_work (ha : h[a]? = some (g.av w)) : fldA "work" (.ref a) h = some (w.av, h) := fld_of ha (by kernel_rfl)
theorem go_moved (ha : h[a]? = some (g.av w)) : fldA "moved" (.ref a) h = some (.int g.moved, h) := fld_of ha (by kernel_rfl)
theorem go_hand (ha : h[a]? = some (g.av w)) : fldA "hand" (.ref a) h = some (handV g.hand, h) := fld_of ha (by kernel_rfl)
theorem go_mine (ha : h[a]? = some (g.av w)) : fldA "mine" (.ref a) h = some (.int g.mine, h) := fld_of ha (by kernel_rfl)
theorem go_setHand (ha : h[a]? = some (g.av w)) (x : Option Int) : setFldA ["Going"] "hand" (.ref a) (handV x) h = some (h.set a ({ g with hand := x }.av w)) := by
  rw [setFld_of ha (by decide) (by simp)]
  exact congrArg (fun o => some (h.set a o)) (by kernel_rfl)
theorem go_setMoved (ha : h[a]? = some (g.av w)) (n : Nat) : setFldA ["Going"] "moved" (.ref a) (.int n) h = some (h.set a ({ g with moved := n }.av w)) := by
  rw [setFld_of ha (by decide) (by simp)]
  exact congrArg (fun o => some (h.set a o)) (by kernel_rfl)
@[simp] theorem wk0 : ixA w.av (.int 0) h = some (.int w.b, h) := rfl
@[simp] theorem wk1 : ixA w.av (.int 1) h = some (.int w.g, h) := rfl
@[simp] theorem wk2 : ixA w.av (.int 2) h = some (.int w.n, h) := rfl
@[simp] theorem wk3 : ixA w.av (.int 3) h = some (.int w.k, h) := rfl
@[simp] theorem wk4 : ixA w.av (.int 4) h = some (.str w.gr.s, h) := rfl
@[simp] theorem wk5 : ixA w.av (.int 5) h = some (optV w.mark, h) := rfl
@[simp] theorem wk6 : ixA w.av (.int 6) h = some (optV w.nxt, h) := rfl
@[simp] theorem hand_ne {x : Option Int} : cmpA .NotEq (handV x) (.tup []) h = some (.bl (!decide (x = none)), h) := by
  cases x <;> rfl
@[simp] theorem hand_eq {x : Option Int} : cmpA .Eq (handV x) (.tup []) h = some (.bl (decide (x = none)), h) := by
  cases x <;> rfl
@[simp] theorem optN {o : Option Nat} : isNonA (optV o) = decide (o = none) := by cases o <;> rfl
end
theorem sp_held (O : Ora) (w : Wk) (g : Going) (marks : List Bool) {h : AH} {a k : Nat} (ha : h[a]? = some (g.av w)) (hk : h[k]? = some (.lst (marks.map .bl))) (hm : ∀ m, w.mark = some m → m < marks.length) (hk1 : 1 ≤ w.k) :
    f_Going_is_held.run O [.ref a, .ref k] h = some (.bl (held w g marks), h) := by
  have p := o_mod (h := h) (i := (g.moved : Int)) (j := (w.k : Int)) (by omega)
  have e1 : ((g.moved : Int) % (w.k : Int) = 0) ↔ g.moved % w.k = 0 := by omega
  cases hw : w.mark with
  | none =>
    by_cases c1 : g.hand = none <;> by_cases c2 : g.moved % w.k = 0 <;> simp [f_Going_is_held, Df.run, b_Going_is_held, go_hand ha, go_moved ha, go_work ha, p, hw, held, c1, c2, e1]
  | some m =>
    have ix : ixA (.ref k) (.int (m : Int)) h = some (.bl (marks.getD m false), h) := by
      refine ix_lst hk ?_
      have := hm m hw
      simp [List.getD, this]
    by_cases c1 : g.hand = none <;> by_cases c2 : g.moved % w.k = 0 <;> simp [f_Going_is_held, Df.run, b_Going_is_held, go_hand ha, go_moved ha, go_work ha, p, hw, held, c1, c2, e1, optV, ix]
theorem sp_mayTake (O : Ora) (w : Wk) (g : Going) (wanted took : Bool) {h : AH} {a : Nat} (ha : h[a]? = some (g.av w)) :
    f_Going_may_take.run O [.ref a, .bl wanted, .bl took] h = some (.bl (mayTake w wanted took), h) := by
  have i1 : ∀ h, cmpA .Eq (.str (Greed.all.s)) (.str "idle") h = some (.bl false, h) := fun h => by kernel_rfl
  have i2 : ∀ h, cmpA .Eq (.str (Greed.turn.s)) (.str "idle") h = some (.bl false, h) := fun h => by kernel_rfl
  have i3 : ∀ h, cmpA .Eq (.str (Greed.idle.s)) (.str "idle") h = some (.bl true, h) := fun h => by kernel_rfl
  have j1 : ∀ h, cmpA .Eq (.str (Greed.all.s)) (.str "all") h = some (.bl true, h) := fun h => by kernel_rfl
  have j2 : ∀ h, cmpA .Eq (.str (Greed.turn.s)) (.str "all") h = some (.bl false, h) := fun h => by kernel_rfl
  cases hg : w.gr <;> simp [f_Going_may_take, Df.run, b_Going_may_take, go_work ha, hg, i1, i2, i3, j1, j2, mayTake]
theorem sp_going_init (O : Ora) (w : Wk) (n mine : Nat) {h : AH} {a : Nat} (ha : h[a]? = some (.ins "Going" [])) :
    f_Going_init.run O [.ref a, .int n, w.av, .int mine] h = some (.non, h.set a (Going.av w ⟨n, 0, none, mine⟩)) := by
  have hl := lt_of ha
  have s1 : ∀ v, setFldA ["Going"] "number" (.ref a) v h = some (h.set a (.ins "Going" [("number", v)])) := fun v => setFld_0 ha (by decide) (by simp) (by kernel_rfl)
  have s2 : ∀ v v1, setFldA ["Going"] "work" (.ref a) v (h.set a (.ins "Going" [("number", v1)])) = some (h.set a (.ins "Going" [("number", v1), ("work", v)])) := fun v v1 => setFld_k hl (by decide) (by simp) (by kernel_rfl)
  have s3 : ∀ v v1 v2, setFldA ["Going"] "moved" (.ref a) v (h.set a (.ins "Going" [("number", v1), ("work", v2)])) = some (h.set a (.ins "Going" [("number", v1), ("work", v2), ("moved", v)])) := fun v v1 v2 => setFld_k hl (by decide) (by simp) (by kernel_rfl)
  have s4 : ∀ v v1 v2 v3, setFldA ["Going"] "hand" (.ref a) v (h.set a (.ins "Going" [("number", v1), ("work", v2), ("moved", v3)])) = some (h.set a (.ins "Going" [("number", v1), ("work", v2), ("moved", v3), ("hand", v)])) := fun v v1 v2 v3 => setFld_k hl (by decide) (by simp) (by kernel_rfl)
  have s5 : ∀ v v1 v2 v3 v4, setFldA ["Going"] "mine" (.ref a) v (h.set a (.ins "Going" [("number", v1), ("work", v2), ("moved", v3), ("hand", v4)])) = some (h.set a (.ins "Going" [("number", v1), ("work", v2), ("moved", v3), ("hand", v4), ("mine", v)])) := fun v v1 v2 v3 v4 => setFld_k hl (by decide) (by simp) (by kernel_rfl)
  simp [f_Going_init, Df.run, b_Going_init, s1, s2, s3, s4, s5]
  rfl
end SB

/-! The device. -/
namespace SB
open PySem
open L2 (Key)
structure HAd where
  a : Nat
  m : Nat
  q : Nat
  v : Nat
  w : Nat
  o : Nat
  c : Nat
  k : Nat
  e : Nat
  G : List (Nat × Going)
def onKv (G : List (Nat × Going)) : List (Key × AV) := G.map fun p => (.inl (p.2.num : Int), .ref p.1)
def goL (ws : List Wk) (G : List (Nat × Going)) : List (Nat × AO) := G.map fun p => (p.1, p.2.av (ws.getD p.2.num nilWk))
def devO (A : HAd) (d : Dev) : AO := .ins "Device" [("works", .ref A.w), ("on", .ref A.o), ("begun", .int d.begun), ("took", .bl d.took)]
def devL (A : HAd) (d : Dev) : List (Nat × AO) := (A.v, devO A d) :: (A.w, .lst (d.works.map Wk.av)) :: (A.o, .dic (onKv A.G)) :: goL d.works A.G
def HAd.dev (A : HAd) : List Nat := A.v :: A.w :: A.o :: A.G.map (·.1)
structure DevAt (h : AH) (A : HAd) (d : Dev) : Prop where
  on : A.G.map (·.2) = d.on
  has : Has h (devL A d)
structure Dev.Ok (d : Dev) : Prop where
  ws : d.works.length ≤ 6
  wk : ∀ w ∈ d.works, w.Ok d.works.length
  nd : (d.on.map (·.num)).Nodup
  lt : ∀ g ∈ d.on, g.num < d.works.length
theorem Dev.Ok.len {d : Dev} (k : d.Ok) : d.on.length ≤ 6 := by
  have : (d.on.map (·.num)).length ≤ (List.range d.works.length).length := by
    refine List.Nodup.length_le_of_subset k.nd fun x hx => ?_
    obtain ⟨g, hg, rfl⟩ := List.mem_map.mp hx
    exact List.mem_range.mpr (k.lt g hg)
  rw [List.length_map, List.length_range] at this
  have := k.ws
  omega
theorem Dev.begin_ok {d : Dev} (k : d.Ok) (n : Nat) : (d.begin n).Ok := by
  unfold Dev.begin
  split
  · rename_i c
    refine ⟨k.ws, k.wk, ?_, fun g hg => ?_⟩
    · rw [List.map_append, List.nodup_append]
      refine ⟨k.nd, by simp, fun x hx y hy => ?_⟩
      have : y = n := by simpa using hy
      subst this
      exact fun e => c.2 (e ▸ hx)
    · rcases List.mem_append.mp hg with hg | hg
      · exact k.lt g hg
      · have : g = ⟨n, 0, none, d.begun⟩ := by simpa using hg
        subst this
        exact c.1
  · exact k
section
variable {h : AH} {A : HAd} {d : Dev}
theorem DevAt.v (D : DevAt h A d) : h[A.v]? = some (devO A d) := D.has.get (by simp [devL])
theorem DevAt.w (D : DevAt h A d) : h[A.w]? = some (.lst (d.works.map Wk.av)) := D.has.get (by simp [devL])
theorem DevAt.o (D : DevAt h A d) : h[A.o]? = some (.dic (onKv A.G)) := D.has.get (by simp [devL])
theorem DevAt.g (D : DevAt h A d) {p : Nat × Going} (hp : p ∈ A.G) : h[p.1]? = some (p.2.av (d.wk p.2)) := D.has.get (by simp only [devL, List.mem_cons]; exact .inr (.inr (.inr (List.mem_map.mpr ⟨p, hp, rfl⟩))))
theorem dv_works (D : DevAt h A d) : fldA "works" (.ref A.v) h = some (.ref A.w, h) := fld_of D.v (by kernel_rfl)
theorem dv_on (D : DevAt h A d) : fldA "on" (.ref A.v) h = some (.ref A.o, h) := fld_of D.v (by kernel_rfl)
theorem dv_begun (D : DevAt h A d) : fldA "begun" (.ref A.v) h = some (.int d.begun, h) := fld_of D.v (by kernel_rfl)
theorem dv_took (D : DevAt h A d) : fldA "took" (.ref A.v) h = some (.bl d.took, h) := fld_of D.v (by kernel_rfl)
theorem onKv_dval (G : List (Nat × Going)) (n : Nat) : dval (onKv G) (.inl (n : Int)) = (G.find? fun p => decide (p.2.num = n)).map fun p => .ref p.1 := by
  unfold dval onKv
  induction G with
  | nil => rfl
  | cons p r ih =>
    rw [List.map_cons, List.find?_cons, List.find?_cons]
    by_cases c : p.2.num = n
    · have : (Sum.inl (p.2.num : Int) : Key) = .inl (n : Int) := by rw [c]
      simp [c]
    · have : ¬ (Sum.inl (p.2.num : Int) : Key) = .inl (n : Int) := fun e => c (by have := Sum.inl.inj e; omega)
      simp only [c, this, decide_false]
      exact ih
theorem DevAt.mem_num (D : DevAt h A d) (n : Nat) : (A.G.find? fun p => decide (p.2.num = n)).isSome = decide (n ∈ d.on.map (·.num)) := by
  rw [← D.on]
  rw [Bool.eq_iff_iff, List.find?_isSome]
  simp
theorem in_on (D : DevAt h A d) (n : Nat) : cmpA .In (.int (n : Int)) (.ref A.o) h = some (.bl (decide (n ∈ d.on.map (·.num))), h) := by
  show inO _ _ h = _
  unfold inO inA
  simp only [D.o]
  show ((keyOf (.int (n : Int))).map fun k => (dval (onKv A.G) k).isSome).map _ = _
  simp only [keyOf, Option.map_some]
  rw [onKv_dval, Option.isSome_map, D.mem_num]
theorem notin_on (D : DevAt h A d) (n : Nat) : cmpA .NotIn (.int (n : Int)) (.ref A.o) h = some (.bl (!decide (n ∈ d.on.map (·.num))), h) := by
  show ninO _ _ h = _
  unfold ninO inA
  simp only [D.o]
  show ((keyOf (.int (n : Int))).map fun k => (dval (onKv A.G) k).isSome).map _ = _
  simp only [keyOf, Option.map_some]
  rw [onKv_dval, Option.isSome_map, D.mem_num]
end
/-- going on: only what is owned is changed; what is owned then was so, or is new -/
structure Adv (own own' : List Nat) (h h' : AH) : Prop where
  fr : Fr own h h'
  new : ∀ i ∈ own', i ∈ own ∨ h.length ≤ i
theorem Adv.refl (own : List Nat) (h : AH) : Adv own own h h := ⟨Fr.refl _ _, fun i hi => .inl hi⟩
theorem Adv.trans {o1 o2 o3 : List Nat} {a b c : AH} (x : Adv o1 o2 a b) (y : Adv o2 o3 b c) : Adv o1 o3 a c :=
  ⟨x.fr.trans y.fr x.new, fun i hi => (y.new i hi).elim (x.new i) fun q => .inr (Nat.le_trans x.fr.len q)⟩
def S_going_init (O : Ora) : Prop := ∀ (h : AH) (a n mine : Nat) (w : Wk), h[a]? = some (.ins "Going" []) → O n_Going_init [.ref a, .int n, w.av, .int mine] h = some (.non, h.set a (Going.av w ⟨n, 0, none, mine⟩))
def HAd.fix (A B : HAd) : Prop := ∃ G, B = { A with G := G }
def S_begin (O : Ora) : Prop := ∀ (h : AH) (A : HAd) (d : Dev) (n : Nat), DevAt h A d → d.Ok → ∃ G h', O n_Device_begin [.ref A.v, .int n] h = some (.non, h') ∧ DevAt h' { A with G := G } (d.begin n) ∧ Adv A.dev ({ A with G := G } : HAd).dev h h'
theorem set_app {h : AH} {o o' : AO} : (h ++ [o]).set h.length o' = h ++ [o'] := by
  rw [List.set_append_right h.length o' (Nat.le_refl _)]; simp
theorem sp_begin {O : Ora} (hgi : S_going_init O) {h : AH} {A : HAd} {d : Dev} {n : Nat} (D : DevAt h A d) (ok : d.Ok) :
    ∃ G h', f_Device_begin.run O [.ref A.v, .int n] h = some (.non, h') ∧ DevAt h' { A with G := G } (d.begin n) ∧ Adv A.dev ({ A with G := G } : HAd).dev h h' := by
  by_cases c : n < d.works.length ∧ n ∉ d.on.map (·.num)
  · obtain ⟨c1, c2⟩ := c
    have lw := len_lst D.w
    have ix : ixA (.ref A.w) (.int (n : Int)) h = some ((d.works.getD n nilWk).av, h) := ix_lst D.w (by simp [List.getD, c1])
    have ini := hgi (h ++ [.ins "Going" []]) h.length n d.begun (d.works.getD n nilWk) (by simp)
    rw [set_app] at ini
    generalize hW : d.works.getD n nilWk = W at ix ini
    have nin : cmpA .NotIn (.int (n : Int)) (.ref A.o) h = some (.bl true, h) := by rw [notin_on D n]; simp [c2]
    have kl : (onKv A.G).length < lim := by
      have h1 := ok.len
      rw [← D.on, List.length_map] at h1
      unfold onKv
      rw [List.length_map]
      show A.G.length < 16777216
      omega
    have hput : dput (onKv A.G) (.inl (n : Int)) (.ref h.length) = onKv (A.G ++ [(h.length, ⟨n, 0, none, d.begun⟩)]) := by
      have : (onKv A.G).any (fun kv => decide (kv.1 = .inl (n : Int))) = false := by
        rw [List.any_eq_false]
        intro kv hkv
        obtain ⟨p, hp, rfl⟩ := List.mem_map.mp hkv
        have : p.2.num ≠ n := fun e => c2 (by rw [← D.on, List.map_map]; exact List.mem_map.mpr ⟨p, hp, e⟩)
        simp only [decide_eq_true_eq]
        exact fun e => this (by have := Sum.inl.inj e; omega)
      unfold dput
      rw [this]
      simp [onKv]
    have D2 := D.has.new (Going.av W ⟨n, 0, none, d.begun⟩)
    have o2 := D2.get (i := A.o) (o := .dic (onKv A.G)) (by simp [devL])
    have si : setIxA (.ref A.o) (.int (n : Int)) (.ref h.length) (h ++ [Going.av W ⟨n, 0, none, d.begun⟩]) = some ((h ++ [Going.av W ⟨n, 0, none, d.begun⟩]).set A.o (.dic (onKv (A.G ++ [(h.length, ⟨n, 0, none, d.begun⟩)])))) := by
      unfold setIxA
      simp only [o2]
      rw [if_pos kl]
      show some _ = _
      simp only [hput]
    have D3 := Has.setAt (L1 := [(A.v, devO A d), (A.w, .lst (d.works.map Wk.av))]) (L2 := goL d.works A.G ++ [(h.length, Going.av W ⟨n, 0, none, d.begun⟩)]) D2 (.dic (onKv (A.G ++ [(h.length, ⟨n, 0, none, d.begun⟩)])))
    have v3 := D3.get (i := A.v) (o := devO A d) (by simp)
    have D4 := Has.setAt (L1 := []) D3 (devO { A with G := A.G ++ [(h.length, ⟨n, 0, none, d.begun⟩)] } (d.begin n))
    have on3 : ∀ hh : AH, hh[A.v]? = some (devO A d) → fldA "begun" (.ref A.v) hh = some (.int d.begun, hh) := fun hh e => fld_of e (by kernel_rfl)
    have on1 : ∀ hh : AH, hh[A.v]? = some (devO A d) → fldA "on" (.ref A.v) hh = some (.ref A.o, hh) := fun hh e => fld_of e (by kernel_rfl)
    have v2 := D2.get (i := A.v) (o := devO A d) (by simp [devL])
    have sb : setFldA ["Device"] "begun" (.ref A.v) (.int ((d.begun : Int) + 1)) ((h ++ [Going.av W ⟨n, 0, none, d.begun⟩]).set A.o (.dic (onKv (A.G ++ [(h.length, ⟨n, 0, none, d.begun⟩)])))) = some ((((h ++ [Going.av W ⟨n, 0, none, d.begun⟩]).set A.o (.dic (onKv (A.G ++ [(h.length, ⟨n, 0, none, d.begun⟩)])))).set A.v (devO { A with G := A.G ++ [(h.length, ⟨n, 0, none, d.begun⟩)] } (d.begin n)))) := by
      refine setFld_0 v3 (by decide) (by simp) ?_
      unfold Dev.begin
      rw [if_pos ⟨c1, c2⟩]
      kernel_rfl
    refine ⟨A.G ++ [(h.length, ⟨n, 0, none, d.begun⟩)], ((h ++ [Going.av W ⟨n, 0, none, d.begun⟩]).set A.o (.dic (onKv (A.G ++ [(h.length, ⟨n, 0, none, d.begun⟩)])))).set A.v (devO { A with G := A.G ++ [(h.length, ⟨n, 0, none, d.begun⟩)] } (d.begin n)), ?_, ⟨?_, ?_⟩, ⟨?_, ?_⟩⟩
    · simp [f_Device_begin, Df.run, b_Device_begin, dv_works D, dv_on D, dv_begun D, lw, nin, c1, ix, ini, on1 _ v2, si, on3 _ v3, sb]
    · show (A.G ++ [_]).map (fun p : Nat × Going => p.2) = (d.begin n).on
      unfold Dev.begin
      rw [if_pos ⟨c1, c2⟩, List.map_append, D.on]
      rfl
    · have e : (d.begin n).works = d.works := by unfold Dev.begin; split <;> rfl
      have : devL { A with G := A.G ++ [(h.length, ⟨n, 0, none, d.begun⟩)] } (d.begin n) = (A.v, devO { A with G := A.G ++ [(h.length, ⟨n, 0, none, d.begun⟩)] } (d.begin n)) :: (A.w, .lst (d.works.map Wk.av)) :: (A.o, .dic (onKv (A.G ++ [(h.length, ⟨n, 0, none, d.begun⟩)]))) :: (goL d.works A.G ++ [(h.length, Going.av W ⟨n, 0, none, d.begun⟩)]) := by
        unfold devL
        rw [e]
        simp only [goL, List.map_append, List.map_cons, List.map_nil, hW]
      rw [this]
      exact D4
    · refine Fr.trans (own' := A.dev) (Fr.app _) (Fr.trans (own' := A.dev) (Fr.set (by simp [HAd.dev])) (Fr.set (by simp [HAd.dev])) fun i hi => .inl hi) fun i hi => .inl hi
    · intro i hi
      simp only [HAd.dev, List.map_append, List.map_cons, List.map_nil, List.mem_cons, List.mem_append, List.not_mem_nil, or_false] at hi ⊢
      rcases hi with hi | hi | hi | hi | hi
      · exact .inl (.inl hi)
      · exact .inl (.inr (.inl hi))
      · exact .inl (.inr (.inr (.inl hi)))
      · exact .inl (.inr (.inr (.inr hi)))
      · exact .inr (by omega)
  · refine ⟨A.G, h, ?_, ?_, Adv.refl _ _⟩
    · have lw := len_lst D.w
      by_cases c1 : n < d.works.length
      · have c2 : n ∈ d.on.map (·.num) := by
          by_cases c2 : n ∈ d.on.map (·.num)
          · exact c2
          · exact absurd ⟨c1, c2⟩ c
        have nin := notin_on D n
        simp only [c2, decide_true, Bool.not_true] at nin
        simp [f_Device_begin, Df.run, b_Device_begin, dv_works D, dv_on D, lw, nin, c1]
      · simp [f_Device_begin, Df.run, b_Device_begin, dv_works D, dv_on D, lw, c1]
    · unfold Dev.begin
      rw [if_neg c]
      exact D
theorem loop_find {ok : AH → Prop} {g : FG} {body : FS} {O : Ora} {h : AH} (hok : ok h) (P : En → Prop) (t : AV → Option AV) : ∀ (xs : List AV), (∀ x ∈ xs, ∀ σ, P σ → ∃ σ1, bnd (g O x σ h) (fun σ h => body O σ h) = some ((match t x with | some v => .ret v | none => .next σ1), h) ∧ P σ1) →
    ∀ σ, P σ → ∃ σ', loopF ok g body O xs σ h = some ((match xs.findSome? t with | some v => .ret v | none => .next σ'), h) ∧ P σ'
  | [], _, σ, hp => ⟨σ, by unfold loopF; rw [if_pos hok]; rfl, hp⟩
  | x :: xs, hb, σ, hp => by
    obtain ⟨σ1, e, hp1⟩ := hb x (by simp) σ hp
    cases ht : t x with
    | some v =>
      refine ⟨σ1, ?_, hp1⟩
      unfold loopF
      rw [if_pos hok, List.findSome?_cons, ht]
      rw [ht] at e
      cases q : g O x σ h with
      | none => rw [q] at e; cases e
      | some pr =>
        rw [q, bnd_some] at e
        rw [bnd_some, e]
        rfl
    | none =>
      obtain ⟨σ2, e2, hp2⟩ := loop_find hok P t xs (fun y hy => hb y (by simp [hy])) σ1 hp1
      refine ⟨σ2, ?_, hp2⟩
      unfold loopF
      rw [if_pos hok, List.findSome?_cons, ht]
      rw [ht] at e
      cases q : g O x σ h with
      | none => rw [q] at e; cases e
      | some pr =>
        rw [q, bnd_some] at e
        rw [bnd_some, e]
        exact e2
def sortG (G : List (Nat × Going)) : List (Nat × Going) := (isort (G.map fun p => (p.2.num : Int))).filterMap fun i => G.find? fun p => decide ((p.2.num : Int) = i)
def pick (d : Dev) (marks : List Bool) (wanted : Bool) (p : Nat × Going) : Bool := !held (d.wk p.2) p.2 marks && mayTake (d.wk p.2) wanted d.took
def chosenG (A : HAd) (d : Dev) (marks : List Bool) (wanted : Bool) : Option (Nat × Going) := (sortG A.G).find? (pick d marks wanted)
theorem sortG_map {A : HAd} {d : Dev} (e : A.G.map (·.2) = d.on) : (sortG A.G).map (·.2) = d.sorted := by
  unfold sortG Dev.sorted
  rw [← e, List.map_map, List.map_filterMap]
  congr 1
  funext i
  rw [List.find?_map]
  rfl
theorem chosenG_map {A : HAd} {d : Dev} {marks : List Bool} {wanted : Bool} (e : A.G.map (·.2) = d.on) : (chosenG A d marks wanted).map (·.2) = d.chosen marks wanted := by
  unfold chosenG Dev.chosen
  rw [← sortG_map e, List.find?_map]
  rfl
theorem sortG_mem {G : List (Nat × Going)} {p : Nat × Going} (h : p ∈ sortG G) : p ∈ G := by
  obtain ⟨i, _, e⟩ := List.mem_filterMap.mp h
  exact List.mem_of_find?_eq_some e
theorem intsOf_map : ∀ xs : List Int, intsOf (xs.map .int) = some xs
  | [] => rfl
  | x :: r => by rw [List.map_cons, intsOf, intsOf_map r]; rfl
def keysV (d : Dev) : List AV := (isort (d.on.map fun g => (g.num : Int))).map .int
theorem sorted_on {h : AH} {A : HAd} {d : Dev} (D : DevAt h A d) (ok : d.Ok) : sortedA (.ref A.o) h = alloc (.lst (keysV d)) h := by
  have e1 : intsOf ((onKv A.G).map fun kv => keyV kv.1) = some (d.on.map fun g => (g.num : Int)) := by
    have : ((onKv A.G).map fun kv => keyV kv.1) = (d.on.map fun g => (g.num : Int)).map .int := by
      rw [← D.on]
      simp [onKv, keyV, Function.comp_def]
    rw [this, intsOf_map]
  have l1 := ok.len
  rw [← D.on, List.length_map] at l1
  unfold sortedA
  simp only [D.o]
  rw [if_pos (by unfold onKv; rw [List.length_map]; omega), e1]
  rfl
theorem onIx {h : AH} {A : HAd} {d : Dev} (D : DevAt h A d) (i : Int) {p : Nat × Going} (e : A.G.find? (fun p => decide ((p.2.num : Int) = i)) = some p) : ixA (.ref A.o) (.int i) h = some (.ref p.1, h) := by
  have hp : (p.2.num : Int) = i := by simpa using List.find?_some e
  subst hp
  have e' : A.G.find? (fun q => decide (q.2.num = p.2.num)) = some p := by
    rw [← e]
    congr 1
    funext q
    simp
    omega
  unfold ixA
  simp only [D.o]
  show (keyOf (.int (p.2.num : Int))).bind _ = _
  simp only [keyOf, Option.bind_some]
  rw [onKv_dval, e']
  rfl
def S_held (O : Ora) : Prop := ∀ (w : Wk) (g : Going) (marks : List Bool) (h : AH) (a k : Nat), h[a]? = some (g.av w) → h[k]? = some (.lst (marks.map .bl)) → (∀ m, w.mark = some m → m < marks.length) → 1 ≤ w.k → O n_Going_is_held [.ref a, .ref k] h = some (.bl (held w g marks), h)
def S_mayTake (O : Ora) : Prop := ∀ (w : Wk) (g : Going) (wanted took : Bool) (h : AH) (a : Nat), h[a]? = some (g.av w) → O n_Going_may_take [.ref a, .bl wanted, .bl took] h = some (.bl (mayTake w wanted took), h)
def pickV (o : Option (Nat × Going)) : AV := match o with
  | none => .non
  | some p => .ref p.1
theorem sp_chosen {O : Ora} (hh : S_held O) (hm : S_mayTake O) {h : AH} {A : HAd} {d : Dev} {marks : List Bool} {wanted : Bool} {k : Nat} (D : DevAt h A d) (ok : d.Ok) (hk : h[k]? = some (.lst (marks.map .bl))) (h3 : marks.length = 3) :
    f_Device_chosen.run O [.ref A.v, .ref k, .bl wanted] h = some (pickV (chosenG A d marks wanted), h ++ [.lst (keysV d)]) := by
  have D1 : DevAt (h ++ [.lst (keysV d)]) A d := ⟨D.on, D.has.app _⟩
  have hk1 : (h ++ [.lst (keysV d)])[k]? = some (.lst (marks.map .bl)) := Keep.app h _ _ _ hk
  generalize hh1 : h ++ [.lst (keysV d)] = h1 at D1 hk1
  have hl : h1[h.length]? = some (.lst (keysV d)) := by rw [← hh1]; simp
  let P : En → Prop := fun σ => ∃ x y, σ = [some (.ref A.v), some (.ref k), some (.bl wanted), x, y]
  let t : AV → Option AV := fun x => match x with
    | .int i => (match A.G.find? (fun p => decide ((p.2.num : Int) = i)) with
      | some p => if pick d marks wanted p = true then some (.ref p.1) else none
      | none => none)
    | _ => none
  have body : ∀ x ∈ keysV d, ∀ σ, P σ → ∃ σ1, bnd (gVar 3 O x σ h1) (fun σ h => (sAll [
    sAsg (gVar 4) (fBin ixA (fUn (fldA "on") (fVar 0)) (fVar 3)),
    sIf (fAnd (fUn notA (fMeth "is_held" (fVar 4) [fVar 1])) (fMeth "may_take" (fVar 4) [fVar 2, fUn (fldA "took") (fVar 0)])) (sAll [
      sRet (fVar 4)]) (sAll [])]) O σ h) = some ((match t x with | some v => .ret v | none => .next σ1), h1) ∧ P σ1 := by
    intro x hx σ ⟨u, w, e⟩
    subst e
    obtain ⟨i, hi, rfl⟩ := List.mem_map.mp hx
    have hi2 : i ∈ d.on.map fun g => (g.num : Int) := (isort_perm _).mem_iff.mp hi
    rw [← D.on, List.map_map] at hi2
    obtain ⟨p0, hp0, rfl⟩ := List.mem_map.mp hi2
    cases hf : A.G.find? (fun p => decide ((p.2.num : Int) = (p0.2.num : Int))) with
    | none =>
      have := List.find?_eq_none.mp hf p0 hp0
      simp at this
    | some p =>
      have hp := List.mem_of_find?_eq_some hf
      have ix := onIx D1 _ hf
      have ga := D1.g hp
      have pw : p.2 ∈ d.on := by rw [← D.on]; exact List.mem_map_of_mem hp
      have wm : d.wk p.2 ∈ d.works := by
        unfold Dev.wk
        have := ok.lt _ pw
        simp [List.getD, this]
      have wk := ok.wk _ wm
      have c1 := hh (d.wk p.2) p.2 marks h1 p.1 k ga hk1 (fun m e => by rw [h3]; exact wk.mark m e) wk.k1
      have c2 := hm (d.wk p.2) p.2 wanted d.took h1 p.1 ga
      have m1 : callM O "is_held" (.ref p.1) [.ref k] h1 h1 = _ := (call_of ga (by kernel_rfl)).trans c1
      have m2 : callM O "may_take" (.ref p.1) [.bl wanted, .bl d.took] h1 h1 = _ := (call_of ga (by kernel_rfl)).trans c2
      refine ⟨[some (.ref A.v), some (.ref k), some (.bl wanted), some (.int (p0.2.num : Int)), some (.ref p.1)], ?_, _, _, rfl⟩
      have ht : t (.int (p0.2.num : Int)) = if pick d marks wanted p = true then some (.ref p.1) else none := by
        show (match A.G.find? (fun p => decide ((p.2.num : Int) = (p0.2.num : Int))) with
          | some p => if pick d marks wanted p = true then some (AV.ref p.1) else none
          | none => none) = _
        rw [hf]
      show _ = some ((match t (.int (p0.2.num : Int)) with | some v => Ct.ret v | none => _), h1)
      rw [ht]
      unfold pick
      cases e1 : held (d.wk p.2) p.2 marks <;> cases e2 : mayTake (d.wk p.2) wanted d.took <;>
        simp [dv_on D1, dv_took D1, ix, m1, m2, e1, e2]
  have hl1 : h1.length = h.length + 1 := by rw [← hh1]; simp
  obtain ⟨σ', e, hp'⟩ := loop_find (ok := fun hh => hh[h.length]? = some (.lst (keysV d))) hl P t (keysV d) body [some (.ref A.v), some (.ref k), some (.bl wanted), none, none] ⟨_, _, rfl⟩
  have ft : (match (keysV d).findSome? t with | some v => v | none => .non) = pickV (chosenG A d marks wanted) := by
    unfold keysV chosenG sortG
    have q : (isort (A.G.map fun p => (p.2.num : Int))) = isort (d.on.map fun g => (g.num : Int)) := by rw [← D.on, List.map_map]; rfl
    rw [q]
    generalize isort (d.on.map fun g => (g.num : Int)) = is
    induction is with
    | nil => rfl
    | cons i r ih =>
      rw [List.map_cons, List.findSome?_cons, List.filterMap_cons]
      have ht : t (.int i) = (match A.G.find? (fun p => decide ((p.2.num : Int) = i)) with
        | some p => if pick d marks wanted p = true then some (.ref p.1) else none
        | none => none) := rfl
      rw [ht]
      cases hf : A.G.find? (fun p => decide ((p.2.num : Int) = i)) with
      | none => simpa using ih
      | some p =>
        simp only [List.find?_cons]
        cases hp : pick d marks wanted p with
        | true => simp [pickV]
        | false => simpa using ih
  have so := sorted_on D ok
  have e2 : (sFor (iVal (fUn sortedA (fUn (fldA "on") (fVar 0)))) (gVar 3) (sAll [
    sAsg (gVar 4) (fBin ixA (fUn (fldA "on") (fVar 0)) (fVar 3)),
    sIf (fAnd (fUn notA (fMeth "is_held" (fVar 4) [fVar 1])) (fMeth "may_take" (fVar 4) [fVar 2, fUn (fldA "took") (fVar 0)])) (sAll [
      sRet (fVar 4)]) (sAll [])])) O [some (.ref A.v), some (.ref k), some (.bl wanted), none, none] h = some ((match (keysV d).findSome? t with | some v => .ret v | none => .next σ'), h1) := by
    unfold sFor iVal
    simp only [s_fUn, s_fVar, List.getElem?_cons_zero, bnd_some, dv_on D, so, alloc, hh1, hl]
    exact e
  unfold f_Device_chosen Df.run b_Device_chosen
  refine (if_pos (by rfl)).trans ?_
  show bnd (sSeq _ _ O [some (.ref A.v), some (.ref k), some (.bl wanted), none, none] h) _ = _
  rw [s_sSeq, e2, bnd_some]
  rw [← ft]
  cases (keysV d).findSome? t with
  | some v => rfl
  | none => rfl
def S_chosen (O : Ora) : Prop := ∀ (h : AH) (A : HAd) (d : Dev) (marks : List Bool) (wanted : Bool) (k : Nat), DevAt h A d → d.Ok → h[k]? = some (.lst (marks.map .bl)) → marks.length = 3 →
  O n_Device_chosen [.ref A.v, .ref k, .bl wanted] h = some (pickV (chosenG A d marks wanted), h ++ [.lst (keysV d)])
end SB

/-! Device.beat, told. -/
namespace SB
open PySem
open L2 (Key)
def Dev.upd (d : Dev) (n : Nat) (f : Going → Going) : Dev := { d with on := d.on.map fun g => if g.num = n then f g else g }
def Dev.drop (d : Dev) (n : Nat) : Dev := { d with on := d.on.filter fun g => decide (g.num ≠ n) }
abbrev Told := Option (Nat × Bool × Nat × Int)
def toldV : Told → AV
  | none => .non
  | some (n, p, a, x) => .tup [.int n, .str (if p = true then "put" else "get"), .int a, .int x]
def Dev.next (d : Dev) : Option Nat → Dev
  | none => d
  | some n => d.begin n
/-- one beat of the device: itself, the words, what is told, by which going -/
def Dev.beat (d : Dev) (mem : List Int) (marks : List Bool) (wanted : Bool) : Dev × List Int × Told × Option Nat :=
  match d.chosen marks wanted with
  | none => ({ d with took := false }, mem, none, none)
  | some g => match g.hand with
    | none => (({ d with took := true } : Dev).upd g.num (fun r => { r with hand := some (mem.getD (((d.wk g).b + g.moved) % mem.length) 0) }), mem,
        some (g.num, false, ((d.wk g).b + g.moved) % mem.length, mem.getD (((d.wk g).b + g.moved) % mem.length) 0), some g.mine)
    | some x => (if g.moved + 1 = (d.wk g).n then (({ d with took := true } : Dev).drop g.num).next (d.wk g).nxt else ({ d with took := true } : Dev).upd g.num (fun r => { r with hand := none, moved := g.moved + 1 }),
        mem.set (((d.wk g).g + g.moved) % mem.length) x, some (g.num, true, ((d.wk g).g + g.moved) % mem.length, x), some g.mine)
structure DMAt (h : AH) (A : HAd) (d : Dev) (mem : List Int) (marks : List Bool) : Prop where
  on : A.G.map (·.2) = d.on
  has : Has h ((A.m, .lst (mem.map .int)) :: (A.k, .lst (marks.map .bl)) :: devL A d)
theorem DMAt.dev {h : AH} {A : HAd} {d : Dev} {mem : List Int} {marks : List Bool} (D : DMAt h A d mem marks) : DevAt h A d :=
  ⟨D.on, D.has.sub (by
    refine List.Sublist.trans ?_ (List.sublist_cons_self _ _)
    exact List.sublist_cons_self _ _)⟩
theorem DMAt.m {h : AH} {A : HAd} {d : Dev} {mem : List Int} {marks : List Bool} (D : DMAt h A d mem marks) : h[A.m]? = some (.lst (mem.map .int)) := D.has.get (by simp)
theorem DMAt.k {h : AH} {A : HAd} {d : Dev} {mem : List Int} {marks : List Bool} (D : DMAt h A d mem marks) : h[A.k]? = some (.lst (marks.map .bl)) := D.has.get (by simp)
/-! splits -/
theorem upd_split {G1 G2 : List (Nat × Going)} {p : Nat × Going} (nd : ((G1 ++ p :: G2).map fun q => q.2.num).Nodup) (f : Going → Going) :
    ((G1 ++ p :: G2).map (·.2)).map (fun g => if g.num = p.2.num then f g else g) = (G1 ++ (p.1, f p.2) :: G2).map (·.2) := by
  rw [List.map_append, List.map_cons, List.nodup_append] at nd
  obtain ⟨n1, n2, n3⟩ := nd
  rw [List.nodup_cons] at n2
  have e1 : ∀ q ∈ G1, q.2.num ≠ p.2.num := fun q hq e => n3 q.2.num (List.mem_map_of_mem (f := fun q : Nat × Going => q.2.num) hq) p.2.num (by simp) e
  have e2 : ∀ q ∈ G2, q.2.num ≠ p.2.num := fun q hq e => n2.1 (e ▸ List.mem_map_of_mem (f := fun q : Nat × Going => q.2.num) hq)
  simp only [List.map_append, List.map_cons, List.map_map, if_true]
  congr 1
  · exact List.map_congr_left fun q hq => by simp [e1 q hq]
  · congr 1
    exact List.map_congr_left fun q hq => by simp [e2 q hq]
theorem drop_split {G1 G2 : List (Nat × Going)} {p : Nat × Going} (nd : ((G1 ++ p :: G2).map fun q => q.2.num).Nodup) :
    ((G1 ++ p :: G2).map (·.2)).filter (fun g => decide (g.num ≠ p.2.num)) = (G1 ++ G2).map (·.2) ∧ ddrop (onKv (G1 ++ p :: G2)) (.inl (p.2.num : Int)) = onKv (G1 ++ G2) := by
  rw [List.map_append, List.map_cons, List.nodup_append] at nd
  obtain ⟨n1, n2, n3⟩ := nd
  rw [List.nodup_cons] at n2
  have e1 : ∀ q ∈ G1, q.2.num ≠ p.2.num := fun q hq e => n3 q.2.num (List.mem_map_of_mem (f := fun q : Nat × Going => q.2.num) hq) p.2.num (by simp) e
  have e2 : ∀ q ∈ G2, q.2.num ≠ p.2.num := fun q hq e => n2.1 (e ▸ List.mem_map_of_mem (f := fun q : Nat × Going => q.2.num) hq)
  have f1 : ∀ G : List (Nat × Going), (∀ q ∈ G, q.2.num ≠ p.2.num) → (G.map (·.2)).filter (fun g => decide (g.num ≠ p.2.num)) = G.map (·.2) := fun G hG => by
    rw [List.filter_eq_self]
    intro g hg
    obtain ⟨q, hq, rfl⟩ := List.mem_map.mp hg
    simpa using hG q hq
  have f2 : ∀ G : List (Nat × Going), (∀ q ∈ G, q.2.num ≠ p.2.num) → ddrop (onKv G) (.inl (p.2.num : Int)) = onKv G := fun G hG => by
    unfold ddrop
    rw [List.filter_eq_self]
    intro kv hkv
    obtain ⟨q, hq, rfl⟩ := List.mem_map.mp hkv
    have := hG q hq
    simp only [ne_eq, decide_eq_true_eq]
    exact fun e => this (by have := Sum.inl.inj e; omega)
  refine ⟨?_, ?_⟩
  · rw [List.map_append, List.map_cons, List.filter_append, List.filter_cons]
    simp only [ne_eq, not_true_eq_false, decide_false, Bool.false_eq_true, if_false]
    have a1 := f1 G1 e1
    have a2 := f1 G2 e2
    simp only [ne_eq] at a1 a2
    rw [a1, a2, List.map_append]
  · have a1 := f2 G1 e1
    have a2 := f2 G2 e2
    unfold ddrop onKv at a1 a2 ⊢
    rw [List.map_append, List.map_cons, List.filter_append, List.filter_cons, a1, a2, List.map_append]
    simp
theorem devL_adr (A : HAd) (d : Dev) : (devL A d).map (·.1) = A.dev := by
  simp [devL, goL, HAd.dev, Function.comp_def]
/-- what the device's own step leaves of the rest -/
theorem DMAt.step {h h' : AH} {A : HAd} {d d' : Dev} {mem : List Int} {marks : List Bool} {G : List (Nat × Going)} (D : DMAt h A d mem marks) (D' : DevAt h' { A with G := G } d') (V : Adv A.dev ({ A with G := G } : HAd).dev h h') : DMAt h' { A with G := G } d' mem marks := by
  have nd := D.has.nd
  simp only [List.map_cons, devL_adr, List.nodup_cons, List.mem_cons, not_or] at nd
  obtain ⟨⟨n1, n2⟩, n3, n4⟩ := nd
  have lm := lt_of D.m
  have lk := lt_of D.k
  have out : ∀ i, i ∉ A.dev → i < h.length → i ∉ ({ A with G := G } : HAd).dev := fun i hi hl hm => (V.new i hm).elim hi fun q => by omega
  refine ⟨D'.on, ⟨?_, fun p hp => ?_⟩⟩
  · simp only [List.map_cons, devL_adr, List.nodup_cons, List.mem_cons, not_or]
    refine ⟨⟨n1, out _ n2 lm⟩, out _ n3 lk, ?_⟩
    have := D'.has.nd
    rwa [devL_adr] at this
  · rcases List.mem_cons.mp hp with hp | hp
    · subst hp; exact V.fr.at_ _ _ n2 D.m
    · rcases List.mem_cons.mp hp with hp | hp
      · subst hp; exact V.fr.at_ _ _ n3 D.k
      · exact D'.has.at_ p hp
theorem mod_nat (a b n : Nat) : ((a : Int) + (b : Int)) % (n : Int) = (((a + b) % n : Nat) : Int) := by
  rw [Int.natCast_emod, Int.natCast_add]
theorem ix_mem {h : AH} {m : Nat} {mem : List Int} (e : h[m]? = some (.lst (mem.map .int))) {i : Nat} (hi : i < mem.length) : ixA (.ref m) (.int (i : Int)) h = some (.int (mem.getD i 0), h) :=
  ix_lst e (by simp [List.getD, hi])
theorem chosen_some {A : HAd} {d : Dev} {marks : List Bool} {wanted : Bool} {p : Nat × Going} (e : chosenG A d marks wanted = some p) : p ∈ A.G := sortG_mem (List.mem_of_find?_eq_some e)
theorem devO_fld {h : AH} {A : HAd} {d : Dev} (e : h[A.v]? = some (devO A d)) : fldA "on" (.ref A.v) h = some (.ref A.o, h) := fld_of e (by kernel_rfl)
theorem devO_took {h : AH} {A : HAd} {d : Dev} (e : h[A.v]? = some (devO A d)) (b : Bool) : setFldA ["Device"] "took" (.ref A.v) (.bl b) h = some (h.set A.v (devO A { d with took := b })) :=
  setFld_0 e (by decide) (by simp) (by kernel_rfl)
theorem sp_dev_beat {O : Ora} (hc : S_chosen O) (hb : S_begin O) {h : AH} {A : HAd} {d : Dev} {mem : List Int} {marks : List Bool} {wanted : Bool} (D : DMAt h A d mem marks) (ok : d.Ok) (h3 : marks.length = 3) (hm0 : 0 < mem.length) :
    ∃ G h', f_Device_beat.run O [.ref A.v, .ref A.m, .ref A.k, .bl wanted] h = some (.tup [toldV (d.beat mem marks wanted).2.2.1, optV (d.beat mem marks wanted).2.2.2], h') ∧ DMAt h' { A with G := G } (d.beat mem marks wanted).1 (d.beat mem marks wanted).2.1 marks ∧
      Adv (A.m :: A.dev) (A.m :: ({ A with G := G } : HAd).dev) h h' := by
  have ch := hc h A d marks wanted A.k D.dev ok D.k h3
  have cm : callM O "chosen" (.ref A.v) [.ref A.k, .bl wanted] h h = _ := (call_of D.dev.v (by kernel_rfl)).trans ch
  have D1 := D.has.app [.lst (keysV d)]
  have hcm := chosenG_map (marks := marks) (wanted := wanted) D.on
  have F0 : Fr (A.m :: A.dev) h (h ++ [.lst (keysV d)]) := Fr.app _
  generalize hh1 : h ++ [.lst (keysV d)] = h1 at cm D1 F0
  have v1 := D1.get (i := A.v) (o := devO A d) (by simp [devL])
  cases hg : chosenG A d marks wanted with
  | none =>
    rw [hg] at hcm cm
    have hd : d.beat mem marks wanted = ({ d with took := false }, mem, none, none) := by
      unfold Dev.beat
      rw [← hcm]
      rfl
    rw [hd]
    have st := devO_took v1 false
    have D2 := Has.setAt (L1 := [(A.m, .lst (mem.map .int)), (A.k, .lst (marks.map .bl))]) (L2 := (A.w, .lst (d.works.map Wk.av)) :: (A.o, .dic (onKv A.G)) :: goL d.works A.G) D1 (devO A { d with took := false })
    refine ⟨A.G, h1.set A.v (devO A { d with took := false }), ?_, ⟨D.on, D2⟩, F0.trans (Fr.set (own := A.m :: A.dev) (by simp [HAd.dev])) fun i hi => .inl hi, fun i hi => .inl hi⟩
    simp [f_Device_beat, Df.run, b_Device_beat, cm, pickV, st, toldV, optV]
  | some p =>
    rw [hg] at hcm cm
    have hp := chosen_some hg
    obtain ⟨x, g⟩ := p
    obtain ⟨G1, G2, hG⟩ := List.append_of_mem hp
    have ndn : (A.G.map fun q => q.2.num).Nodup := by
      have := ok.nd
      rw [← D.on, List.map_map] at this
      exact this
    rw [hG] at ndn
    have st := devO_took v1 true
    have D2 := Has.setAt (L1 := [(A.m, .lst (mem.map .int)), (A.k, .lst (marks.map .bl))]) (L2 := (A.w, .lst (d.works.map Wk.av)) :: (A.o, .dic (onKv A.G)) :: goL d.works A.G) D1 (devO A { d with took := true })
    have F2 : Fr (A.m :: A.dev) h (h1.set A.v (devO A { d with took := true })) := F0.trans (Fr.set (own := A.m :: A.dev) (by simp [HAd.dev])) fun i hi => .inl hi
    generalize hh2 : h1.set A.v (devO A { d with took := true }) = h2 at st D2 F2
    have hx : x ∈ A.m :: A.dev := by
      simp only [HAd.dev, List.mem_cons]
      exact .inr (.inr (.inr (.inr (List.mem_map.mpr ⟨(x, g), hp, rfl⟩))))
    have gx : h2[x]? = some (g.av (d.wk g)) := D2.get (by
      simp only [List.cons_append, List.nil_append, List.mem_cons]
      refine .inr (.inr (.inr (.inr (.inr ?_))))
      exact List.mem_map.mpr ⟨(x, g), hp, rfl⟩)
    have m2 : h2[A.m]? = some (.lst (mem.map .int)) := D2.get (by simp)
    have lm := len_lst m2
    rw [List.length_map] at lm
    generalize hw : d.wk g = w at gx
    have pm := fun i : Int => o_mod (h := h2) (i := i) (j := (mem.length : Int)) (by omega)
    cases hh : g.hand with
    | none =>
      have la : (w.b + g.moved) % mem.length < mem.length := Nat.mod_lt _ hm0
      have hd : d.beat mem marks wanted = (({ d with took := true } : Dev).upd g.num (fun r => { r with hand := some (mem.getD ((w.b + g.moved) % mem.length) 0) }), mem, some (g.num, false, (w.b + g.moved) % mem.length, mem.getD ((w.b + g.moved) % mem.length) 0), some g.mine) := by
        unfold Dev.beat
        rw [← hcm]
        simp only [Option.map_some, hh, hw]
      rw [hd]
      generalize ha : (w.b + g.moved) % mem.length = ad at la
      have ix := ix_mem m2 la
      have mo := mod_nat w.b g.moved mem.length
      rw [ha] at mo
      have sh : setFldA ["Going"] "hand" (.ref x) (.tup [.int (mem.getD ad 0)]) h2 = _ := go_setHand gx (some (mem.getD ad 0))
      generalize hy : mem.getD ad 0 = y at ix sh
      have D3 := Has.setAt (L1 := (A.m, .lst (mem.map .int)) :: (A.k, .lst (marks.map .bl)) :: (A.v, devO A { d with took := true }) :: (A.w, .lst (d.works.map Wk.av)) :: (A.o, .dic (onKv A.G)) :: goL d.works G1) (i := x) (o := g.av w) (L2 := goL d.works G2) (h := h2) (by
        have := D2
        rw [hG] at this
        simpa [goL, ← hw, Dev.wk, hG] using this) ({ g with hand := some y }.av w)
      have m3 := D3.get (i := A.m) (o := .lst (mem.map .int)) (by simp)
      have g3 := D3.get (i := x) (o := { g with hand := some y }.av w) (by simp)
      have F3 : Fr (A.m :: A.dev) h (h2.set x ({ g with hand := some y }.av w)) := F2.trans (Fr.set (own := A.m :: A.dev) hx) fun i hi => .inl hi
      have ix3 := ix_mem m3 la
      rw [hy] at ix3
      refine ⟨G1 ++ (x, { g with hand := some y }) :: G2, h2.set x ({ g with hand := some y }.av w), ?_, ⟨?_, ?_⟩, F3, ?_⟩
      · have e1 := go_num g3
        have e2 := go_mine g3
        simp [f_Device_beat, Df.run, b_Device_beat, cm, pickV, st, hh2, go_hand gx, go_work gx, go_moved gx, hh, lm, pm, mo, ix, sh, ix3, e1, e2, toldV, optV]
      · show _ = ((d.on).map _)
        rw [← D.on, hG]
        exact (upd_split ndn fun r => { r with hand := some y }).symm
      · have e1 : onKv (G1 ++ (x, { g with hand := some y }) :: G2) = onKv A.G := by rw [hG]; simp [onKv]
        have e2 : devL { A with G := G1 ++ (x, { g with hand := some y }) :: G2 } (({ d with took := true } : Dev).upd g.num fun r => { r with hand := some y }) = (A.v, devO A { d with took := true }) :: (A.w, .lst (d.works.map Wk.av)) :: (A.o, .dic (onKv A.G)) :: (goL d.works G1 ++ (x, { g with hand := some y }.av w) :: goL d.works G2) := by
          unfold devL
          rw [e1, ← hw]
          simp [goL, Dev.upd, Dev.wk, devO]
        rw [e2]
        exact D3
      · intro i hi
        left
        simp only [HAd.dev, hG, List.map_append, List.map_cons] at hi ⊢
        exact hi
    | some y =>
      have la : (w.g + g.moved) % mem.length < mem.length := Nat.mod_lt _ hm0
      have hd : d.beat mem marks wanted = (if g.moved + 1 = w.n then (({ d with took := true } : Dev).drop g.num).next w.nxt else ({ d with took := true } : Dev).upd g.num (fun r => { r with hand := none, moved := g.moved + 1 }),
        mem.set ((w.g + g.moved) % mem.length) y, some (g.num, true, (w.g + g.moved) % mem.length, y), some g.mine) := by
        unfold Dev.beat
        rw [← hcm]
        simp only [Option.map_some, hh, hw]
      rw [hd]
      generalize ha : (w.g + g.moved) % mem.length = ad at la
      have mo := mod_nat w.g g.moved mem.length
      rw [ha] at mo
      have sm : setIxA (.ref A.m) (.int (ad : Int)) (.int y) h2 = some (h2.set A.m (.lst ((mem.set ad y).map .int))) := by
        rw [setIx_of m2 (by rw [List.length_map]; exact la), List.map_set]
      have D3 := Has.setAt (L1 := []) D2 (.lst ((mem.set ad y).map .int))
      have F3 : Fr (A.m :: A.dev) h (h2.set A.m (.lst ((mem.set ad y).map .int))) := F2.trans (Fr.set (own := A.m :: A.dev) (by simp)) fun i hi => .inl hi
      generalize hh3 : h2.set A.m (.lst ((mem.set ad y).map .int)) = h3 at sm D3 F3
      have g3 : h3[x]? = some (g.av w) := D3.get (by
        simp only [List.cons_append, List.nil_append, List.mem_cons, List.append_eq, List.mem_append]
        refine .inr (.inr (.inr (.inr (.inr ?_))))
        exact List.mem_map.mpr ⟨(x, g), hp, by rw [← hw]; rfl⟩)
      have D4 := Has.setAt (L1 := (A.m, .lst ((mem.set ad y).map .int)) :: (A.k, .lst (marks.map .bl)) :: (A.v, devO A { d with took := true }) :: (A.w, .lst (d.works.map Wk.av)) :: (A.o, .dic (onKv A.G)) :: goL d.works G1) (i := x) (o := g.av w) (L2 := goL d.works G2) (h := h3) (by
        have := D3
        rw [hG] at this
        simpa [goL, ← hw, Dev.wk, hG] using this) ({ g with hand := none }.av w)
      have s4 : setFldA ["Going"] "hand" (.ref x) (.tup []) h3 = _ := go_setHand g3 none
      have F4 : Fr (A.m :: A.dev) h (h3.set x ({ g with hand := none }.av w)) := F3.trans (Fr.set (own := A.m :: A.dev) hx) fun i hi => .inl hi
      generalize hh4 : h3.set x ({ g with hand := none }.av w) = h4 at s4 D4 F4
      have g4 : h4[x]? = some ({ g with hand := none }.av w) := D4.get (by simp)
      have D5 := Has.setAt D4 ({ g with hand := none, moved := g.moved + 1 }.av w)
      have s5 : setFldA ["Going"] "moved" (.ref x) (.int ((g.moved : Int) + 1)) h4 = _ := go_setMoved g4 (g.moved + 1)
      have F5 : Fr (A.m :: A.dev) h (h4.set x ({ g with hand := none, moved := g.moved + 1 }.av w)) := F4.trans (Fr.set (own := A.m :: A.dev) hx) fun i hi => .inl hi
      generalize hh5 : h4.set x ({ g with hand := none, moved := g.moved + 1 }.av w) = h5 at s5 D5 F5
      have g5 : h5[x]? = some ({ g with hand := none, moved := g.moved + 1 }.av w) := D5.get (by simp)
      have m5 : h5[A.m]? = some (.lst ((mem.set ad y).map .int)) := D5.get (by simp)
      have hset : (mem.set ad y).getD ad 0 = y := by simp [List.getD, la]
      have cm5 : cmpA .Eq (.int ((g.moved + 1 : Nat) : Int)) (.int (w.n : Int)) h5 = some (.bl (decide (g.moved + 1 = w.n)), h5) := by
        rw [c_eqI]
        simp only [Int.natCast_inj]
      have cm5' : cmpA .Eq (.int ((g.moved : Int) + 1)) (.int (w.n : Int)) h5 = some (.bl (decide (g.moved + 1 = w.n)), h5) := cm5
      have h0 : ∀ h : AH, ixA (handV (some y)) (.int 0) h = some (.int y, h) := fun _ => rfl
      by_cases hdone : g.moved + 1 = w.n
      · rw [if_pos hdone]
        have hnum : (A.G.find? fun q => decide (q.2.num = g.num)) = some (x, g) := by
          rw [hG, List.find?_append]
          have e1 : G1.find? (fun q => decide (q.2.num = g.num)) = none := by
            rw [List.find?_eq_none]
            intro q hq
            have := ndn
            rw [List.map_append, List.map_cons, List.nodup_append] at this
            have := this.2.2 q.2.num (List.mem_map_of_mem (f := fun q : Nat × Going => q.2.num) hq) g.num (by simp)
            simpa using this
          rw [e1]
          simp
        obtain ⟨dr1, dr2⟩ := drop_split ndn
        have o5 : h5[A.o]? = some (.dic (onKv A.G)) := D5.get (by simp)
        have s6 : dpopA (.ref A.o) (.int (g.num : Int)) h5 = some (.ref x, h5.set A.o (.dic (onKv (G1 ++ G2)))) := by
          unfold dpopA
          simp only [o5]
          show (keyOf (.int (g.num : Int))).bind _ = _
          simp only [keyOf, Option.bind_some]
          rw [onKv_dval, hnum]
          simp only [Option.map_some]
          rw [hG]
          exact congrArg (fun l => some (AV.ref x, h5.set A.o (.dic l))) dr2
        have kd : isK true h5 (.ref A.o) = true := isK_dic o5
        have D6 := Has.setAt (L1 := [(A.m, .lst ((mem.set ad y).map .int)), (A.k, .lst (marks.map .bl)), (A.v, devO A { d with took := true }), (A.w, .lst (d.works.map Wk.av))]) (L2 := goL d.works G1 ++ (x, { g with hand := none, moved := g.moved + 1 }.av w) :: goL d.works G2) (i := A.o) (o := .dic (onKv A.G)) D5 (.dic (onKv (G1 ++ G2)))
        have F6 : Fr (A.m :: A.dev) h (h5.set A.o (.dic (onKv (G1 ++ G2)))) := F5.trans (Fr.set (own := A.m :: A.dev) (by simp [HAd.dev])) fun i hi => .inl hi
        generalize hh6 : h5.set A.o (.dic (onKv (G1 ++ G2))) = h6 at s6 D6 F6
        have g6 : h6[x]? = some ({ g with hand := none, moved := g.moved + 1 }.av w) := D6.get (by simp)
        have v5 : h5[A.v]? = some (devO A { d with took := true }) := D5.get (by simp)
        have on5 := devO_fld v5
        -- what is on then
        have DM : DMAt h6 { A with G := G1 ++ G2 } (({ d with took := true } : Dev).drop g.num) (mem.set ad y) marks := by
          refine ⟨?_, ?_⟩
          · show _ = d.on.filter _
            rw [← D.on, hG]
            exact dr1.symm
          · have e2 : devL { A with G := G1 ++ G2 } (({ d with took := true } : Dev).drop g.num) = (A.v, devO A { d with took := true }) :: (A.w, .lst (d.works.map Wk.av)) :: (A.o, .dic (onKv (G1 ++ G2))) :: (goL d.works G1 ++ goL d.works G2) := by
              unfold devL
              simp [goL, Dev.drop, devO]
            rw [e2]
            refine D6.sub ?_
            simp only [List.cons_append, List.nil_append]
            refine List.Sublist.cons_cons _ (List.Sublist.cons_cons _ (List.Sublist.cons_cons _ (List.Sublist.cons_cons _ (List.Sublist.cons_cons _ ?_))))
            exact List.Sublist.append (List.Sublist.refl _) (List.sublist_cons_self _ _)
        have ok6 : (({ d with took := true } : Dev).drop g.num).Ok := by
          refine ⟨ok.ws, ok.wk, ?_, fun r hr => ok.lt r (List.mem_filter.mp hr).1⟩
          exact ok.nd.sublist (List.filter_sublist.map _)
        have sub6 : ∀ i ∈ ({ A with G := G1 ++ G2 } : HAd).dev, i ∈ A.dev := fun i hi => by
          simp only [HAd.dev, hG, List.map_append, List.map_cons, List.mem_cons, List.mem_append] at hi ⊢
          rcases hi with hi | hi | hi | hi | hi
          · exact .inl hi
          · exact .inr (.inl hi)
          · exact .inr (.inr (.inl hi))
          · exact .inr (.inr (.inr (.inl hi)))
          · exact .inr (.inr (.inr (.inr (.inr hi))))
        have e6 := go_work g6
        have o6 := optN (o := w.nxt)
        cases hn : w.nxt with
        | none =>
          have m6 := DM.m
          have ix6 := ix_mem m6 (i := ad) (by rw [List.length_set]; exact la)
          rw [hset] at ix6
          refine ⟨G1 ++ G2, h6, ?_, DM, F6, fun i hi => ?_⟩
          · have e1 := go_num g6
            have e2 := go_mine g6
            simp [f_Device_beat, Df.run, b_Device_beat, cm, pickV, st, hh2, go_hand gx, go_work gx, go_moved gx, hh, lm, pm, mo, sm, hh3, s4, hh4, go_hand g3, go_moved g4, s5, hh5, go_moved g5, go_work g5, go_num g5, cm5, cm5', hdone, h0, on5, kd, s6, e6, hn, ix6, e1, e2, toldV, optV]
          · rcases List.mem_cons.mp hi with hi | hi
            · exact .inl (by simp [hi])
            · exact .inl (List.mem_cons_of_mem _ (sub6 i hi))
        | some n =>
          obtain ⟨G', h7, q1, q2, q3⟩ := hb h6 { A with G := G1 ++ G2 } _ n DM.dev ok6
          have D7 := DM.step q2 q3
          have xo : x ∉ ({ A with G := G1 ++ G2 } : HAd).dev := by
            have nd := D6.nd
            have ea : ∀ G, (goL d.works G).map (·.1) = G.map (·.1) := fun G => by simp [goL, Function.comp_def]
            simp only [List.cons_append, List.nil_append, List.map_cons, List.map_append, ea, List.nodup_cons, List.mem_cons, List.mem_append, List.nodup_append, not_or] at nd
            simp only [HAd.dev, List.map_append, List.mem_cons, List.mem_append, not_or]
            obtain ⟨_, _, n1, n2, n3, n4, n5, n6⟩ := nd
            refine ⟨fun e => n1.2.2.2.1 e.symm, fun e => n2.2.2.1 e.symm, fun e => n3.2.1 e.symm, fun e => n6 x e x (.inl rfl) rfl, n5.1⟩
          have g7 := q3.fr.at_ x _ xo g6
          have m7 := D7.m
          have ix7 := ix_mem m7 (i := ad) (by rw [List.length_set]; exact la)
          rw [hset] at ix7
          have cb : callM O "begin" (.ref A.v) [.int (n : Int)] h6 h6 = _ := (call_of DM.dev.v (by kernel_rfl)).trans q1
          refine ⟨G', h7, ?_, D7, F6.trans q3.fr fun i hi => .inl (List.mem_cons_of_mem _ (sub6 i hi)), fun i hi => ?_⟩
          · have e1 := go_num g7
            have e2 := go_mine g7
            simp [f_Device_beat, Df.run, b_Device_beat, cm, pickV, st, hh2, go_hand gx, go_work gx, go_moved gx, hh, lm, pm, mo, sm, hh3, s4, hh4, go_hand g3, go_moved g4, s5, hh5, go_moved g5, go_work g5, go_num g5, cm5, cm5', hdone, h0, on5, kd, s6, e6, hn, cb, ix7, e1, e2, toldV, optV]
          · rcases List.mem_cons.mp hi with hi | hi
            · exact .inl (by simp [hi])
            · rcases q3.new i hi with z | z
              · exact .inl (List.mem_cons_of_mem _ (sub6 i z))
              · exact .inr (Nat.le_trans F6.len z)
      · rw [if_neg hdone]
        have ix5 := ix_mem m5 (i := ad) (by rw [List.length_set]; exact la)
        rw [hset] at ix5
        refine ⟨G1 ++ (x, { g with hand := none, moved := g.moved + 1 }) :: G2, h5, ?_, ⟨?_, ?_⟩, F5, ?_⟩
        · have e1 := go_num g5
          have e2 := go_mine g5
          simp [f_Device_beat, Df.run, b_Device_beat, cm, pickV, st, hh2, go_hand gx, go_work gx, go_moved gx, hh, lm, pm, mo, sm, hh3, s4, hh4, go_hand g3, go_moved g4, s5, hh5, go_moved g5, go_work g5, cm5, cm5', hdone, ix5, e1, e2, toldV, optV, h0]
        · show _ = ((d.on).map _)
          rw [← D.on, hG]
          exact (upd_split ndn fun r => { r with hand := none, moved := g.moved + 1 }).symm
        · have e1 : onKv (G1 ++ (x, { g with hand := none, moved := g.moved + 1 }) :: G2) = onKv A.G := by rw [hG]; simp [onKv]
          have e2 : devL { A with G := G1 ++ (x, { g with hand := none, moved := g.moved + 1 }) :: G2 } (({ d with took := true } : Dev).upd g.num fun r => { r with hand := none, moved := g.moved + 1 }) = (A.v, devO A { d with took := true }) :: (A.w, .lst (d.works.map Wk.av)) :: (A.o, .dic (onKv A.G)) :: (goL d.works G1 ++ (x, { g with hand := none, moved := g.moved + 1 }.av w) :: goL d.works G2) := by
            unfold devL
            rw [e1, ← hw]
            simp [goL, Dev.upd, Dev.wk, devO]
          rw [e2]
          exact D5
        · intro i hi
          left
          simp only [HAd.dev, hG, List.map_append, List.map_cons] at hi ⊢
          exact hi
end SB

/-! The words compared (printed by genwords.py). -/
namespace SB
open PySem
@[simp] theorem q_set_set {h : AH} : cmpA .Eq (.str "set") (.str "set") h = some (.bl true, h) := by kernel_rfl
@[simp] theorem q_add_set {h : AH} : cmpA .Eq (.str "add") (.str "set") h = some (.bl false, h) := by kernel_rfl
@[simp] theorem q_less_set {h : AH} : cmpA .Eq (.str "less") (.str "set") h = some (.bl false, h) := by kernel_rfl
@[simp] theorem q_get_set {h : AH} : cmpA .Eq (.str "get") (.str "set") h = some (.bl false, h) := by kernel_rfl
@[simp] theorem q_getx_set {h : AH} : cmpA .Eq (.str "getx") (.str "set") h = some (.bl false, h) := by kernel_rfl
@[simp] theorem q_put_set {h : AH} : cmpA .Eq (.str "put") (.str "set") h = some (.bl false, h) := by kernel_rfl
@[simp] theorem q_putx_set {h : AH} : cmpA .Eq (.str "putx") (.str "set") h = some (.bl false, h) := by kernel_rfl
@[simp] theorem q_pair_set {h : AH} : cmpA .Eq (.str "pair") (.str "set") h = some (.bl false, h) := by kernel_rfl
@[simp] theorem q_lay_set {h : AH} : cmpA .Eq (.str "lay") (.str "set") h = some (.bl false, h) := by kernel_rfl
@[simp] theorem q_go_set {h : AH} : cmpA .Eq (.str "go") (.str "set") h = some (.bl false, h) := by kernel_rfl
@[simp] theorem q_if_set {h : AH} : cmpA .Eq (.str "if") (.str "set") h = some (.bl false, h) := by kernel_rfl
@[simp] theorem q_ask_set {h : AH} : cmpA .Eq (.str "ask") (.str "set") h = some (.bl false, h) := by kernel_rfl
@[simp] theorem q_done_set {h : AH} : cmpA .Eq (.str "done") (.str "set") h = some (.bl false, h) := by kernel_rfl
@[simp] theorem q_mark_set {h : AH} : cmpA .Eq (.str "mark") (.str "set") h = some (.bl false, h) := by kernel_rfl
@[simp] theorem q_clear_set {h : AH} : cmpA .Eq (.str "clear") (.str "set") h = some (.bl false, h) := by kernel_rfl
@[simp] theorem q_rest_set {h : AH} : cmpA .Eq (.str "rest") (.str "set") h = some (.bl false, h) := by kernel_rfl
@[simp] theorem q_end_set {h : AH} : cmpA .Eq (.str "end") (.str "set") h = some (.bl false, h) := by kernel_rfl
@[simp] theorem q_set_add {h : AH} : cmpA .Eq (.str "set") (.str "add") h = some (.bl false, h) := by kernel_rfl
@[simp] theorem q_add_add {h : AH} : cmpA .Eq (.str "add") (.str "add") h = some (.bl true, h) := by kernel_rfl
@[simp] theorem q_less_add {h : AH} : cmpA .Eq (.str "less") (.str "add") h = some (.bl false, h) := by kernel_rfl
@[simp] theorem q_get_add {h : AH} : cmpA .Eq (.str "get") (.str "add") h = some (.bl false, h) := by kernel_rfl
@[simp] theorem q_getx_add {h : AH} : cmpA .Eq (.str "getx") (.str "add") h = some (.bl false, h) := by kernel_rfl
@[simp] theorem q_put_add {h : AH} : cmpA .Eq (.str "put") (.str "add") h = some (.bl false, h) := by kernel_rfl
@[simp] theorem q_putx_add {h : AH} : cmpA .Eq (.str "putx") (.str "add") h = some (.bl false, h) := by kernel_rfl
@[simp] theorem q_pair_add {h : AH} : cmpA .Eq (.str "pair") (.str "add") h = some (.bl false, h) := by kernel_rfl
@[simp] theorem q_lay_add {h : AH} : cmpA .Eq (.str "lay") (.str "add") h = some (.bl false, h) := by kernel_rfl
@[simp] theorem q_go_add {h : AH} : cmpA .Eq (.str "go") (.str "add") h = some (.bl false, h) := by kernel_rfl
@[simp] theorem q_if_add {h : AH} : cmpA .Eq (.str "if") (.str "add") h = some (.bl false, h) := by kernel_rfl
@[simp] theorem q_ask_add {h : AH} : cmpA .Eq (.str "ask") (.str "add") h = some (.bl false, h) := by kernel_rfl
@[simp] theorem q_done_add {h : AH} : cmpA .Eq (.str "done") (.str "add") h = some (.bl false, h) := by kernel_rfl
@[simp] theorem q_mark_add {h : AH} : cmpA .Eq (.str "mark") (.str "add") h = some (.bl false, h) := by kernel_rfl
@[simp] theorem q_clear_add {h : AH} : cmpA .Eq (.str "clear") (.str "add") h = some (.bl false, h) := by kernel_rfl
@[simp] theorem q_rest_add {h : AH} : cmpA .Eq (.str "rest") (.str "add") h = some (.bl false, h) := by kernel_rfl
@[simp] theorem q_end_add {h : AH} : cmpA .Eq (.str "end") (.str "add") h = some (.bl false, h) := by kernel_rfl
@[simp] theorem q_set_less {h : AH} : cmpA .Eq (.str "set") (.str "less") h = some (.bl false, h) := by kernel_rfl
@[simp] theorem q_add_less {h : AH} : cmpA .Eq (.str "add") (.str "less") h = some (.bl false, h) := by kernel_rfl
@[simp] theorem q_less_less {h : AH} : cmpA .Eq (.str "less") (.str "less") h = some (.bl true, h) := by kernel_rfl
@[simp] theorem q_get_less {h : AH} : cmpA .Eq (.str "get") (.str "less") h = some (.bl false, h) := by kernel_rfl
@[simp] theorem q_getx_less {h : AH} : cmpA .Eq (.str "getx") (.str "less") h = some (.bl false, h) := by kernel_rfl
@[simp] theorem q_put_less {h : AH} : cmpA .Eq (.str "put") (.str "less") h = some (.bl false, h) := by kernel_rfl
@[simp] theorem q_putx_less {h : AH} : cmpA .Eq (.str "putx") (.str "less") h = some (.bl false, h) := by kernel_rfl
@[simp] theorem q_pair_less {h : AH} : cmpA .Eq (.str "pair") (.str "less") h = some (.bl false, h) := by kernel_rfl
@[simp] theorem q_lay_less {h : AH} : cmpA .Eq (.str "lay") (.str "less") h = some (.bl false, h) := by kernel_rfl
@[simp] theorem q_go_less {h : AH} : cmpA .Eq (.str "go") (.str "less") h = some (.bl false, h) := by kernel_rfl
@[simp] theorem q_if_less {h : AH} : cmpA .Eq (.str "if") (.str "less") h = some (.bl false, h) := by kernel_rfl
@[simp] theorem q_ask_less {h : AH} : cmpA .Eq (.str "ask") (.str "less") h = some (.bl false, h) := by kernel_rfl
@[simp] theorem q_done_less {h : AH} : cmpA .Eq (.str "done") (.str "less") h = some (.bl false, h) := by kernel_rfl
@[simp] theorem q_mark_less {h : AH} : cmpA .Eq (.str "mark") (.str "less") h = some (.bl false, h) := by kernel_rfl
@[simp] theorem q_clear_less {h : AH} : cmpA .Eq (.str "clear") (.str "less") h = some (.bl false, h) := by kernel_rfl
@[simp] theorem q_rest_less {h : AH} : cmpA .Eq (.str "rest") (.str "less") h = some (.bl false, h) := by kernel_rfl
@[simp] theorem q_end_less {h : AH} : cmpA .Eq (.str "end") (.str "less") h = some (.bl false, h) := by kernel_rfl
@[simp] theorem q_set_done {h : AH} : cmpA .Eq (.str "set") (.str "done") h = some (.bl false, h) := by kernel_rfl
@[simp] theorem q_add_done {h : AH} : cmpA .Eq (.str "add") (.str "done") h = some (.bl false, h) := by kernel_rfl
@[simp] theorem q_less_done {h : AH} : cmpA .Eq (.str "less") (.str "done") h = some (.bl false, h) := by kernel_rfl
@[simp] theorem q_get_done {h : AH} : cmpA .Eq (.str "get") (.str "done") h = some (.bl false, h) := by kernel_rfl
@[simp] theorem q_getx_done {h : AH} : cmpA .Eq (.str "getx") (.str "done") h = some (.bl false, h) := by kernel_rfl
@[simp] theorem q_put_done {h : AH} : cmpA .Eq (.str "put") (.str "done") h = some (.bl false, h) := by kernel_rfl
@[simp] theorem q_putx_done {h : AH} : cmpA .Eq (.str "putx") (.str "done") h = some (.bl false, h) := by kernel_rfl
@[simp] theorem q_pair_done {h : AH} : cmpA .Eq (.str "pair") (.str "done") h = some (.bl false, h) := by kernel_rfl
@[simp] theorem q_lay_done {h : AH} : cmpA .Eq (.str "lay") (.str "done") h = some (.bl false, h) := by kernel_rfl
@[simp] theorem q_go_done {h : AH} : cmpA .Eq (.str "go") (.str "done") h = some (.bl false, h) := by kernel_rfl
@[simp] theorem q_if_done {h : AH} : cmpA .Eq (.str "if") (.str "done") h = some (.bl false, h) := by kernel_rfl
@[simp] theorem q_ask_done {h : AH} : cmpA .Eq (.str "ask") (.str "done") h = some (.bl false, h) := by kernel_rfl
@[simp] theorem q_done_done {h : AH} : cmpA .Eq (.str "done") (.str "done") h = some (.bl true, h) := by kernel_rfl
@[simp] theorem q_mark_done {h : AH} : cmpA .Eq (.str "mark") (.str "done") h = some (.bl false, h) := by kernel_rfl
@[simp] theorem q_clear_done {h : AH} : cmpA .Eq (.str "clear") (.str "done") h = some (.bl false, h) := by kernel_rfl
@[simp] theorem q_rest_done {h : AH} : cmpA .Eq (.str "rest") (.str "done") h = some (.bl false, h) := by kernel_rfl
@[simp] theorem q_end_done {h : AH} : cmpA .Eq (.str "end") (.str "done") h = some (.bl false, h) := by kernel_rfl
@[simp] theorem q_set_ask {h : AH} : cmpA .Eq (.str "set") (.str "ask") h = some (.bl false, h) := by kernel_rfl
@[simp] theorem q_add_ask {h : AH} : cmpA .Eq (.str "add") (.str "ask") h = some (.bl false, h) := by kernel_rfl
@[simp] theorem q_less_ask {h : AH} : cmpA .Eq (.str "less") (.str "ask") h = some (.bl false, h) := by kernel_rfl
@[simp] theorem q_get_ask {h : AH} : cmpA .Eq (.str "get") (.str "ask") h = some (.bl false, h) := by kernel_rfl
@[simp] theorem q_getx_ask {h : AH} : cmpA .Eq (.str "getx") (.str "ask") h = some (.bl false, h) := by kernel_rfl
@[simp] theorem q_put_ask {h : AH} : cmpA .Eq (.str "put") (.str "ask") h = some (.bl false, h) := by kernel_rfl
@[simp] theorem q_putx_ask {h : AH} : cmpA .Eq (.str "putx") (.str "ask") h = some (.bl false, h) := by kernel_rfl
@[simp] theorem q_pair_ask {h : AH} : cmpA .Eq (.str "pair") (.str "ask") h = some (.bl false, h) := by kernel_rfl
@[simp] theorem q_lay_ask {h : AH} : cmpA .Eq (.str "lay") (.str "ask") h = some (.bl false, h) := by kernel_rfl
@[simp] theorem q_go_ask {h : AH} : cmpA .Eq (.str "go") (.str "ask") h = some (.bl false, h) := by kernel_rfl
@[simp] theorem q_if_ask {h : AH} : cmpA .Eq (.str "if") (.str "ask") h = some (.bl false, h) := by kernel_rfl
@[simp] theorem q_ask_ask {h : AH} : cmpA .Eq (.str "ask") (.str "ask") h = some (.bl true, h) := by kernel_rfl
@[simp] theorem q_done_ask {h : AH} : cmpA .Eq (.str "done") (.str "ask") h = some (.bl false, h) := by kernel_rfl
@[simp] theorem q_mark_ask {h : AH} : cmpA .Eq (.str "mark") (.str "ask") h = some (.bl false, h) := by kernel_rfl
@[simp] theorem q_clear_ask {h : AH} : cmpA .Eq (.str "clear") (.str "ask") h = some (.bl false, h) := by kernel_rfl
@[simp] theorem q_rest_ask {h : AH} : cmpA .Eq (.str "rest") (.str "ask") h = some (.bl false, h) := by kernel_rfl
@[simp] theorem q_end_ask {h : AH} : cmpA .Eq (.str "end") (.str "ask") h = some (.bl false, h) := by kernel_rfl
@[simp] theorem q_set_go {h : AH} : cmpA .Eq (.str "set") (.str "go") h = some (.bl false, h) := by kernel_rfl
@[simp] theorem q_add_go {h : AH} : cmpA .Eq (.str "add") (.str "go") h = some (.bl false, h) := by kernel_rfl
@[simp] theorem q_less_go {h : AH} : cmpA .Eq (.str "less") (.str "go") h = some (.bl false, h) := by kernel_rfl
@[simp] theorem q_get_go {h : AH} : cmpA .Eq (.str "get") (.str "go") h = some (.bl false, h) := by kernel_rfl
@[simp] theorem q_getx_go {h : AH} : cmpA .Eq (.str "getx") (.str "go") h = some (.bl false, h) := by kernel_rfl
@[simp] theorem q_put_go {h : AH} : cmpA .Eq (.str "put") (.str "go") h = some (.bl false, h) := by kernel_rfl
@[simp] theorem q_putx_go {h : AH} : cmpA .Eq (.str "putx") (.str "go") h = some (.bl false, h) := by kernel_rfl
@[simp] theorem q_pair_go {h : AH} : cmpA .Eq (.str "pair") (.str "go") h = some (.bl false, h) := by kernel_rfl
@[simp] theorem q_lay_go {h : AH} : cmpA .Eq (.str "lay") (.str "go") h = some (.bl false, h) := by kernel_rfl
@[simp] theorem q_go_go {h : AH} : cmpA .Eq (.str "go") (.str "go") h = some (.bl true, h) := by kernel_rfl
@[simp] theorem q_if_go {h : AH} : cmpA .Eq (.str "if") (.str "go") h = some (.bl false, h) := by kernel_rfl
@[simp] theorem q_ask_go {h : AH} : cmpA .Eq (.str "ask") (.str "go") h = some (.bl false, h) := by kernel_rfl
@[simp] theorem q_done_go {h : AH} : cmpA .Eq (.str "done") (.str "go") h = some (.bl false, h) := by kernel_rfl
@[simp] theorem q_mark_go {h : AH} : cmpA .Eq (.str "mark") (.str "go") h = some (.bl false, h) := by kernel_rfl
@[simp] theorem q_clear_go {h : AH} : cmpA .Eq (.str "clear") (.str "go") h = some (.bl false, h) := by kernel_rfl
@[simp] theorem q_rest_go {h : AH} : cmpA .Eq (.str "rest") (.str "go") h = some (.bl false, h) := by kernel_rfl
@[simp] theorem q_end_go {h : AH} : cmpA .Eq (.str "end") (.str "go") h = some (.bl false, h) := by kernel_rfl
@[simp] theorem q_set_if {h : AH} : cmpA .Eq (.str "set") (.str "if") h = some (.bl false, h) := by kernel_rfl
@[simp] theorem q_add_if {h : AH} : cmpA .Eq (.str "add") (.str "if") h = some (.bl false, h) := by kernel_rfl
@[simp] theorem q_less_if {h : AH} : cmpA .Eq (.str "less") (.str "if") h = some (.bl false, h) := by kernel_rfl
@[simp] theorem q_get_if {h : AH} : cmpA .Eq (.str "get") (.str "if") h = some (.bl false, h) := by kernel_rfl
@[simp] theorem q_getx_if {h : AH} : cmpA .Eq (.str "getx") (.str "if") h = some (.bl false, h) := by kernel_rfl
@[simp] theorem q_put_if {h : AH} : cmpA .Eq (.str "put") (.str "if") h = some (.bl false, h) := by kernel_rfl
@[simp] theorem q_putx_if {h : AH} : cmpA .Eq (.str "putx") (.str "if") h = some (.bl false, h) := by kernel_rfl
@[simp] theorem q_pair_if {h : AH} : cmpA .Eq (.str "pair") (.str "if") h = some (.bl false, h) := by kernel_rfl
@[simp] theorem q_lay_if {h : AH} : cmpA .Eq (.str "lay") (.str "if") h = some (.bl false, h) := by kernel_rfl
@[simp] theorem q_go_if {h : AH} : cmpA .Eq (.str "go") (.str "if") h = some (.bl false, h) := by kernel_rfl
@[simp] theorem q_if_if {h : AH} : cmpA .Eq (.str "if") (.str "if") h = some (.bl true, h) := by kernel_rfl
@[simp] theorem q_ask_if {h : AH} : cmpA .Eq (.str "ask") (.str "if") h = some (.bl false, h) := by kernel_rfl
@[simp] theorem q_done_if {h : AH} : cmpA .Eq (.str "done") (.str "if") h = some (.bl false, h) := by kernel_rfl
@[simp] theorem q_mark_if {h : AH} : cmpA .Eq (.str "mark") (.str "if") h = some (.bl false, h) := by kernel_rfl
@[simp] theorem q_clear_if {h : AH} : cmpA .Eq (.str "clear") (.str "if") h = some (.bl false, h) := by kernel_rfl
@[simp] theorem q_rest_if {h : AH} : cmpA .Eq (.str "rest") (.str "if") h = some (.bl false, h) := by kernel_rfl
@[simp] theorem q_end_if {h : AH} : cmpA .Eq (.str "end") (.str "if") h = some (.bl false, h) := by kernel_rfl
@[simp] theorem q_set_end {h : AH} : cmpA .Eq (.str "set") (.str "end") h = some (.bl false, h) := by kernel_rfl
@[simp] theorem q_add_end {h : AH} : cmpA .Eq (.str "add") (.str "end") h = some (.bl false, h) := by kernel_rfl
@[simp] theorem q_less_end {h : AH} : cmpA .Eq (.str "less") (.str "end") h = some (.bl false, h) := by kernel_rfl
@[simp] theorem q_get_end {h : AH} : cmpA .Eq (.str "get") (.str "end") h = some (.bl false, h) := by kernel_rfl
@[simp] theorem q_getx_end {h : AH} : cmpA .Eq (.str "getx") (.str "end") h = some (.bl false, h) := by kernel_rfl
@[simp] theorem q_put_end {h : AH} : cmpA .Eq (.str "put") (.str "end") h = some (.bl false, h) := by kernel_rfl
@[simp] theorem q_putx_end {h : AH} : cmpA .Eq (.str "putx") (.str "end") h = some (.bl false, h) := by kernel_rfl
@[simp] theorem q_pair_end {h : AH} : cmpA .Eq (.str "pair") (.str "end") h = some (.bl false, h) := by kernel_rfl
@[simp] theorem q_lay_end {h : AH} : cmpA .Eq (.str "lay") (.str "end") h = some (.bl false, h) := by kernel_rfl
@[simp] theorem q_go_end {h : AH} : cmpA .Eq (.str "go") (.str "end") h = some (.bl false, h) := by kernel_rfl
@[simp] theorem q_if_end {h : AH} : cmpA .Eq (.str "if") (.str "end") h = some (.bl false, h) := by kernel_rfl
@[simp] theorem q_ask_end {h : AH} : cmpA .Eq (.str "ask") (.str "end") h = some (.bl false, h) := by kernel_rfl
@[simp] theorem q_done_end {h : AH} : cmpA .Eq (.str "done") (.str "end") h = some (.bl false, h) := by kernel_rfl
@[simp] theorem q_mark_end {h : AH} : cmpA .Eq (.str "mark") (.str "end") h = some (.bl false, h) := by kernel_rfl
@[simp] theorem q_clear_end {h : AH} : cmpA .Eq (.str "clear") (.str "end") h = some (.bl false, h) := by kernel_rfl
@[simp] theorem q_rest_end {h : AH} : cmpA .Eq (.str "rest") (.str "end") h = some (.bl false, h) := by kernel_rfl
@[simp] theorem q_end_end {h : AH} : cmpA .Eq (.str "end") (.str "end") h = some (.bl true, h) := by kernel_rfl
@[simp] theorem q_set_mark {h : AH} : cmpA .Eq (.str "set") (.str "mark") h = some (.bl false, h) := by kernel_rfl
@[simp] theorem q_add_mark {h : AH} : cmpA .Eq (.str "add") (.str "mark") h = some (.bl false, h) := by kernel_rfl
@[simp] theorem q_less_mark {h : AH} : cmpA .Eq (.str "less") (.str "mark") h = some (.bl false, h) := by kernel_rfl
@[simp] theorem q_get_mark {h : AH} : cmpA .Eq (.str "get") (.str "mark") h = some (.bl false, h) := by kernel_rfl
@[simp] theorem q_getx_mark {h : AH} : cmpA .Eq (.str "getx") (.str "mark") h = some (.bl false, h) := by kernel_rfl
@[simp] theorem q_put_mark {h : AH} : cmpA .Eq (.str "put") (.str "mark") h = some (.bl false, h) := by kernel_rfl
@[simp] theorem q_putx_mark {h : AH} : cmpA .Eq (.str "putx") (.str "mark") h = some (.bl false, h) := by kernel_rfl
@[simp] theorem q_pair_mark {h : AH} : cmpA .Eq (.str "pair") (.str "mark") h = some (.bl false, h) := by kernel_rfl
@[simp] theorem q_lay_mark {h : AH} : cmpA .Eq (.str "lay") (.str "mark") h = some (.bl false, h) := by kernel_rfl
@[simp] theorem q_go_mark {h : AH} : cmpA .Eq (.str "go") (.str "mark") h = some (.bl false, h) := by kernel_rfl
@[simp] theorem q_if_mark {h : AH} : cmpA .Eq (.str "if") (.str "mark") h = some (.bl false, h) := by kernel_rfl
@[simp] theorem q_ask_mark {h : AH} : cmpA .Eq (.str "ask") (.str "mark") h = some (.bl false, h) := by kernel_rfl
@[simp] theorem q_done_mark {h : AH} : cmpA .Eq (.str "done") (.str "mark") h = some (.bl false, h) := by kernel_rfl
@[simp] theorem q_mark_mark {h : AH} : cmpA .Eq (.str "mark") (.str "mark") h = some (.bl true, h) := by kernel_rfl
@[simp] theorem q_clear_mark {h : AH} : cmpA .Eq (.str "clear") (.str "mark") h = some (.bl false, h) := by kernel_rfl
@[simp] theorem q_rest_mark {h : AH} : cmpA .Eq (.str "rest") (.str "mark") h = some (.bl false, h) := by kernel_rfl
@[simp] theorem q_end_mark {h : AH} : cmpA .Eq (.str "end") (.str "mark") h = some (.bl false, h) := by kernel_rfl
@[simp] theorem q_set_getx {h : AH} : cmpA .Eq (.str "set") (.str "getx") h = some (.bl false, h) := by kernel_rfl
@[simp] theorem q_add_getx {h : AH} : cmpA .Eq (.str "add") (.str "getx") h = some (.bl false, h) := by kernel_rfl
@[simp] theorem q_less_getx {h : AH} : cmpA .Eq (.str "less") (.str "getx") h = some (.bl false, h) := by kernel_rfl
@[simp] theorem q_get_getx {h : AH} : cmpA .Eq (.str "get") (.str "getx") h = some (.bl false, h) := by kernel_rfl
@[simp] theorem q_getx_getx {h : AH} : cmpA .Eq (.str "getx") (.str "getx") h = some (.bl true, h) := by kernel_rfl
@[simp] theorem q_put_getx {h : AH} : cmpA .Eq (.str "put") (.str "getx") h = some (.bl false, h) := by kernel_rfl
@[simp] theorem q_putx_getx {h : AH} : cmpA .Eq (.str "putx") (.str "getx") h = some (.bl false, h) := by kernel_rfl
@[simp] theorem q_pair_getx {h : AH} : cmpA .Eq (.str "pair") (.str "getx") h = some (.bl false, h) := by kernel_rfl
@[simp] theorem q_lay_getx {h : AH} : cmpA .Eq (.str "lay") (.str "getx") h = some (.bl false, h) := by kernel_rfl
@[simp] theorem q_go_getx {h : AH} : cmpA .Eq (.str "go") (.str "getx") h = some (.bl false, h) := by kernel_rfl
@[simp] theorem q_if_getx {h : AH} : cmpA .Eq (.str "if") (.str "getx") h = some (.bl false, h) := by kernel_rfl
@[simp] theorem q_ask_getx {h : AH} : cmpA .Eq (.str "ask") (.str "getx") h = some (.bl false, h) := by kernel_rfl
@[simp] theorem q_done_getx {h : AH} : cmpA .Eq (.str "done") (.str "getx") h = some (.bl false, h) := by kernel_rfl
@[simp] theorem q_mark_getx {h : AH} : cmpA .Eq (.str "mark") (.str "getx") h = some (.bl false, h) := by kernel_rfl
@[simp] theorem q_clear_getx {h : AH} : cmpA .Eq (.str "clear") (.str "getx") h = some (.bl false, h) := by kernel_rfl
@[simp] theorem q_rest_getx {h : AH} : cmpA .Eq (.str "rest") (.str "getx") h = some (.bl false, h) := by kernel_rfl
@[simp] theorem q_end_getx {h : AH} : cmpA .Eq (.str "end") (.str "getx") h = some (.bl false, h) := by kernel_rfl
@[simp] theorem q_set_putx {h : AH} : cmpA .Eq (.str "set") (.str "putx") h = some (.bl false, h) := by kernel_rfl
@[simp] theorem q_add_putx {h : AH} : cmpA .Eq (.str "add") (.str "putx") h = some (.bl false, h) := by kernel_rfl
@[simp] theorem q_less_putx {h : AH} : cmpA .Eq (.str "less") (.str "putx") h = some (.bl false, h) := by kernel_rfl
@[simp] theorem q_get_putx {h : AH} : cmpA .Eq (.str "get") (.str "putx") h = some (.bl false, h) := by kernel_rfl
@[simp] theorem q_getx_putx {h : AH} : cmpA .Eq (.str "getx") (.str "putx") h = some (.bl false, h) := by kernel_rfl
@[simp] theorem q_put_putx {h : AH} : cmpA .Eq (.str "put") (.str "putx") h = some (.bl false, h) := by kernel_rfl
@[simp] theorem q_putx_putx {h : AH} : cmpA .Eq (.str "putx") (.str "putx") h = some (.bl true, h) := by kernel_rfl
@[simp] theorem q_pair_putx {h : AH} : cmpA .Eq (.str "pair") (.str "putx") h = some (.bl false, h) := by kernel_rfl
@[simp] theorem q_lay_putx {h : AH} : cmpA .Eq (.str "lay") (.str "putx") h = some (.bl false, h) := by kernel_rfl
@[simp] theorem q_go_putx {h : AH} : cmpA .Eq (.str "go") (.str "putx") h = some (.bl false, h) := by kernel_rfl
@[simp] theorem q_if_putx {h : AH} : cmpA .Eq (.str "if") (.str "putx") h = some (.bl false, h) := by kernel_rfl
@[simp] theorem q_ask_putx {h : AH} : cmpA .Eq (.str "ask") (.str "putx") h = some (.bl false, h) := by kernel_rfl
@[simp] theorem q_done_putx {h : AH} : cmpA .Eq (.str "done") (.str "putx") h = some (.bl false, h) := by kernel_rfl
@[simp] theorem q_mark_putx {h : AH} : cmpA .Eq (.str "mark") (.str "putx") h = some (.bl false, h) := by kernel_rfl
@[simp] theorem q_clear_putx {h : AH} : cmpA .Eq (.str "clear") (.str "putx") h = some (.bl false, h) := by kernel_rfl
@[simp] theorem q_rest_putx {h : AH} : cmpA .Eq (.str "rest") (.str "putx") h = some (.bl false, h) := by kernel_rfl
@[simp] theorem q_end_putx {h : AH} : cmpA .Eq (.str "end") (.str "putx") h = some (.bl false, h) := by kernel_rfl
@[simp] theorem i_set_gets {h : AH} : cmpA .In (.str "set") (.tup [.str "get", .str "getx", .str "pair"]) h = some (.bl false, h) := by kernel_rfl
@[simp] theorem i_add_gets {h : AH} : cmpA .In (.str "add") (.tup [.str "get", .str "getx", .str "pair"]) h = some (.bl false, h) := by kernel_rfl
@[simp] theorem i_less_gets {h : AH} : cmpA .In (.str "less") (.tup [.str "get", .str "getx", .str "pair"]) h = some (.bl false, h) := by kernel_rfl
@[simp] theorem i_get_gets {h : AH} : cmpA .In (.str "get") (.tup [.str "get", .str "getx", .str "pair"]) h = some (.bl true, h) := by kernel_rfl
@[simp] theorem i_getx_gets {h : AH} : cmpA .In (.str "getx") (.tup [.str "get", .str "getx", .str "pair"]) h = some (.bl true, h) := by kernel_rfl
@[simp] theorem i_put_gets {h : AH} : cmpA .In (.str "put") (.tup [.str "get", .str "getx", .str "pair"]) h = some (.bl false, h) := by kernel_rfl
@[simp] theorem i_putx_gets {h : AH} : cmpA .In (.str "putx") (.tup [.str "get", .str "getx", .str "pair"]) h = some (.bl false, h) := by kernel_rfl
@[simp] theorem i_pair_gets {h : AH} : cmpA .In (.str "pair") (.tup [.str "get", .str "getx", .str "pair"]) h = some (.bl true, h) := by kernel_rfl
@[simp] theorem i_lay_gets {h : AH} : cmpA .In (.str "lay") (.tup [.str "get", .str "getx", .str "pair"]) h = some (.bl false, h) := by kernel_rfl
@[simp] theorem i_go_gets {h : AH} : cmpA .In (.str "go") (.tup [.str "get", .str "getx", .str "pair"]) h = some (.bl false, h) := by kernel_rfl
@[simp] theorem i_if_gets {h : AH} : cmpA .In (.str "if") (.tup [.str "get", .str "getx", .str "pair"]) h = some (.bl false, h) := by kernel_rfl
@[simp] theorem i_ask_gets {h : AH} : cmpA .In (.str "ask") (.tup [.str "get", .str "getx", .str "pair"]) h = some (.bl false, h) := by kernel_rfl
@[simp] theorem i_done_gets {h : AH} : cmpA .In (.str "done") (.tup [.str "get", .str "getx", .str "pair"]) h = some (.bl false, h) := by kernel_rfl
@[simp] theorem i_mark_gets {h : AH} : cmpA .In (.str "mark") (.tup [.str "get", .str "getx", .str "pair"]) h = some (.bl false, h) := by kernel_rfl
@[simp] theorem i_clear_gets {h : AH} : cmpA .In (.str "clear") (.tup [.str "get", .str "getx", .str "pair"]) h = some (.bl false, h) := by kernel_rfl
@[simp] theorem i_rest_gets {h : AH} : cmpA .In (.str "rest") (.tup [.str "get", .str "getx", .str "pair"]) h = some (.bl false, h) := by kernel_rfl
@[simp] theorem i_end_gets {h : AH} : cmpA .In (.str "end") (.tup [.str "get", .str "getx", .str "pair"]) h = some (.bl false, h) := by kernel_rfl
@[simp] theorem i_set_marks {h : AH} : cmpA .In (.str "set") (.tup [.str "mark", .str "clear"]) h = some (.bl false, h) := by kernel_rfl
@[simp] theorem i_add_marks {h : AH} : cmpA .In (.str "add") (.tup [.str "mark", .str "clear"]) h = some (.bl false, h) := by kernel_rfl
@[simp] theorem i_less_marks {h : AH} : cmpA .In (.str "less") (.tup [.str "mark", .str "clear"]) h = some (.bl false, h) := by kernel_rfl
@[simp] theorem i_get_marks {h : AH} : cmpA .In (.str "get") (.tup [.str "mark", .str "clear"]) h = some (.bl false, h) := by kernel_rfl
@[simp] theorem i_getx_marks {h : AH} : cmpA .In (.str "getx") (.tup [.str "mark", .str "clear"]) h = some (.bl false, h) := by kernel_rfl
@[simp] theorem i_put_marks {h : AH} : cmpA .In (.str "put") (.tup [.str "mark", .str "clear"]) h = some (.bl false, h) := by kernel_rfl
@[simp] theorem i_putx_marks {h : AH} : cmpA .In (.str "putx") (.tup [.str "mark", .str "clear"]) h = some (.bl false, h) := by kernel_rfl
@[simp] theorem i_pair_marks {h : AH} : cmpA .In (.str "pair") (.tup [.str "mark", .str "clear"]) h = some (.bl false, h) := by kernel_rfl
@[simp] theorem i_lay_marks {h : AH} : cmpA .In (.str "lay") (.tup [.str "mark", .str "clear"]) h = some (.bl false, h) := by kernel_rfl
@[simp] theorem i_go_marks {h : AH} : cmpA .In (.str "go") (.tup [.str "mark", .str "clear"]) h = some (.bl false, h) := by kernel_rfl
@[simp] theorem i_if_marks {h : AH} : cmpA .In (.str "if") (.tup [.str "mark", .str "clear"]) h = some (.bl false, h) := by kernel_rfl
@[simp] theorem i_ask_marks {h : AH} : cmpA .In (.str "ask") (.tup [.str "mark", .str "clear"]) h = some (.bl false, h) := by kernel_rfl
@[simp] theorem i_done_marks {h : AH} : cmpA .In (.str "done") (.tup [.str "mark", .str "clear"]) h = some (.bl false, h) := by kernel_rfl
@[simp] theorem i_mark_marks {h : AH} : cmpA .In (.str "mark") (.tup [.str "mark", .str "clear"]) h = some (.bl true, h) := by kernel_rfl
@[simp] theorem i_clear_marks {h : AH} : cmpA .In (.str "clear") (.tup [.str "mark", .str "clear"]) h = some (.bl true, h) := by kernel_rfl
@[simp] theorem i_rest_marks {h : AH} : cmpA .In (.str "rest") (.tup [.str "mark", .str "clear"]) h = some (.bl false, h) := by kernel_rfl
@[simp] theorem i_end_marks {h : AH} : cmpA .In (.str "end") (.tup [.str "mark", .str "clear"]) h = some (.bl false, h) := by kernel_rfl
end SB

/-! The hall's machine. -/
namespace SB
open PySem
open L2 (Key)
structure Hs where
  prog : List Row
  dev : Dev
  mem : List Int
  asks : List (Nat × Nat)
  cells : List Int
  marks : List Bool
  row : Nat
  step : Nat
  time : Nat
  over : Bool
  dones : List (Nat × Nat)
def pairV (p : Nat × Nat) : AV := .tup [.int p.1, .int p.2]
def hallO (A : HAd) (s : Hs) : AO := .ins "Hall" [("program", .tup (s.prog.map Row.av)), ("memory", .ref A.m), ("asks", .ref A.q), ("device", .ref A.v), ("cells", .ref A.c), ("marks", .ref A.k), ("row", .int s.row), ("step", .int s.step), ("time", .int s.time), ("is_over", .bl s.over), ("dones", .ref A.e)]
def hallL (A : HAd) (s : Hs) : List (Nat × AO) := (A.a, hallO A s) :: (A.q, .lst (s.asks.map pairV)) :: (A.c, .lst (s.cells.map .int)) :: (A.e, .lst (s.dones.map pairV)) :: (A.m, .lst (s.mem.map .int)) :: (A.k, .lst (s.marks.map .bl)) :: devL A s.dev
def HAd.own (A : HAd) : List Nat := A.a :: A.q :: A.c :: A.e :: A.m :: A.k :: A.dev
structure HallAt (h : AH) (A : HAd) (s : Hs) : Prop where
  on : A.G.map (·.2) = s.dev.on
  has : Has h (hallL A s)
structure Hs.Ok (s : Hs) : Prop where
  p0 : s.prog ≠ []
  p1 : s.prog.length ≤ 40
  rows : ∀ r ∈ s.prog, r.Ok s.prog.length
  dev : s.dev.Ok
  m1 : 4 ≤ s.mem.length
  m2 : s.mem.length ≤ 32
  cells : s.cells.length = 4
  marks : s.marks.length = 3
  row : s.over = false → s.row < s.prog.length
  step : s.over = false → s.step < (s.prog.getD s.row .fin).beats
  dones : s.dones.length ≤ s.time
def Hs.cur (s : Hs) : Row := s.prog.getD s.row .fin
theorem Hs.Ok.cur {s : Hs} (k : s.Ok) (h : s.over = false) : s.prog[s.row]? = some s.cur ∧ s.cur.Ok s.prog.length := by
  have := k.row h
  have e : s.prog[s.row]? = some s.cur := by simp [Hs.cur, List.getD, this]
  exact ⟨e, k.rows _ (List.mem_of_getElem? e)⟩
section
variable {h : AH} {A : HAd} {s : Hs}
theorem HallAt.a (D : HallAt h A s) : h[A.a]? = some (hallO A s) := D.has.get (by simp [hallL])
theorem HallAt.q (D : HallAt h A s) : h[A.q]? = some (.lst (s.asks.map pairV)) := D.has.get (by simp [hallL])
theorem HallAt.c (D : HallAt h A s) : h[A.c]? = some (.lst (s.cells.map .int)) := D.has.get (by simp [hallL])
theorem HallAt.e (D : HallAt h A s) : h[A.e]? = some (.lst (s.dones.map pairV)) := D.has.get (by simp [hallL])
theorem HallAt.m (D : HallAt h A s) : h[A.m]? = some (.lst (s.mem.map .int)) := D.has.get (by simp [hallL])
theorem HallAt.k (D : HallAt h A s) : h[A.k]? = some (.lst (s.marks.map .bl)) := D.has.get (by simp [hallL])
theorem HallAt.dm (D : HallAt h A s) : DMAt h A s.dev s.mem s.marks := ⟨D.on, D.has.sub (by
  unfold hallL
  exact List.Sublist.trans (List.sublist_cons_self _ _) (List.Sublist.trans (List.sublist_cons_self _ _) (List.Sublist.trans (List.sublist_cons_self _ _) (List.sublist_cons_self _ _))))⟩
theorem HallAt.dev (D : HallAt h A s) : DevAt h A s.dev := D.dm.dev
theorem h_program (e : h[A.a]? = some (hallO A s)) : fldA "program" (.ref A.a) h = some (.tup (s.prog.map Row.av), h) := fld_of e (by kernel_rfl)
theorem h_memory (e : h[A.a]? = some (hallO A s)) : fldA "memory" (.ref A.a) h = some (.ref A.m, h) := fld_of e (by kernel_rfl)
theorem h_asks (e : h[A.a]? = some (hallO A s)) : fldA "asks" (.ref A.a) h = some (.ref A.q, h) := fld_of e (by kernel_rfl)
theorem h_device (e : h[A.a]? = some (hallO A s)) : fldA "device" (.ref A.a) h = some (.ref A.v, h) := fld_of e (by kernel_rfl)
theorem h_cells (e : h[A.a]? = some (hallO A s)) : fldA "cells" (.ref A.a) h = some (.ref A.c, h) := fld_of e (by kernel_rfl)
theorem h_marks (e : h[A.a]? = some (hallO A s)) : fldA "marks" (.ref A.a) h = some (.ref A.k, h) := fld_of e (by kernel_rfl)
theorem h_row (e : h[A.a]? = some (hallO A s)) : fldA "row" (.ref A.a) h = some (.int s.row, h) := fld_of e (by kernel_rfl)
theorem h_step (e : h[A.a]? = some (hallO A s)) : fldA "step" (.ref A.a) h = some (.int s.step, h) := fld_of e (by kernel_rfl)
theorem h_time (e : h[A.a]? = some (hallO A s)) : fldA "time" (.ref A.a) h = some (.int s.time, h) := fld_of e (by kernel_rfl)
theorem h_over (e : h[A.a]? = some (hallO A s)) : fldA "is_over" (.ref A.a) h = some (.bl s.over, h) := fld_of e (by kernel_rfl)
theorem h_dones (e : h[A.a]? = some (hallO A s)) : fldA "dones" (.ref A.a) h = some (.ref A.e, h) := fld_of e (by kernel_rfl)
theorem h_setRow (e : h[A.a]? = some (hallO A s)) (n : Nat) : setFldA ["Hall"] "row" (.ref A.a) (.int n) h = some (h.set A.a (hallO A { s with row := n })) := setFld_0 e (by decide) (by simp) (by kernel_rfl)
theorem h_setStep (e : h[A.a]? = some (hallO A s)) (n : Nat) : setFldA ["Hall"] "step" (.ref A.a) (.int n) h = some (h.set A.a (hallO A { s with step := n })) := setFld_0 e (by decide) (by simp) (by kernel_rfl)
theorem h_setTime (e : h[A.a]? = some (hallO A s)) (n : Nat) : setFldA ["Hall"] "time" (.ref A.a) (.int n) h = some (h.set A.a (hallO A { s with time := n })) := setFld_0 e (by decide) (by simp) (by kernel_rfl)
theorem h_setOver (e : h[A.a]? = some (hallO A s)) (b : Bool) : setFldA ["Hall"] "is_over" (.ref A.a) (.bl b) h = some (h.set A.a (hallO A { s with over := b })) := setFld_0 e (by decide) (by simp) (by kernel_rfl)
end
/-! is_wanted -/
def Hs.wanted (s : Hs) : Bool := !s.over && s.cur.wants
def S_wants (O : Ora) : Prop := ∀ (r : Row) (h : AH), O n_wants_bus [r.av] h = some (.bl r.wants, h)
def S_beats (O : Ora) : Prop := ∀ (r : Row) (h : AH), O n_beats_of [r.av] h = some (.int r.beats, h)
theorem ix_prog {s : Hs} {h : AH} {r : Row} (e : s.prog[s.row]? = some r) : ixA (.tup (s.prog.map Row.av)) (.int (s.row : Int)) h = some (r.av, h) := ix_tup (by rw [List.getElem?_map, e]; rfl)
theorem sp_is_wanted {O : Ora} (hw : S_wants O) {h : AH} {A : HAd} {s : Hs} (D : HallAt h A s) (ok : s.Ok) : f_Hall_is_wanted.run O [.ref A.a] h = some (.bl s.wanted, h) := by
  cases ho : s.over with
  | true => simp [f_Hall_is_wanted, Df.run, b_Hall_is_wanted, h_over D.a, ho, Hs.wanted]
  | false =>
    have e := ix_prog (h := h) (ok.cur ho).1
    have w := hw s.cur h
    simp [f_Hall_is_wanted, Df.run, b_Hall_is_wanted, h_over D.a, h_program D.a, h_row D.a, ho, e, w, Hs.wanted]
/-! words -/
def Row.isGet : Row → Bool
  | .get _ _ | .getx _ _ | .pair _ _ => true
  | _ => false
def Row.place (cells : List Int) : Row → Int
  | .get _ a => a
  | .getx _ q => cells.getD q 0
  | .pair _ a => a
  | .put a _ => a
  | .putx p _ => cells.getD p 0
  | .lay a _ => a
  | _ => 0
def Row.reg : Row → Nat
  | .get r _ => r
  | .getx r _ => r
  | .pair r _ => r
  | .put _ r => r
  | .putx _ s => s
  | .lay _ r => r
  | _ => 0
def Hs.adr (s : Hs) (r : Row) : Nat := ((r.place s.cells + s.step) % (s.mem.length : Int)).toNat
/-- get or put, address, word -/
abbrev Acc := Bool × Nat × Int
def accV (a : Acc) : AV := .tup [.str (if a.1 = true then "put" else "get"), .int a.2.1, .int a.2.2]
def Hs.words (s : Hs) (r : Row) : Hs × Acc :=
  if r.isGet = true then ({ s with cells := s.cells.set (r.reg + s.step) (s.mem.getD (s.adr r) 0) }, (false, s.adr r, s.mem.getD (s.adr r) 0))
  else ({ s with mem := s.mem.set (s.adr r) (s.cells.getD (r.reg + s.step) 0) }, (true, s.adr r, s.cells.getD (r.reg + s.step) 0))
section
variable {x y z : AV} {h : AH}
@[simp] theorem t30 : ixA (.tup [x, y, z]) (.int 0) h = some (x, h) := rfl
@[simp] theorem t31 : ixA (.tup [x, y, z]) (.int 1) h = some (y, h) := rfl
@[simp] theorem t32 : ixA (.tup [x, y, z]) (.int 2) h = some (z, h) := rfl
@[simp] theorem t3m : ixA (.tup [x, y, z]) (.int (-1)) h = some (z, h) := rfl
@[simp] theorem t20 : ixA (.tup [x, y]) (.int 0) h = some (x, h) := rfl
@[simp] theorem t21 : ixA (.tup [x, y]) (.int 1) h = some (y, h) := rfl
@[simp] theorem t2m : ixA (.tup [x, y]) (.int (-1)) h = some (y, h) := rfl
@[simp] theorem t10 : ixA (.tup [x]) (.int 0) h = some (x, h) := rfl
end
theorem adr_cast {s : Hs} {r : Row} (h : 0 < s.mem.length) : (r.place s.cells + (s.step : Int)) % (s.mem.length : Int) = ((s.adr r : Nat) : Int) := by
  unfold Hs.adr
  rw [Int.toNat_of_nonneg (Int.emod_nonneg _ (by omega))]
theorem adr_lt {s : Hs} {r : Row} (h : 0 < s.mem.length) : s.adr r < s.mem.length := by
  have := adr_cast (r := r) h
  have h2 := Int.emod_lt_of_pos (r.place s.cells + (s.step : Int)) (show (0 : Int) < s.mem.length by omega)
  omega
theorem reg_lt {r : Row} {many n : Nat} (hw : r.wants = true) (hr : r.Ok many) (hs : n < r.beats) : r.reg + n < 4 := by
  cases r <;> simp_all [Row.wants, Row.Ok, Row.beats, Row.reg] <;> omega
theorem sp_words {O : Ora} {h : AH} {A : HAd} {s : Hs} {r : Row} (D : HallAt h A s) (hw : r.wants = true) {many : Nat} (hr : r.Ok many) (hs : s.step < r.beats) (hm : 0 < s.mem.length) (hc : s.cells.length = 4) :
    ∃ h', f_Hall_words.run O [.ref A.a, r.av] h = some (accV (s.words r).2, h') ∧ HallAt h' A (s.words r).1 ∧ Fr A.own h h' := by
  have hreg := reg_lt hw hr hs
  have la := adr_lt (s := s) (r := r) hm
  have mo := adr_cast (s := s) (r := r) hm
  have lm := len_lst D.m
  rw [List.length_map] at lm
  have pm := fun i : Int => o_mod (h := h) (i := i) (j := (s.mem.length : Int)) (by omega)
  have rc := fun i (hi : i < 4) => ix_mem D.c (i := i) (by omega)
  have rm := ix_mem D.m la
  have fm := h_memory D.a
  have fc := h_cells D.a
  have fs := h_step D.a
  have hrs : ((r.reg : Int) + (s.step : Int)) = ((r.reg + s.step : Nat) : Int) := by omega
  cases hg : r.isGet with
  | true =>
    have D2 := Has.setAt (L1 := [(A.a, hallO A s), (A.q, .lst (s.asks.map pairV))]) (L2 := (A.e, .lst (s.dones.map pairV)) :: (A.m, .lst (s.mem.map .int)) :: (A.k, .lst (s.marks.map .bl)) :: devL A s.dev) D.has (.lst ((s.cells.set (r.reg + s.step) (s.mem.getD (s.adr r) 0)).map .int))
    have st : setIxA (.ref A.c) (.int ((r.reg : Int) + (s.step : Int))) (.int (s.mem.getD (s.adr r) 0)) h = some (h.set A.c (.lst ((s.cells.set (r.reg + s.step) (s.mem.getD (s.adr r) 0)).map .int))) := by
      rw [hrs, setIx_of D.c (by rw [List.length_map, hc]; exact hreg), List.map_set]
    have e : s.words r = ({ s with cells := s.cells.set (r.reg + s.step) (s.mem.getD (s.adr r) 0) }, (false, s.adr r, s.mem.getD (s.adr r) 0)) := by unfold Hs.words; rw [if_pos hg]
    rw [e]
    have D3 : HallAt (h.set A.c (.lst ((s.cells.set (r.reg + s.step) (s.mem.getD (s.adr r) 0)).map .int))) A { s with cells := s.cells.set (r.reg + s.step) (s.mem.getD (s.adr r) 0) } := ⟨D.on, D2⟩
    have fm3 := h_memory D3.a
    have rm3 := ix_mem D3.m la
    have F : Fr A.own h (h.set A.c (.lst ((s.cells.set (r.reg + s.step) (s.mem.getD (s.adr r) 0)).map .int))) := Fr.set (by simp [HAd.own])
    generalize h.set A.c (.lst ((s.cells.set (r.reg + s.step) (s.mem.getD (s.adr r) 0)).map .int)) = h2 at st D2 D3 fm3 rm3 F
    refine ⟨h2, ?_, D3, F⟩
    cases r <;> first | (simp [Row.isGet] at hg; done) | skip
    · simp only [Row.place, Row.reg] at mo st
      simp [-List.getD_eq_getElem?_getD, f_Hall_words, Df.run, b_Hall_words, Row.av, fm, fc, fs, lm, pm, mo, rm, st, fm3, rm3, accV]
    · simp only [Row.place, Row.reg] at mo st
      have r2 := rc _ hr.2
      simp [-List.getD_eq_getElem?_getD, f_Hall_words, Df.run, b_Hall_words, Row.av, fm, fc, fs, lm, pm, mo, rm, st, fm3, rm3, accV, r2]
    · simp only [Row.place, Row.reg] at mo st
      simp [-List.getD_eq_getElem?_getD, f_Hall_words, Df.run, b_Hall_words, Row.av, fm, fc, fs, lm, pm, mo, rm, st, fm3, rm3, accV]
  | false =>
    have D2 := Has.setAt (L1 := [(A.a, hallO A s), (A.q, .lst (s.asks.map pairV)), (A.c, .lst (s.cells.map .int)), (A.e, .lst (s.dones.map pairV))]) (L2 := (A.k, .lst (s.marks.map .bl)) :: devL A s.dev) D.has (.lst ((s.mem.set (s.adr r) (s.cells.getD (r.reg + s.step) 0)).map .int))
    have st : setIxA (.ref A.m) (.int (s.adr r : Int)) (.int (s.cells.getD (r.reg + s.step) 0)) h = some (h.set A.m (.lst ((s.mem.set (s.adr r) (s.cells.getD (r.reg + s.step) 0)).map .int))) := by
      rw [setIx_of D.m (by rw [List.length_map]; exact la), List.map_set]
    have e : s.words r = ({ s with mem := s.mem.set (s.adr r) (s.cells.getD (r.reg + s.step) 0) }, (true, s.adr r, s.cells.getD (r.reg + s.step) 0)) := by unfold Hs.words; rw [if_neg (by rw [hg]; decide)]
    rw [e]
    have D3 : HallAt (h.set A.m (.lst ((s.mem.set (s.adr r) (s.cells.getD (r.reg + s.step) 0)).map .int))) A { s with mem := s.mem.set (s.adr r) (s.cells.getD (r.reg + s.step) 0) } := ⟨D.on, D2⟩
    have fm3 := h_memory D3.a
    have rm3 := ix_mem D3.m (i := s.adr r) (by rw [List.length_set]; exact la)
    rw [show (s.mem.set (s.adr r) (s.cells.getD (r.reg + s.step) 0)).getD (s.adr r) 0 = s.cells.getD (r.reg + s.step) 0 from by simp [List.getD, la]] at rm3
    have F : Fr A.own h (h.set A.m (.lst ((s.mem.set (s.adr r) (s.cells.getD (r.reg + s.step) 0)).map .int))) := Fr.set (by simp [HAd.own])
    generalize h.set A.m (.lst ((s.mem.set (s.adr r) (s.cells.getD (r.reg + s.step) 0)).map .int)) = h2 at st D2 D3 fm3 rm3 F
    have rr := rc (r.reg + s.step) hreg
    rw [Int.natCast_add] at rr
    refine ⟨h2, ?_, D3, F⟩
    cases r <;> first | (simp [Row.isGet] at hg; done) | (simp [Row.wants] at hw; done) | skip
    · simp only [Row.place, Row.reg] at mo st rr
      simp [-List.getD_eq_getElem?_getD, f_Hall_words, Df.run, b_Hall_words, Row.av, fm, fc, fs, lm, pm, mo, rr, st, fm3, rm3, accV, Row.reg]
    · simp only [Row.place, Row.reg] at mo st rr
      have r2 := rc _ hr.1
      simp [-List.getD_eq_getElem?_getD, f_Hall_words, Df.run, b_Hall_words, Row.av, fm, fc, fs, lm, pm, mo, rr, st, fm3, rm3, accV, r2, Row.reg]
    · simp only [Row.place, Row.reg] at mo st rr
      simp [-List.getD_eq_getElem?_getD, f_Hall_words, Df.run, b_Hall_words, Row.av, fm, fc, fs, lm, pm, mo, rr, st, fm3, rm3, accV, Row.reg]
end SB

/-! next_row, machine_beat. -/
namespace SB
open PySem
open L2 (Key)
section
variable {h : AH} {A : HAd} {s : Hs}
theorem HallAt.setC (D : HallAt h A s) (c : List Int) : HallAt (h.set A.c (.lst (c.map .int))) A { s with cells := c } ∧ Fr A.own h (h.set A.c (.lst (c.map .int))) :=
  ⟨⟨D.on, Has.setAt (L1 := [(A.a, hallO A s), (A.q, .lst (s.asks.map pairV))]) (L2 := (A.e, .lst (s.dones.map pairV)) :: (A.m, .lst (s.mem.map .int)) :: (A.k, .lst (s.marks.map .bl)) :: devL A s.dev) D.has _⟩, Fr.set (by simp [HAd.own])⟩
theorem HallAt.setK (D : HallAt h A s) (c : List Bool) : HallAt (h.set A.k (.lst (c.map .bl))) A { s with marks := c } ∧ Fr A.own h (h.set A.k (.lst (c.map .bl))) :=
  ⟨⟨D.on, Has.setAt (L1 := [(A.a, hallO A s), (A.q, .lst (s.asks.map pairV)), (A.c, .lst (s.cells.map .int)), (A.e, .lst (s.dones.map pairV)), (A.m, .lst (s.mem.map .int))]) (L2 := devL A s.dev) D.has _⟩, Fr.set (by simp [HAd.own])⟩
theorem HallAt.setE (D : HallAt h A s) (c : List (Nat × Nat)) : HallAt (h.set A.e (.lst (c.map pairV))) A { s with dones := c } ∧ Fr A.own h (h.set A.e (.lst (c.map pairV))) :=
  ⟨⟨D.on, Has.setAt (L1 := [(A.a, hallO A s), (A.q, .lst (s.asks.map pairV)), (A.c, .lst (s.cells.map .int))]) (L2 := (A.m, .lst (s.mem.map .int)) :: (A.k, .lst (s.marks.map .bl)) :: devL A s.dev) D.has _⟩, Fr.set (by simp [HAd.own])⟩
theorem HallAt.setQ (D : HallAt h A s) (c : List (Nat × Nat)) : HallAt (h.set A.q (.lst (c.map pairV))) A { s with asks := c } ∧ Fr A.own h (h.set A.q (.lst (c.map pairV))) :=
  ⟨⟨D.on, Has.setAt (L1 := [(A.a, hallO A s)]) (L2 := (A.c, .lst (s.cells.map .int)) :: (A.e, .lst (s.dones.map pairV)) :: (A.m, .lst (s.mem.map .int)) :: (A.k, .lst (s.marks.map .bl)) :: devL A s.dev) D.has _⟩, Fr.set (by simp [HAd.own])⟩
theorem HallAt.setA (D : HallAt h A s) (row step time : Nat) (over : Bool) : HallAt (h.set A.a (hallO A { s with row := row, step := step, time := time, over := over })) A { s with row := row, step := step, time := time, over := over } ∧ Fr A.own h (h.set A.a (hallO A { s with row := row, step := step, time := time, over := over })) :=
  ⟨⟨D.on, Has.setAt (L1 := []) (L2 := (A.q, .lst (s.asks.map pairV)) :: (A.c, .lst (s.cells.map .int)) :: (A.e, .lst (s.dones.map pairV)) :: (A.m, .lst (s.mem.map .int)) :: (A.k, .lst (s.marks.map .bl)) :: devL A s.dev) D.has _⟩, Fr.set (by simp [HAd.own])⟩
/-- the device's own step -/
theorem HallAt.step {h' : AH} {G : List (Nat × Going)} {d' : Dev} (D : HallAt h A s) (D' : DevAt h' { A with G := G } d') (V : Adv A.dev ({ A with G := G } : HAd).dev h h') :
    HallAt h' { A with G := G } { s with dev := d' } ∧ Adv A.own ({ A with G := G } : HAd).own h h' := by
  have dm := D.dm.step D' V
  have nd := D.has.nd
  simp only [hallL, List.map_cons, devL_adr, List.nodup_cons, List.mem_cons, not_or] at nd
  obtain ⟨n1, n2, n3, n4, n5, n6, n7⟩ := nd
  have out : ∀ i, i ∉ A.dev → i < h.length → i ∉ ({ A with G := G } : HAd).dev := fun i hi hl hm => (V.new i hm).elim hi fun q => by omega
  refine ⟨⟨D'.on, ⟨?_, fun p hp => ?_⟩⟩, V.fr.mono fun i hi => by simp [HAd.own, hi], fun i hi => ?_⟩
  · have := dm.has.nd
    simp only [List.map_cons, devL_adr, List.nodup_cons, List.mem_cons, not_or] at this
    simp only [hallL, List.map_cons, devL_adr, List.nodup_cons, List.mem_cons, not_or]
    exact ⟨⟨n1.1, n1.2.1, n1.2.2.1, n1.2.2.2.1, n1.2.2.2.2.1, out _ n1.2.2.2.2.2 (lt_of D.a)⟩, ⟨n2.1, n2.2.1, n2.2.2.1, n2.2.2.2.1, out _ n2.2.2.2.2 (lt_of D.q)⟩, ⟨n3.1, n3.2.1, n3.2.2.1, out _ n3.2.2.2 (lt_of D.c)⟩, ⟨n4.1, n4.2.1, out _ n4.2.2 (lt_of D.e)⟩, this⟩
  · simp only [hallL, List.mem_cons] at hp
    rcases hp with hp | hp | hp | hp | hp
    · subst hp; exact V.fr.at_ _ _ n1.2.2.2.2.2 D.a
    · subst hp; exact V.fr.at_ _ _ n2.2.2.2.2 D.q
    · subst hp; exact V.fr.at_ _ _ n3.2.2.2 D.c
    · subst hp; exact V.fr.at_ _ _ n4.2.2 D.e
    · exact dm.has.at_ p (by simpa using hp)
  · simp only [HAd.own, List.mem_cons] at hi ⊢
    rcases hi with hi | hi | hi | hi | hi | hi | hi
    · exact .inl (.inl hi)
    · exact .inl (.inr (.inl hi))
    · exact .inl (.inr (.inr (.inl hi)))
    · exact .inl (.inr (.inr (.inr (.inl hi))))
    · exact .inl (.inr (.inr (.inr (.inr (.inl hi)))))
    · exact .inl (.inr (.inr (.inr (.inr (.inr (.inl hi))))))
    · exact (V.new i hi).elim (fun z => .inl (.inr (.inr (.inr (.inr (.inr (.inr z))))))) .inr
end
def Hs.next (s : Hs) : Row → Hs × Nat
  | .set q n => ({ s with cells := s.cells.set q n }, s.row + 1)
  | .add q p => ({ s with cells := s.cells.set q ((s.cells.getD q 0 + s.cells.getD p 0) % 1000) }, s.row + 1)
  | .less q p => ({ s with cells := s.cells.set q (if s.cells.getD q 0 < s.cells.getD p 0 then 1 else 0) }, s.row + 1)
  | .done q w => ({ s with cells := s.cells.set q (if w ∈ s.dev.on.map (·.num) then 0 else 1) }, s.row + 1)
  | .ask w => ({ s with dev := s.dev.begin w }, s.row + 1)
  | .mark m => ({ s with marks := s.marks.set m true }, s.row + 1)
  | .clear m => ({ s with marks := s.marks.set m false }, s.row + 1)
  | .go l => (s, l)
  | .iff q l => (s, if s.cells.getD q 0 ≠ 0 then l else s.row + 1)
  | .fin => (s, s.prog.length)
  | _ => (s, s.row + 1)
theorem setIx_int {h : AH} {a : Nat} {xs : List Int} {i : Nat} {v : Int} (e : h[a]? = some (.lst (xs.map .int))) (hi : i < xs.length) : setIxA (.ref a) (.int (i : Int)) (.int v) h = some (h.set a (.lst ((xs.set i v).map .int))) := by
  rw [setIx_of e (by rw [List.length_map]; exact hi), List.map_set]
theorem setIx_bl {h : AH} {a : Nat} {xs : List Bool} {i : Nat} {v : Bool} (e : h[a]? = some (.lst (xs.map .bl))) (hi : i < xs.length) : setIxA (.ref a) (.int (i : Int)) (.bl v) h = some (h.set a (.lst ((xs.set i v).map .bl))) := by
  rw [setIx_of e (by rw [List.length_map]; exact hi), List.map_set]
@[simp] theorem int_bl {k : Bool} {h : AH} : intA (.bl k) h = some (.int (if k then 1 else 0), h) := rfl
theorem len_prog {s : Hs} {h : AH} : lenA (.tup (s.prog.map Row.av)) h = some (.int (s.prog.length : Int), h) := by
  show some (AV.int ((s.prog.map Row.av).length : Int), h) = _
  rw [List.length_map]
theorem sp_next {O : Ora} (hb : S_begin O) {h : AH} {A : HAd} {s : Hs} {r : Row} (D : HallAt h A s) {many : Nat} (hr : r.Ok many) (hc : s.cells.length = 4) (hk : s.marks.length = 3) (hd : s.dev.Ok) :
    ∃ G h', f_Hall_next_row.run O [.ref A.a, r.av] h = some (.int (s.next r).2, h') ∧ HallAt h' { A with G := G } (s.next r).1 ∧ Adv A.own ({ A with G := G } : HAd).own h h' := by
  have rc := fun i (hi : i < 4) => ix_mem D.c (i := i) (by omega)
  have fc := h_cells D.a
  have lp : ∀ h, lenA (.tup (s.prog.map Row.av)) h = some (.int (s.prog.length : Int), h) := fun h => len_prog
  have stay : ∀ {h'}, Fr A.own h h' → Adv A.own A.own h h' := fun F => ⟨F, fun i hi => .inl hi⟩
  cases r with
  | set q n =>
    obtain ⟨D2, F⟩ := D.setC (s.cells.set q n)
    have st := setIx_int D.c (i := q) (v := n) (by rw [hc]; exact hr.1)
    generalize h.set A.c (.lst ((s.cells.set q (n : Int)).map .int)) = h2 at D2 F st
    have fr := h_row D2.a
    refine ⟨A.G, h2, ?_, D2, stay F⟩
    simp [-List.getD_eq_getElem?_getD, f_Hall_next_row, Df.run, b_Hall_next_row, Row.av, fc, st, fr, Hs.next]
  | add q p =>
    obtain ⟨D2, F⟩ := D.setC (s.cells.set q ((s.cells.getD q 0 + s.cells.getD p 0) % 1000))
    have st := setIx_int D.c (i := q) (v := (s.cells.getD q 0 + s.cells.getD p 0) % 1000) (by rw [hc]; exact hr.1)
    generalize h.set A.c (.lst ((s.cells.set q ((s.cells.getD q 0 + s.cells.getD p 0) % 1000)).map .int)) = h2 at D2 F st
    have fr := h_row D2.a
    have pm := fun i : Int => o_mod (h := h) (i := i) (j := 1000) (by omega)
    have r1 := rc _ hr.1
    have r2 := rc _ hr.2
    refine ⟨A.G, h2, ?_, D2, stay F⟩
    simp [-List.getD_eq_getElem?_getD, f_Hall_next_row, Df.run, b_Hall_next_row, Row.av, fc, st, fr, Hs.next, pm, r1, r2]
  | less q p =>
    obtain ⟨D2, F⟩ := D.setC (s.cells.set q (if s.cells.getD q 0 < s.cells.getD p 0 then 1 else 0))
    have st := setIx_int D.c (i := q) (v := if s.cells.getD q 0 < s.cells.getD p 0 then 1 else 0) (by rw [hc]; exact hr.1)
    generalize h.set A.c (.lst ((s.cells.set q (if s.cells.getD q 0 < s.cells.getD p 0 then 1 else 0)).map .int)) = h2 at D2 F st
    have fr := h_row D2.a
    have r1 := rc _ hr.1
    have r2 := rc _ hr.2
    refine ⟨A.G, h2, ?_, D2, stay F⟩
    simp [-List.getD_eq_getElem?_getD, f_Hall_next_row, Df.run, b_Hall_next_row, Row.av, fc, st, fr, Hs.next, r1, r2]
  | done q w =>
    obtain ⟨D2, F⟩ := D.setC (s.cells.set q (if w ∈ s.dev.on.map (·.num) then 0 else 1))
    have st := setIx_int D.c (i := q) (v := if w ∈ s.dev.on.map (·.num) then 0 else 1) (by rw [hc]; exact hr.1)
    generalize h.set A.c (.lst ((s.cells.set q (if w ∈ s.dev.on.map (·.num) then 0 else 1)).map .int)) = h2 at D2 F st
    have fr := h_row D2.a
    have fd := h_device D.a
    have fo := dv_on D.dev
    have ni := notin_on D.dev w
    have e : (if (!decide (w ∈ s.dev.on.map (·.num))) = true then (1 : Int) else 0) = if w ∈ s.dev.on.map (·.num) then 0 else 1 := by
      by_cases c : w ∈ s.dev.on.map (·.num) <;> simp [c]
    have st' : setIxA (.ref A.c) (.int (q : Int)) (.int (if (!decide (w ∈ s.dev.on.map (·.num))) = true then (1 : Int) else 0)) h = some h2 := by rw [e]; exact st
    refine ⟨A.G, h2, ?_, D2, stay F⟩
    generalize (!decide (w ∈ s.dev.on.map (·.num))) = kk at ni st'
    simp [-List.getD_eq_getElem?_getD, f_Hall_next_row, Df.run, b_Hall_next_row, Row.av, fc, st', fr, Hs.next, fd, fo, ni]
  | ask w =>
    have fd := h_device D.a
    obtain ⟨G, h2, q1, q2, q3⟩ := hb h A s.dev w D.dev hd
    obtain ⟨D2, V⟩ := D.step q2 q3
    have cb : callM O "begin" (.ref A.v) [.int (w : Int)] h h = _ := (call_of D.dev.v (by kernel_rfl)).trans q1
    have fr := h_row (A := { A with G := G }) D2.a
    refine ⟨G, h2, ?_, D2, V⟩
    simp [-List.getD_eq_getElem?_getD, f_Hall_next_row, Df.run, b_Hall_next_row, Row.av, fd, cb, fr, Hs.next]
  | mark m =>
    obtain ⟨D2, F⟩ := D.setK (s.marks.set m true)
    have st := setIx_bl D.k (i := m) (v := true) (by rw [hk]; exact hr)
    generalize h.set A.k (.lst ((s.marks.set m true).map .bl)) = h2 at D2 F st
    have fr := h_row D2.a
    have fk := h_marks D.a
    refine ⟨A.G, h2, ?_, D2, stay F⟩
    simp [-List.getD_eq_getElem?_getD, f_Hall_next_row, Df.run, b_Hall_next_row, Row.av, fk, st, fr, Hs.next]
  | clear m =>
    obtain ⟨D2, F⟩ := D.setK (s.marks.set m false)
    have st := setIx_bl D.k (i := m) (v := false) (by rw [hk]; exact hr)
    generalize h.set A.k (.lst ((s.marks.set m false).map .bl)) = h2 at D2 F st
    have fr := h_row D2.a
    have fk := h_marks D.a
    refine ⟨A.G, h2, ?_, D2, stay F⟩
    simp [-List.getD_eq_getElem?_getD, f_Hall_next_row, Df.run, b_Hall_next_row, Row.av, fk, st, fr, Hs.next]
  | iff q l =>
    have fr := h_row D.a
    have r1 := rc _ hr.1
    refine ⟨A.G, h, ?_, D, stay (Fr.refl _ _)⟩
    by_cases c : s.cells.getD q 0 = 0
    · simp [-List.getD_eq_getElem?_getD, f_Hall_next_row, Df.run, b_Hall_next_row, Row.av, fc, fr, Hs.next, r1, c]
    · simp [-List.getD_eq_getElem?_getD, f_Hall_next_row, Df.run, b_Hall_next_row, Row.av, fc, fr, Hs.next, r1, c]
  | fin =>
    have fp := h_program D.a
    refine ⟨A.G, h, ?_, D, stay (Fr.refl _ _)⟩
    simp [-List.getD_eq_getElem?_getD, f_Hall_next_row, Df.run, b_Hall_next_row, Row.av, fp, lp, Hs.next]
  | _ =>
    have fr := h_row D.a
    refine ⟨A.G, h, ?_, D, stay (Fr.refl _ _)⟩
    simp [-List.getD_eq_getElem?_getD, f_Hall_next_row, Df.run, b_Hall_next_row, Row.av, fr, Hs.next]
end SB

/-! machine_beat, full_beat. -/
namespace SB
open PySem
open L2 (Key)
inductive Did where
  | waits | goes | ends | acc (a : Acc)
def didV : Did → AV
  | .waits => .str "waits"
  | .goes => .str "goes"
  | .ends => .str "ends"
  | .acc a => accV a
def Hs.turn (s : Hs) (r : Row) : Hs × Did := if r.wants = true then ((s.words r).1, .acc (s.words r).2) else (s, .goes)
def Hs.close (s : Hs) (r : Row) : Hs :=
  let n := ({ s with step := 0, dones := s.dones ++ [(s.row, s.time)] } : Hs).next r
  { n.1 with row := n.2, over := decide (n.2 = s.prog.length) }
def Hs.stepped (s : Hs) (r : Row) : Hs := if s.step + 1 = r.beats then s.close r else { s with step := s.step + 1 }
def Hs.machine (s : Hs) : Hs × Did := if s.over = true then (s, .ends) else ((s.turn s.cur).1.stepped s.cur, (s.turn s.cur).2)
theorem words_same (s : Hs) (r : Row) : (s.words r).1.prog = s.prog ∧ (s.words r).1.dev = s.dev ∧ (s.words r).1.asks = s.asks ∧ (s.words r).1.marks = s.marks ∧ (s.words r).1.row = s.row ∧ (s.words r).1.step = s.step ∧ (s.words r).1.time = s.time ∧ (s.words r).1.over = s.over ∧ (s.words r).1.dones = s.dones ∧ (s.words r).1.cells.length = s.cells.length ∧ (s.words r).1.mem.length = s.mem.length := by
  unfold Hs.words
  split <;> simp
theorem turn_same (s : Hs) (r : Row) : (s.turn r).1.prog = s.prog ∧ (s.turn r).1.dev = s.dev ∧ (s.turn r).1.asks = s.asks ∧ (s.turn r).1.marks = s.marks ∧ (s.turn r).1.row = s.row ∧ (s.turn r).1.step = s.step ∧ (s.turn r).1.time = s.time ∧ (s.turn r).1.over = s.over ∧ (s.turn r).1.dones = s.dones ∧ (s.turn r).1.cells.length = s.cells.length ∧ (s.turn r).1.mem.length = s.mem.length := by
  unfold Hs.turn
  split
  · exact words_same s r
  · simp
theorem next_same (s : Hs) (r : Row) : (s.next r).1.prog = s.prog ∧ (s.next r).1.mem = s.mem ∧ (s.next r).1.asks = s.asks ∧ (s.next r).1.row = s.row ∧ (s.next r).1.step = s.step ∧ (s.next r).1.time = s.time ∧ (s.next r).1.over = s.over ∧ (s.next r).1.dones = s.dones ∧ (s.next r).1.cells.length = s.cells.length ∧ (s.next r).1.marks.length = s.marks.length ∧ ((s.next r).1.dev = s.dev ∨ ∃ n, (s.next r).1.dev = s.dev.begin n) := by
  cases r <;> simp [Hs.next]
  exact .inr ⟨_, rfl⟩
def S_words (O : Ora) : Prop := ∀ (h : AH) (A : HAd) (s : Hs) (r : Row) (many : Nat), HallAt h A s → r.wants = true → r.Ok many → s.step < r.beats → 0 < s.mem.length → s.cells.length = 4 →
  ∃ h', O n_Hall_words [.ref A.a, r.av] h = some (accV (s.words r).2, h') ∧ HallAt h' A (s.words r).1 ∧ Fr A.own h h'
def S_next (O : Ora) : Prop := ∀ (h : AH) (A : HAd) (s : Hs) (r : Row) (many : Nat), HallAt h A s → r.Ok many → s.cells.length = 4 → s.marks.length = 3 → s.dev.Ok →
  ∃ G h', O n_Hall_next_row [.ref A.a, r.av] h = some (.int (s.next r).2, h') ∧ HallAt h' { A with G := G } (s.next r).1 ∧ Adv A.own ({ A with G := G } : HAd).own h h'
theorem seq_next {O : Ora} {a b : FS} {σ σ' : En} {h h' : AH} (e : a O σ h = some (.next σ', h')) : sSeq a b O σ h = b O σ' h' := by
  rw [s_sSeq, e, bnd_some]
theorem run_ret {O : Ora} {d : Df} {vs : List AV} {h h' : AH} {v : AV} (hl : vs.length = d.n) (e : d.body O (vs.map some ++ List.replicate (d.m - d.n) none) h = some (.ret v, h')) : d.run O vs h = some (v, h') := by
  unfold Df.run
  rw [if_pos hl, e, bnd_some]
theorem append_pair {h : AH} {A : HAd} {s : Hs} (D : HallAt h A s) (p : Nat × Nat) (hl : s.dones.length < lim) : appendA (.ref A.e) (pairV p) h = some (.non, h.set A.e (.lst ((s.dones ++ [p]).map pairV))) := by
  rw [append_of D.e (by rw [List.length_map]; exact hl), List.map_append]
  rfl
theorem sp_machine {O : Ora} (hw : S_wants O) (hbt : S_beats O) (hwd : S_words O) (hn : S_next O) {h : AH} {A : HAd} {s : Hs} (D : HallAt h A s) (ok : s.Ok) (ht : s.time < 10000000) :
    ∃ G h', f_Hall_machine_beat.run O [.ref A.a] h = some (didV s.machine.2, h') ∧ HallAt h' { A with G := G } s.machine.1 ∧ Adv A.own ({ A with G := G } : HAd).own h h' := by
  have fo := h_over D.a
  cases ho : s.over with
  | true =>
    have e : s.machine = (s, .ends) := by unfold Hs.machine; rw [if_pos ho]
    rw [e]
    refine ⟨A.G, h, ?_, D, Fr.refl _ _, fun i hi => .inl hi⟩
    simp [f_Hall_machine_beat, Df.run, b_Hall_machine_beat, fo, ho, didV]
  | false =>
    have e : s.machine = ((s.turn s.cur).1.stepped s.cur, (s.turn s.cur).2) := by unfold Hs.machine; rw [if_neg (by rw [ho]; decide)]
    rw [e]
    obtain ⟨ec, oc⟩ := ok.cur ho
    have ip := ix_prog (h := h) ec
    have hw1 := hw s.cur h
    -- the turn
    have T : ∃ h1, (fIf (fCall ("wants_bus", none) [fVar 1]) (fMeth "words" (fVar 0) [fVar 1]) (fC (.str "goes"))) O [some (.ref A.a), some s.cur.av, none] h = some (didV (s.turn s.cur).2, h1) ∧ HallAt h1 A (s.turn s.cur).1 ∧ Fr A.own h h1 := by
      unfold Hs.turn
      cases hwt : s.cur.wants with
      | true =>
        obtain ⟨h1, q1, q2, q3⟩ := hwd h A s s.cur _ D hwt oc (ok.step ho) (by have := ok.m1; omega) ok.cells
        have cw : callM O "words" (.ref A.a) [s.cur.av] h h = _ := (call_of D.a (by kernel_rfl)).trans q1
        rw [hwt] at hw1
        refine ⟨h1, ?_, q2, q3⟩
        simp [hw1, cw, didV]
      | false =>
        rw [hwt] at hw1
        refine ⟨h, ?_, D, Fr.refl _ _⟩
        simp [hw1, didV]
    obtain ⟨h1, t1, D1, F1⟩ := T
    have same := turn_same s s.cur
    generalize hs1 : (s.turn s.cur).1 = s1 at D1 same
    generalize (s.turn s.cur).2 = did at t1
    obtain ⟨z1, z2, z3, z4, z5, z6, z7, z8, z9, z10, z11⟩ := same
    obtain ⟨D2, F2⟩ := D1.setA s1.row (s1.step + 1) s1.time s1.over
    have st2 : setFldA ["Hall"] "step" (.ref A.a) (.int ((s1.step : Int) + 1)) h1 = some (h1.set A.a (hallO A { s1 with row := s1.row, step := s1.step + 1, time := s1.time, over := s1.over })) := h_setStep D1.a (s1.step + 1)
    generalize h1.set A.a (hallO A { s1 with row := s1.row, step := s1.step + 1, time := s1.time, over := s1.over }) = h2 at D2 F2 st2
    have e1 : sIf (fUn (fldA "is_over") (fVar 0)) (sAll [sRet (fC (.str "ends"))]) (sAll []) O [some (.ref A.a), none, none] h = some (.next [some (.ref A.a), none, none], h) := by
      simp [fo, ho]
    have e2 : sAsg (gVar 1) (fBin ixA (fUn (fldA "program") (fVar 0)) (fUn (fldA "row") (fVar 0))) O [some (.ref A.a), none, none] h = some (.next [some (.ref A.a), some s.cur.av, none], h) := by
      simp [h_program D.a, h_row D.a, ip]
    have e3 : sAsg (gVar 2) (fIf (fCall ("wants_bus", none) [fVar 1]) (fMeth "words" (fVar 0) [fVar 1]) (fC (.str "goes"))) O [some (.ref A.a), some s.cur.av, none] h = some (.next [some (.ref A.a), some s.cur.av, some (didV did)], h1) := by
      unfold sAsg
      rw [t1, bnd_some]
      rfl
    have F12 : Fr A.own h h2 := F1.trans F2 fun i hi => .inl hi
    have fs1 := h_step D1.a
    have fs2 := h_step D2.a
    have b2 := hbt s.cur h2
    have cm : cmpA .Eq (.int ((s1.step + 1 : Nat) : Int)) (.int (s.cur.beats : Int)) h2 = some (.bl (decide (s1.step + 1 = s.cur.beats)), h2) := by
      rw [c_eqI]; simp only [Int.natCast_inj]
    by_cases hd : s1.step + 1 = s.cur.beats
    · have es : s1.stepped s.cur = s1.close s.cur := by unfold Hs.stepped; rw [if_pos hd]
      rw [es]
      have st3 : setFldA ["Hall"] "step" (.ref A.a) (.int 0) h2 = some (h2.set A.a (hallO A { s1 with row := s1.row, step := 0, time := s1.time, over := s1.over })) := h_setStep D2.a 0
      obtain ⟨D3, F3⟩ := D2.setA s1.row 0 s1.time s1.over
      generalize h2.set A.a (hallO A { s1 with row := s1.row, step := 0, time := s1.time, over := s1.over }) = h3 at D3 F3 st3
      have fr3 := h_row D3.a
      have ft3 := h_time D3.a
      have fd3 := h_dones D3.a
      have k3 := isK_lst D3.e
      have ap : appendA (.ref A.e) (.tup [.int (s1.row : Int), .int (s1.time : Int)]) h3 = some (.non, h3.set A.e (.lst ((s1.dones ++ [(s1.row, s1.time)]).map pairV))) := append_pair D3 (s1.row, s1.time) (by
        show s1.dones.length < 16777216
        rw [z9]
        have := ok.dones
        omega)
      obtain ⟨D4, F4⟩ := D3.setE (s1.dones ++ [(s1.row, s1.time)])
      generalize h3.set A.e (.lst ((s1.dones ++ [(s1.row, s1.time)]).map pairV)) = h4 at D4 F4 ap
      have F14 : Fr A.own h h4 := F12.trans (F3.trans F4 fun i hi => .inl hi) fun i hi => .inl hi
      have D4' : HallAt h4 A { s1 with step := 0, dones := s1.dones ++ [(s1.row, s1.time)] } := D4
      obtain ⟨G, h5, n1, D5, V5⟩ := hn h4 A _ s.cur s.prog.length D4' oc (by show s1.cells.length = 4; rw [z10]; exact ok.cells) (by show s1.marks.length = 3; rw [z4]; exact ok.marks) (by show s1.dev.Ok; rw [z2]; exact ok.dev)
      have cn : callM O "next_row" (.ref A.a) [s.cur.av] h4 h4 = _ := (call_of D4.a (by kernel_rfl)).trans n1
      have nx := next_same { s1 with step := 0, dones := s1.dones ++ [(s1.row, s1.time)] } s.cur
      have ec2 : s1.close s.cur = { (({ s1 with step := 0, dones := s1.dones ++ [(s1.row, s1.time)] } : Hs).next s.cur).1 with row := (({ s1 with step := 0, dones := s1.dones ++ [(s1.row, s1.time)] } : Hs).next s.cur).2, over := decide ((({ s1 with step := 0, dones := s1.dones ++ [(s1.row, s1.time)] } : Hs).next s.cur).2 = s1.prog.length) } := rfl
      rw [ec2]
      generalize hn5 : (({ s1 with step := 0, dones := s1.dones ++ [(s1.row, s1.time)] } : Hs).next s.cur).2 = n at cn
      generalize hs5 : (({ s1 with step := 0, dones := s1.dones ++ [(s1.row, s1.time)] } : Hs).next s.cur).1 = s5 at D5 nx
      have st6 : setFldA ["Hall"] "row" (.ref A.a) (.int (n : Int)) h5 = some (h5.set A.a (hallO { A with G := G } { s5 with row := n, step := s5.step, time := s5.time, over := s5.over })) := h_setRow (A := { A with G := G }) D5.a n
      obtain ⟨D6, F6⟩ := D5.setA n s5.step s5.time s5.over
      generalize h5.set A.a (hallO { A with G := G } { s5 with row := n, step := s5.step, time := s5.time, over := s5.over }) = h6 at st6 F6 D6
      have fr6 := h_row (A := { A with G := G }) D6.a
      have fp6 := h_program (A := { A with G := G }) D6.a
      have lp6 : lenA (.tup (s5.prog.map Row.av)) h6 = some (.int (s5.prog.length : Int), h6) := len_prog
      have cm6 : cmpA .Eq (.int (n : Int)) (.int (s5.prog.length : Int)) h6 = some (.bl (decide (n = s1.prog.length)), h6) := by
        rw [c_eqI, nx.1]; simp only [Int.natCast_inj]
      have st7 : setFldA ["Hall"] "is_over" (.ref A.a) (.bl (decide (n = s1.prog.length))) h6 = some (h6.set A.a (hallO { A with G := G } { s5 with row := n, step := s5.step, time := s5.time, over := decide (n = s1.prog.length) })) := h_setOver (A := { A with G := G }) D6.a _
      obtain ⟨D7, F7⟩ := D6.setA n s5.step s5.time (decide (n = s1.prog.length))
      refine ⟨G, _, ?_, D7, ?_⟩
      · generalize h6.set A.a (hallO { A with G := G } { s5 with row := n, step := s5.step, time := s5.time, over := decide (n = s1.prog.length) }) = h7 at st7
        refine run_ret rfl ?_
        show sSeq _ (sSeq _ (sSeq _ _)) O [some (.ref A.a), none, none] h = _
        rw [seq_next e1, seq_next e2, seq_next e3]
        simp only [Int.natCast_add, Int.natCast_one] at fs2 cm
        simp [fs1, st2, fs2, b2, cm, hd, st3, fr3, ft3, fd3, k3, ap, cn, st6, fr6, fp6, lp6, cm6, st7]
      · refine Adv.trans ⟨F14, fun i hi => .inl hi⟩ (Adv.trans V5 ⟨F6.trans F7 fun i hi => .inl hi, fun i hi => .inl hi⟩)
    · have es : s1.stepped s.cur = { s1 with step := s1.step + 1 } := by unfold Hs.stepped; rw [if_neg hd]
      rw [es]
      refine ⟨A.G, h2, ?_, D2, F12, fun i hi => .inl hi⟩
      refine run_ret rfl ?_
      show sSeq _ (sSeq _ (sSeq _ _)) O [some (.ref A.a), none, none] h = _
      rw [seq_next e1, seq_next e2, seq_next e3]
      simp only [Int.natCast_add, Int.natCast_one] at fs2 cm
      simp [fs1, st2, fs2, b2, cm, hd]
end SB

/-! full_beat. -/
namespace SB
open PySem
open L2 (Key)
/-! xs == [] -/
theorem mapO_len {α β : Type} {f : α → Option β} : ∀ {xs : List α} {ys : List β}, mapO f xs = some ys → ys.length = xs.length
  | [], ys, e => by simp only [mapO, Option.some.injEq] at e; subst e; rfl
  | x :: xs, ys, e => by
    simp only [mapO] at e
    split at e
    · rename_i y zs e1 e2
      simp only [Option.some.injEq] at e
      subst e
      simp [mapO_len e2]
    · cases e
theorem eqE {h : AH} {a b : Nat} {xs : List AV} {ds : List PyData} (ha : h[a]? = some (.lst xs)) (hb : h[b]? = some (.lst [])) (e : mapO (toH h 5) xs = some ds) (hs : SeqAt.shaped (.list ds) = true) : eqA h (.ref a) (.ref b) = some xs.isEmpty := by
  have e1 : toH h 6 (.ref a) = some (.list ds) := by
    show (match h[a]? with | some (.lst xs) => (mapO (toH h 5) xs).map PyData.list | _ => none) = _
    rw [ha]
    simp only [e]
    rfl
  have e2 : toH h 6 (.ref b) = some (.list []) := by
    show (match h[b]? with | some (.lst xs) => (mapO (toH h 5) xs).map PyData.list | _ => none) = _
    rw [hb]
    rfl
  unfold eqA eqD
  rw [e1, e2]
  simp only
  rw [if_pos ⟨hs, rfl⟩]
  have hl := mapO_len e
  cases xs with
  | nil =>
    have : ds = [] := List.length_eq_zero_iff.mp hl
    subst this
    rfl
  | cons x xs =>
    cases ds with
    | nil => cases hl
    | cons d ds => rfl
theorem neE {h : AH} {a b : Nat} {xs : List AV} {ds : List PyData} (ha : h[a]? = some (.lst xs)) (hb : h[b]? = some (.lst [])) (e : mapO (toH h 5) xs = some ds) (hs : SeqAt.shaped (.list ds) = true) : cmpA .NotEq (.ref a) (.ref b) h = some (.bl (!xs.isEmpty), h) := by
  show neO (.ref a) (.ref b) h = _
  unfold neO
  rw [eqE ha hb e hs]
  rfl
theorem eqE' {h : AH} {a b : Nat} {xs : List AV} {ds : List PyData} (ha : h[a]? = some (.lst xs)) (hb : h[b]? = some (.lst [])) (e : mapO (toH h 5) xs = some ds) (hs : SeqAt.shaped (.list ds) = true) : cmpA .Eq (.ref a) (.ref b) h = some (.bl xs.isEmpty, h) := by
  show eqO (.ref a) (.ref b) h = _
  unfold eqO
  rw [eqE ha hb e hs]
  rfl
def pairD (p : Nat × Nat) : PyData := .tuple [.int p.1, .int p.2]
theorem pairs_D {h : AH} : ∀ ps : List (Nat × Nat), mapO (toH h 5) (ps.map pairV) = some (ps.map pairD)
  | [] => rfl
  | p :: r => by
    rw [List.map_cons, mapO, pairs_D r]
    rfl
/-- shaped: all items are, and lie low -/
theorem shaped_list {ds : List PyData} (h : ∀ d ∈ ds, PyData.canLay0 d = true ∧ PyData.depth d ≤ 60) : SeqAt.shaped (.list ds) = true := by
  have a : PyData.canLayAll0 ds = true ∧ PyData.depthAll ds ≤ 60 := by
    induction ds with
    | nil => exact ⟨rfl, by decide⟩
    | cons d r ih =>
      obtain ⟨h1, h2⟩ := h d (by simp)
      obtain ⟨h3, h4⟩ := ih fun x hx => h x (by simp [hx])
      refine ⟨by simp [PyData.canLayAll0, h1, h3], ?_⟩
      simp only [PyData.depthAll]
      omega
  refine Bool.and_eq_true_iff.mpr ⟨a.1, decide_eq_true ?_⟩
  show PyData.depthAll ds + 1 ≤ 64
  have := a.2
  omega
theorem pairs_shaped (ps : List (Nat × Nat)) : SeqAt.shaped (.list (ps.map pairD)) = true := shaped_list fun d hd => by
  obtain ⟨p, _, rfl⟩ := List.mem_map.mp hd
  exact ⟨rfl, by simp [pairD, PyData.depth, PyData.depthAll]⟩
def openGo (time : Nat) : List (Nat × Nat) → Dev → List (Nat × Nat) × Dev
  | [], d => ([], d)
  | (t, w) :: r, d => if t ≤ time then openGo time r (d.begin w) else ((t, w) :: r, d)
def Hs.open_ (s : Hs) : Hs := { s with asks := (openGo s.time s.asks s.dev).1, dev := (openGo s.time s.asks s.dev).2 }
theorem openGo_ok (time : Nat) : ∀ (asks : List (Nat × Nat)) (d : Dev), d.Ok → (openGo time asks d).2.Ok
  | [], d, k => k
  | (t, w) :: r, d, k => by
    unfold openGo
    split
    · exact openGo_ok time r _ (Dev.begin_ok k w)
    · exact k
theorem pop0 {h : AH} {A : HAd} {s : Hs} {p : Nat × Nat} {r : List (Nat × Nat)} (D : HallAt h A s) (e : s.asks = p :: r) (hl : s.asks.length ≤ lim) : popAtA (.ref A.q) (.int 0) h = some (pairV p, h.set A.q (.lst (r.map pairV))) := by
  have q := D.q
  rw [e] at q
  unfold popAtA
  simp only [q]
  have hl' : ((p :: r).map pairV).length ≤ lim := by rw [List.length_map, ← e]; exact hl
  rw [if_pos ⟨Int.le_refl 0, by simp, hl'⟩]
  rfl
def openC : FE := fAnd (fCmp .NotEq (fUn (fldA "asks") (fVar 0)) (fLst [])) (fCmp .LtE (fBin ixA (fBin ixA (fUn (fldA "asks") (fVar 0)) (fC (.int 0))) (fC (.int 0))) (fUn (fldA "time") (fVar 0)))
def openB : FS := sAll [
    sExpr (fMeth "begin" (fUn (fldA "device") (fVar 0)) [fBin ixA (fM1 false popAtA (fUn (fldA "asks") (fVar 0)) (fC (.int 0))) (fC (.int 1))])]
theorem open_cond {O : Ora} {h : AH} {A : HAd} {s : Hs} {σ : En} (D : HallAt h A s) (h0 : σ[0]? = some (some (.ref A.a))) :
    openC O σ h = some (.bl (match s.asks with | [] => false | p :: _ => decide (p.1 ≤ s.time)), h ++ [.lst []]) := by
  have D1 : HallAt (h ++ [.lst []]) A s := ⟨D.on, D.has.app _⟩
  have hn : (h ++ [AO.lst []])[h.length]? = some (.lst []) := by simp
  have ne := neE D1.q hn (pairs_D s.asks) (pairs_shaped s.asks)
  have fa := h_asks D.a
  generalize hh : h ++ [AO.lst []] = h1 at D1 ne
  have fa1 := h_asks D1.a
  have ft1 := h_time D1.a
  cases e : s.asks with
  | nil =>
    rw [e] at ne
    simp [openC, h0, fa, alloc, hh, ne]
  | cons p r =>
    rw [e] at ne
    have q1 := D1.q
    rw [e] at q1
    have i0 : ixA (.ref A.q) (.int 0) h1 = some (pairV p, h1) := ix_lst (i := 0) q1 rfl
    have i1 : ixA (pairV p) (.int 0) h1 = some (.int p.1, h1) := rfl
    simp [openC, h0, fa, alloc, hh, ne, fa1, ft1, i0, i1]
theorem sp_open {O : Ora} (hb : S_begin O) {A0 : HAd} : ∀ (asks : List (Nat × Nat)) (n : Nat) (h : AH) (A : HAd) (s : Hs) (σ : En), s.asks = asks → asks.length < n → HallAt h A s → s.dev.Ok → asks.length ≤ lim → σ[0]? = some (some (.ref A.a)) →
    ∃ G h', loopW openC openB O n σ h = some (.next σ, h') ∧ HallAt h' { A with G := G } s.open_ ∧ Adv A.own ({ A with G := G } : HAd).own h h'
  | asks, 0, h, A, s, σ, e, hn, D, ok, hl, h0 => absurd hn (Nat.not_lt_zero _)
  | asks, n + 1, h, A, s, σ, e, hn, D, ok, hl, h0 => by
    have oc := open_cond (O := O) D h0
    have D1 : HallAt (h ++ [.lst []]) A s := ⟨D.on, D.has.app _⟩
    have F1 : Fr A.own h (h ++ [.lst []]) := Fr.app _
    generalize h ++ [AO.lst []] = h1 at oc D1 F1
    cases asks with
    | nil =>
      rw [e] at oc
      refine ⟨A.G, h1, ?_, ?_, F1, fun i hi => .inl hi⟩
      · unfold loopW
        rw [oc]
        rfl
      · have : s.open_ = s := by unfold Hs.open_; rw [e]; simp only [openGo]; rw [← e]
        rw [this]
        exact D1
    | cons p r =>
      rw [e] at oc
      by_cases c : p.1 ≤ s.time
      · have po := pop0 D1 e (by rw [e]; exact hl)
        have fd1 := h_device D1.a
        have fa1 := h_asks D1.a
        have k1 := isK_lst D1.q
        obtain ⟨D2, F2⟩ := D1.setQ r
        generalize h1.set A.q (.lst (r.map pairV)) = h2 at po D2 F2
        have i1 : ixA (pairV p) (.int 1) h2 = some (.int p.2, h2) := rfl
        obtain ⟨G, h3, b1, b2, b3⟩ := hb h2 A s.dev p.2 D2.dev ok
        obtain ⟨D3, V3⟩ := D2.step b2 b3
        have cb : callM O "begin" (.ref A.v) [.int (p.2 : Int)] h1 h2 = _ := (call_of D1.dev.v (by kernel_rfl)).trans b1
        obtain ⟨G4, h4, q1, q2, q3⟩ := sp_open (A0 := A0) hb r n h3 { A with G := G } { s with asks := r, dev := s.dev.begin p.2 } σ rfl (by simp at hn; omega) D3 (Dev.begin_ok ok _) (by simp at hl ⊢; omega) h0
        refine ⟨G4, h4, ?_, ?_, Adv.trans ⟨F1.trans F2 fun i hi => .inl hi, fun i hi => .inl hi⟩ (Adv.trans V3 q3)⟩
        · unfold loopW
          rw [oc]
          simp only [bnd_some, c, decide_true, ifB_bl, if_true]
          have : openB O σ h1 = some (.next σ, h3) := by
            simp [openB, h0, fd1, fa1, k1, po, i1, cb]
          rw [this]
          exact q1
        · have : s.open_ = ({ s with asks := r, dev := s.dev.begin p.2 } : Hs).open_ := by
            unfold Hs.open_
            rw [e]
            obtain ⟨t, w⟩ := p
            simp only [openGo]
            rw [if_pos c]
          rw [this]
          exact q2
      · refine ⟨A.G, h1, ?_, ?_, F1, fun i hi => .inl hi⟩
        · unfold loopW
          rw [oc]
          simp [c]
        · have : s.open_ = s := by
            unfold Hs.open_
            rw [e]
            obtain ⟨t, w⟩ := p
            simp only [openGo]
            rw [if_neg c, ← e]
          rw [this]
          exact D1
end SB

/-! full_beat, its invariant. -/
namespace SB
open PySem
open L2 (Key)
theorem HallAt.stepM {h h' : AH} {A : HAd} {s : Hs} {G : List (Nat × Going)} {d' : Dev} {mem' : List Int} (D : HallAt h A s) (DM : DMAt h' { A with G := G } d' mem' s.marks) (V : Adv (A.m :: A.dev) (A.m :: ({ A with G := G } : HAd).dev) h h') :
    HallAt h' { A with G := G } { s with dev := d', mem := mem' } ∧ Adv A.own ({ A with G := G } : HAd).own h h' := by
  have nd := D.has.nd
  simp only [hallL, List.map_cons, devL_adr, List.nodup_cons, List.mem_cons, not_or] at nd
  obtain ⟨n1, n2, n3, n4, n5, n6, n7⟩ := nd
  have out : ∀ i, i ∉ A.m :: A.dev → i < h.length → i ∉ A.m :: ({ A with G := G } : HAd).dev := fun i hi hl hm => (V.new i hm).elim hi fun q => by omega
  have o1 : A.a ∉ A.m :: A.dev := by simp only [List.mem_cons, not_or]; exact ⟨n1.2.2.2.1, n1.2.2.2.2.2⟩
  have o2 : A.q ∉ A.m :: A.dev := by simp only [List.mem_cons, not_or]; exact ⟨n2.2.2.1, n2.2.2.2.2⟩
  have o3 : A.c ∉ A.m :: A.dev := by simp only [List.mem_cons, not_or]; exact ⟨n3.2.1, n3.2.2.2⟩
  have o4 : A.e ∉ A.m :: A.dev := by simp only [List.mem_cons, not_or]; exact ⟨n4.1, n4.2.2⟩
  refine ⟨⟨DM.on, ⟨?_, fun p hp => ?_⟩⟩, V.fr.mono fun i hi => ?_, fun i hi => ?_⟩
  · have := DM.has.nd
    simp only [List.map_cons, devL_adr, List.nodup_cons, List.mem_cons, not_or] at this
    simp only [hallL, List.map_cons, devL_adr, List.nodup_cons, List.mem_cons, not_or]
    have p1 := out _ o1 (lt_of D.a)
    have p2 := out _ o2 (lt_of D.q)
    have p3 := out _ o3 (lt_of D.c)
    have p4 := out _ o4 (lt_of D.e)
    simp only [List.mem_cons, not_or] at p1 p2 p3 p4
    exact ⟨⟨n1.1, n1.2.1, n1.2.2.1, p1.1, n1.2.2.2.2.1, p1.2⟩, ⟨n2.1, n2.2.1, p2.1, n2.2.2.2.1, p2.2⟩, ⟨n3.1, p3.1, n3.2.2.1, p3.2⟩, ⟨p4.1, n4.2.1, p4.2⟩, this⟩
  · simp only [hallL, List.mem_cons] at hp
    rcases hp with hp | hp | hp | hp | hp
    · subst hp; exact V.fr.at_ _ _ o1 D.a
    · subst hp; exact V.fr.at_ _ _ o2 D.q
    · subst hp; exact V.fr.at_ _ _ o3 D.c
    · subst hp; exact V.fr.at_ _ _ o4 D.e
    · exact DM.has.at_ p (by simpa using hp)
  · simp only [HAd.own, List.mem_cons] at hi ⊢
    rcases hi with hi | hi
    · exact .inr (.inr (.inr (.inr (.inl hi))))
    · exact .inr (.inr (.inr (.inr (.inr (.inr hi)))))
  · simp only [HAd.own, List.mem_cons] at hi ⊢
    rcases hi with hi | hi | hi | hi | hi | hi | hi
    · exact .inl (.inl hi)
    · exact .inl (.inr (.inl hi))
    · exact .inl (.inr (.inr (.inl hi)))
    · exact .inl (.inr (.inr (.inr (.inl hi))))
    · exact .inl (.inr (.inr (.inr (.inr (.inl hi)))))
    · exact .inl (.inr (.inr (.inr (.inr (.inr (.inl hi))))))
    · rcases V.new i (List.mem_cons_of_mem _ hi) with z | z
      · rcases List.mem_cons.mp z with z | z
        · exact .inl (.inr (.inr (.inr (.inr (.inl z)))))
        · exact .inl (.inr (.inr (.inr (.inr (.inr (.inr z))))))
      · exact .inr z
def Hs.moved (s : Hs) : Hs := { s with dev := (s.dev.beat s.mem s.marks s.wanted).1, mem := (s.dev.beat s.mem s.marks s.wanted).2.1 }
def Hs.told (s : Hs) : Told := (s.dev.beat s.mem s.marks s.wanted).2.2.1
def Hs.mine (s : Hs) : Option Nat := (s.dev.beat s.mem s.marks s.wanted).2.2.2
def Hs.acts (s : Hs) : Hs × Did := if (s.wanted && s.told.isSome) = true then (s.moved, .waits) else s.moved.machine
def Hs.did (s : Hs) : Did := s.acts.2
/-- behind the asks: the beat itself -/
def Hs.beat1 (s : Hs) : Hs := { s.acts.1 with time := s.acts.1.time + 1 }
def Hs.beat (s : Hs) : Hs := s.open_.beat1
def S_is_wanted (O : Ora) : Prop := ∀ (h : AH) (A : HAd) (s : Hs), HallAt h A s → s.Ok → O n_Hall_is_wanted [.ref A.a] h = some (.bl s.wanted, h)
def S_dev_beat (O : Ora) : Prop := ∀ (h : AH) (A : HAd) (d : Dev) (mem : List Int) (marks : List Bool) (wanted : Bool), DMAt h A d mem marks → d.Ok → marks.length = 3 → 0 < mem.length →
    ∃ G h', O n_Device_beat [.ref A.v, .ref A.m, .ref A.k, .bl wanted] h = some (.tup [toldV (d.beat mem marks wanted).2.2.1, optV (d.beat mem marks wanted).2.2.2], h') ∧ DMAt h' { A with G := G } (d.beat mem marks wanted).1 (d.beat mem marks wanted).2.1 marks ∧
      Adv (A.m :: A.dev) (A.m :: ({ A with G := G } : HAd).dev) h h'
def S_machine (O : Ora) : Prop := ∀ (h : AH) (A : HAd) (s : Hs), HallAt h A s → s.Ok → s.time < 10000000 →
    ∃ G h', O n_Hall_machine_beat [.ref A.a] h = some (didV s.machine.2, h') ∧ HallAt h' { A with G := G } s.machine.1 ∧ Adv A.own ({ A with G := G } : HAd).own h h'
/-! the invariant -/
theorem Dev.beat_same (d : Dev) (mem : List Int) (marks : List Bool) (wanted : Bool) : (d.beat mem marks wanted).1.works = d.works ∧ (d.beat mem marks wanted).2.1.length = mem.length := by
  have hb : ∀ (d : Dev) n, (d.begin n).works = d.works := fun d n => by unfold Dev.begin; split <;> rfl
  unfold Dev.beat
  cases d.chosen marks wanted with
  | none => simp
  | some g =>
    simp only
    cases g.hand with
    | none => simp [Dev.upd]
    | some x =>
      simp only
      split
      · cases (d.wk g).nxt with
        | none => simp [Dev.next, Dev.drop]
        | some n => simp [Dev.next, hb, Dev.drop]
      · simp [Dev.upd]
theorem Dev.beat_ok {d : Dev} (k : d.Ok) (mem : List Int) (marks : List Bool) (wanted : Bool) : (d.beat mem marks wanted).1.Ok := by
  have up : ∀ (n : Nat) (f : Going → Going), (∀ g, (f g).num = g.num) → (({ d with took := true } : Dev).upd n f).Ok := fun n f hf => by
    have e : ((d.on.map fun g => if g.num = n then f g else g).map (·.num)) = d.on.map (·.num) := by
      rw [List.map_map]
      refine List.map_congr_left fun g _ => ?_
      simp only [Function.comp]
      split
      · exact hf g
      · rfl
    refine ⟨k.ws, k.wk, ?_, fun g hg => ?_⟩
    · show ((d.on.map fun g => if g.num = n then f g else g).map (·.num)).Nodup
      rw [e]; exact k.nd
    · obtain ⟨r, hr, rfl⟩ := List.mem_map.mp hg
      have := k.lt r hr
      show (if r.num = n then f r else r).num < d.works.length
      split
      · rw [hf]; exact this
      · exact this
  unfold Dev.beat
  cases d.chosen marks wanted with
  | none => exact ⟨k.ws, k.wk, k.nd, k.lt⟩
  | some g =>
    simp only
    cases g.hand with
    | none => exact up _ _ fun _ => rfl
    | some x =>
      simp only
      split
      · have dk : (({ d with took := true } : Dev).drop g.num).Ok := ⟨k.ws, k.wk, k.nd.sublist (List.filter_sublist.map _), fun r hr => k.lt r (List.mem_filter.mp hr).1⟩
        cases (d.wk g).nxt with
        | none => exact dk
        | some n => exact Dev.begin_ok dk n
      · exact up _ _ fun _ => rfl
theorem openGo_works (time : Nat) : ∀ (asks : List (Nat × Nat)) (d : Dev), (openGo time asks d).2.works = d.works
  | [], d => rfl
  | (t, w) :: r, d => by
    unfold openGo
    split
    · rw [openGo_works time r]
      unfold Dev.begin
      split <;> rfl
    · rfl
theorem Hs.Ok.open_ {s : Hs} (k : s.Ok) : s.open_.Ok := ⟨k.p0, k.p1, k.rows, openGo_ok _ _ _ k.dev, k.m1, k.m2, k.cells, k.marks, k.row, k.step, k.dones⟩
theorem Hs.Ok.moved {s : Hs} (k : s.Ok) : s.moved.Ok := by
  have e := (Dev.beat_same s.dev s.mem s.marks s.wanted).2
  exact ⟨k.p0, k.p1, k.rows, Dev.beat_ok k.dev _ _ _, by rw [show s.moved.mem.length = _ from e]; exact k.m1, by rw [show s.moved.mem.length = _ from e]; exact k.m2, k.cells, k.marks, k.row, k.step, k.dones⟩
theorem beats_pos {r : Row} {many : Nat} (h : r.Ok many) : 0 < r.beats := by
  cases r <;> simp_all [Row.beats, Row.Ok] <;> omega
theorem next_lt {s : Hs} {r : Row} (h : r.Ok s.prog.length) (hr : s.row < s.prog.length) : (s.next r).2 ≤ s.prog.length := by
  cases r <;> simp_all [Hs.next, Row.Ok] <;> (try omega) <;> (try (split <;> omega))
theorem Hs.Ok.machine {s : Hs} (k : s.Ok) : ({ s.machine.1 with time := s.machine.1.time + 1 } : Hs).Ok := by
  unfold Hs.machine
  split
  · rename_i ho
    exact ⟨k.p0, k.p1, k.rows, k.dev, k.m1, k.m2, k.cells, k.marks, k.row, k.step, by show s.dones.length ≤ s.time + 1; have := k.dones; omega⟩
  · rename_i ho
    have ho : s.over = false := by simpa using ho
    obtain ⟨ec, oc⟩ := k.cur ho
    obtain ⟨z1, z2, z3, z4, z5, z6, z7, z8, z9, z10, z11⟩ := turn_same s s.cur
    simp only
    generalize (s.turn s.cur).1 = s1 at z1 z2 z3 z4 z5 z6 z7 z8 z9 z10 z11
    have hcur : s1.prog.getD s1.row .fin = s.cur := by rw [z1, z5]; rfl
    unfold Hs.stepped
    split
    · rename_i hd
      unfold Hs.close
      simp only
      have nx := next_same { s1 with step := 0, dones := s1.dones ++ [(s1.row, s1.time)] } s.cur
      have nl := next_lt (s := { s1 with step := 0, dones := s1.dones ++ [(s1.row, s1.time)] }) (r := s.cur) (by show s.cur.Ok s1.prog.length; rw [z1]; exact oc) (by show s1.row < s1.prog.length; rw [z1, z5]; exact k.row ho)
      generalize (({ s1 with step := 0, dones := s1.dones ++ [(s1.row, s1.time)] } : Hs).next s.cur).2 = n at nl
      generalize (({ s1 with step := 0, dones := s1.dones ++ [(s1.row, s1.time)] } : Hs).next s.cur).1 = s5 at nx
      obtain ⟨y1, y2, y3, y4, y5, y6, y7, y8, y9, y10, y11⟩ := nx
      simp only at y1 y2 y3 y4 y5 y6 y7 y8 y9 y10 y11
      refine ⟨by show s5.prog ≠ []; rw [y1, z1]; exact k.p0, by show s5.prog.length ≤ 40; rw [y1, z1]; exact k.p1, by show ∀ r ∈ s5.prog, r.Ok s5.prog.length; rw [y1, z1]; exact k.rows, ?_, by show 4 ≤ s5.mem.length; rw [y2, z11]; exact k.m1, by show s5.mem.length ≤ 32; rw [y2, z11]; exact k.m2,
        by show s5.cells.length = 4; rw [y9, z10]; exact k.cells, by show s5.marks.length = 3; rw [y10, z4]; exact k.marks, fun e => ?_, fun e => ?_, ?_⟩
      · show s5.dev.Ok
        rcases y11 with y | ⟨m, y⟩
        · rw [y, z2]; exact k.dev
        · rw [y, z2]; exact Dev.begin_ok k.dev m
      · show n < s5.prog.length
        have e : decide (n = s1.prog.length) = false := e
        have : n ≠ s1.prog.length := by simpa using e
        rw [y1]
        have nl : n ≤ s1.prog.length := nl
        omega
      · show s5.step < (s5.prog.getD n .fin).beats
        have e : decide (n = s1.prog.length) = false := e
        have : n ≠ s1.prog.length := by simpa using e
        have nl : n ≤ s1.prog.length := nl
        rw [y5, y1]
        have hn : n < s1.prog.length := by omega
        have : s1.prog.getD n .fin ∈ s1.prog := by simp [List.getD, hn]
        exact beats_pos (many := s.prog.length) (k.rows _ (z1 ▸ this))
      · show s5.dones.length ≤ s5.time + 1
        rw [y8, y6, z9, z7, List.length_append]
        have := k.dones
        simp
        omega
    · rename_i hd
      refine ⟨by show s1.prog ≠ []; rw [z1]; exact k.p0, by show s1.prog.length ≤ 40; rw [z1]; exact k.p1, by show ∀ r ∈ s1.prog, r.Ok s1.prog.length; rw [z1]; exact k.rows, by show s1.dev.Ok; rw [z2]; exact k.dev, by show 4 ≤ s1.mem.length; rw [z11]; exact k.m1, by show s1.mem.length ≤ 32; rw [z11]; exact k.m2,
        by show s1.cells.length = 4; rw [z10]; exact k.cells, by show s1.marks.length = 3; rw [z4]; exact k.marks, fun e => ?_, fun e => ?_, ?_⟩
      · show s1.row < s1.prog.length
        rw [z1, z5]; exact k.row ho
      · show s1.step + 1 < (s1.prog.getD s1.row .fin).beats
        rw [hcur]
        have := k.step ho
        have c : (s.prog.getD s.row .fin) = s.cur := rfl
        rw [c] at this
        omega
      · show s1.dones.length ≤ s1.time + 1
        rw [z9, z7]
        have := k.dones
        omega
theorem Hs.Ok.beat1 {s : Hs} (k : s.Ok) : s.beat1.Ok := by
  unfold Hs.beat1 Hs.acts
  split
  · have m := k.moved
    exact ⟨m.p0, m.p1, m.rows, m.dev, m.m1, m.m2, m.cells, m.marks, m.row, m.step, by show s.moved.dones.length ≤ s.moved.time + 1; have := m.dones; omega⟩
  · exact k.moved.machine
theorem Hs.Ok.beat {s : Hs} (k : s.Ok) : s.beat.Ok := k.open_.beat1
end SB

/-! full_beat, beat, told, shown. -/
namespace SB
open PySem
open L2 (Key)
theorem toldV_isNon (t : Told) : isNonA (toldV t) = !t.isSome := by cases t <;> rfl
theorem sp_full {O : Ora} (hb : S_begin O) (hw : S_is_wanted O) (hd : S_dev_beat O) (hm : S_machine O) {h : AH} {A : HAd} {s : Hs} (D : HallAt h A s) (ok : s.Ok) (ht : s.time < 10000000) (ha : s.asks.length ≤ 1000) :
    ∃ G h', f_Hall_full_beat.run O [.ref A.a] h = some (.tup [toldV s.open_.told, didV s.open_.did, optV s.open_.mine], h') ∧ HallAt h' { A with G := G } s.beat ∧ Adv A.own ({ A with G := G } : HAd).own h h' := by
  obtain ⟨G1, h1, w1, D1, V1⟩ := sp_open (A0 := A) hb s.asks 100000 h A s [some (.ref A.a), none, none, none, none] rfl (by omega) D ok.dev (by show s.asks.length ≤ 16777216; omega) rfl
  have ok1 := ok.open_
  have tt : s.open_.time = s.time := rfl
  unfold Hs.beat
  generalize s.open_ = s1 at D1 ok1 tt
  have ce : ∀ G, ({ ({ A with G := G1 } : HAd) with G := G } : HAd) = { A with G := G } := fun G => rfl
  have iw := hw h1 { A with G := G1 } s1 D1 ok1
  have cw : callM O "is_wanted" (.ref A.a) [] h1 h1 = _ := (call_of D1.a (by kernel_rfl)).trans iw
  have e1 : sWhile openC openB O [some (.ref A.a), none, none, none, none] h = some (.next [some (.ref A.a), none, none, none, none], h1) := w1
  have e2 : sAsg (gVar 1) (fMeth "is_wanted" (fVar 0) []) O [some (.ref A.a), none, none, none, none] h1 = some (.next [some (.ref A.a), some (.bl s1.wanted), none, none, none], h1) := by
    simp [cw]
  obtain ⟨G2, h2, b1, DM2, V2⟩ := hd h1 { A with G := G1 } s1.dev s1.mem s1.marks s1.wanted D1.dm ok1.dev ok1.marks (by have := ok1.m1; omega)
  obtain ⟨D2, V2'⟩ := D1.stepM DM2 V2
  have cb : callM O "beat" (.ref A.v) [.ref A.m, .ref A.k, .bl s1.wanted] h1 h1 = _ := (call_of D1.dev.v (by kernel_rfl)).trans b1
  have fd1 := h_device D1.a
  have fm1 := h_memory D1.a
  have fk1 := h_marks D1.a
  have e3 : sAsg (SB.gTup [gVar 2, gVar 3]) (fMeth "beat" (fUn (fldA "device") (fVar 0)) [fUn (fldA "memory") (fVar 0), fUn (fldA "marks") (fVar 0), fVar 1]) O [some (.ref A.a), some (.bl s1.wanted), none, none, none] h1 =
      some (.next [some (.ref A.a), some (.bl s1.wanted), some (toldV s1.told), some (optV s1.mine), none], h2) := by
    simp [fd1, fm1, fk1, cb]
    exact ⟨rfl, rfl⟩
  have ok2 := ok1.moved
  have D2 : HallAt h2 { A with G := G2 } s1.moved := D2
  -- what the machine does
  have T : ∃ G3 h3, sAsg (gVar 4) (fIf (fAnd (fVar 1) (fCmp .IsNot (fVar 2) (fC .non))) (fC (.str "waits")) (fMeth "machine_beat" (fVar 0) [])) O [some (.ref A.a), some (.bl s1.wanted), some (toldV s1.told), some (optV s1.mine), none] h2 =
      some (.next [some (.ref A.a), some (.bl s1.wanted), some (toldV s1.told), some (optV s1.mine), some (didV s1.did)], h3) ∧ HallAt h3 { A with G := G3 } s1.acts.1 ∧ Adv ({ A with G := G2 } : HAd).own ({ A with G := G3 } : HAd).own h2 h3 := by
    unfold Hs.did Hs.acts
    cases c : (s1.wanted && s1.told.isSome) with
    | true =>
      refine ⟨G2, h2, ?_, D2, Adv.refl _ _⟩
      rw [Bool.and_eq_true] at c
      simp [c.1, c.2, toldV_isNon, didV]
    | false =>
      obtain ⟨G3, h3, q1, q2, q3⟩ := hm h2 { A with G := G2 } s1.moved D2 ok2 (by show s1.time < _; omega)
      have cm : callM O "machine_beat" (.ref A.a) [] h2 h2 = _ := (call_of D2.a (by kernel_rfl)).trans q1
      refine ⟨G3, h3, ?_, q2, q3⟩
      cases c1 : s1.wanted with
      | false => simp [cm]
      | true =>
        rw [c1, Bool.true_and] at c
        simp [c, toldV_isNon, cm]
  obtain ⟨G3, h3, e4, D3, V3⟩ := T
  obtain ⟨D4, F4⟩ := D3.setA s1.acts.1.row s1.acts.1.step (s1.acts.1.time + 1) s1.acts.1.over
  have ft3 := h_time D3.a
  have st : setFldA ["Hall"] "time" (.ref A.a) (.int ((s1.acts.1.time : Int) + 1)) h3 = some (h3.set A.a (hallO { A with G := G3 } { s1.acts.1 with row := s1.acts.1.row, step := s1.acts.1.step, time := s1.acts.1.time + 1, over := s1.acts.1.over })) := h_setTime (A := { A with G := G3 }) D3.a (s1.acts.1.time + 1)
  generalize h3.set A.a (hallO { A with G := G3 } { s1.acts.1 with row := s1.acts.1.row, step := s1.acts.1.step, time := s1.acts.1.time + 1, over := s1.acts.1.over }) = h4 at D4 F4 st
  refine ⟨G3, h4, ?_, D4, V1.trans (V2'.trans (V3.trans ⟨F4, fun i hi => .inl hi⟩))⟩
  refine run_ret rfl ?_
  show sSeq _ (sSeq _ (sSeq _ (sSeq _ _))) O [some (.ref A.a), none, none, none, none] h = _
  refine (seq_next e1).trans ?_
  rw [seq_next e2, seq_next e3, seq_next e4]
  simp [ft3, st]
def S_full (O : Ora) : Prop := ∀ (h : AH) (A : HAd) (s : Hs), HallAt h A s → s.Ok → s.time < 10000000 → s.asks.length ≤ 1000 →
    ∃ G h', O n_Hall_full_beat [.ref A.a] h = some (.tup [toldV s.open_.told, didV s.open_.did, optV s.open_.mine], h') ∧ HallAt h' { A with G := G } s.beat ∧ Adv A.own ({ A with G := G } : HAd).own h h'
theorem sp_beat {O : Ora} (hf : S_full O) {h : AH} {A : HAd} {s : Hs} (D : HallAt h A s) (ok : s.Ok) (ht : s.time < 10000000) (ha : s.asks.length ≤ 1000) :
    ∃ G h', f_Hall_beat.run O [.ref A.a] h = some (.tup [toldV s.open_.told, didV s.open_.did], h') ∧ HallAt h' { A with G := G } s.beat ∧ Adv A.own ({ A with G := G } : HAd).own h h' := by
  obtain ⟨G, h', q1, q2, q3⟩ := hf h A s D ok ht ha
  have cf : callM O "full_beat" (.ref A.a) [] h h = _ := (call_of D.a (by kernel_rfl)).trans q1
  refine ⟨G, h', ?_, q2, q3⟩
  simp [f_Hall_beat, Df.run, b_Hall_beat, cf, pOpt]
  rfl
/-! loops by invariants -/
theorem loopF_inv {ok : AH → Prop} {g : FG} {body : FS} {O : Ora} (P : List AV → En → AH → Prop)
    (hb : ∀ x r σ h, P (x :: r) σ h → ok h ∧ ∃ σ' h', bnd (g O x σ h) (fun σ h => body O σ h) = some (.next σ', h') ∧ P r σ' h') (he : ∀ σ h, P [] σ h → ok h) :
    ∀ (xs : List AV) (σ : En) (h : AH), P xs σ h → ∃ σ' h', loopF ok g body O xs σ h = some (.next σ', h') ∧ P [] σ' h'
  | [], σ, h, p => ⟨σ, h, by unfold loopF; rw [if_pos (he σ h p)], p⟩
  | x :: r, σ, h, p => by
    obtain ⟨h1, σ1, h', e, p1⟩ := hb x r σ h p
    obtain ⟨σ2, h2, e2, p2⟩ := loopF_inv P hb he r σ1 h' p1
    refine ⟨σ2, h2, ?_, p2⟩
    unfold loopF
    rw [if_pos h1]
    cases q : g O x σ h with
    | none => rw [q] at e; cases e
    | some pr =>
      rw [q, bnd_some] at e
      rw [bnd_some, e, bnd_some]
      exact e2
theorem loopC_inv {d : Nat} {ok : AH → Prop} {g : FG} {elt : FE} {O : Ora} {σ : En} (P : List AV → List AV → AH → Prop)
    (hb : ∀ acc x r h, P acc (x :: r) h → h[d]? = some (.lst acc) → ok h ∧ ∃ σ1 h1 y h2, g O x σ h = some (σ1, h1) ∧ elt O σ1 h1 = some (y, h2) ∧ h2[d]? = some (.lst acc) ∧ acc.length < lim ∧ P (acc ++ [y]) r (h2.set d (.lst (acc ++ [y])))) (he : ∀ acc h, P acc [] h → h[d]? = some (.lst acc) → ok h) :
    ∀ (xs acc : List AV) (h : AH), P acc xs h → h[d]? = some (.lst acc) → ∃ acc' h', loopC d ok g none elt O σ xs h = some (.ref d, h') ∧ P acc' [] h' ∧ h'[d]? = some (.lst acc')
  | [], acc, h, p, hd => ⟨acc, h, by unfold loopC; rw [if_pos (he acc h p hd)], p, hd⟩
  | x :: r, acc, h, p, hd => by
    obtain ⟨h1, σ1, h', y, h2, e1, e2, e3, e4, p1⟩ := hb acc x r h p hd
    obtain ⟨acc', h3, e5, p2, e6⟩ := loopC_inv P hb he r (acc ++ [y]) _ p1 (List.getElem?_set_self (lt_of e3))
    refine ⟨acc', h3, ?_, p2, e6⟩
    unfold loopC
    rw [if_pos h1, e1, bnd_some]
    simp only [bnd_some, ifB_bl, if_true]
    rw [e2, bnd_some]
    simp only [e3]
    rw [if_pos e4]
    exact e5
/-- .. with a test: what passes -/
theorem loopC_test {d : Nat} {ok : AH → Prop} {g : FG} {t elt : FE} {O : Ora} {σ : En} (P : List AV → List AV → AH → Prop)
    (hb : ∀ acc x r h, P acc (x :: r) h → h[d]? = some (.lst acc) → ok h ∧ ∃ σ1 h1 k h2, g O x σ h = some (σ1, h1) ∧ t O σ1 h1 = some (.bl k, h2) ∧
      if k = true then ∃ y h3, elt O σ1 h2 = some (y, h3) ∧ h3[d]? = some (.lst acc) ∧ acc.length < lim ∧ P (acc ++ [y]) r (h3.set d (.lst (acc ++ [y]))) else P acc r h2 ∧ h2[d]? = some (.lst acc)) (he : ∀ acc h, P acc [] h → h[d]? = some (.lst acc) → ok h) :
    ∀ (xs acc : List AV) (h : AH), P acc xs h → h[d]? = some (.lst acc) → ∃ acc' h', loopC d ok g (some t) elt O σ xs h = some (.ref d, h') ∧ P acc' [] h' ∧ h'[d]? = some (.lst acc')
  | [], acc, h, p, hd => ⟨acc, h, by unfold loopC; rw [if_pos (he acc h p hd)], p, hd⟩
  | x :: r, acc, h, p, hd => by
    obtain ⟨h1, σ1, h', k, h2, e1, e2, e3⟩ := hb acc x r h p hd
    cases k with
    | true =>
      simp only [if_true] at e3
      obtain ⟨y, h3, e4, e5, e6, p1⟩ := e3
      obtain ⟨acc', h4, e7, p2, e8⟩ := loopC_test P hb he r (acc ++ [y]) _ p1 (List.getElem?_set_self (lt_of e5))
      refine ⟨acc', h4, ?_, p2, e8⟩
      unfold loopC
      rw [if_pos h1, e1, bnd_some]
      simp only [e2, bnd_some, ifB_bl, if_true]
      rw [e4, bnd_some]
      simp only [e5]
      rw [if_pos e6]
      exact e7
    | false =>
      simp only [Bool.false_eq_true, if_false] at e3
      obtain ⟨acc', h4, e7, p2, e8⟩ := loopC_test P hb he r acc _ e3.1 e3.2
      refine ⟨acc', h4, ?_, p2, e8⟩
      unfold loopC
      rw [if_pos h1, e1, bnd_some]
      simp only [e2, bnd_some, ifB_bl, Bool.false_eq_true, if_false]
      exact e7
/-! told, shown -/
def tellV (g : Going) : AV := .tup [.int g.num, .int g.moved, .bl (!decide (g.hand = none))]
theorem set_self {h : AH} {d : Nat} {o : AO} (e : h[d]? = some o) : h.set d o = h := by
  obtain ⟨hl, e'⟩ := List.getElem?_eq_some_iff.mp e
  rw [← e']
  exact List.set_getElem_self hl
theorem app_set {h : AH} {o o' : AO} {n : Nat} (e : n = h.length) : (h ++ [o]).set n o' = h ++ [o'] := by
  subst e
  exact set_app
theorem sp_told {O : Ora} {h : AH} {A : HAd} {d : Dev} (D : DevAt h A d) (ok : d.Ok) : f_Device_told.run O [.ref A.v] h = some (.ref (h.length + 1), h ++ [.lst (keysV d), .lst (d.sorted.map tellV)]) := by
  have so := sorted_on D ok
  have fo := dv_on D
  have D1 : DevAt (h ++ [.lst (keysV d)]) A d := ⟨D.on, D.has.app _⟩
  have hl : (h ++ [AO.lst (keysV d)])[h.length]? = some (.lst (keysV d)) := by simp
  have ln : (h ++ [AO.lst (keysV d)]).length = h.length + 1 := by simp
  have hh2 : h ++ [AO.lst (keysV d), .lst (d.sorted.map tellV)] = (h ++ [.lst (keysV d)]) ++ [.lst (d.sorted.map tellV)] := by simp
  rw [hh2]
  generalize hh1 : h ++ [AO.lst (keysV d)] = h1 at D1 hl ln
  -- the items: the keys; by them the goings
  let f : AV → AV := fun x => match x with
    | .int i => (match A.G.find? (fun p => decide ((p.2.num : Int) = i)) with
      | some p => tellV p.2
      | none => .non)
    | _ => .non
  have key : (keysV d).map f = d.sorted.map tellV := by
    rw [← sortG_map D.on, List.map_map]
    unfold keysV sortG
    have q : (isort (A.G.map fun p => (p.2.num : Int))) = isort (d.on.map fun g => (g.num : Int)) := by rw [← D.on, List.map_map]; rfl
    rw [q]
    have hin : ∀ i ∈ isort (d.on.map fun g => (g.num : Int)), ∃ p, A.G.find? (fun p => decide ((p.2.num : Int) = i)) = some p := fun i hi => by
      have hi2 : i ∈ d.on.map fun g => (g.num : Int) := (isort_perm _).mem_iff.mp hi
      rw [← D.on, List.map_map] at hi2
      obtain ⟨p0, hp0, rfl⟩ := List.mem_map.mp hi2
      cases hf : A.G.find? (fun p => decide ((p.2.num : Int) = (p0.2.num : Int))) with
      | some p => exact ⟨p, hf⟩
      | none =>
        have := List.find?_eq_none.mp hf p0 hp0
        simp at this
    generalize isort (d.on.map fun g => (g.num : Int)) = is at hin
    induction is with
    | nil => rfl
    | cons i r ih =>
      obtain ⟨p, hp⟩ := hin i (by simp)
      rw [List.map_cons, List.map_cons, List.filterMap_cons, hp]
      simp only [List.map_cons]
      rw [ih fun j hj => hin j (by simp [hj])]
      congr 1
      show (match A.G.find? (fun p => decide ((p.2.num : Int) = i)) with | some p => tellV p.2 | none => AV.non) = _
      rw [hp]
      rfl
  let P : List AV → List AV → AH → Prop := fun acc r hh => hh = h1 ++ [.lst acc] ∧ (∃ done, keysV d = done ++ r ∧ acc = done.map f)
  have kl : (keysV d).length ≤ 6 := by
    unfold keysV
    rw [List.length_map, (isort_perm _).length_eq, List.length_map]
    exact ok.len
  obtain ⟨acc, h', e1, ⟨e2, done, e3, e4⟩, e5⟩ := loopC_inv (d := h1.length) (ok := fun hh => hh[h.length]? = some (.lst (keysV d))) (g := gVar 1) (elt := fTup [fVar 1, fUn (fldA "moved") (fBin ixA (fUn (fldA "on") (fVar 0)) (fVar 1)), fCmp .NotEq (fUn (fldA "hand") (fBin ixA (fUn (fldA "on") (fVar 0)) (fVar 1))) (fTup [])]) (O := O) (σ := [some (.ref A.v), none]) P
    (fun acc x r hh ⟨p1, done, p2, p3⟩ hd => by
      subst p1
      refine ⟨Keep.app h1 _ _ _ hl, ?_⟩
      have hx : x ∈ keysV d := by rw [p2]; simp
      obtain ⟨i, hi, rfl⟩ := List.mem_map.mp hx
      have hi2 : i ∈ d.on.map fun g => (g.num : Int) := (isort_perm _).mem_iff.mp hi
      rw [← D.on, List.map_map] at hi2
      obtain ⟨p0, hp0, rfl⟩ := List.mem_map.mp hi2
      cases hf : A.G.find? (fun p => decide ((p.2.num : Int) = (p0.2.num : Int))) with
      | none =>
        have := List.find?_eq_none.mp hf p0 hp0
        simp at this
      | some p =>
        have hp := List.mem_of_find?_eq_some hf
        have D2 : DevAt (h1 ++ [.lst acc]) A d := ⟨D1.on, D1.has.app _⟩
        have ix := onIx D2 _ hf
        have ga := D2.g hp
        have hpn : (p.2.num : Int) = (p0.2.num : Int) := by simpa using List.find?_some hf
        refine ⟨[some (.ref A.v), some (.int (p0.2.num : Int))], h1 ++ [.lst acc], tellV p.2, h1 ++ [.lst acc], rfl, ?_, hd, ?_, ?_, done ++ [.int (p0.2.num : Int)], by rw [p2]; simp, ?_⟩
        · simp [dv_on D2, ix, go_moved ga, go_hand ga, tellV, hpn]
        · have : acc.length ≤ 6 := by rw [p3, List.length_map]; have := congrArg List.length p2; simp at this; omega
          show acc.length < 16777216
          omega
        · exact app_set rfl
        · rw [p3, List.map_append]
          congr 1
          show [tellV p.2] = [f (.int (p0.2.num : Int))]
          show _ = [(match A.G.find? (fun p => decide ((p.2.num : Int) = (p0.2.num : Int))) with | some p => tellV p.2 | none => AV.non)]
          rw [hf])
    (fun acc hh ⟨p1, _⟩ hd => by subst p1; exact Keep.app h1 _ _ _ hl) (keysV d) [] (h1 ++ [.lst []]) ⟨rfl, [], rfl, rfl⟩ (by simp)
  have ed : done = keysV d := by simpa using e3.symm
  rw [e4, ed, key] at e2
  subst e2
  rw [ln] at e1
  unfold f_Device_told
  refine run_ret rfl ?_
  show sRet _ O [some (.ref A.v), none] h = _
  unfold sRet fLC iVal
  simp only [s_fUn, s_fVar, List.getElem?_cons_zero, bnd_some, fo, so, alloc, hh1, hl, wipeA]
  have e1' : loopC h1.length (fun hh => hh[h.length]? = some (.lst (keysV d))) (gVar 1) none (fTup [fVar 1, fUn (fldA "moved") (fBin ixA (fUn (fldA "on") (fVar 0)) (fVar 1)), fCmp .NotEq (fUn (fldA "hand") (fBin ixA (fUn (fldA "on") (fVar 0)) (fVar 1))) (fTup [])]) O [some (.ref A.v), none] (keysV d) (h1 ++ [.lst []]) = some (.ref (h.length + 1), h1 ++ [.lst (d.sorted.map tellV)]) := by
    rw [ln]; exact e1
  show bnd (loopC h1.length _ _ _ _ O ([some (.ref A.v), none].set 1 none) (keysV d) (h1 ++ [.lst []])) _ = _
  rw [show ([some (.ref A.v), none] : En).set 1 none = [some (.ref A.v), none] from rfl, e1']
  rfl
end SB

/-! shown; what must be: is_field, is_row, need_program. -/
namespace SB
open PySem
open L2 (Key)
def rowV (s : Hs) : AV := if s.over = true then .non else .int s.row
def S_told (O : Ora) : Prop := ∀ (h : AH) (A : HAd) (d : Dev), DevAt h A d → d.Ok → O n_Device_told [.ref A.v] h = some (.ref (h.length + 1), h ++ [.lst (keysV d), .lst (d.sorted.map tellV)])
/-- the lists that shown lays -/
def Hs.shownL (s : Hs) : AH := [.lst (s.cells.map .int), .lst (s.mem.map .int), .lst (s.marks.map .bl), .lst (keysV s.dev), .lst (s.dev.sorted.map tellV)]
theorem sp_shown {O : Ora} (ht : S_told O) {h : AH} {A : HAd} {s : Hs} (D : HallAt h A s) (ok : s.dev.Ok) :
    f_Hall_shown.run O [.ref A.a] h = some (.tup [.int s.time, rowV s, .ref h.length, .ref (h.length + 1), .ref (h.length + 2), .ref (h.length + 4)], h ++ s.shownL) := by
  have l0 := list_of D.c
  have up : ∀ t : AH, HallAt (h ++ t) A s := fun t => ⟨D.on, D.has.app t⟩
  have D1 := up [.lst (s.cells.map .int)]
  have D2 := up [.lst (s.cells.map .int), .lst (s.mem.map .int)]
  have D3 := up [.lst (s.cells.map .int), .lst (s.mem.map .int), .lst (s.marks.map .bl)]
  have a1 : listA (.ref A.c) h = some (.ref h.length, h ++ [.lst (s.cells.map .int)]) := list_of D.c
  have a2 : listA (.ref A.m) (h ++ [.lst (s.cells.map .int)]) = some (.ref (h.length + 1), h ++ [.lst (s.cells.map .int), .lst (s.mem.map .int)]) := by
    rw [list_of D1.m]; simp [alloc]
  have a3 : listA (.ref A.k) (h ++ [.lst (s.cells.map .int), .lst (s.mem.map .int)]) = some (.ref (h.length + 2), h ++ [.lst (s.cells.map .int), .lst (s.mem.map .int), .lst (s.marks.map .bl)]) := by
    rw [list_of D2.k]; simp [alloc]
  have a4 : callM O "told" (.ref A.v) [] (h ++ [.lst (s.cells.map .int), .lst (s.mem.map .int), .lst (s.marks.map .bl)]) (h ++ [.lst (s.cells.map .int), .lst (s.mem.map .int), .lst (s.marks.map .bl)]) = some (.ref (h.length + 4), h ++ s.shownL) := by
    refine (call_of D3.dev.v (by kernel_rfl)).trans ((ht _ A s.dev D3.dev ok).trans ?_)
    simp [Hs.shownL]
  have f1 := h_memory D1.a
  have f2 := h_marks D2.a
  have f3 := h_device D3.a
  generalize h ++ [AO.lst (s.cells.map .int), .lst (s.mem.map .int), .lst (s.marks.map .bl)] = h3 at a3 a4 f3
  generalize h ++ [AO.lst (s.cells.map .int), .lst (s.mem.map .int)] = h2 at a2 a3 f2
  generalize h ++ [AO.lst (s.cells.map .int)] = h1 at a1 a2 f1
  have f0 := h_cells D.a
  have fr := h_row D.a
  have fo := h_over D.a
  have ft := h_time D.a
  cases ho : s.over <;> simp [f_Hall_shown, Df.run, b_Hall_shown, fo, ho, fr, ft, f0, a1, f1, a2, f2, a3, f3, a4, rowV]
/-! is_between, is_field -/
def S_between (O : Ora) : Prop := ∀ (x a b : Int) (h : AH), O n_is_between [.int x, .int a, .int b] h = some (.bl (decide (a ≤ x) && decide (x ≤ b)), h)
def bnds (many : Int) : List (Str × Int × Int) := [("r", 0, 3), ("h", 0, 2), ("n", 0, 999), ("a", 0, 31), ("l", 0, many - 1), ("w", 0, 5), ("m", 0, 2), ("b", 1, 9)]
def bndV (p : Str × Int × Int) : Key × AV := (.inr p.1, .tup [.int p.2.1, .int p.2.2])
theorem sp_field {O : Ora} (hb : S_between O) {z : Str} {part many lo hi : Int} {h : AH} (e : (z, lo, hi) ∈ bnds many) :
    ∃ h', f_is_field.run O [.str z, .int part, .int many] h = some (.bl (decide (lo ≤ part) && decide (part ≤ hi)), h') ∧ Keep h h' := by
  let L : List AV := [.tup [.str "l", .tup [.int 0, .int (many - 1)]], .tup [.str "w", .tup [.int 0, .int (6 - 1)]], .tup [.str "m", .tup [.int 0, .int (3 - 1)]], .tup [.str "b", .tup [.int 1, .int 9]]]
  let B1 : List (Key × AV) := [(.inr "r", .tup [.int 0, .int (4 - 1)]), (.inr "h", .tup [.int 0, .int (4 - 2)]), (.inr "n", .tup [.int 0, .int 999]), (.inr "a", .tup [.int 0, .int (32 - 1)])]
  have e1 : fDic [(fC (.str "r"), fTup [fC (.int 0), fOp .Sub (fC (.int 4)) (fC (.int 1))]), (fC (.str "h"), fTup [fC (.int 0), fOp .Sub (fC (.int 4)) (fC (.int 2))]), (fC (.str "n"), fTup [fC (.int 0), fC (.int 999)]), (fC (.str "a"), fTup [fC (.int 0), fOp .Sub (fC (.int 32)) (fC (.int 1))])] O [some (.str z), some (.int part), some (.int many), none] h = some (.ref h.length, h ++ [.dic B1]) := by
    unfold fDic
    have g : ∀ hh, fDicGo h.length [(fC (.str "r"), fTup [fC (.int 0), fOp .Sub (fC (.int 4)) (fC (.int 1))]), (fC (.str "h"), fTup [fC (.int 0), fOp .Sub (fC (.int 4)) (fC (.int 2))]), (fC (.str "n"), fTup [fC (.int 0), fC (.int 999)]), (fC (.str "a"), fTup [fC (.int 0), fOp .Sub (fC (.int 32)) (fC (.int 1))])] O [some (.str z), some (.int part), some (.int many), none] hh = some (B1, hh) := fun hh => by kernel_rfl
    rw [g, bnd_some]
    simp only [List.getElem?_append_right (Nat.le_refl _), Nat.sub_self, List.getElem?_cons_zero]
    rw [if_pos (by decide)]
    rw [app_set rfl]
    exact congrArg (fun l => some (AV.ref h.length, h ++ [AO.dic l])) (by kernel_rfl)
  let B2 : List (Key × AV) := (bnds many).map bndV
  have e2 : fLst [fTup [fC (.str "l"), fTup [fC (.int 0), fOp .Sub (fVar 2) (fC (.int 1))]], fTup [fC (.str "w"), fTup [fC (.int 0), fOp .Sub (fC (.int 6)) (fC (.int 1))]], fTup [fC (.str "m"), fTup [fC (.int 0), fOp .Sub (fC (.int 3)) (fC (.int 1))]], fTup [fC (.str "b"), fTup [fC (.int 1), fC (.int 9)]]] O [some (.str z), some (.int part), some (.int many), some (.ref h.length)] (h ++ [.dic B1]) = some (.ref (h.length + 1), h ++ [.dic B1, .lst L]) := by
    simp [alloc, L]
  have e3 : updPA (.ref h.length) (.ref (h.length + 1)) (h ++ [.dic B1, .lst L]) = some (.non, h ++ [.dic B2, .lst L]) := by
    have g1 : (h ++ [AO.dic B1, .lst L])[h.length]? = some (.dic B1) := by simp
    have g2 : (h ++ [AO.dic B1, .lst L])[h.length + 1]? = some (.lst L) := by
      rw [List.getElem?_append_right (by omega)]
      simp
    unfold updPA
    simp only [g1, g2]
    rw [if_pos (show B1.length + L.length ≤ 1000 by show 4 + 4 ≤ 1000; omega)]
    have g3 : mapO pairOf L = some (([("l", 0, many - 1), ("w", 0, 5), ("m", 0, 2), ("b", 1, 9)] : List (Str × Int × Int)).map bndV) := by kernel_rfl
    rw [g3]
    have g4 : dmerge B1 (([("l", 0, many - 1), ("w", 0, 5), ("m", 0, 2), ("b", 1, 9)] : List (Str × Int × Int)).map bndV) = B2 := by kernel_rfl
    simp only [Option.map_some]
    rw [g4, List.set_append_right _ _ (Nat.le_refl _)]
    simp
  have kd : isK true (h ++ [.dic B1]) (.ref h.length) = true := isK_dic (kvs := B1) (by simp)
  have gB : (h ++ [AO.dic B2, .lst L])[h.length]? = some (.dic B2) := by simp
  have dv : dval B2 (.inr z) = some (.tup [.int lo, .int hi]) := by
    simp only [bnds, List.mem_cons, Prod.mk.injEq, List.not_mem_nil, or_false] at e
    rcases e with ⟨rfl, rfl, rfl⟩ | ⟨rfl, rfl, rfl⟩ | ⟨rfl, rfl, rfl⟩ | ⟨rfl, rfl, rfl⟩ | ⟨rfl, rfl, rfl⟩ | ⟨rfl, rfl, rfl⟩ | ⟨rfl, rfl, rfl⟩ | ⟨rfl, rfl, rfl⟩ <;> kernel_rfl
  have ix : ixA (.ref h.length) (.str z) (h ++ [.dic B2, .lst L]) = some (.tup [.int lo, .int hi], h ++ [.dic B2, .lst L]) := by
    unfold ixA
    simp only [gB]
    show (keyOf (.str z)).bind _ = _
    simp only [keyOf, Option.bind_some, dv]
    rfl
  have bw := hb part lo hi (h ++ [.dic B2, .lst L])
  have kp : Keep h (h ++ [.dic B2, .lst L]) := Keep.app _ _
  generalize h ++ [AO.dic B2, .lst L] = h2 at e3 gB ix bw kp
  refine ⟨h2, ?_, kp⟩
  have s1 : sAsg (gVar 3) (fDic [(fC (.str "r"), fTup [fC (.int 0), fOp .Sub (fC (.int 4)) (fC (.int 1))]), (fC (.str "h"), fTup [fC (.int 0), fOp .Sub (fC (.int 4)) (fC (.int 2))]), (fC (.str "n"), fTup [fC (.int 0), fC (.int 999)]), (fC (.str "a"), fTup [fC (.int 0), fOp .Sub (fC (.int 32)) (fC (.int 1))])]) O [some (.str z), some (.int part), some (.int many), none] h = some (.next [some (.str z), some (.int part), some (.int many), some (.ref h.length)], h ++ [.dic B1]) := by
    unfold sAsg
    rw [e1, bnd_some]
    rfl
  have s2 : sExpr (fM1 true updPA (fVar 3) (fLst [fTup [fC (.str "l"), fTup [fC (.int 0), fOp .Sub (fVar 2) (fC (.int 1))]], fTup [fC (.str "w"), fTup [fC (.int 0), fOp .Sub (fC (.int 6)) (fC (.int 1))]], fTup [fC (.str "m"), fTup [fC (.int 0), fOp .Sub (fC (.int 3)) (fC (.int 1))]], fTup [fC (.str "b"), fTup [fC (.int 1), fC (.int 9)]]])) O [some (.str z), some (.int part), some (.int many), some (.ref h.length)] (h ++ [.dic B1]) = some (.next [some (.str z), some (.int part), some (.int many), some (.ref h.length)], h2) := by
    unfold sExpr fM1
    rw [show fVar 3 O [some (.str z), some (.int part), some (.int many), some (.ref h.length)] (h ++ [.dic B1]) = some (.ref h.length, h ++ [.dic B1]) from rfl, bnd_some]
    rw [if_pos kd, e2, bnd_some, e3, bnd_some]
  refine run_ret rfl ?_
  refine (seq_next s1).trans ((seq_next s2).trans ?_)
  simp [ix, bw]
def S_field (O : Ora) : Prop := ∀ (z : Str) (part many lo hi : Int) (h : AH), (z, lo, hi) ∈ bnds many → ∃ h', O n_is_field [.str z, .int part, .int many] h = some (.bl (decide (lo ≤ part) && decide (part ≤ hi)), h') ∧ Keep h h'
end SB

/-! is_row, need_program. -/
namespace SB
open PySem
open L2 (Key)
def rowC1 : FE := fOr (fUn notA (fUn (isinstA "tuple") (fVar 0))) (fOr (fCmp .Eq (fVar 0) (fTup [])) (fOr (fUn notA (fUn (isinstA "str") (fBin ixA (fVar 0) (fC (.int 0))))) (fCmp .NotIn (fBin ixA (fVar 0) (fC (.int 0))) (fC c_FORMS))))
def rowC2 : FE := fCmp .NotEq (fUn lenA (fVar 0)) (fOp .Add (fUn lenA (fVar 2)) (fC (.int 1)))
def Row.w : Row → Str
  | .set _ _ => "set"
  | .add _ _ => "add"
  | .less _ _ => "less"
  | .get _ _ => "get"
  | .getx _ _ => "getx"
  | .put _ _ => "put"
  | .putx _ _ => "putx"
  | .pair _ _ => "pair"
  | .lay _ _ => "lay"
  | .go _ => "go"
  | .iff _ _ => "if"
  | .ask _ => "ask"
  | .done _ _ => "done"
  | .mark _ => "mark"
  | .clear _ => "clear"
  | .rest _ => "rest"
  | .fin => "end"
theorem row_facts (r : Row) {many : Nat} (hr : r.Ok many) : ∃ (form : Str) (n : Nat), n ≤ 2 ∧ (∀ h, ixA c_FORMS (.str (r.w)) h = some (.str form, h)) ∧ (∀ h, ixA r.av (.int 0) h = some (.str r.w, h)) ∧ (∀ h, lenA (.str form) h = some (.int (n : Int), h)) ∧
    (∀ O h, rowC1 O [some r.av, some (.int (many : Int)), none, none] h = some (.bl false, h) ∧ rowC2 O [some r.av, some (.int (many : Int)), some (.str form), none] h = some (.bl false, h)) ∧
    ∀ k : Nat, k < n → ∃ (z : Str) (p lo hi : Int), (∀ h, ixA (.str form) (.int (k : Int)) h = some (.str z, h)) ∧ (∀ h, ixA r.av (.int ((k : Int) + 1)) h = some (.int p, h)) ∧ (z, lo, hi) ∈ bnds many ∧ lo ≤ p ∧ p ≤ hi := by
  cases r with
  | set r n =>
    refine ⟨"rn", 2, by omega, fun h => by kernel_rfl, fun h => by kernel_rfl, fun h => by kernel_rfl, fun O h => ⟨by kernel_rfl, by kernel_rfl⟩, fun k hk => ?_⟩
    have hr : _ := hr
    simp only [Row.Ok] at hr
    match k, hk with
    | 0, _ => exact ⟨"r", r, 0, 3, fun h => by kernel_rfl, fun h => by kernel_rfl, by simp [bnds], by omega, by omega⟩
    | 1, _ => exact ⟨"n", n, 0, 999, fun h => by kernel_rfl, fun h => by kernel_rfl, by simp [bnds], by omega, by omega⟩
    | k + 2, hk => exact absurd hk (by omega)
  | add r s =>
    refine ⟨"rr", 2, by omega, fun h => by kernel_rfl, fun h => by kernel_rfl, fun h => by kernel_rfl, fun O h => ⟨by kernel_rfl, by kernel_rfl⟩, fun k hk => ?_⟩
    have hr : _ := hr
    simp only [Row.Ok] at hr
    match k, hk with
    | 0, _ => exact ⟨"r", r, 0, 3, fun h => by kernel_rfl, fun h => by kernel_rfl, by simp [bnds], by omega, by omega⟩
    | 1, _ => exact ⟨"r", s, 0, 3, fun h => by kernel_rfl, fun h => by kernel_rfl, by simp [bnds], by omega, by omega⟩
    | k + 2, hk => exact absurd hk (by omega)
  | less r s =>
    refine ⟨"rr", 2, by omega, fun h => by kernel_rfl, fun h => by kernel_rfl, fun h => by kernel_rfl, fun O h => ⟨by kernel_rfl, by kernel_rfl⟩, fun k hk => ?_⟩
    have hr : _ := hr
    simp only [Row.Ok] at hr
    match k, hk with
    | 0, _ => exact ⟨"r", r, 0, 3, fun h => by kernel_rfl, fun h => by kernel_rfl, by simp [bnds], by omega, by omega⟩
    | 1, _ => exact ⟨"r", s, 0, 3, fun h => by kernel_rfl, fun h => by kernel_rfl, by simp [bnds], by omega, by omega⟩
    | k + 2, hk => exact absurd hk (by omega)
  | get r a =>
    refine ⟨"ra", 2, by omega, fun h => by kernel_rfl, fun h => by kernel_rfl, fun h => by kernel_rfl, fun O h => ⟨by kernel_rfl, by kernel_rfl⟩, fun k hk => ?_⟩
    have hr : _ := hr
    simp only [Row.Ok] at hr
    match k, hk with
    | 0, _ => exact ⟨"r", r, 0, 3, fun h => by kernel_rfl, fun h => by kernel_rfl, by simp [bnds], by omega, by omega⟩
    | 1, _ => exact ⟨"a", a, 0, 31, fun h => by kernel_rfl, fun h => by kernel_rfl, by simp [bnds], by omega, by omega⟩
    | k + 2, hk => exact absurd hk (by omega)
  | getx r s =>
    refine ⟨"rr", 2, by omega, fun h => by kernel_rfl, fun h => by kernel_rfl, fun h => by kernel_rfl, fun O h => ⟨by kernel_rfl, by kernel_rfl⟩, fun k hk => ?_⟩
    have hr : _ := hr
    simp only [Row.Ok] at hr
    match k, hk with
    | 0, _ => exact ⟨"r", r, 0, 3, fun h => by kernel_rfl, fun h => by kernel_rfl, by simp [bnds], by omega, by omega⟩
    | 1, _ => exact ⟨"r", s, 0, 3, fun h => by kernel_rfl, fun h => by kernel_rfl, by simp [bnds], by omega, by omega⟩
    | k + 2, hk => exact absurd hk (by omega)
  | put a r =>
    refine ⟨"ar", 2, by omega, fun h => by kernel_rfl, fun h => by kernel_rfl, fun h => by kernel_rfl, fun O h => ⟨by kernel_rfl, by kernel_rfl⟩, fun k hk => ?_⟩
    have hr : _ := hr
    simp only [Row.Ok] at hr
    match k, hk with
    | 0, _ => exact ⟨"a", a, 0, 31, fun h => by kernel_rfl, fun h => by kernel_rfl, by simp [bnds], by omega, by omega⟩
    | 1, _ => exact ⟨"r", r, 0, 3, fun h => by kernel_rfl, fun h => by kernel_rfl, by simp [bnds], by omega, by omega⟩
    | k + 2, hk => exact absurd hk (by omega)
  | putx r s =>
    refine ⟨"rr", 2, by omega, fun h => by kernel_rfl, fun h => by kernel_rfl, fun h => by kernel_rfl, fun O h => ⟨by kernel_rfl, by kernel_rfl⟩, fun k hk => ?_⟩
    have hr : _ := hr
    simp only [Row.Ok] at hr
    match k, hk with
    | 0, _ => exact ⟨"r", r, 0, 3, fun h => by kernel_rfl, fun h => by kernel_rfl, by simp [bnds], by omega, by omega⟩
    | 1, _ => exact ⟨"r", s, 0, 3, fun h => by kernel_rfl, fun h => by kernel_rfl, by simp [bnds], by omega, by omega⟩
    | k + 2, hk => exact absurd hk (by omega)
  | pair r a =>
    refine ⟨"ha", 2, by omega, fun h => by kernel_rfl, fun h => by kernel_rfl, fun h => by kernel_rfl, fun O h => ⟨by kernel_rfl, by kernel_rfl⟩, fun k hk => ?_⟩
    have hr : _ := hr
    simp only [Row.Ok] at hr
    match k, hk with
    | 0, _ => exact ⟨"h", r, 0, 2, fun h => by kernel_rfl, fun h => by kernel_rfl, by simp [bnds], by omega, by omega⟩
    | 1, _ => exact ⟨"a", a, 0, 31, fun h => by kernel_rfl, fun h => by kernel_rfl, by simp [bnds], by omega, by omega⟩
    | k + 2, hk => exact absurd hk (by omega)
  | lay a r =>
    refine ⟨"ah", 2, by omega, fun h => by kernel_rfl, fun h => by kernel_rfl, fun h => by kernel_rfl, fun O h => ⟨by kernel_rfl, by kernel_rfl⟩, fun k hk => ?_⟩
    have hr : _ := hr
    simp only [Row.Ok] at hr
    match k, hk with
    | 0, _ => exact ⟨"a", a, 0, 31, fun h => by kernel_rfl, fun h => by kernel_rfl, by simp [bnds], by omega, by omega⟩
    | 1, _ => exact ⟨"h", r, 0, 2, fun h => by kernel_rfl, fun h => by kernel_rfl, by simp [bnds], by omega, by omega⟩
    | k + 2, hk => exact absurd hk (by omega)
  | go l =>
    refine ⟨"l", 1, by omega, fun h => by kernel_rfl, fun h => by kernel_rfl, fun h => by kernel_rfl, fun O h => ⟨by kernel_rfl, by kernel_rfl⟩, fun k hk => ?_⟩
    have hr : _ := hr
    simp only [Row.Ok] at hr
    match k, hk with
    | 0, _ => exact ⟨"l", l, 0, (many : Int) - 1, fun h => by kernel_rfl, fun h => by kernel_rfl, by simp [bnds], by omega, by omega⟩
    | k + 1, hk => exact absurd hk (by omega)
  | iff r l =>
    refine ⟨"rl", 2, by omega, fun h => by kernel_rfl, fun h => by kernel_rfl, fun h => by kernel_rfl, fun O h => ⟨by kernel_rfl, by kernel_rfl⟩, fun k hk => ?_⟩
    have hr : _ := hr
    simp only [Row.Ok] at hr
    match k, hk with
    | 0, _ => exact ⟨"r", r, 0, 3, fun h => by kernel_rfl, fun h => by kernel_rfl, by simp [bnds], by omega, by omega⟩
    | 1, _ => exact ⟨"l", l, 0, (many : Int) - 1, fun h => by kernel_rfl, fun h => by kernel_rfl, by simp [bnds], by omega, by omega⟩
    | k + 2, hk => exact absurd hk (by omega)
  | ask w =>
    refine ⟨"w", 1, by omega, fun h => by kernel_rfl, fun h => by kernel_rfl, fun h => by kernel_rfl, fun O h => ⟨by kernel_rfl, by kernel_rfl⟩, fun k hk => ?_⟩
    have hr : _ := hr
    simp only [Row.Ok] at hr
    match k, hk with
    | 0, _ => exact ⟨"w", w, 0, 5, fun h => by kernel_rfl, fun h => by kernel_rfl, by simp [bnds], by omega, by omega⟩
    | k + 1, hk => exact absurd hk (by omega)
  | done r w =>
    refine ⟨"rw", 2, by omega, fun h => by kernel_rfl, fun h => by kernel_rfl, fun h => by kernel_rfl, fun O h => ⟨by kernel_rfl, by kernel_rfl⟩, fun k hk => ?_⟩
    have hr : _ := hr
    simp only [Row.Ok] at hr
    match k, hk with
    | 0, _ => exact ⟨"r", r, 0, 3, fun h => by kernel_rfl, fun h => by kernel_rfl, by simp [bnds], by omega, by omega⟩
    | 1, _ => exact ⟨"w", w, 0, 5, fun h => by kernel_rfl, fun h => by kernel_rfl, by simp [bnds], by omega, by omega⟩
    | k + 2, hk => exact absurd hk (by omega)
  | mark m =>
    refine ⟨"m", 1, by omega, fun h => by kernel_rfl, fun h => by kernel_rfl, fun h => by kernel_rfl, fun O h => ⟨by kernel_rfl, by kernel_rfl⟩, fun k hk => ?_⟩
    have hr : _ := hr
    simp only [Row.Ok] at hr
    match k, hk with
    | 0, _ => exact ⟨"m", m, 0, 2, fun h => by kernel_rfl, fun h => by kernel_rfl, by simp [bnds], by omega, by omega⟩
    | k + 1, hk => exact absurd hk (by omega)
  | clear m =>
    refine ⟨"m", 1, by omega, fun h => by kernel_rfl, fun h => by kernel_rfl, fun h => by kernel_rfl, fun O h => ⟨by kernel_rfl, by kernel_rfl⟩, fun k hk => ?_⟩
    have hr : _ := hr
    simp only [Row.Ok] at hr
    match k, hk with
    | 0, _ => exact ⟨"m", m, 0, 2, fun h => by kernel_rfl, fun h => by kernel_rfl, by simp [bnds], by omega, by omega⟩
    | k + 1, hk => exact absurd hk (by omega)
  | rest b =>
    refine ⟨"b", 1, by omega, fun h => by kernel_rfl, fun h => by kernel_rfl, fun h => by kernel_rfl, fun O h => ⟨by kernel_rfl, by kernel_rfl⟩, fun k hk => ?_⟩
    have hr : _ := hr
    simp only [Row.Ok] at hr
    match k, hk with
    | 0, _ => exact ⟨"b", b, 1, 9, fun h => by kernel_rfl, fun h => by kernel_rfl, by simp [bnds], by omega, by omega⟩
    | k + 1, hk => exact absurd hk (by omega)
  | fin  =>
    refine ⟨"", 0, by omega, fun h => by kernel_rfl, fun h => by kernel_rfl, fun h => by kernel_rfl, fun O h => ⟨by kernel_rfl, by kernel_rfl⟩, fun k hk => ?_⟩
    exact absurd hk (Nat.not_lt_zero k)
end SB

/-! What must be, of what is good. -/
namespace SB
open PySem
open L2 (Key)
theorem mid_small {i : Int} (h0 : -1000000 ≤ i) (h1 : i ≤ 1000000) : mid i := by
  have e : (2 : Int) ^ 62 = 4611686018427387904 := by decide
  show -((2 : Int) ^ 62) ≤ i ∧ i < (2 : Int) ^ 62
  rw [e]
  omega
theorem it1 {O : Ora} {σ : En} {h h' : AH} {a : FE} {i : Int} (e : a O σ h = some (.int i, h')) (hm : mid i) : iRange1 a O σ h = some (⟨irange 0 i, fun _ => True⟩, h') := by
  unfold iRange1
  rw [e, bnd_some]
  exact if_pos hm
theorem it2 {O : Ora} {σ : En} {h h' h2 : AH} {a b : FE} {i j : Int} (e : a O σ h = some (.int i, h')) (e2 : b O σ h' = some (.int j, h2)) (hm : mid i) (hm2 : mid j) : iRange2 a b O σ h = some (⟨irange i j, fun _ => True⟩, h2) := by
  unfold iRange2
  rw [e, bnd_some, e2, bnd_some]
  exact if_pos ⟨hm, hm2⟩
theorem itv {O : Ora} {σ : En} {h h' : AH} {a : FE} {n : Nat} {xs : List AV} (e : a O σ h = some (.ref n, h')) (hn : h'[n]? = some (.lst xs)) : iVal a O σ h = some (⟨xs, fun h => h[n]? = some (.lst xs)⟩, h') := by
  unfold iVal
  rw [e, bnd_some]
  simp only [hn]
theorem itt {O : Ora} {σ : En} {h h' : AH} {a : FE} {xs : List AV} (e : a O σ h = some (.tup xs, h')) : iVal a O σ h = some (⟨xs, fun _ => True⟩, h') := by
  unfold iVal
  rw [e, bnd_some]
theorem its_ {O : Ora} {σ : En} {h h' : AH} {a : FE} {ns : List Int} (e : a O σ h = some (.scr ns, h')) : iVal a O σ h = some (⟨ns.map .int, fun _ => True⟩, h') := by
  unfold iVal
  rw [e, bnd_some]
theorem ite_ {O : Ora} {σ : En} {h h' : AH} {a : FE} {n : Nat} {xs : List AV} (e : a O σ h = some (.ref n, h')) (hn : h'[n]? = some (.lst xs)) : iEnum a O σ h = some (⟨enumAV xs, fun h => h[n]? = some (.lst xs)⟩, h') := by
  unfold iEnum
  rw [e, bnd_some]
  simp only [hn]
theorem itet {O : Ora} {σ : En} {h h' : AH} {a : FE} {xs : List AV} (e : a O σ h = some (.tup xs, h')) (hl : xs.length ≤ lim) : iEnum a O σ h = some (⟨enumAV xs, fun _ => True⟩, h') := by
  unfold iEnum
  rw [e, bnd_some]
  exact if_pos hl
theorem lc_of {O : Ora} {σ : En} {h h1 : AH} {vs : List Nat} {i : FI} {g : FG} {t : Option FE} {elt : FE} {I : It} (e : i O σ h = some (I, h1)) : fLC vs i g t elt O σ h = loopC h1.length I.ok g t elt O (wipeA σ vs) I.its (h1 ++ [.lst []]) := by
  unfold fLC
  rw [e, bnd_some]
theorem for_of {O : Ora} {σ : En} {h h1 : AH} {i : FI} {g : FG} {b : FS} {I : It} (e : i O σ h = some (I, h1)) : sFor i g b O σ h = loopF I.ok g b O I.its σ h1 := by
  unfold sFor
  rw [e, bnd_some]
theorem Keep.setNew {h h' : AH} {d : Nat} {o : AO} (k : Keep h h') (hd : h.length ≤ d) : Keep h (h'.set d o) := fun i u e => by
  rw [List.getElem?_set_ne (by have := lt_of e; omega)]
  exact k i u e
/-- a comprehension none of whose items passes: an empty list, what was stays -/
theorem loopC_none {d : Nat} {g : FG} {t elt : FE} {O : Ora} {σ : En} {h0 : AH} {xs : List AV} {ok : AH → Prop} (hd0 : h0.length ≤ d) (hok : ∀ h, Keep h0 h → ok h)
    (hb : ∀ x ∈ xs, ∀ h, Keep h0 h → ∃ σ1 h2, g O x σ h = some (σ1, h) ∧ t O σ1 h = some (.bl false, h2) ∧ Keep h h2) {h : AH} (k : Keep h0 h) (hd : h[d]? = some (.lst [])) :
    ∃ h', loopC d ok g (some t) elt O σ xs h = some (.ref d, h') ∧ Keep h0 h' ∧ h'[d]? = some (.lst []) := by
  obtain ⟨acc, h', e1, ⟨e2, e3, _⟩, e4⟩ := loopC_test (d := d) (ok := ok) (g := g) (t := t) (elt := elt) (O := O) (σ := σ) (fun acc r h => acc = [] ∧ Keep h0 h ∧ ∀ x ∈ r, x ∈ xs)
    (fun acc x r h ⟨p1, p2, p3⟩ hd => by
      obtain ⟨σ1, h2, q1, q2, q3⟩ := hb x (p3 x (by simp)) h p2
      refine ⟨hok h p2, σ1, h, false, h2, q1, q2, ?_⟩
      simp only [Bool.false_eq_true, if_false]
      exact ⟨⟨p1, p2.trans q3, fun y hy => p3 y (by simp [hy])⟩, q3 _ _ hd⟩)
    (fun acc h ⟨_, p2, _⟩ _ => hok h p2) xs [] h ⟨rfl, k, fun x hx => hx⟩ hd
  subst e2
  exact ⟨h', e1, e3, e4⟩
/-- [..] == [] of such a one -/
theorem eq_new {h : AH} {d : Nat} (hd : h[d]? = some (.lst [])) : cmpA .Eq (.ref d) (.ref h.length) (h ++ [.lst []]) = some (.bl true, h ++ [.lst []]) :=
  eqE' (ds := []) (Keep.app h _ _ _ hd) (by simp) rfl rfl
theorem ne_new {h : AH} {d : Nat} (hd : h[d]? = some (.lst [])) : cmpA .NotEq (.ref d) (.ref h.length) (h ++ [.lst []]) = some (.bl false, h ++ [.lst []]) :=
  neE (ds := []) (Keep.app h _ _ _ hd) (by simp) rfl rfl
def S_row (O : Ora) : Prop := ∀ (r : Row) (many : Nat) (h : AH), r.Ok many → ∃ h', O n_is_row [r.av, .int (many : Int)] h = some (.bl true, h') ∧ Keep h h'
theorem sp_row {O : Ora} (hf : S_field O) {r : Row} {many : Nat} {h : AH} (hr : r.Ok many) : ∃ h', f_is_row.run O [r.av, .int (many : Int)] h = some (.bl true, h') ∧ Keep h h' := by
  obtain ⟨form, n, f0, f1, f2, f3, f4, f5⟩ := row_facts r hr
  obtain ⟨c1, c2⟩ := f4 O h
  have tests : ∀ x ∈ irange 0 (n : Int), ∀ hh, Keep h hh → ∃ σ1 h2, gVar 3 O x [some r.av, some (.int (many : Int)), some (.str form), none] hh = some (σ1, hh) ∧
      fUn notA (fCall ("is_field", none) [fBin ixA (fVar 2) (fVar 3), fBin ixA (fVar 0) (fOp .Add (fVar 3) (fC (.int 1))), fVar 1]) O σ1 hh = some (.bl false, h2) ∧ Keep hh h2 := by
    intro x hx hh _
    obtain ⟨k, hk, rfl⟩ := List.mem_map.mp hx
    have hk' : k < n := by simpa using hk
    obtain ⟨z, p, lo, hi, g1, g2, g3, g4, g5⟩ := f5 k hk'
    obtain ⟨h2, w1, w2⟩ := hf z p many lo hi hh g3
    refine ⟨[some r.av, some (.int (many : Int)), some (.str form), some (.int (0 + (k : Int)))], h2, rfl, ?_, w2⟩
    have e0 : (0 : Int) + (k : Int) = (k : Int) := by omega
    rw [e0]
    simp [g1 hh, g2 hh, w1, g4, g5]
  obtain ⟨h', e1, e2, e3⟩ := loopC_none (d := h.length) (g := gVar 3) (elt := fVar 3) (σ := [some r.av, some (.int (many : Int)), some (.str form), none]) (ok := fun _ => True) (h0 := h) (Nat.le_refl _) (fun _ _ => trivial) tests (Keep.app h [.lst []]) (by simp)
  refine ⟨h' ++ [.lst []], ?_, e2.trans (Keep.app _ _)⟩
  have lc : fLC [3] (iRange1 (fUn lenA (fVar 2))) (gVar 3) (some (fUn notA (fCall ("is_field", none) [fBin ixA (fVar 2) (fVar 3), fBin ixA (fVar 0) (fOp .Add (fVar 3) (fC (.int 1))), fVar 1]))) (fVar 3) O [some r.av, some (.int (many : Int)), some (.str form), none] h = some (.ref h.length, h') := by
    refine (lc_of (it1 (i := (n : Int)) ?_ (mid_small (by omega) (by omega)))).trans e1
    simp only [s_fUn, s_fVar, List.getElem?_cons_succ, List.getElem?_cons_zero, bnd_some, f3 h]
  have s1 : sIf rowC1 (sAll [sRet (fC (.bl false))]) (sAll []) O [some r.av, some (.int (many : Int)), none, none] h = some (.next [some r.av, some (.int (many : Int)), none, none], h) := by
    rw [s_sIf, c1]
    simp
  have s2 : sAsg (gVar 2) (fBin ixA (fC c_FORMS) (fBin ixA (fVar 0) (fC (.int 0)))) O [some r.av, some (.int (many : Int)), none, none] h = some (.next [some r.av, some (.int (many : Int)), some (.str form), none], h) := by
    simp only [s_sAsg, s_fBin, s_fC, s_fVar, List.getElem?_cons_zero, bnd_some, f2 h, f1 h]
    rfl
  have s3 : sIf rowC2 (sAll [sRet (fC (.bl false))]) (sAll []) O [some r.av, some (.int (many : Int)), some (.str form), none] h = some (.next [some r.av, some (.int (many : Int)), some (.str form), none], h) := by
    rw [s_sIf, c2]
    simp
  refine run_ret rfl ?_
  refine (seq_next s1).trans ((seq_next s2).trans ((seq_next s3).trans ?_))
  show sRet (fCmp .Eq (fLC [3] _ _ _ _) (fLst [])) O _ h = _
  unfold sRet fCmp
  rw [lc, bnd_some]
  simp only [s_fLst, s_aAll0, bnd_some]
  rw [if_pos (by decide)]
  simp only [alloc, bnd_some]
  rw [eq_new e3]
  rfl
end SB

/-! need_program, is_work, need_works, need_memory, need_asks, of what is good. -/
namespace SB
open PySem
open L2 (Key)
theorem shaped_tup {ds : List PyData} (h : ∀ d ∈ ds, PyData.canLay0 d = true ∧ PyData.depth d ≤ 60) : SeqAt.shaped (.tuple ds) = true := shaped_list h
/-- values that are data through and through -/
def IsD (v : AV) (d : PyData) : Prop := (∀ h, toH h 5 v = some d) ∧ PyData.canLay0 d = true ∧ PyData.depth d ≤ 60
theorem row_D (r : Row) : ∃ d, IsD r.av d := by
  cases r <;> exact ⟨_, fun h => rfl, by kernel_rfl, by show _ ≤ _; simp [PyData.depth, PyData.depthAll]⟩
theorem mapO_D {h : AH} : ∀ {xs : List AV}, (∀ x ∈ xs, ∃ d, IsD x d) → ∃ ds, mapO (toH h 5) xs = some ds ∧ ∀ d ∈ ds, PyData.canLay0 d = true ∧ PyData.depth d ≤ 60
  | [], _ => ⟨[], rfl, fun d hd => by cases hd⟩
  | x :: xs, hx => by
    obtain ⟨d, h1, h2, h3⟩ := hx x (by simp)
    obtain ⟨ds, h4, h5⟩ := mapO_D (h := h) (xs := xs) fun y hy => hx y (by simp [hy])
    refine ⟨d :: ds, by rw [mapO, h1, h4], fun e he => ?_⟩
    rcases List.mem_cons.mp he with rfl | he
    · exact ⟨h2, h3⟩
    · exact h5 e he
theorem eq_tup0 {h : AH} {xs : List AV} (hx : ∀ x ∈ xs, ∃ d, IsD x d) : cmpA .Eq (.tup xs) (.tup []) h = some (.bl xs.isEmpty, h) := by
  obtain ⟨ds, h1, h2⟩ := mapO_D (h := h) hx
  show eqO (.tup xs) (.tup []) h = _
  unfold eqO eqA eqD
  have e1 : toH h 6 (.tup xs) = some (.tuple ds) := by
    show (mapO (toH h 5) xs).map PyData.tuple = _
    rw [h1]; rfl
  have e2 : toH h 6 (.tup []) = some (.tuple []) := rfl
  rw [e1, e2]
  simp only
  rw [if_pos ⟨shaped_tup h2, rfl⟩]
  have hl := mapO_len h1
  cases xs with
  | nil =>
    have : ds = [] := List.length_eq_zero_iff.mp hl
    subst this
    rfl
  | cons x xs =>
    cases ds with
    | nil => cases hl
    | cons d ds => rfl
theorem enum_mem {xs : List AV} {x : AV} (h : x ∈ enumAV xs) : ∃ (k : Nat) (y : AV), x = .tup [.int (k : Int), y] ∧ xs[k]? = some y := by
  obtain ⟨k, hk, rfl⟩ := List.mem_map.mp h
  have hk' : k < xs.length := by simpa using hk
  exact ⟨k, xs[k], by simp [List.getD, hk'], by simp [hk']⟩
/-- a loop that only looks: what was stays -/
theorem loopF_look {ok : AH → Prop} {g : FG} {body : FS} {O : Ora} {h0 : AH} {xs : List AV} (P : En → Prop) (hok : ∀ h, Keep h0 h → ok h)
    (hb : ∀ x ∈ xs, ∀ σ h, P σ → Keep h0 h → ∃ σ' h', bnd (g O x σ h) (fun σ h => body O σ h) = some (.next σ', h') ∧ P σ' ∧ Keep h h') {σ : En} {h : AH} (p : P σ) (k : Keep h0 h) :
    ∃ σ' h', loopF ok g body O xs σ h = some (.next σ', h') ∧ P σ' ∧ Keep h0 h' := by
  obtain ⟨σ', h', e, p1, p2, _⟩ := loopF_inv (ok := ok) (g := g) (body := body) (O := O) (fun r σ h => P σ ∧ Keep h0 h ∧ ∀ x ∈ r, x ∈ xs)
    (fun x r σ h ⟨q1, q2, q3⟩ => by
      obtain ⟨σ', h', e, w1, w2⟩ := hb x (q3 x (by simp)) σ h q1 q2
      exact ⟨hok h q2, σ', h', e, w1, q2.trans w2, fun y hy => q3 y (by simp [hy])⟩)
    (fun σ h ⟨_, q2, _⟩ => hok h q2) xs σ h ⟨p, k, fun x hx => hx⟩
  exact ⟨σ', h', e, p1, p2⟩
def S_need_program (O : Ora) : Prop := ∀ (prog : List Row) (h : AH), prog ≠ [] → prog.length ≤ 40 → (∀ r ∈ prog, r.Ok prog.length) → ∃ h', O n_need_program [.tup (prog.map Row.av)] h = some (.non, h') ∧ Keep h h'
theorem run_next {O : Ora} {d : Df} {vs : List AV} {h h' : AH} {σ : En} (hl : vs.length = d.n) (e : d.body O (vs.map some ++ List.replicate (d.m - d.n) none) h = some (.next σ, h')) : d.run O vs h = some (.non, h') := by
  unfold Df.run
  rw [if_pos hl, e, bnd_some]
theorem sp_need_program {O : Ora} (hr : S_row O) {prog : List Row} {h : AH} (h0 : prog ≠ []) (h1 : prog.length ≤ 40) (h2 : ∀ r ∈ prog, r.Ok prog.length) : ∃ h', f_need_program.run O [.tup (prog.map Row.av)] h = some (.non, h') ∧ Keep h h' := by
  have hD : ∀ x ∈ prog.map Row.av, ∃ d, IsD x d := fun x hx => by
    obtain ⟨r, _, rfl⟩ := List.mem_map.mp hx
    exact row_D r
  have e0 := eq_tup0 (h := h) hD
  have ne : (prog.map Row.av).isEmpty = false := by cases prog with
    | nil => exact absurd rfl h0
    | cons _ _ => rfl
  rw [ne] at e0
  have s1 : sIf (fOr (fUn notA (fUn (isinstA "tuple") (fVar 0))) (fCmp .Eq (fVar 0) (fTup []))) (sAll [sNone]) (sAll []) O [some (.tup (prog.map Row.av)), none, none] h = some (.next [some (.tup (prog.map Row.av)), none, none], h) := by
    have i1 : isinstA "tuple" (.tup (prog.map Row.av)) h = some (.bl true, h) := rfl
    simp [i1, e0]
  obtain ⟨σ', h', e1, e2, e3⟩ := loopF_look (O := O) (g := SB.gTup [gVar 1, gVar 2]) (body := sAll [sIf (fOr (fCmp .GtE (fVar 1) (fC (.int 40))) (fUn notA (fCall ("is_row", none) [fVar 2, fUn lenA (fVar 0)]))) (sAll [sNone]) (sAll [])]) (ok := fun _ => True) (h0 := h) (xs := enumAV (prog.map Row.av)) (fun σ => ∃ x y, σ = [some (.tup (prog.map Row.av)), x, y]) (fun _ _ => trivial)
    (fun x hx σ hh ⟨u, v, es⟩ k => by
      subst es
      obtain ⟨i, y, rfl, hy⟩ := enum_mem hx
      rw [List.getElem?_map, Option.map_eq_some_iff] at hy
      obtain ⟨r, hr1, rfl⟩ := hy
      have hi : i < prog.length := (List.getElem?_eq_some_iff.mp hr1).1
      obtain ⟨h2', w1, w2⟩ := hr r prog.length hh (h2 r (List.mem_of_getElem? hr1))
      refine ⟨[some (.tup (prog.map Row.av)), some (.int (i : Int)), some r.av], h2', ?_, ⟨_, _, rfl⟩, w2⟩
      have lp : lenA (.tup (prog.map Row.av)) hh = some (.int (prog.length : Int), hh) := by
        show some (AV.int ((prog.map Row.av).length : Int), hh) = _
        rw [List.length_map]
      have c : ¬ (40 : Int) ≤ (i : Int) := by omega
      simp [c, lp, w1]) (σ := [some (.tup (prog.map Row.av)), none, none]) ⟨_, _, rfl⟩ (Keep.refl h)
  refine ⟨h', run_next (σ := σ') rfl ?_, e3⟩
  refine (seq_next s1).trans ?_
  refine (for_of (itet (xs := prog.map Row.av) rfl (by rw [List.length_map]; show prog.length ≤ 16777216; omega))).trans ?_
  exact e1
end SB

/-! is_work, need_works, need_memory, need_asks, of what is good. -/
namespace SB
open PySem
open L2 (Key)
theorem greed_in {g : Greed} {h : AH} : cmpA .NotIn (.str g.s) c_GREEDS h = some (.bl false, h) := by cases g <;> kernel_rfl
theorem greed_str {g : Greed} {h : AH} : isinstA "str" (.str g.s) h = some (.bl true, h) := by cases g <;> kernel_rfl
theorem wk_tup {w : Wk} {h : AH} : isinstA "tuple" w.av h = some (.bl true, h) := rfl
theorem wk_len {w : Wk} {h : AH} : lenA w.av h = some (.int 7, h) := rfl
def S_is_work (O : Ora) : Prop := ∀ (w : Wk) (many : Nat) (h : AH), w.Ok many → O n_is_work [w.av, .int (many : Int)] h = some (.bl true, h)
theorem sp_is_work {O : Ora} (hb : S_between O) {w : Wk} {many : Nat} {h : AH} (k : w.Ok many) : f_is_work.run O [w.av, .int (many : Int)] h = some (.bl true, h) := by
  have b0 : (w.b : Int) ≤ 31 := by have := k.b; omega
  have b1 : (w.g : Int) ≤ 31 := by have := k.g; omega
  have b2 : (1 : Int) ≤ w.n ∧ (w.n : Int) ≤ 16 := by have := k.n1; have := k.n2; omega
  have b3 : (1 : Int) ≤ w.k ∧ (w.k : Int) ≤ 4 := by have := k.k1; have := k.k2; omega
  have h1 := fun x => hb x 0 31 h
  have h2 := fun x => hb x 1 16 h
  have h3 := fun x => hb x 1 4 h
  have h5 := fun x => hb x 0 2 h
  have h6 := fun x => hb x 0 ((many : Int) - 1) h
  cases hm : w.mark with
  | none =>
    cases hn : w.nxt with
    | none => simp [f_is_work, Df.run, b_is_work, wk_tup, wk_len, h1, h2, h3, b0, b1, b2, b3, greed_in, greed_str, hm, hn]
    | some n =>
      have := k.nxt n hn
      have bn : (n : Int) ≤ (many : Int) - 1 := by omega
      simp [f_is_work, Df.run, b_is_work, wk_tup, wk_len, h1, h2, h3, h6, b0, b1, b2, b3, greed_in, greed_str, hm, hn, optV, bn]
  | some m =>
    have := k.mark m hm
    have bm : (m : Int) ≤ 2 := by omega
    cases hn : w.nxt with
    | none => simp [f_is_work, Df.run, b_is_work, wk_tup, wk_len, h1, h2, h3, h5, b0, b1, b2, b3, greed_in, greed_str, hm, hn, optV, bm]
    | some n =>
      have := k.nxt n hn
      have bn : (n : Int) ≤ (many : Int) - 1 := by omega
      simp [f_is_work, Df.run, b_is_work, wk_tup, wk_len, h1, h2, h3, h5, h6, b0, b1, b2, b3, greed_in, greed_str, hm, hn, optV, bm, bn]
def S_need_works (O : Ora) : Prop := ∀ (ws : List Wk) (a : Nat) (h : AH), h[a]? = some (.lst (ws.map Wk.av)) → ws.length ≤ 6 → (∀ w ∈ ws, w.Ok ws.length) → O n_need_works [.ref a] h = some (.non, h)
theorem sp_need_works {O : Ora} (hw : S_is_work O) {ws : List Wk} {a : Nat} {h : AH} (ha : h[a]? = some (.lst (ws.map Wk.av))) (h1 : ws.length ≤ 6) (h2 : ∀ w ∈ ws, w.Ok ws.length) : f_need_works.run O [.ref a] h = some (.non, h) := by
  have lw := len_lst ha
  rw [List.length_map] at lw
  obtain ⟨σ', h', e1, ⟨e2, e3⟩, _⟩ := loopF_inv (O := O) (g := SB.gTup [gVar 1, gVar 2]) (body := sAll [sIf (fOr (fCmp .GtE (fVar 1) (fC (.int 6))) (fUn notA (fCall ("is_work", none) [fVar 2, fUn lenA (fVar 0)]))) (sAll [sNone]) (sAll [])]) (ok := fun hh => hh[a]? = some (.lst (ws.map Wk.av)))
    (fun r σ hh => (hh = h ∧ ∃ x y, σ = [some (.ref a), x, y]) ∧ ∀ x ∈ r, x ∈ enumAV (ws.map Wk.av))
    (fun x r σ hh ⟨⟨p1, u, v, p2⟩, p3⟩ => by
      subst p1 p2
      obtain ⟨i, y, rfl, hy⟩ := enum_mem (p3 x (by simp))
      rw [List.getElem?_map, Option.map_eq_some_iff] at hy
      obtain ⟨w, hw1, rfl⟩ := hy
      have hi : i < ws.length := (List.getElem?_eq_some_iff.mp hw1).1
      have q := hw w ws.length hh (h2 w (List.mem_of_getElem? hw1))
      have c : ¬ (6 : Int) ≤ (i : Int) := by omega
      refine ⟨ha, [some (.ref a), some (.int (i : Int)), some w.av], hh, ?_, ⟨rfl, _, _, rfl⟩, fun y hy => p3 y (by simp [hy])⟩
      simp [c, lw, q])
    (fun σ hh ⟨⟨p1, _⟩, _⟩ => by subst p1; exact ha) (enumAV (ws.map Wk.av)) [some (.ref a), none, none] h ⟨⟨rfl, _, _, rfl⟩, fun x hx => hx⟩
  subst e2
  refine run_next (σ := σ') rfl ?_
  exact (for_of (ite_ (n := a) (xs := ws.map Wk.av) rfl ha)).trans e1
def S_need_memory (O : Ora) : Prop := ∀ (mem : List Int) (a : Nat) (h : AH), h[a]? = some (.lst (mem.map .int)) → 4 ≤ mem.length → mem.length ≤ 32 → (∀ x ∈ mem, 0 ≤ x ∧ x ≤ 999) → ∃ h', O n_need_memory [.ref a] h = some (.non, h') ∧ Keep h h'
theorem sp_need_memory {O : Ora} (hb : S_between O) {mem : List Int} {a : Nat} {h : AH} (ha : h[a]? = some (.lst (mem.map .int))) (h1 : 4 ≤ mem.length) (h2 : mem.length ≤ 32) (h3 : ∀ x ∈ mem, 0 ≤ x ∧ x ≤ 999) : ∃ h', f_need_memory.run O [.ref a] h = some (.non, h') ∧ Keep h h' := by
  have lm := len_lst ha
  rw [List.length_map] at lm
  have c1 : (4 : Int) ≤ (mem.length : Int) := by omega
  have c2 : (mem.length : Int) ≤ 32 := by omega
  have s1 : sIf (fUn notA (fChain .LtE .LtE (fC (.int 4)) (fUn lenA (fVar 0)) (fC (.int 32)))) (sAll [sNone]) (sAll []) O [some (.ref a), none] h = some (.next [some (.ref a), none], h) := by
    simp [lm, c1, c2]
  obtain ⟨h', e1, e2, e3⟩ := loopC_none (O := O) (d := h.length) (g := gVar 1) (t := fUn notA (fCall ("is_between", none) [fVar 1, fC (.int 0), fC (.int 999)])) (elt := fVar 1) (σ := [some (.ref a), none]) (ok := fun hh => hh[a]? = some (.lst (mem.map .int))) (h0 := h) (xs := mem.map .int) (Nat.le_refl _) (fun hh k => k _ _ ha)
    (fun x hx hh k => by
      obtain ⟨i, hi, rfl⟩ := List.mem_map.mp hx
      obtain ⟨b1, b2⟩ := h3 i hi
      have q := hb i 0 999 hh
      refine ⟨[some (.ref a), some (.int i)], hh, rfl, ?_, Keep.refl _⟩
      simp [q, b1, b2]) (Keep.app h [.lst []]) (by simp)
  have lc : fLC [1] (iVal (fVar 0)) (gVar 1) (some (fUn notA (fCall ("is_between", none) [fVar 1, fC (.int 0), fC (.int 999)]))) (fVar 1) O [some (.ref a), none] h = some (.ref h.length, h') :=
    (lc_of (itv (n := a) (xs := mem.map .int) rfl ha)).trans e1
  refine ⟨h' ++ [.lst []], run_next (σ := [some (.ref a), none]) rfl ?_, e2.trans (Keep.app _ _)⟩
  refine (seq_next s1).trans ?_
  show sIf (fCmp .NotEq (fLC [1] _ _ _ _) (fLst [])) _ _ O _ h = _
  unfold sIf fCmp
  rw [lc, bnd_some]
  simp only [s_fLst, s_aAll0, bnd_some]
  rw [if_pos (by decide)]
  simp only [alloc, bnd_some]
  rw [ne_new e3]
  rfl
theorem loopF_cons {ok : AH → Prop} {g : FG} {body : FS} {O : Ora} {x : AV} {xs : List AV} {σ σ' : En} {h h' : AH} (hok : ok h) (e : bnd (g O x σ h) (fun σ h => body O σ h) = some (.next σ', h')) : loopF ok g body O (x :: xs) σ h = loopF ok g body O xs σ' h' := by
  rw [loopF, if_pos hok]
  cases q : g O x σ h with
  | none => rw [q] at e; cases e
  | some pr =>
    rw [q, bnd_some] at e
    rw [bnd_some, e, bnd_some]
/-- asks: rising, of works that there are -/
def AsksOk (many : Nat) : Nat → List (Nat × Nat) → Prop
  | _, [] => True
  | ahead, (t, w) :: r => ahead ≤ t ∧ t ≤ 200 ∧ w < many ∧ AsksOk many t r
def S_need_asks (O : Ora) : Prop := ∀ (asks : List (Nat × Nat)) (many a : Nat) (h : AH), h[a]? = some (.lst (asks.map pairV)) → asks.length ≤ 8 → AsksOk many 0 asks → O n_need_asks [.ref a, .int (many : Int)] h = some (.non, h)
theorem enum_drop {xs : List AV} : enumAV xs = (List.range xs.length).map fun (k : Nat) => .tup [.int (k : Int), xs.getD k .non] := rfl
theorem sp_need_asks {O : Ora} (hb : S_between O) {asks : List (Nat × Nat)} {many a : Nat} {h : AH} (ha : h[a]? = some (.lst (asks.map pairV))) (h1 : asks.length ≤ 8) (h2 : AsksOk many 0 asks) : f_need_asks.run O [.ref a, .int (many : Int)] h = some (.non, h) := by
  -- the items from k on
  have key : ∀ (n k ahead : Nat) (x y : Option AV), k + n = asks.length → AsksOk many ahead (asks.drop k) →
      ∃ σ', loopF (fun hh => hh[a]? = some (.lst (asks.map pairV))) (SB.gTup [gVar 3, gVar 4]) (sAll [
    sIf (fOr (fCmp .GtE (fVar 3) (fC (.int 8))) (fOr (fUn notA (fUn (isinstA "tuple") (fVar 4))) (fCmp .NotEq (fUn lenA (fVar 4)) (fC (.int 2))))) (sAll [
      sNone]) (sAll []),
    sIf (fOr (fUn notA (fCall ("is_between", none) [fBin ixA (fVar 4) (fC (.int 0)), fVar 2, fC (.int 200)])) (fUn notA (fCall ("is_between", none) [fBin ixA (fVar 4) (fC (.int 1)), fC (.int 0), fOp .Sub (fVar 1) (fC (.int 1))]))) (sAll [
      sNone]) (sAll []),
    sAsg (gVar 2) (fBin ixA (fVar 4) (fC (.int 0)))]) O ((List.range' k n).map fun (k : Nat) => .tup [.int (k : Int), (asks.map pairV).getD k .non]) [some (.ref a), some (.int (many : Int)), some (.int (ahead : Int)), x, y] h = some (.next σ', h) := by
    intro n
    induction n with
    | zero => intro k ahead x y _ _; exact ⟨_, by simp only [List.range'_zero, List.map_nil]; unfold loopF; rw [if_pos ha]⟩
    | succ n ih =>
      intro k ahead x y hk ho
      have hkl : k < asks.length := by omega
      have ed : asks.drop k = asks[k] :: asks.drop (k + 1) := List.drop_eq_getElem_cons hkl
      rw [ed] at ho
      generalize hp : asks[k] = p at ho
      obtain ⟨t, w⟩ := p
      obtain ⟨o1, o2, o3, o4⟩ := ho
      obtain ⟨σ', e⟩ := ih (k + 1) t (some (.int (k : Int))) (some (pairV (t, w))) (by omega) o4
      refine ⟨σ', ?_⟩
      rw [List.range'_succ, List.map_cons]
      have gk : (asks.map pairV).getD k .non = pairV (t, w) := by simp [List.getD, hkl, hp]
      rw [gk]
      have c : ¬ (8 : Int) ≤ (k : Int) := by omega
      have b1 := hb t ahead 200 h
      have b2 := hb w 0 ((many : Int) - 1) h
      have a1 : (ahead : Int) ≤ t := by omega
      have a2 : (t : Int) ≤ 200 := by omega
      have a3 : (w : Int) ≤ (many : Int) - 1 := by omega
      have i1 : isinstA "tuple" (pairV (t, w)) h = some (.bl true, h) := rfl
      have i2 : lenA (pairV (t, w)) h = some (.int 2, h) := rfl
      have i3 : ixA (pairV (t, w)) (.int 0) h = some (.int t, h) := rfl
      have i4 : ixA (pairV (t, w)) (.int 1) h = some (.int w, h) := rfl
      have i5 : cmpA .NotEq (.int 2) (.int 2) h = some (.bl false, h) := by simp
      refine (loopF_cons (σ' := [some (.ref a), some (.int (many : Int)), some (.int (t : Int)), some (.int (k : Int)), some (pairV (t, w))]) (h' := h) ha ?_).trans e
      simp [c, b1, b2, a1, a2, a3, i1, i2, i3, i4]
  obtain ⟨σ', e⟩ := key asks.length 0 0 none none (by omega) h2
  refine run_next (σ := σ') rfl ?_
  have s1 : sAsg (gVar 2) (fC (.int 0)) O [some (.ref a), some (.int (many : Int)), none, none, none] h = some (.next [some (.ref a), some (.int (many : Int)), some (.int 0), none, none], h) := rfl
  simp only [f_need_asks, b_need_asks, s_sAll2]
  refine (seq_next s1).trans ?_
  refine (for_of (ite_ (n := a) (xs := asks.map pairV) rfl ha)).trans ?_
  have en : enumAV (asks.map pairV) = (List.range' 0 asks.length).map fun (k : Nat) => .tup [.int (k : Int), (asks.map pairV).getD k .non] := by
    rw [enum_drop, List.length_map, List.range_eq_range']
  show loopF _ _ _ _ (enumAV (asks.map pairV)) _ _ = _
  rw [en]
  exact e
end SB

/-! A hall made. -/
namespace SB
open PySem
open L2 (Key)
theorem setX {H L : AH} {a : Nat} {o o' : AO} (ha : a < H.length) : (H.set a o ++ L).set a o' = H.set a o' ++ L := by
  rw [List.set_append_left _ _ (by rw [List.length_set]; exact ha), List.set_set]
theorem getX {H L : AH} {a : Nat} {o : AO} (ha : a < H.length) : (H.set a o ++ L)[a]? = some o := by
  rw [List.getElem?_append_left (by rw [List.length_set]; exact ha), List.getElem?_set_self ha]
theorem lenX {H L : AH} {a : Nat} {o : AO} : (H.set a o ++ L).length = H.length + L.length := by
  rw [List.length_append, List.length_set]
theorem fldX {H L : AH} {a : Nat} {C f : Str} {fs fs' : List (Str × AV)} {v : AV} {cs : List Str} (ha : a < H.length) (hc : C ∈ cs) (hl : fs.length < 1000) (e : fput f v fs = fs') : setFldA cs f (.ref a) v (H.set a (.ins C fs) ++ L) = some (H.set a (.ins C fs') ++ L) := by
  rw [setFld_of (getX ha) hc hl, setX ha, e]
def S_dev_init (O : Ora) : Prop := ∀ (H : AH) (a w : Nat) (ws : List AV), H[a]? = some (.ins "Device" []) → H[w]? = some (.lst ws) → w ≠ a →
  O n_Device_init [.ref a, .ref w] H = some (.non, H.set a (.ins "Device" [("works", .ref H.length), ("on", .ref (H.length + 1)), ("begun", .int 0), ("took", .bl false)]) ++ [.lst ws, .dic []])
theorem sp_dev_init {O : Ora} {H : AH} {a w : Nat} {ws : List AV} (ha : H[a]? = some (.ins "Device" [])) (hw : H[w]? = some (.lst ws)) (hne : w ≠ a) :
    f_Device_init.run O [.ref a, .ref w] H = some (.non, H.set a (.ins "Device" [("works", .ref H.length), ("on", .ref (H.length + 1)), ("begun", .int 0), ("took", .bl false)]) ++ [.lst ws, .dic []]) := by
  have hl := lt_of ha
  have e0 : listA (.ref w) H = some (.ref H.length, H ++ [.lst ws]) := list_of hw
  have e1 : setFldA ["Device", "Reader"] "works" (.ref a) (.ref H.length) (H ++ [.lst ws]) = some (H.set a (.ins "Device" [("works", .ref H.length)]) ++ [.lst ws]) := by
    rw [setFld_of (Keep.app H _ _ _ ha) (by decide) (by simp), List.set_append_left _ _ hl]
    exact congrArg (fun o => some (H.set a o ++ [AO.lst ws])) (by kernel_rfl)
  have ln : (H.set a (.ins "Device" [("works", .ref H.length)]) ++ [AO.lst ws]).length = H.length + 1 := by simp
  have e2 : setFldA ["Device", "Look"] "on" (.ref a) (.ref (H.length + 1)) (H.set a (.ins "Device" [("works", .ref H.length)]) ++ [.lst ws, .dic []]) = some (H.set a (.ins "Device" [("works", .ref H.length), ("on", .ref (H.length + 1))]) ++ [.lst ws, .dic []]) := fldX hl (by decide) (by simp) (by kernel_rfl)
  have e3 : setFldA ["Device"] "begun" (.ref a) (.int 0) (H.set a (.ins "Device" [("works", .ref H.length), ("on", .ref (H.length + 1))]) ++ [.lst ws, .dic []]) = some (H.set a (.ins "Device" [("works", .ref H.length), ("on", .ref (H.length + 1)), ("begun", .int 0)]) ++ [.lst ws, .dic []]) := fldX hl (by decide) (by simp) (by kernel_rfl)
  have e4 : setFldA ["Device"] "took" (.ref a) (.bl false) (H.set a (.ins "Device" [("works", .ref H.length), ("on", .ref (H.length + 1)), ("begun", .int 0)]) ++ [.lst ws, .dic []]) = some (H.set a (.ins "Device" [("works", .ref H.length), ("on", .ref (H.length + 1)), ("begun", .int 0), ("took", .bl false)]) ++ [.lst ws, .dic []]) := fldX hl (by decide) (by simp) (by kernel_rfl)
  simp only [f_Device_init, Df.run, b_Device_init]
  simp [e0, e1, alloc, e2, e3, e4]
/-- the first state of a hall -/
def Hs.new (prog : List Row) (ws : List Wk) (mem : List Int) (asks : List (Nat × Nat)) : Hs := ⟨prog, ⟨ws, [], 0, false⟩, mem, asks, [0, 0, 0, 0], [false, false, false], 0, 0, 0, false, []⟩
structure Good4 (prog : List Row) (ws : List Wk) (mem : List Int) (asks : List (Nat × Nat)) : Prop where
  p0 : prog ≠ []
  p1 : prog.length ≤ 40
  rows : ∀ r ∈ prog, r.Ok prog.length
  w1 : ws.length ≤ 6
  w2 : ∀ w ∈ ws, w.Ok ws.length
  m1 : 4 ≤ mem.length
  m2 : mem.length ≤ 32
  m3 : ∀ x ∈ mem, 0 ≤ x ∧ x ≤ 999
  a1 : asks.length ≤ 8
  a2 : AsksOk ws.length 0 asks
theorem Good4.ok {prog : List Row} {ws : List Wk} {mem : List Int} {asks : List (Nat × Nat)} (g : Good4 prog ws mem asks) : (Hs.new prog ws mem asks).Ok :=
  ⟨g.p0, g.p1, g.rows, ⟨g.w1, g.w2, List.nodup_nil, fun _ h => by cases h⟩, g.m1, g.m2, rfl, rfl, fun _ => List.length_pos_iff.mpr g.p0, fun _ => by
    have hp := List.length_pos_iff.mpr g.p0
    have : (prog.getD 0 .fin) ∈ prog := by simp [List.getD, hp]
    exact beats_pos (g.rows _ this), Nat.le_refl _⟩
def newAd (a n : Nat) : HAd := ⟨a, n, n + 1, n + 2, n + 3, n + 4, n + 6, n + 8, n + 9, []⟩
def newL (prog : List Row) (ws : List Wk) (mem : List Int) (asks : List (Nat × Nat)) (n : Nat) : AH := [.lst (mem.map .int), .lst (asks.map pairV), .ins "Device" [("works", .ref (n + 3)), ("on", .ref (n + 4)), ("begun", .int 0), ("took", .bl false)], .lst (ws.map Wk.av), .dic [], .lst [.int 0], .lst [.int 0, .int 0, .int 0, .int 0], .lst [.bl false], .lst [.bl false, .bl false, .bl false], .lst []]
theorem newAt {H : AH} {a : Nat} {prog : List Row} {ws : List Wk} {mem : List Int} {asks : List (Nat × Nat)} (ha : a < H.length) :
    HallAt (H.set a (hallO (newAd a H.length) (Hs.new prog ws mem asks)) ++ newL prog ws mem asks H.length) (newAd a H.length) (Hs.new prog ws mem asks) := by
  have g : ∀ (k : Nat) (o : AO), (newL prog ws mem asks H.length)[k]? = some o → (H.set a (hallO (newAd a H.length) (Hs.new prog ws mem asks)) ++ newL prog ws mem asks H.length)[H.length + k]? = some o := fun k o e => by
    rw [List.getElem?_append_right (by simp), List.length_set, Nat.add_sub_cancel_left]
    exact e
  refine ⟨rfl, ⟨?_, fun p hp => ?_⟩⟩
  · simp [hallL, devL, goL, newAd]
    omega
  · simp only [hallL, devL, goL, newAd, List.map_nil, List.mem_cons, List.not_mem_nil, or_false] at hp
    rcases hp with rfl | rfl | rfl | rfl | rfl | rfl | rfl | rfl | rfl
    · exact getX ha
    · exact g 1 _ rfl
    · exact g 6 _ rfl
    · exact g 9 _ rfl
    · exact g 0 _ rfl
    · exact g 8 _ rfl
    · exact g 2 _ rfl
    · exact g 3 _ rfl
    · exact g 4 _ rfl
end SB

/-! Hall.__init__. -/
namespace SB
open PySem
open L2 (Key)
def S_hall_init (O : Ora) : Prop := ∀ (h : AH) (a w m q : Nat) (prog : List Row) (ws : List Wk) (mem : List Int) (asks : List (Nat × Nat)), h[a]? = some (.ins "Hall" []) → h[w]? = some (.lst (ws.map Wk.av)) → h[m]? = some (.lst (mem.map .int)) → h[q]? = some (.lst (asks.map pairV)) → Good4 prog ws mem asks →
  ∃ A h', O n_Hall_init [.ref a, .tup (prog.map Row.av), .ref w, .ref m, .ref q] h = some (.non, h') ∧ HallAt h' A (Hs.new prog ws mem asks) ∧ A.a = a ∧ Adv [a] A.own h h'
def addF (fs : List (Str × AV)) (f : Str) (v : AV) : List (Str × AV) := fs ++ [(f, v)]
theorem addF_len {fs : List (Str × AV)} {f : Str} {v : AV} : (addF fs f v).length = fs.length + 1 := by simp [addF]
theorem mul_lst {h : AH} {n : Nat} {xs ys : List AV} {k : Nat} (e : h[n]? = some (.lst xs)) (hk : k < 1000) (hx : xs.length ≤ 1000) (ey : (List.replicate k xs).flatten = ys) : opA .Mult (.ref n) (.int (k : Int)) h = alloc (.lst ys) h := by
  show mulA (.ref n) (.int (k : Int)) h = _
  have : xs.length * k ≤ 1000 * 1000 := Nat.mul_le_mul hx (by omega)
  have c : (0 : Int) ≤ (k : Int) ∧ (k : Int) < 2 ^ 63 ∧ xs.length * (k : Int).toNat ≤ lim := by
    refine ⟨by omega, ?_, ?_⟩
    · have e : (2 : Int) ^ 63 = 9223372036854775808 := by decide
      rw [e]; omega
    · show xs.length * (k : Int).toNat ≤ 16777216
      rw [Int.toNat_natCast]; omega
  unfold mulA
  simp only [e]
  rw [if_pos c, Int.toNat_natCast, ey]
theorem sp_hall_init {O : Ora} (v1 : S_need_program O) (v2 : S_need_works O) (v3 : S_need_memory O) (v4 : S_need_asks O) (dv : S_dev_init O) {h : AH} {a w m q : Nat} {prog : List Row} {ws : List Wk} {mem : List Int} {asks : List (Nat × Nat)}
    (ha : h[a]? = some (.ins "Hall" [])) (hw : h[w]? = some (.lst (ws.map Wk.av))) (hm : h[m]? = some (.lst (mem.map .int))) (hq : h[q]? = some (.lst (asks.map pairV))) (g : Good4 prog ws mem asks) :
    ∃ A h', f_Hall_init.run O [.ref a, .tup (prog.map Row.av), .ref w, .ref m, .ref q] h = some (.non, h') ∧ HallAt h' A (Hs.new prog ws mem asks) ∧ A.a = a ∧ Adv [a] A.own h h' := by
  obtain ⟨h1, n1, k1⟩ := v1 prog h g.p0 g.p1 g.rows
  have n2 := v2 ws w h1 (k1 _ _ hw) g.w1 g.w2
  obtain ⟨H, n3, k3⟩ := v3 mem m h1 (k1 _ _ hm) g.m1 g.m2 g.m3
  have k2 := k1.trans k3
  have n4 := v4 asks ws.length q H (k2 _ _ hq) g.a1 g.a2
  have lw : lenA (.ref w) H = some (.int (ws.length : Int), H) := by rw [len_lst (k2 _ _ hw), List.length_map]
  have ha2 := k2 _ _ ha
  have hw2 := k2 _ _ hw
  have hm2 := k2 _ _ hm
  have hq2 := k2 _ _ hq
  have hl := lt_of ha2
  have na : ∀ {i : Nat} {o : AO}, H[i]? = some o → o ≠ .ins "Hall" [] → i ≠ a := fun e ne z => ne (by rw [z, ha2] at e; exact (Option.some.inj e).symm)
  have up : ∀ {i : Nat} {o : AO} (u : AO) (L : AH), H[i]? = some o → i ≠ a → (H.set a u ++ L)[i]? = some o := fun u L e ne => by
    rw [List.getElem?_append_left (by rw [List.length_set]; exact lt_of e), List.getElem?_set_ne (Ne.symm ne)]
    exact e
  have nw := na hw2 (by simp)
  have nq := na hq2 (by simp)
  -- the fields, one behind the other
  let F1 : List (Str × AV) := [("program", .tup (prog.map Row.av))]
  let F2 := addF F1 "memory" (.ref H.length)
  let F3 := addF F2 "asks" (.ref (H.length + 1))
  let F4 := addF F3 "device" (.ref (H.length + 2))
  let F5 := addF F4 "cells" (.ref (H.length + 6))
  let F6 := addF F5 "marks" (.ref (H.length + 8))
  let F7 := addF F6 "row" (.int 0)
  let F8 := addF F7 "step" (.int 0)
  let F9 := addF F8 "time" (.int 0)
  let F10 := addF F9 "is_over" (.bl false)
  let F11 := addF F10 "dones" (.ref (H.length + 9))
  let M : AO := .lst (mem.map .int)
  let Q : AO := .lst (asks.map pairV)
  let Dv : AO := .ins "Device" [("works", .ref (H.length + 3)), ("on", .ref (H.length + 4)), ("begun", .int 0), ("took", .bl false)]
  let W : AO := .lst (ws.map Wk.av)
  let C0 : AO := .lst [.int 0]
  let C : AO := .lst [.int 0, .int 0, .int 0, .int 0]
  let K0 : AO := .lst [.bl false]
  let K : AO := .lst [.bl false, .bl false, .bl false]
  let σ : En := [some (.ref a), some (.tup (prog.map Row.av)), some (.ref w), some (.ref m), some (.ref q)]
  have s1 : sExpr (fCall ("need_program", none) [fVar 1]) O σ h = some (.next σ, h1) := by simp [σ, n1]
  have s2 : sExpr (fCall ("need_works", none) [fVar 2]) O σ h1 = some (.next σ, h1) := by simp [σ, n2]
  have s3 : sExpr (fCall ("need_memory", none) [fVar 3]) O σ h1 = some (.next σ, H) := by simp [σ, n3]
  have s4 : sExpr (fCall ("need_asks", none) [fVar 4, fUn lenA (fVar 2)]) O σ H = some (.next σ, H) := by simp [σ, lw, n4]
  have f1 : setFldA ["Hall"] "program" (.ref a) (.tup (prog.map Row.av)) H = some (H.set a (.ins "Hall" F1)) := setFld_0 ha2 (by decide) (by simp) (by kernel_rfl)
  have s5 : sAsg (gFld ["Hall"] (fVar 0) "program") (fVar 1) O σ H = some (.next σ, H.set a (.ins "Hall" F1)) := by simp [σ, f1]
  have l6 : listA (.ref m) (H.set a (.ins "Hall" F1)) = some (.ref H.length, H.set a (.ins "Hall" F1) ++ [M]) := by
    have := up (.ins "Hall" F1) [] hm2 (na hm2 (by simp))
    rw [List.append_nil] at this
    rw [list_of this]
    simp [alloc, M]
  have f6 : setFldA ["Hall", "Reader"] "memory" (.ref a) (.ref H.length) (H.set a (.ins "Hall" F1) ++ [M]) = some (H.set a (.ins "Hall" F2) ++ [M]) := fldX hl (by decide) (by simp [addF, F1]) (by kernel_rfl)
  have s6 : sAsg (gFld ["Hall", "Reader"] (fVar 0) "memory") (fUn listA (fVar 3)) O σ (H.set a (.ins "Hall" F1)) = some (.next σ, H.set a (.ins "Hall" F2) ++ [M]) := by simp [σ, l6, f6]
  have l7 : listA (.ref q) (H.set a (.ins "Hall" F2) ++ [M]) = some (.ref (H.length + 1), H.set a (.ins "Hall" F2) ++ [M, Q]) := by
    rw [list_of (up _ _ hq2 nq)]
    simp [alloc, Q]
  have f7 : setFldA ["Hall", "Reader"] "asks" (.ref a) (.ref (H.length + 1)) (H.set a (.ins "Hall" F2) ++ [M, Q]) = some (H.set a (.ins "Hall" F3) ++ [M, Q]) := fldX hl (by decide) (by simp [addF, F1, F2]) (by kernel_rfl)
  have s7 : sAsg (gFld ["Hall", "Reader"] (fVar 0) "asks") (fUn listA (fVar 4)) O σ (H.set a (.ins "Hall" F2) ++ [M]) = some (.next σ, H.set a (.ins "Hall" F3) ++ [M, Q]) := by simp [σ, l7, f7]
  have d8 : O n_Device_init [.ref (H.length + 2), .ref w] (H.set a (.ins "Hall" F3) ++ [M, Q, .ins "Device" []]) = some (.non, H.set a (.ins "Hall" F3) ++ [M, Q, Dv, W, .dic []]) := by
    have e1 : (H.set a (.ins "Hall" F3) ++ [M, Q, .ins "Device" []])[H.length + 2]? = some (.ins "Device" []) := by
      rw [List.getElem?_append_right (by simp), List.length_set, Nat.add_sub_cancel_left]; rfl
    have := dv _ (H.length + 2) w _ e1 (up _ _ hw2 nw) (by have := lt_of hw2; omega)
    rw [lenX] at this
    rw [this]
    rw [List.set_append_right _ _ (by simp), List.length_set, Nat.add_sub_cancel_left]
    simp [Dv, W]
  have f8 : setFldA ["Hall"] "device" (.ref a) (.ref (H.length + 2)) (H.set a (.ins "Hall" F3) ++ [M, Q, Dv, W, .dic []]) = some (H.set a (.ins "Hall" F4) ++ [M, Q, Dv, W, .dic []]) := fldX hl (by decide) (by simp [addF, F1, F2, F3]) (by kernel_rfl)
  have s8 : sAsg (gFld ["Hall"] (fVar 0) "device") (fMake "Device" [fVar 2]) O σ (H.set a (.ins "Hall" F3) ++ [M, Q]) = some (.next σ, H.set a (.ins "Hall" F4) ++ [M, Q, Dv, W, .dic []]) := by
    simp [σ, d8, f8]
  have m9 : opA .Mult (.ref (H.length + 5)) (.int 4) (H.set a (.ins "Hall" F4) ++ [M, Q, Dv, W, .dic [], C0]) = some (.ref (H.length + 6), H.set a (.ins "Hall" F4) ++ [M, Q, Dv, W, .dic [], C0, C]) := by
    have e5 : (H.set a (.ins "Hall" F4) ++ [M, Q, Dv, W, .dic [], C0])[H.length + 5]? = some (.lst [.int 0]) := by
      rw [List.getElem?_append_right (by simp), List.length_set, Nat.add_sub_cancel_left]; rfl
    exact (mul_lst (k := 4) e5 (by omega) (by simp) rfl).trans (by simp [alloc, C])
  have f9 : setFldA ["Hall"] "cells" (.ref a) (.ref (H.length + 6)) (H.set a (.ins "Hall" F4) ++ [M, Q, Dv, W, .dic [], C0, C]) = some (H.set a (.ins "Hall" F5) ++ [M, Q, Dv, W, .dic [], C0, C]) := fldX hl (by decide) (by simp [addF, F1, F2, F3, F4]) (by kernel_rfl)
  have s9 : sAsg (gFld ["Hall"] (fVar 0) "cells") (fOp .Mult (fLst [fC (.int 0)]) (fC (.int 4))) O σ (H.set a (.ins "Hall" F4) ++ [M, Q, Dv, W, .dic []]) = some (.next σ, H.set a (.ins "Hall" F5) ++ [M, Q, Dv, W, .dic [], C0, C]) := by
    have m9' := m9
    simp only [C0] at m9'
    simp [σ, alloc, m9', f9, C0]
  have m10 : opA .Mult (.ref (H.length + 7)) (.int 3) (H.set a (.ins "Hall" F5) ++ [M, Q, Dv, W, .dic [], C0, C, K0]) = some (.ref (H.length + 8), H.set a (.ins "Hall" F5) ++ [M, Q, Dv, W, .dic [], C0, C, K0, K]) := by
    have e5 : (H.set a (.ins "Hall" F5) ++ [M, Q, Dv, W, .dic [], C0, C, K0])[H.length + 7]? = some (.lst [.bl false]) := by
      rw [List.getElem?_append_right (by simp), List.length_set, Nat.add_sub_cancel_left]; rfl
    exact (mul_lst (k := 3) e5 (by omega) (by simp) rfl).trans (by simp [alloc, K])
  have f10 : setFldA ["Hall"] "marks" (.ref a) (.ref (H.length + 8)) (H.set a (.ins "Hall" F5) ++ [M, Q, Dv, W, .dic [], C0, C, K0, K]) = some (H.set a (.ins "Hall" F6) ++ [M, Q, Dv, W, .dic [], C0, C, K0, K]) := fldX hl (by decide) (by simp [addF, F1, F2, F3, F4, F5]) (by kernel_rfl)
  have s10 : sAsg (gFld ["Hall"] (fVar 0) "marks") (fOp .Mult (fLst [fC (.bl false)]) (fC (.int 3))) O σ (H.set a (.ins "Hall" F5) ++ [M, Q, Dv, W, .dic [], C0, C]) = some (.next σ, H.set a (.ins "Hall" F6) ++ [M, Q, Dv, W, .dic [], C0, C, K0, K]) := by
    have m' := m10
    simp only [K0] at m'
    simp [σ, alloc, m', f10, K0]
  have g1 : setFldA ["Hall"] "row" (.ref a) (.int 0) (H.set a (.ins "Hall" F6) ++ [M, Q, Dv, W, .dic [], C0, C, K0, K]) = some (H.set a (.ins "Hall" F7) ++ [M, Q, Dv, W, .dic [], C0, C, K0, K]) := fldX hl (by decide) (by simp [addF, F1, F2, F3, F4, F5, F6]) (by kernel_rfl)
  have g2 : setFldA ["Hall"] "step" (.ref a) (.int 0) (H.set a (.ins "Hall" F7) ++ [M, Q, Dv, W, .dic [], C0, C, K0, K]) = some (H.set a (.ins "Hall" F8) ++ [M, Q, Dv, W, .dic [], C0, C, K0, K]) := fldX hl (by decide) (by simp [addF, F1, F2, F3, F4, F5, F6, F7]) (by kernel_rfl)
  have g3 : setFldA ["Hall"] "time" (.ref a) (.int 0) (H.set a (.ins "Hall" F8) ++ [M, Q, Dv, W, .dic [], C0, C, K0, K]) = some (H.set a (.ins "Hall" F9) ++ [M, Q, Dv, W, .dic [], C0, C, K0, K]) := fldX hl (by decide) (by simp [addF, F1, F2, F3, F4, F5, F6, F7, F8]) (by kernel_rfl)
  have g4 : setFldA ["Hall"] "is_over" (.ref a) (.bl false) (H.set a (.ins "Hall" F9) ++ [M, Q, Dv, W, .dic [], C0, C, K0, K]) = some (H.set a (.ins "Hall" F10) ++ [M, Q, Dv, W, .dic [], C0, C, K0, K]) := fldX hl (by decide) (by simp [addF, F1, F2, F3, F4, F5, F6, F7, F8, F9]) (by kernel_rfl)
  have g5 : setFldA ["Hall"] "dones" (.ref a) (.ref (H.length + 9)) (H.set a (.ins "Hall" F10) ++ [M, Q, Dv, W, .dic [], C0, C, K0, K, .lst []]) = some (H.set a (.ins "Hall" F11) ++ [M, Q, Dv, W, .dic [], C0, C, K0, K, .lst []]) := fldX hl (by decide) (by simp [addF, F1, F2, F3, F4, F5, F6, F7, F8, F9, F10]) (by kernel_rfl)
  have t1 : sAsg (gFld ["Hall"] (fVar 0) "row") (fC (.int 0)) O σ (H.set a (.ins "Hall" F6) ++ [M, Q, Dv, W, .dic [], C0, C, K0, K]) = some (.next σ, H.set a (.ins "Hall" F7) ++ [M, Q, Dv, W, .dic [], C0, C, K0, K]) := by simp [σ, g1]
  have t2 : sAsg (gFld ["Hall"] (fVar 0) "step") (fC (.int 0)) O σ (H.set a (.ins "Hall" F7) ++ [M, Q, Dv, W, .dic [], C0, C, K0, K]) = some (.next σ, H.set a (.ins "Hall" F8) ++ [M, Q, Dv, W, .dic [], C0, C, K0, K]) := by simp [σ, g2]
  have t3 : sAsg (gFld ["Hall"] (fVar 0) "time") (fC (.int 0)) O σ (H.set a (.ins "Hall" F8) ++ [M, Q, Dv, W, .dic [], C0, C, K0, K]) = some (.next σ, H.set a (.ins "Hall" F9) ++ [M, Q, Dv, W, .dic [], C0, C, K0, K]) := by simp [σ, g3]
  have t4 : sAsg (gFld ["Hall"] (fVar 0) "is_over") (fC (.bl false)) O σ (H.set a (.ins "Hall" F9) ++ [M, Q, Dv, W, .dic [], C0, C, K0, K]) = some (.next σ, H.set a (.ins "Hall" F10) ++ [M, Q, Dv, W, .dic [], C0, C, K0, K]) := by simp [σ, g4]
  have t5 : sAsg (gFld ["Hall"] (fVar 0) "dones") (fLst []) O σ (H.set a (.ins "Hall" F10) ++ [M, Q, Dv, W, .dic [], C0, C, K0, K]) = some (.next σ, H.set a (.ins "Hall" F11) ++ [M, Q, Dv, W, .dic [], C0, C, K0, K, .lst []]) := by simp [σ, alloc, g5]
  have nw' := newAt (prog := prog) (ws := ws) (mem := mem) (asks := asks) hl
  have eq : H.set a (.ins "Hall" F11) ++ [M, Q, Dv, W, .dic [], C0, C, K0, K, .lst []] = H.set a (hallO (newAd a H.length) (Hs.new prog ws mem asks)) ++ newL prog ws mem asks H.length := rfl
  refine ⟨newAd a H.length, _, ?_, nw', rfl, ?_, ?_⟩
  · rw [← eq]
    refine run_next (σ := σ) rfl ?_
    show sSeq _ _ O σ h = _
    refine (seq_next s1).trans ((seq_next s2).trans ((seq_next s3).trans ((seq_next s4).trans ((seq_next s5).trans ((seq_next s6).trans ((seq_next s7).trans ((seq_next s8).trans ((seq_next s9).trans ((seq_next s10).trans ((seq_next t1).trans ((seq_next t2).trans ((seq_next t3).trans ((seq_next t4).trans t5)))))))))))))
  · exact (Fr.keep k2).trans ((Fr.set (own := [a]) (by simp)).trans (Fr.app _) fun i hi => .inl hi) fun i hi => .inl hi
  · intro i hi
    have := k2.len
    simp only [HAd.own, HAd.dev, newAd, List.map_nil, List.mem_cons, List.not_mem_nil, or_false] at hi ⊢
    omega
end SB

/-! The defs of a table keep their promises. -/
namespace SB
open PySem
open L2 (Key)
structure HallT (T : Dn → Option Df) : Prop where
  going_init : T n_Going_init = some f_Going_init
  is_held : T n_Going_is_held = some f_Going_is_held
  may_take : T n_Going_may_take = some f_Going_may_take
  dev_init : T n_Device_init = some f_Device_init
  begin : T n_Device_begin = some f_Device_begin
  chosen : T n_Device_chosen = some f_Device_chosen
  dev_beat : T n_Device_beat = some f_Device_beat
  between : T n_is_between = some f_is_between
  field : T n_is_field = some f_is_field
  row : T n_is_row = some f_is_row
  need_program : T n_need_program = some f_need_program
  beats : T n_beats_of = some f_beats_of
  wants : T n_wants_bus = some f_wants_bus
  is_work : T n_is_work = some f_is_work
  need_works : T n_need_works = some f_need_works
  need_memory : T n_need_memory = some f_need_memory
  need_asks : T n_need_asks = some f_need_asks
  hall_init : T n_Hall_init = some f_Hall_init
  is_wanted : T n_Hall_is_wanted = some f_Hall_is_wanted
  full : T n_Hall_full_beat = some f_Hall_full_beat
  machine : T n_Hall_machine_beat = some f_Hall_machine_beat
  words : T n_Hall_words = some f_Hall_words
  next_row : T n_Hall_next_row = some f_Hall_next_row
section
variable {T : Dn → Option Df}
theorem HallT.g_going_init (t : HallT T) (k : Nat) : S_going_init (ora T (k + 1)) := fun h a n mine w ha => (ora_some k t.going_init _ _).trans (sp_going_init _ w n mine ha)
theorem HallT.g_begin (t : HallT T) (k : Nat) : S_begin (ora T (k + 2)) := fun h A d n D ok => by
  obtain ⟨G, h', e, r⟩ := sp_begin (t.g_going_init k) (n := n) D ok
  exact ⟨G, h', (ora_some (k + 1) t.begin _ _).trans e, r⟩
theorem HallT.g_held (t : HallT T) (k : Nat) : S_held (ora T (k + 1)) := fun w g marks h a j ha hk hm h1 => (ora_some k t.is_held _ _).trans (sp_held _ w g marks ha hk hm h1)
theorem HallT.g_mayTake (t : HallT T) (k : Nat) : S_mayTake (ora T (k + 1)) := fun w g wanted took h a ha => (ora_some k t.may_take _ _).trans (sp_mayTake _ w g wanted took ha)
theorem HallT.g_chosen (t : HallT T) (k : Nat) : S_chosen (ora T (k + 2)) := fun h A d marks wanted j D ok hk h3 => (ora_some (k + 1) t.chosen _ _).trans (sp_chosen (t.g_held k) (t.g_mayTake k) D ok hk h3)
theorem HallT.g_dev_beat (t : HallT T) (k : Nat) : S_dev_beat (ora T (k + 3)) := fun h A d mem marks wanted D ok h3 h0 => by
  obtain ⟨G, h', e, r⟩ := sp_dev_beat (t.g_chosen k) (t.g_begin k) (wanted := wanted) D ok h3 h0
  exact ⟨G, h', (ora_some (k + 2) t.dev_beat _ _).trans e, r⟩
theorem of_wp {r : Rs AV} {v : AV} {h : AH} (e : wp r fun a h' => a = v ∧ h' = h) : r = some (v, h) := by
  obtain ⟨a, h', e1, rfl, rfl⟩ := e
  exact e1
theorem HallT.g_wants (t : HallT T) (k : Nat) : S_wants (ora T (k + 1)) := fun r h => (ora_some k t.wants _ _).trans (of_wp (sp_wants _ r h))
theorem HallT.g_beats (t : HallT T) (k : Nat) : S_beats (ora T (k + 1)) := fun r h => (ora_some k t.beats _ _).trans (of_wp (sp_beats _ r h))
theorem HallT.g_is_wanted (t : HallT T) (k : Nat) : S_is_wanted (ora T (k + 2)) := fun h A s D ok => (ora_some (k + 1) t.is_wanted _ _).trans (sp_is_wanted (t.g_wants k) D ok)
theorem HallT.g_words (t : HallT T) (k : Nat) : S_words (ora T (k + 1)) := fun h A s r many D hw hr hs hm hc => by
  obtain ⟨h', e, r⟩ := sp_words (O := ora T k) D hw hr hs hm hc
  exact ⟨h', (ora_some k t.words _ _).trans e, r⟩
theorem HallT.g_next (t : HallT T) (k : Nat) : S_next (ora T (k + 3)) := fun h A s r many D hr hc hk hd => by
  obtain ⟨G, h', e, r⟩ := sp_next (t.g_begin k) D hr hc hk hd
  exact ⟨G, h', (ora_some (k + 2) t.next_row _ _).trans e, r⟩
theorem HallT.g_machine (t : HallT T) (k : Nat) : S_machine (ora T (k + 4)) := fun h A s D ok ht => by
  obtain ⟨G, h', e, r⟩ := sp_machine (t.g_wants (k + 2)) (t.g_beats (k + 2)) (t.g_words (k + 2)) (t.g_next k) D ok ht
  exact ⟨G, h', (ora_some (k + 3) t.machine _ _).trans e, r⟩
theorem HallT.g_full (t : HallT T) (k : Nat) : S_full (ora T (k + 5)) := fun h A s D ok ht ha => by
  obtain ⟨G, h', e, r⟩ := sp_full (t.g_begin (k + 2)) (t.g_is_wanted (k + 2)) (t.g_dev_beat (k + 1)) (t.g_machine k) D ok ht ha
  exact ⟨G, h', (ora_some (k + 4) t.full _ _).trans e, r⟩
def S_beat (O : Ora) : Prop := ∀ (h : AH) (A : HAd) (s : Hs), HallAt h A s → s.Ok → s.time < 10000000 → s.asks.length ≤ 1000 →
    ∃ G h', O n_Hall_beat [.ref A.a] h = some (.tup [toldV s.open_.told, didV s.open_.did], h') ∧ HallAt h' { A with G := G } s.beat ∧ Adv A.own ({ A with G := G } : HAd).own h h'
theorem HallT.g_beat (t : HallT T) (tb : T n_Hall_beat = some f_Hall_beat) (k : Nat) : S_beat (ora T (k + 6)) := fun h A s D ok ht ha => by
  obtain ⟨G, h', e, r⟩ := sp_beat (t.g_full k) D ok ht ha
  exact ⟨G, h', (ora_some (k + 5) tb _ _).trans e, r⟩
theorem g_told (tb : T n_Device_told = some f_Device_told) (k : Nat) : S_told (ora T (k + 1)) := fun h A d D ok => (ora_some k tb _ _).trans (sp_told D ok)
def S_shown (O : Ora) : Prop := ∀ (h : AH) (A : HAd) (s : Hs), HallAt h A s → s.dev.Ok → O n_Hall_shown [.ref A.a] h = some (.tup [.int s.time, rowV s, .ref h.length, .ref (h.length + 1), .ref (h.length + 2), .ref (h.length + 4)], h ++ s.shownL)
theorem g_shown (tb : T n_Device_told = some f_Device_told) (ts : T n_Hall_shown = some f_Hall_shown) (k : Nat) : S_shown (ora T (k + 2)) := fun h A s D ok => (ora_some (k + 1) ts _ _).trans (sp_shown (g_told tb k) D ok)
theorem HallT.g_between (t : HallT T) (k : Nat) : S_between (ora T (k + 1)) := fun x a b h => (ora_some k t.between _ _).trans (of_wp (sp_between _ x a b h))
theorem HallT.g_field (t : HallT T) (k : Nat) : S_field (ora T (k + 2)) := fun z part many lo hi h e => by
  obtain ⟨h', e, r⟩ := sp_field (t.g_between k) (part := part) (h := h) e
  exact ⟨h', (ora_some (k + 1) t.field _ _).trans e, r⟩
theorem HallT.g_row (t : HallT T) (k : Nat) : S_row (ora T (k + 3)) := fun r many h e => by
  obtain ⟨h', e, r⟩ := sp_row (t.g_field k) (h := h) e
  exact ⟨h', (ora_some (k + 2) t.row _ _).trans e, r⟩
theorem HallT.g_need_program (t : HallT T) (k : Nat) : S_need_program (ora T (k + 4)) := fun prog h h0 h1 h2 => by
  obtain ⟨h', e, r⟩ := sp_need_program (t.g_row k) (h := h) h0 h1 h2
  exact ⟨h', (ora_some (k + 3) t.need_program _ _).trans e, r⟩
theorem HallT.g_is_work (t : HallT T) (k : Nat) : S_is_work (ora T (k + 2)) := fun w many h e => (ora_some (k + 1) t.is_work _ _).trans (sp_is_work (t.g_between k) e)
theorem HallT.g_need_works (t : HallT T) (k : Nat) : S_need_works (ora T (k + 3)) := fun ws a h ha h1 h2 => (ora_some (k + 2) t.need_works _ _).trans (sp_need_works (t.g_is_work k) ha h1 h2)
theorem HallT.g_need_memory (t : HallT T) (k : Nat) : S_need_memory (ora T (k + 2)) := fun mem a h ha h1 h2 h3 => by
  obtain ⟨h', e, r⟩ := sp_need_memory (t.g_between k) ha h1 h2 h3
  exact ⟨h', (ora_some (k + 1) t.need_memory _ _).trans e, r⟩
theorem HallT.g_need_asks (t : HallT T) (k : Nat) : S_need_asks (ora T (k + 2)) := fun asks many a h ha h1 h2 => (ora_some (k + 1) t.need_asks _ _).trans (sp_need_asks (t.g_between k) ha h1 h2)
theorem HallT.g_dev_init (t : HallT T) (k : Nat) : S_dev_init (ora T (k + 1)) := fun H a w ws ha hw hne => (ora_some k t.dev_init _ _).trans (sp_dev_init ha hw hne)
theorem HallT.g_hall_init (t : HallT T) (k : Nat) : S_hall_init (ora T (k + 5)) := fun h a w m q prog ws mem asks ha hw hm hq g => by
  obtain ⟨A, h', e, r⟩ := sp_hall_init (t.g_need_program k) (t.g_need_works (k + 1)) (t.g_need_memory (k + 2)) (t.g_need_asks (k + 2)) (t.g_dev_init (k + 3)) ha hw hm hq g
  exact ⟨A, h', (ora_some (k + 4) t.hall_init _ _).trans e, r⟩
end
/-! own things beside others -/
theorem hallL_adr (A : HAd) (s : Hs) : (hallL A s).map (·.1) = A.own := by
  simp [hallL, HAd.own, devL_adr]
/-- a step of some own things leaves the others -/
theorem Has.adv {h h' : AH} {M M' L : List (Nat × AO)} (H : Has h (M ++ L)) (H' : Has h' M') (V : Adv (M.map (·.1)) (M'.map (·.1)) h h') : Has h' (M' ++ L) := by
  have nd := H.nd
  rw [List.map_append, List.nodup_append] at nd
  obtain ⟨n1, n2, n3⟩ := nd
  have out : ∀ p ∈ L, p.1 ∉ M.map (·.1) := fun p hp hm => n3 _ hm p.1 (List.mem_map_of_mem hp) rfl
  refine ⟨?_, fun p hp => ?_⟩
  · rw [List.map_append, List.nodup_append]
    refine ⟨H'.nd, n2, fun x hx y hy e => ?_⟩
    subst e
    obtain ⟨p, hp, rfl⟩ := List.mem_map.mp hy
    rcases V.new _ hx with z | z
    · exact out p hp z
    · have := H.lt (i := p.1) (o := p.2) (List.mem_append_right _ hp)
      omega
  · rcases List.mem_append.mp hp with hp | hp
    · exact H'.at_ p hp
    · exact V.fr.at_ _ _ (out p hp) (H.at_ p (List.mem_append_right _ hp))
theorem Has.left {h : AH} {M L : List (Nat × AO)} (H : Has h (M ++ L)) : Has h M := H.sub (List.sublist_append_left _ _)
theorem Has.right {h : AH} {M L : List (Nat × AO)} (H : Has h (M ++ L)) : Has h L := H.sub (List.sublist_append_right _ _)
theorem Has.swap {h : AH} {M L : List (Nat × AO)} (H : Has h (M ++ L)) : Has h (L ++ M) := H.perm List.perm_append_comm
/-- the hall beside others -/
structure HA (h : AH) (A : HAd) (s : Hs) (L : List (Nat × AO)) : Prop where
  on : A.G.map (·.2) = s.dev.on
  has : Has h (hallL A s ++ L)
theorem HA.at_ {h : AH} {A : HAd} {s : Hs} {L : List (Nat × AO)} (D : HA h A s L) : HallAt h A s := ⟨D.on, D.has.left⟩
theorem HA.adv {h h' : AH} {A A' : HAd} {s s' : Hs} {L : List (Nat × AO)} (D : HA h A s L) (D' : HallAt h' A' s') (V : Adv A.own A'.own h h') : HA h' A' s' L :=
  ⟨D'.on, D.has.adv D'.has (by rw [hallL_adr, hallL_adr]; exact V)⟩
theorem HA.keep {h h' : AH} {A : HAd} {s : Hs} {L : List (Nat × AO)} (D : HA h A s L) (k : Keep h h') : HA h' A s L := ⟨D.on, D.has.keep k⟩
/-- a hall made -/
theorem mk_hall {O : Ora} (S : S_hall_init O) {h : AH} {w m q : Nat} {prog : List Row} {ws : List Wk} {mem : List Int} {asks : List (Nat × Nat)} {L : List (Nat × AO)} (H : Has h L)
    (hw : h[w]? = some (.lst (ws.map Wk.av))) (hm : h[m]? = some (.lst (mem.map .int))) (hq : h[q]? = some (.lst (asks.map pairV))) (g : Good4 prog ws mem asks) :
    ∃ A h', O n_Hall_init [.ref h.length, .tup (prog.map Row.av), .ref w, .ref m, .ref q] (h ++ [.ins "Hall" []]) = some (.non, h') ∧ A.a = h.length ∧ HA h' A (Hs.new prog ws mem asks) L ∧ Keep h h' ∧ ∀ i ∈ A.own, h.length ≤ i := by
  have k0 := Keep.app h [.ins "Hall" []]
  obtain ⟨A, h', e, D, ea, V⟩ := S (h ++ [.ins "Hall" []]) h.length w m q prog ws mem asks (by simp) (k0 _ _ hw) (k0 _ _ hm) (k0 _ _ hq) g
  have own : ∀ i ∈ A.own, h.length ≤ i := fun i hi => by
    rcases V.new i hi with z | z
    · have : i = h.length := by simpa using z
      omega
    · rw [List.length_append] at z; omega
  refine ⟨A, h', e, ea, ⟨D.on, ?_⟩, ?_, own⟩
  · refine Has.adv (M := [(h.length, .ins "Hall" [])]) (M' := hallL A _) ?_ D.has (by rw [hallL_adr]; exact V)
    exact (H.new (.ins "Hall" [])).swap
  · intro i o hi
    have := lt_of hi
    exact V.fr.at_ i o (by simp; omega) (k0 _ _ hi)
end SB

/-! The laws' dice. -/
namespace SB
open PySem
open L2 (Key)
def diceL (d c : Nat) (x : Int) (cs : List Int) (y : Int) : List (Nat × AO) := [(d, .lst [.int x, .ref c, .int y]), (c, .lst (cs.map .int))]
/-- the dice beside others -/
def Dc (h : AH) (d c : Nat) (L : List (Nat × AO)) : Prop := ∃ x cs y, Has h (diceL d c x cs y ++ L)
section
variable {h h' : AH} {d c : Nat} {L : List (Nat × AO)}
theorem Dc.right (D : Dc h d c L) : Has h L := by
  obtain ⟨x, cs, y, H⟩ := D
  exact H.right
theorem Dc.get (D : Dc h d c L) {i : Nat} {o : AO} (m : (i, o) ∈ L) : h[i]? = some o := D.right.get m
theorem Dc.lt (D : Dc h d c L) {i : Nat} {o : AO} (m : (i, o) ∈ L) : i < h.length := D.right.lt m
theorem Dc.sub (D : Dc h d c L) {M : List (Nat × AO)} (s : M.Sublist L) : Dc h d c M := by
  obtain ⟨x, cs, y, H⟩ := D
  exact ⟨x, cs, y, H.sub ((List.append_sublist_append_left _).mpr s)⟩
theorem Dc.perm (D : Dc h d c L) {M : List (Nat × AO)} (s : M.Perm L) : Dc h d c M := by
  obtain ⟨x, cs, y, H⟩ := D
  exact ⟨x, cs, y, H.perm (s.append_left _)⟩
theorem Dc.keep (D : Dc h d c L) (k : Keep h h') : Dc h' d c L := by
  obtain ⟨x, cs, y, H⟩ := D
  exact ⟨x, cs, y, H.keep k⟩
theorem Dc.app (D : Dc h d c L) (t : AH) : Dc (h ++ t) d c L := D.keep (Keep.app _ _)
/-- a new thing, ahead of the others -/
theorem Dc.new (D : Dc h d c L) (o : AO) : Dc (h ++ [o]) d c ((h.length, o) :: L) := by
  obtain ⟨x, cs, y, H⟩ := D
  refine ⟨x, cs, y, (H.new o).perm ?_⟩
  rw [List.append_assoc]
  refine List.Perm.append_left _ ?_
  exact (List.perm_append_singleton _ _).symm
/-- one of the others is changed -/
theorem Dc.set {L1 R2 : List (Nat × AO)} {i : Nat} {o : AO} (D : Dc h d c (L1 ++ (i, o) :: R2)) (o' : AO) : Dc (h.set i o') d c (L1 ++ (i, o') :: R2) := by
  obtain ⟨x, cs, y, H⟩ := D
  refine ⟨x, cs, y, ?_⟩
  rw [← List.append_assoc] at H ⊢
  exact H.setAt o'
theorem Dc.set0 {R2 : List (Nat × AO)} {i : Nat} {o : AO} (D : Dc h d c ((i, o) :: R2)) (o' : AO) : Dc (h.set i o') d c ((i, o') :: R2) := Dc.set (L1 := []) D o'
/-- some of the others go on -/
theorem Dc.adv {M M' : List (Nat × AO)} (D : Dc h d c (M ++ L)) (H' : Has h' M') (V : Adv (M.map (·.1)) (M'.map (·.1)) h h') : Dc h' d c (M' ++ L) := by
  obtain ⟨x, cs, y, H⟩ := D
  refine ⟨x, cs, y, ?_⟩
  have p : (M ++ (diceL d c x cs y ++ L)).Perm (diceL d c x cs y ++ (M ++ L)) := by
    rw [← List.append_assoc, ← List.append_assoc]
    exact List.Perm.append_right _ List.perm_append_comm
  have p' : (diceL d c x cs y ++ (M' ++ L)).Perm (M' ++ (diceL d c x cs y ++ L)) := by
    rw [← List.append_assoc, ← List.append_assoc]
    exact List.Perm.append_right _ List.perm_append_comm
  exact ((H.perm p).adv H' V).perm p'
end
/-! _law_dice -/
def S_dice (O : Ora) : Prop := ∀ (h : AH) (ns : List Int) (k : Int) (L : List (Nat × AO)), Has h L → wp (O n_law_dice [.scr ns, .int k] h) fun v h' => ∃ d c, v = .ref d ∧ Dc h' d c L ∧ Keep h h'
theorem sp_dice {O : Ora} {h : AH} {ns : List Int} {k : Int} {L : List (Nat × AO)} (H : Has h L) : wp (f_law_dice.run O [.scr ns, .int k] h) fun v h' => ∃ d c, v = .ref d ∧ Dc h' d c L ∧ Keep h h' := by
  obtain ⟨σ', h', e, ⟨x, y, es, eh⟩, _⟩ := loopF_inv (ok := fun _ => True) (g := gVar 3) (body := sAll [sAsg (gVar 2) (fOp .Mod (fOp .Add (fOp .Mult (fVar 2) (fC (.int 31))) (fUn absA (fVar 3))) (fC (.int 2147483647)))]) (O := O)
    (fun r σ hh => (∃ (x : Int) (y : Option AV), σ = [some (.scr ns), some (.int k), some (.int x), y] ∧ hh = h) ∧ ∀ v ∈ r, ∃ i : Int, v = .int i)
    (fun v r σ hh ⟨⟨x, y, es, eh⟩, hr⟩ => by
      obtain ⟨i, rfl⟩ := hr v (by simp)
      subst es eh
      refine ⟨trivial, [some (.scr ns), some (.int k), some (.int ((x * 31 + (if i < 0 then -i else i)) % 2147483647)), some (.int i)], hh, ?_, ⟨_, _, rfl, rfl⟩, fun w hw => hr w (by simp [hw])⟩
      have m1 := o_mul (h := hh) (i := x) (j := 31) (by constructor <;> decide)
      have m2 := fun z : Int => o_mod (h := hh) (i := z) (j := 2147483647) (by decide)
      simp [m1, m2, absA])
    (fun _ _ _ => trivial) (ns.map .int) [some (.scr ns), some (.int k), some (.int k), none] h ⟨⟨k, none, rfl, rfl⟩, fun v hv => by
      obtain ⟨i, _, rfl⟩ := List.mem_map.mp hv
      exact ⟨i, rfl⟩⟩
  subst es eh
  have el : listA (.scr ns) h' = some (.ref h'.length, h' ++ [.lst (ns.map .int)]) := rfl
  refine ⟨.ref (h'.length + 1), h' ++ [.lst (ns.map .int)] ++ [.lst [.int x, .ref h'.length, .int 0]], ?_, h'.length + 1, h'.length, rfl, ⟨x, ns, 0, ?_⟩, (Keep.app _ _).trans (Keep.app _ _)⟩
  · refine run_ret rfl ?_
    have s1 : sAsg (gVar 2) (fVar 1) O [some (.scr ns), some (.int k), none, none] h' = some (.next [some (.scr ns), some (.int k), some (.int k), none], h') := by simp
    show b_law_dice O [some (.scr ns), some (.int k), none, none] h' = _
    unfold b_law_dice
    rw [s_sAll2, s_sAll2, s_sAll1]
    refine (seq_next s1).trans ?_
    have s2 : sFor (iVal (fVar 0)) (gVar 3) (sAll [sAsg (gVar 2) (fOp .Mod (fOp .Add (fOp .Mult (fVar 2) (fC (.int 31))) (fUn absA (fVar 3))) (fC (.int 2147483647)))]) O [some (.scr ns), some (.int k), some (.int k), none] h' = some (.next [some (.scr ns), some (.int k), some (.int x), y], h') :=
      (for_of (its_ (ns := ns) rfl)).trans (by assumption)
    refine (seq_next s2).trans ?_
    simp [el, alloc]
  · have H2 := (H.new (.lst (ns.map .int))).new (.lst [.int x, .ref h'.length, .int 0])
    rw [List.length_append] at H2
    refine H2.perm ?_
    rw [List.append_assoc]
    refine List.Perm.trans ?_ List.perm_append_comm
    exact List.Perm.append_right _ (List.Perm.swap _ _ _)
/-! _law_off -/
def offQ (d c : Nat) (x : Int) (cs : List Int) (y n : Int) (h : AH) : AV → AH → Prop := fun v h' => ∃ u x' cs' y', v = .int u ∧ 0 ≤ u ∧ u < n ∧ Has h' (diceL d c x' cs' y') ∧ Adv [d, c] [d, c] h h'
def S_off (O : Ora) : Prop := ∀ (h : AH) (d c : Nat) (x : Int) (cs : List Int) (y n : Int), Has h (diceL d c x cs y) → 0 < n → n < 1073741824 → wp (O n_law_off [.ref d, .int n] h) (offQ d c x cs y n h)
theorem ints_D {h : AH} : ∀ cs : List Int, mapO (toH h 5) (cs.map .int) = some (cs.map .int)
  | [] => rfl
  | p :: r => by
    rw [List.map_cons, mapO, ints_D r]
    rfl
theorem ints_shaped (cs : List Int) : SeqAt.shaped (.list (cs.map .int)) = true := shaped_list fun d hd => by
  obtain ⟨p, _, rfl⟩ := List.mem_map.mp hd
  exact ⟨rfl, by simp [PyData.depth]⟩
theorem atI_int {α : Type} {xs : List α} {i : Int} (h0 : 0 ≤ i) : L2.atI xs i = xs[i.toNat]? := by
  obtain ⟨n, rfl⟩ := Int.eq_ofNat_of_zero_le h0
  exact atI_nat
theorem sp_off {O : Ora} {h : AH} {d c : Nat} {x : Int} {cs : List Int} {y n : Int} (H : Has h (diceL d c x cs y)) (hn : 0 < n) (hn2 : n < 1073741824) : wp (f_law_off.run O [.ref d, .int n] h) (offQ d c x cs y n h) := by
  have gd : h[d]? = some (.lst [.int x, .ref c, .int y]) := H.get (by simp [diceL])
  have gc : h[c]? = some (.lst (cs.map .int)) := H.get (by simp [diceL])
  have i0 : ∀ hh : AH, hh[d]? = some (.lst [.int x, .ref c, .int y]) → ixA (.ref d) (.int 0) hh = some (.int x, hh) := fun hh e => ix_lst (i := 0) e rfl
  have i1 : ∀ hh : AH, hh[d]? = some (.lst [.int x, .ref c, .int y]) → ixA (.ref d) (.int 1) hh = some (.ref c, hh) := fun hh e => ix_lst (i := 1) e rfl
  have i2 : ∀ hh : AH, hh[d]? = some (.lst [.int x, .ref c, .int y]) → ixA (.ref d) (.int 2) hh = some (.int y, hh) := fun hh e => ix_lst (i := 2) e rfl
  have lc := len_lst gc
  rw [List.length_map] at lc
  let m : Int := if (cs.length : Int) > 1 then cs.length else 1
  have hm : 0 < m := by show 0 < if (cs.length : Int) > 1 then (cs.length : Int) else 1; split <;> omega
  have s1 : sAsg (gVar 2) (fOp .Mod (fBin ixA (fVar 0) (fC (.int 2))) (fBin max2A (fC (.int 1)) (fUn lenA (fBin ixA (fVar 0) (fC (.int 1)))))) O [some (.ref d), some (.int n), none, none] h = some (.next [some (.ref d), some (.int n), some (.int (y % m)), none], h) := by
    have := o_mod (h := h) (i := y) hm
    simp [i2 h gd, i1 h gd, lc, max2A]
    rw [this]
    rfl
  have mp : 0 ≤ y % m := Int.emod_nonneg _ (by omega)
  have ml : y % m < m := Int.emod_lt_of_pos _ hm
  -- the cell
  have e0 := neE (b := h.length) (Keep.app h [.lst []] _ _ gc) (by simp) (ints_D cs) (ints_shaped cs)
  have gd1 := Keep.app h [.lst []] _ _ gd
  have gc1 := Keep.app h [.lst []] _ _ gc
  have H1 := H.app [.lst []]
  have F1 : Fr [d, c] h (h ++ [.lst []]) := Fr.app _
  obtain ⟨z, s2⟩ : ∃ z : Int, sAsg (gVar 3) (fIf (fCmp .NotEq (fBin ixA (fVar 0) (fC (.int 1))) (fLst [])) (fBin ixA (fBin ixA (fVar 0) (fC (.int 1))) (fVar 2)) (fC (.int 0))) O [some (.ref d), some (.int n), some (.int (y % m)), none] h = some (.next [some (.ref d), some (.int n), some (.int (y % m)), some (.int z)], h ++ [.lst []]) ∧ (cs = [] → z = 0) := by
    by_cases ce : cs = []
    · subst ce
      refine ⟨0, ?_, fun _ => rfl⟩
      simp [i1 h gd, alloc] at e0 ⊢
      simp [e0]
    · have hl : (y % m).toNat < cs.length := by
        have : 0 < cs.length := List.length_pos_iff.mpr ce
        have em : m = cs.length := by show (if (cs.length : Int) > 1 then (cs.length : Int) else 1) = _; split <;> omega
        omega
      have ix : ixA (.ref c) (.int (y % m)) (h ++ [.lst []]) = some (.int (cs.getD (y % m).toNat 0), h ++ [.lst []]) := by
        have := ix_lst (v := .int (cs.getD (y % m).toNat 0)) (i := (y % m).toNat) gc1 (by simp [List.getD, hl])
        rwa [Int.toNat_of_nonneg mp] at this
      refine ⟨cs.getD (y % m).toNat 0, ?_, fun e => absurd e ce⟩
      have ne : (cs.map AV.int).isEmpty = false := by cases cs with
        | nil => exact absurd rfl ce
        | cons _ _ => rfl
      rw [ne] at e0
      generalize cs.getD (y % m).toNat 0 = z at ix
      simp [i1 h gd, alloc, e0, i1 _ gd1, ix]
  obtain ⟨s2, hz⟩ := s2
  have ge1 : (10 : Int) ^ 18 = 1000000000000000000 := by decide
  have pw : ∀ hh, opA .Pow (.int 10) (.int 18) hh = some (.int 1000000000000000000, hh) := fun hh => by kernel_rfl
  have adv : ∀ {h' : AH}, Fr [d, c] h h' → Adv [d, c] [d, c] h h' := fun F => ⟨F, fun i hi => .inl hi⟩
  generalize hh1 : h ++ [AO.lst []] = h1 at s2 gd1 gc1 H1 F1
  by_cases cz : (1000000000000000000 : Int) ≤ z
  · have ce : cs ≠ [] := fun e => by have := hz e; omega
    have hl : (y % m).toNat < cs.length := by
      have : 0 < cs.length := List.length_pos_iff.mpr ce
      have em : m = cs.length := by show (if (cs.length : Int) > 1 then (cs.length : Int) else 1) = _; split <;> omega
      omega
    have st : setIxA (.ref c) (.int (y % m)) (.int (z / n)) h1 = some (h1.set c (.lst ((cs.set (y % m).toNat (z / n)).map .int))) := by
      have := setIx_int (v := z / n) gc1 hl
      rwa [Int.toNat_of_nonneg mp] at this
    have dv := o_fdiv (h := h1) (i := z) hn hn2
    have H2 := Has.setAt (L1 := [(d, .lst [.int x, .ref c, .int y])]) (L2 := []) H1 (.lst ((cs.set (y % m).toNat (z / n)).map .int))
    have F2 : Fr [d, c] h (h1.set c (.lst ((cs.set (y % m).toNat (z / n)).map .int))) := F1.trans (Fr.set (own := [d, c]) (by simp)) fun i hi => .inl hi
    have md := fun hh => o_mod (h := hh) (i := z) hn
    generalize h1.set c (.lst ((cs.set (y % m).toNat (z / n)).map .int)) = h2 at st H2 F2
    refine ⟨.int (z % n), h2, ?_, z % n, x, cs.set (y % m).toNat (z / n), y, rfl, Int.emod_nonneg _ (by omega), Int.emod_lt_of_pos _ hn, H2, adv F2⟩
    refine run_ret rfl ?_
    show b_law_off O [some (.ref d), some (.int n), none, none] h = _
    unfold b_law_off
    rw [s_sAll2, s_sAll2, s_sAll2]
    refine (seq_next s1).trans ((seq_next s2).trans ?_)
    simp [pw, cz, dv, i1 _ gd1, st, md]
  · have m1 := o_mul (h := h1) (i := x) (j := 48271) (by constructor <;> decide)
    have m2 := o_mul (h := h1) (i := z) (j := 69621) (by constructor <;> decide)
    have m3 := o_mod (h := h1) (i := x * 48271 + z * 69621 + 11) (j := 2147483647) (by decide)
    generalize (x * 48271 + z * 69621 + 11) % 2147483647 = x' at m3
    have st1 : setIxA (.ref d) (.int 0) (.int x') h1 = some (h1.set d (.lst [.int x', .ref c, .int y])) := setIx_of (i := 0) gd1 (by simp)
    have H2 := Has.setAt (L1 := []) (L2 := [(c, .lst (cs.map .int))]) H1 (.lst [.int x', .ref c, .int y])
    have F2 : Fr [d, c] h (h1.set d (.lst [.int x', .ref c, .int y])) := F1.trans (Fr.set (own := [d, c]) (by simp)) fun i hi => .inl hi
    generalize h1.set d (.lst [.int x', .ref c, .int y]) = h2 at st1 H2 F2
    have gd2 : h2[d]? = some (.lst [.int x', .ref c, .int y]) := H2.get (by simp)
    have st2 : setIxA (.ref d) (.int 2) (.int (y + 1)) h2 = some (h2.set d (.lst [.int x', .ref c, .int (y + 1)])) := setIx_of (i := 2) gd2 (by simp)
    have j2 : ixA (.ref d) (.int 2) h2 = some (.int y, h2) := ix_lst (i := 2) gd2 rfl
    have H3 := Has.setAt (L1 := []) (L2 := [(c, .lst (cs.map .int))]) H2 (.lst [.int x', .ref c, .int (y + 1)])
    have F3 : Fr [d, c] h (h2.set d (.lst [.int x', .ref c, .int (y + 1)])) := F2.trans (Fr.set (own := [d, c]) (by simp)) fun i hi => .inl hi
    generalize h2.set d (.lst [.int x', .ref c, .int (y + 1)]) = h3 at st2 H3 F3
    have gd3 : h3[d]? = some (.lst [.int x', .ref c, .int (y + 1)]) := H3.get (by simp)
    have j0 : ixA (.ref d) (.int 0) h3 = some (.int x', h3) := ix_lst (i := 0) gd3 rfl
    have dv := o_fdiv (h := h3) (i := x') (j := 64) (by decide) (by decide)
    have md := o_mod (h := h3) (i := x' / 64) hn
    refine ⟨.int (x' / 64 % n), h3, ?_, x' / 64 % n, x', cs, y + 1, rfl, Int.emod_nonneg _ (by omega), Int.emod_lt_of_pos _ hn, H3, adv F3⟩
    refine run_ret rfl ?_
    show b_law_off O [some (.ref d), some (.int n), none, none] h = _
    unfold b_law_off
    rw [s_sAll2, s_sAll2, s_sAll2]
    refine (seq_next s1).trans ((seq_next s2).trans ?_)
    simp [pw, cz, i0 _ gd1, m1, m2, m3, st1, j2, st2, j0, dv, md]
/-- a draw -/
theorem Dc.off {O : Ora} (S : S_off O) {h : AH} {d c : Nat} {L : List (Nat × AO)} {n : Int} (D : Dc h d c L) (hn : 0 < n) (hn2 : n < 1073741824) {Q : AV → AH → Prop} (k : ∀ (u : Nat) (h' : AH), (u : Int) < n → Dc h' d c L → Q (.int (u : Int)) h') : wp (O n_law_off [.ref d, .int n] h) Q := by
  obtain ⟨x, cs, y, H⟩ := D
  refine wp_mono (S h d c x cs y n H.left hn hn2) fun v h' q => ?_
  obtain ⟨u, x', cs', y', rfl, h0, h1, H', V⟩ := q
  obtain ⟨u, rfl⟩ := Int.eq_ofNat_of_zero_le h0
  exact k u h' h1 ⟨x', cs', y', H.adv H' V⟩
/-- one of some things, by a draw -/
theorem Dc.pick {O : Ora} (S : S_off O) {h : AH} {d c : Nat} {L : List (Nat × AO)} {xs : List AV} {n : Int} (D : Dc h d c L) (e : n = (xs.length : Int)) (hn : 0 < n) (hn2 : n < 1073741824) {Q : AV → AH → Prop} (k : ∀ (v : AV) (h' : AH), v ∈ xs → Dc h' d c L → Q v h') :
    wp (O n_law_off [.ref d, .int n] (h ++ [.lst xs])) fun v h' => wp (ixA (.ref h.length) v h') Q := by
  refine (D.new (.lst xs)).off S hn hn2 fun u h' hu D' => ?_
  subst e
  have hu : u < xs.length := by omega
  have g := D'.get (i := h.length) (o := .lst xs) (by simp)
  rw [ix_lst (i := u) (v := xs[u]) g (by simp [hu]), wp_some]
  exact k _ _ (List.getElem_mem _) (D'.sub (List.sublist_cons_self _ _))
end SB

/-! Steps under wp; the laws' words. -/
namespace SB
open PySem
open L2 (Key)
def ctQ (Q : AV → AH → Prop) : Ct → AH → Prop
  | .next _, h => Q .non h
  | .ret v, h => Q v h
@[simp] theorem ctQ_next {Q : AV → AH → Prop} {σ : En} {h : AH} : ctQ Q (.next σ) h = Q .non h := rfl
@[simp] theorem ctQ_ret {Q : AV → AH → Prop} {v : AV} {h : AH} : ctQ Q (.ret v) h = Q v h := rfl
theorem wp_run {O : Ora} {d : Df} {vs : List AV} {h : AH} {Q : AV → AH → Prop} (hl : vs.length = d.n) (e : wp (d.body O (vs.map some ++ List.replicate (d.m - d.n) none) h) (ctQ Q)) : wp (d.run O vs h) Q := by
  unfold Df.run
  rw [if_pos hl, wp_bnd]
  refine wp_mono e fun c h' q => ?_
  cases c <;> exact wp_some.mpr q
/-- then -/
def seqQ (b : FS) (O : Ora) (Q : Ct → AH → Prop) : Ct → AH → Prop
  | .next σ, h => wp (b O σ h) Q
  | .ret v, h => Q (.ret v) h
@[simp] theorem seqQ_next {b : FS} {O : Ora} {Q : Ct → AH → Prop} {σ : En} {h : AH} : seqQ b O Q (.next σ) h = wp (b O σ h) Q := rfl
@[simp] theorem seqQ_ret {b : FS} {O : Ora} {Q : Ct → AH → Prop} {v : AV} {h : AH} : seqQ b O Q (.ret v) h = Q (.ret v) h := rfl
theorem wp_seq {O : Ora} {a b : FS} {σ : En} {h : AH} {Q : Ct → AH → Prop} (e : wp (a O σ h) (seqQ b O Q)) : wp (sSeq a b O σ h) Q := by
  rw [s_sSeq, wp_bnd]
  refine wp_mono e fun c h' q => ?_
  cases c with
  | next σ => exact q
  | ret v => exact wp_some.mpr q
/-- a def called -/
theorem wp_ora {T : Dn → Option Df} {n : Dn} {d : Df} {k : Nat} {vs : List AV} {h : AH} {Q : AV → AH → Prop} (e : T n = some d) (w : wp (d.run (ora T k) vs h) Q) : wp (ora T (k + 1) n vs h) Q := by
  rw [ora_some k e]; exact w
theorem wp_ifB' {α : Type} {b : Bool} {t e : Rs α} {Q : α → AH → Prop} (ht : b = true → wp t Q) (he : b = false → wp e Q) : wp (ifB (.bl b) t e) Q := by
  cases b
  · exact he rfl
  · exact ht rfl
/-- a comprehension -/
theorem Dc.comp {O : Ora} {d c dd : Nat} {L : List (Nat × AO)} {ok : AH → Prop} {g : FG} {elt : FE} {σ : En} {xs : List AV} (R : List AV → List AV → Prop) (h0 : R [] xs) (hl : xs.length < lim)
    (hok : ∀ acc h, Dc h d c ((dd, .lst acc) :: L) → ok h)
    (hb : ∀ acc x r h, R acc (x :: r) → Dc h d c ((dd, .lst acc) :: L) → ∃ σ1, g O x σ h = some (σ1, h) ∧ wp (elt O σ1 h) fun y h' => R (acc ++ [y]) r ∧ Dc h' d c ((dd, .lst acc) :: L))
    {h : AH} (D : Dc h d c ((dd, .lst []) :: L)) {Q : AV → AH → Prop} (k : ∀ acc h', R acc [] → acc.length = xs.length → Dc h' d c ((dd, .lst acc) :: L) → Q (.ref dd) h') : wp (loopC dd ok g none elt O σ xs h) Q := by
  obtain ⟨acc', h', e, ⟨q1, q2, q3⟩, _⟩ := loopC_inv (d := dd) (ok := ok) (g := g) (elt := elt) (O := O) (σ := σ) (fun acc r h => R acc r ∧ Dc h d c ((dd, .lst acc) :: L) ∧ acc.length + r.length = xs.length)
    (fun acc x r h ⟨p1, p2, p3⟩ hd => by
      obtain ⟨σ1, e1, y, h2, e2, q1, q2⟩ := hb acc x r h p1 p2
      rw [List.length_cons] at p3
      exact ⟨hok _ _ p2, σ1, h, y, h2, e1, e2, q2.get (by simp), by omega, q1, q2.set0 _, by rw [List.length_append]; simp; omega⟩)
    (fun acc h ⟨p1, p2, p3⟩ _ => hok _ _ p2) xs [] h ⟨h0, D, by simp⟩ (D.get (by simp))
  exact ⟨_, _, e, k acc' h' q1 (by simpa using q3) q2⟩
theorem irange_len {n : Nat} : (irange 0 (n : Int)).length = n := by simp [irange]
/-! _law_words -/
def S_lwords (O : Ora) : Prop := ∀ (h : AH) (d c : Nat) (L : List (Nat × AO)), Dc h d c L → wp (O n_law_words [.ref d] h) fun v h' => ∃ (a : Nat) (mem : List Int), v = .ref a ∧ 4 ≤ mem.length ∧ mem.length ≤ 32 ∧ (∀ x ∈ mem, 0 ≤ x ∧ x ≤ 999) ∧ Dc h' d c ((a, .lst (mem.map .int)) :: L)
theorem sp_lwords {O : Ora} (S : S_off O) {h : AH} {d c : Nat} {L : List (Nat × AO)} (D : Dc h d c L) : wp (f_law_words.run O [.ref d] h) fun v h' => ∃ (a : Nat) (mem : List Int), v = .ref a ∧ 4 ≤ mem.length ∧ mem.length ≤ 32 ∧ (∀ x ∈ mem, 0 ≤ x ∧ x ≤ 999) ∧ Dc h' d c ((a, .lst (mem.map .int)) :: L) := by
  refine wp_run rfl ?_
  simp [f_law_words, b_law_words, fLC, iRange1]
  refine D.pick (n := 2) S rfl (by decide) (by decide) fun v h1 hv D1 => ?_
  obtain ⟨n, rfl, hn1, hn2⟩ : ∃ n : Nat, v = .int (n : Int) ∧ 0 < n ∧ n ≤ 29 := by
    simp only [List.mem_cons, List.not_mem_nil, or_false] at hv
    rcases hv with rfl | rfl
    · exact ⟨5, rfl, by decide, by decide⟩
    · exact ⟨29, rfl, by decide, by decide⟩
  refine D1.off S (by omega) (by omega) fun u h2 hu D2 => ?_
  rw [o_add, wp_some]
  dsimp only
  rw [if_pos (mid_small (by omega) (by omega)), wp_some]
  refine (D2.new (.lst [])).comp (fun acc _ => ∃ mem : List Int, acc = mem.map .int ∧ ∀ x ∈ mem, 0 ≤ x ∧ x ≤ 999) ⟨[], rfl, fun x hx => by cases hx⟩ ?_ (fun _ _ _ => trivial) ?_ ?_
  · show (irange 0 (4 + (u : Int))).length < 16777216
    rw [show (4 : Int) + (u : Int) = ((4 + u : Nat) : Int) from by omega, irange_len]
    omega
  · intro acc x r hh ⟨mem, e, hm⟩ Dh
    refine ⟨[some (.ref d), some x], rfl, ?_⟩
    simp
    refine Dh.off S (by decide) (by decide) fun w h3 hw D3 => ⟨⟨mem ++ [(w : Int)], by rw [e]; simp, fun y hy => ?_⟩, D3⟩
    rcases List.mem_append.mp hy with hy | hy
    · exact hm y hy
    · have : y = w := by simpa using hy
      omega
  · intro acc h3 ⟨mem, e, hm⟩ hl D3
    have hl2 : mem.length = 4 + u := by
      rw [e, List.length_map] at hl
      rw [hl]
      show (irange 0 (4 + (u : Int))).length = _
      rw [show (4 : Int) + (u : Int) = ((4 + u : Nat) : Int) from by omega, irange_len]
    exact ⟨_, rfl, mem, by omega, by omega, hm, e ▸ D3⟩
section
variable {T : Dn → Option Df}
theorem g_dice (e : T n_law_dice = some f_law_dice) (k : Nat) : S_dice (ora T (k + 1)) := fun h ns i L H => wp_ora e (sp_dice H)
theorem g_off (e : T n_law_off = some f_law_off) (k : Nat) : S_off (ora T (k + 1)) := fun h d c x cs y n H h0 h1 => wp_ora e (sp_off H h0 h1)
theorem g_lwords (e0 : T n_law_off = some f_law_off) (e : T n_law_words = some f_law_words) (k : Nat) : S_lwords (ora T (k + 2)) := fun h d c L D => wp_ora e (sp_lwords (g_off e0 k) D)
end
end SB

/-! Loops under wp; a hall beside the dice. -/
namespace SB
open PySem
open L2 (Key)
def forQ (P : En → AH → Prop) (Q : Ct → AH → Prop) : Ct → AH → Prop
  | .next σ, h => P σ h
  | .ret v, h => Q (.ret v) h
theorem forQ_next {P : En → AH → Prop} {Q : Ct → AH → Prop} {σ : En} {h : AH} : forQ P Q (.next σ) h = P σ h := rfl
theorem forQ_ret {P : En → AH → Prop} {Q : Ct → AH → Prop} {v : AV} {h : AH} : forQ P Q (.ret v) h = Q (.ret v) h := rfl
theorem loopF_wp {ok : AH → Prop} {g : FG} {body : FS} {O : Ora} {Q : Ct → AH → Prop} (P : List AV → En → AH → Prop)
    (hb : ∀ x r σ h, P (x :: r) σ h → ok h ∧ wp (bnd (g O x σ h) fun σ h => body O σ h) (forQ (P r) Q)) (he : ∀ σ h, P [] σ h → ok h ∧ Q (.next σ) h) :
    ∀ (xs : List AV) (σ : En) (h : AH), P xs σ h → wp (loopF ok g body O xs σ h) Q
  | [], σ, h, p => by
    unfold loopF
    rw [if_pos (he σ h p).1, wp_some]
    exact (he σ h p).2
  | x :: r, σ, h, p => by
    obtain ⟨h1, w⟩ := hb x r σ h p
    unfold loopF
    rw [if_pos h1, wp_bnd]
    rw [wp_bnd] at w
    refine wp_mono w fun σ1 h2 w2 => ?_
    rw [wp_bnd]
    refine wp_mono w2 fun c h3 q => ?_
    cases c with
    | next σ2 => exact loopF_wp P hb he r σ2 h3 q
    | ret v => exact wp_some.mpr q
theorem wp_for {O : Ora} {σ : En} {h h1 : AH} {i : FI} {g : FG} {b : FS} {I : It} {Q : Ct → AH → Prop} (e : i O σ h = some (I, h1)) (P : List AV → En → AH → Prop) (h0 : P I.its σ h1)
    (hb : ∀ x r σ h, P (x :: r) σ h → I.ok h ∧ wp (bnd (g O x σ h) fun σ h => b O σ h) (forQ (P r) Q)) (he : ∀ σ h, P [] σ h → I.ok h ∧ Q (.next σ) h) : wp (sFor i g b O σ h) Q := by
  rw [for_of e]
  exact loopF_wp P hb he _ _ _ h0
theorem irange_cons {k n : Nat} (h : k < n) : irange (k : Int) (n : Int) = .int (k : Int) :: irange ((k + 1 : Nat) : Int) (n : Int) := by
  unfold irange
  rw [show ((n : Int) - (k : Int)).toNat = (n - k - 1) + 1 from by omega, show ((n : Int) - ((k + 1 : Nat) : Int)).toNat = n - k - 1 from by omega, List.range_succ_eq_map, List.map_cons, List.map_map]
  have e : (AV.int ((k : Int) + ((0 : Nat) : Int))) = AV.int (k : Int) := by simp
  rw [e]
  refine congrArg _ (List.map_congr_left fun j _ => ?_)
  show AV.int ((k : Int) + ((j + 1 : Nat) : Int)) = AV.int (((k + 1 : Nat) : Int) + (j : Int))
  exact congrArg AV.int (by omega)
theorem irange_nil {n : Nat} : irange (n : Int) (n : Int) = [] := by
  unfold irange
  rw [show ((n : Int) - (n : Int)).toNat = 0 from by omega]
  rfl
/-- for .. in range(lo, n) -/
theorem wp_forN {O : Ora} {σ : En} {h h1 : AH} {i : FI} {g : FG} {b : FS} {lo n : Nat} {ok : AH → Prop} {Q : Ct → AH → Prop} (hl : lo ≤ n) (e : i O σ h = some (⟨irange (lo : Int) (n : Int), ok⟩, h1)) (hok : ∀ h, ok h) (P : Nat → En → AH → Prop) (h0 : P lo σ h1)
    (hb : ∀ (k : Nat) σ h, k < n → P k σ h → wp (bnd (g O (.int (k : Int)) σ h) fun σ h => b O σ h) (forQ (P (k + 1)) Q)) (he : ∀ σ h, P n σ h → Q (.next σ) h) : wp (sFor i g b O σ h) Q := by
  refine wp_for e (fun r σ h => ∃ k : Nat, k ≤ n ∧ r = irange (k : Int) (n : Int) ∧ P k σ h) ⟨lo, hl, rfl, h0⟩ ?_ ?_
  · rintro x r σ h ⟨k, hk, er, p⟩
    refine ⟨hok h, ?_⟩
    rcases Nat.lt_or_ge k n with hk2 | hk2
    · rw [irange_cons hk2] at er
      obtain ⟨rfl, rfl⟩ := List.cons.inj er
      refine wp_mono (hb k σ h hk2 p) fun c h' q => ?_
      cases c with
      | next σ2 => exact ⟨k + 1, hk2, rfl, q⟩
      | ret v => exact q
    · have : k = n := by omega
      subst this
      rw [irange_nil] at er
      cases er
  · rintro σ h ⟨k, hk, er, p⟩
    refine ⟨hok h, ?_⟩
    rcases Nat.lt_or_ge k n with hk2 | hk2
    · rw [irange_cons hk2] at er
      cases er
    · have : k = n := by omega
      subst this
      exact he σ h p
theorem iR1 {O : Ora} {σ : En} {h h1 : AH} {a : FE} {n : Nat} (e : a O σ h = some (.int (n : Int), h1)) (hn : n ≤ 1000000) : iRange1 a O σ h = some (⟨irange ((0 : Nat) : Int) (n : Int), fun _ => True⟩, h1) := by
  unfold iRange1
  rw [e, bnd_some]
  simp only []
  rw [if_pos (mid_small (by omega) (by omega))]
  rfl
/-- while -/
theorem loopW_wp {c : FE} {body : FS} {O : Ora} {Q : Ct → AH → Prop} (P : Nat → En → AH → Prop)
    (hb : ∀ k σ h, P k σ h → wp (c O σ h) fun x h => (x = .bl true ∧ ∃ j, k = j + 1 ∧ wp (body O σ h) (forQ (P j) Q)) ∨ (x = .bl false ∧ Q (.next σ) h)) :
    ∀ (n k : Nat) (σ : En) (h : AH), k < n → P k σ h → wp (loopW c body O n σ h) Q
  | 0, _, _, _, l, _ => absurd l (Nat.not_lt_zero _)
  | n + 1, k, σ, h, l, p => by
    unfold loopW
    rw [wp_bnd]
    refine wp_mono (hb k σ h p) fun x h1 q => ?_
    rcases q with ⟨rfl, j, rfl, w⟩ | ⟨rfl, q⟩
    · rw [ifB_bl, if_pos rfl, wp_bnd]
      refine wp_mono w fun c2 h2 q => ?_
      cases c2 with
      | next σ2 => exact loopW_wp P hb n j σ2 h2 (by omega) q
      | ret v => exact wp_some.mpr q
    · rw [ifB_bl, if_neg (by decide), wp_some]
      exact q
theorem wp_while {c : FE} {body : FS} {O : Ora} {σ : En} {h : AH} {Q : Ct → AH → Prop} (P : Nat → En → AH → Prop) (k : Nat) (hk : k < 100000) (h0 : P k σ h)
    (hb : ∀ k σ h, P k σ h → wp (c O σ h) fun x h => (x = .bl true ∧ ∃ j, k = j + 1 ∧ wp (body O σ h) (forQ (P j) Q)) ∨ (x = .bl false ∧ Q (.next σ) h)) : wp (sWhile c body O σ h) Q :=
  loopW_wp P hb 100000 k σ h hk h0
/-! a hall beside the dice -/
structure HD (h : AH) (d c : Nat) (A : HAd) (s : Hs) (L : List (Nat × AO)) : Prop where
  on : A.G.map (·.2) = s.dev.on
  dc : Dc h d c (hallL A s ++ L)
section
variable {O : Ora} {h h' : AH} {d c : Nat} {A : HAd} {s : Hs} {L : List (Nat × AO)}
theorem HD.at_ (D : HD h d c A s L) : HallAt h A s := ⟨D.on, D.dc.right.left⟩
theorem HD.adv {A' : HAd} {s' : Hs} (D : HD h d c A s L) (D' : HallAt h' A' s') (V : Adv A.own A'.own h h') : HD h' d c A' s' L :=
  ⟨D'.on, D.dc.adv D'.has (by rw [hallL_adr, hallL_adr]; exact V)⟩
theorem HD.keep (D : HD h d c A s L) (k : Keep h h') : HD h' d c A s L := ⟨D.on, D.dc.keep k⟩
theorem HD.drop (D : HD h d c A s L) : Dc h d c L := D.dc.sub (List.sublist_append_right _ _)
theorem HD.get (D : HD h d c A s L) {i : Nat} {o : AO} (m : (i, o) ∈ L) : h[i]? = some o := D.dc.get (List.mem_append_right _ m)
theorem HD.sub (D : HD h d c A s L) {M : List (Nat × AO)} (q : M.Sublist L) : HD h d c A s M := ⟨D.on, D.dc.sub ((List.append_sublist_append_left _).mpr q)⟩
theorem Dc.hall (S : S_hall_init O) {w m q : Nat} {prog : List Row} {ws : List Wk} {mem : List Int} {asks : List (Nat × Nat)} (D : Dc h d c L)
    (hw : h[w]? = some (.lst (ws.map Wk.av))) (hm : h[m]? = some (.lst (mem.map .int))) (hq : h[q]? = some (.lst (asks.map pairV))) (g : Good4 prog ws mem asks) {Q : AV → AH → Prop}
    (k : ∀ A h', A.a = h.length → HD h' d c A (Hs.new prog ws mem asks) L → Keep h h' → Q .non h') : wp (O n_Hall_init [.ref h.length, .tup (prog.map Row.av), .ref w, .ref m, .ref q] (h ++ [.ins "Hall" []])) Q := by
  obtain ⟨x, cs, y, H⟩ := D
  obtain ⟨A, h', e, ea, D', kp, own⟩ := mk_hall S H hw hm hq g
  refine ⟨_, _, e, k A h' ea ⟨D'.on, x, cs, y, ?_⟩ kp⟩
  refine D'.has.perm ?_
  rw [← List.append_assoc, ← List.append_assoc]
  exact List.Perm.append_right _ List.perm_append_comm
theorem HD.beat (S : S_beat O) (D : HD h d c A s L) (ok : s.Ok) (ht : s.time < 10000000) (ha : s.asks.length ≤ 1000) {Q : AV → AH → Prop}
    (k : ∀ G h', HD h' d c { A with G := G } s.beat L → Q (.tup [toldV s.open_.told, didV s.open_.did]) h') : wp (O n_Hall_beat [.ref A.a] h) Q := by
  obtain ⟨G, h', e, D', V⟩ := S h A s D.at_ ok ht ha
  exact ⟨_, _, e, k G h' (D.adv D' V)⟩
theorem HD.beat_call (S : S_beat O) (D : HD h d c A s L) (ok : s.Ok) (ht : s.time < 10000000) (ha : s.asks.length ≤ 1000) {Q : AV → AH → Prop}
    (k : ∀ G h', HD h' d c { A with G := G } s.beat L → Q (.tup [toldV s.open_.told, didV s.open_.did]) h') : wp (callM O "beat" (.ref A.a) [] h h) Q := by
  rw [call_of D.at_.a (by kernel_rfl)]
  exact D.beat S ok ht ha k
theorem HD.shown_call (S : S_shown O) (D : HD h d c A s L) (ok : s.dev.Ok) {Q : AV → AH → Prop}
    (k : HD (h ++ s.shownL) d c A s L → Q (.tup [.int s.time, rowV s, .ref h.length, .ref (h.length + 1), .ref (h.length + 2), .ref (h.length + 4)]) (h ++ s.shownL)) : wp (callM O "shown" (.ref A.a) [] h h) Q := by
  rw [call_of D.at_.a (by kernel_rfl)]
  exact ⟨_, _, S h A s D.at_ ok, k (D.keep (Keep.app _ _))⟩
end
end SB

/-! Small laws of values for the laws' own code. -/
namespace SB
open PySem
open L2 (Key)
theorem optV_D {h : AH} (a : Option Nat) : toH h 6 (optV a) = some (match a with | none => PyData.none | some n => .int (n : Int)) := by
  cases a <;> rfl
@[simp] theorem c_neO {a b : Option Nat} {h : AH} : cmpA .NotEq (optV a) (optV b) h = some (.bl (!decide (a = b)), h) := by
  show neO _ _ h = _
  unfold neO eqA eqD
  rw [optV_D, optV_D]
  cases a with
  | none => cases b <;> rfl
  | some a => cases b with
    | none => rfl
    | some b =>
      simp only
      rw [if_pos ⟨rfl, rfl⟩]
      simp [PyData.eqv, Int.natCast_inj, BEq.beq]
@[simp] theorem c_eqO {a b : Option Nat} {h : AH} : cmpA .Eq (optV a) (optV b) h = some (.bl (decide (a = b)), h) := by
  show eqO _ _ h = _
  unfold eqO eqA eqD
  rw [optV_D, optV_D]
  cases a with
  | none => cases b <;> rfl
  | some a => cases b with
    | none => rfl
    | some b =>
      simp only
      rw [if_pos ⟨rfl, rfl⟩]
      simp [PyData.eqv, Int.natCast_inj, BEq.beq]
theorem pow63 {k : Nat} (h : k < 16777216) : (k : Int) < 2 ^ 63 := by
  have e : (2 : Int) ^ 63 = 9223372036854775808 := by decide
  rw [e]; omega
theorem pow64 {k : Nat} (h : k < 16777216) : -(2 ^ 64) < (k : Int) ∧ (k : Int) < 2 ^ 64 := by
  have e : (2 : Int) ^ 64 = 18446744073709551616 := by decide
  rw [e]; omega
theorem add_lst {h : AH} {a b : Nat} {xs ys : List AV} (ha : h[a]? = some (.lst xs)) (hb : h[b]? = some (.lst ys)) (hl : xs.length + ys.length ≤ 16777216) : opA .Add (.ref a) (.ref b) h = some (.ref h.length, h ++ [.lst (xs ++ ys)]) := by
  show addA (.ref a) (.ref b) h = _
  unfold addA
  simp only [ha, hb]
  rw [if_pos (show xs.length + ys.length ≤ lim from hl)]
  rfl
theorem mul_lstN {h : AH} {a k : Nat} {xs : List AV} (ha : h[a]? = some (.lst xs)) (hk : k < 16777216) (hl : xs.length * k ≤ 16777216) : opA .Mult (.ref a) (.int (k : Int)) h = some (.ref h.length, h ++ [.lst (List.replicate k xs).flatten]) := by
  show mulA (.ref a) (.int (k : Int)) h = _
  unfold mulA
  simp only [ha]
  rw [if_pos ⟨by omega, pow63 hk, by rw [Int.toNat_natCast]; exact hl⟩, Int.toNat_natCast]
  rfl
theorem add_tup {h : AH} {xs ys : List AV} (hl : xs.length + ys.length ≤ 16777216) : opA .Add (.tup xs) (.tup ys) h = some (.tup (xs ++ ys), h) := by
  show addA (.tup xs) (.tup ys) h = _
  unfold addA
  simp only []
  rw [if_pos (show xs.length + ys.length ≤ lim from hl)]
theorem mul_tup {h : AH} {k : Nat} {xs : List AV} (hk : k < 16777216) (hl : xs.length * k ≤ 16777216) : opA .Mult (.tup xs) (.int (k : Int)) h = some (.tup (List.replicate k xs).flatten, h) := by
  show mulA (.tup xs) (.int (k : Int)) h = _
  unfold mulA
  simp only []
  rw [if_pos ⟨by omega, pow63 hk, by rw [Int.toNat_natCast]; exact hl⟩, Int.toNat_natCast]
theorem mul_nat {h : AH} {i j : Nat} (hj : j < 16777216) : opA .Mult (.int (i : Int)) (.int (j : Int)) h = some (.int ((i * j : Nat) : Int), h) := by
  rw [o_mul (pow64 hj)]
  simp
@[simp] theorem flat_rep1 {α : Type} {k : Nat} {x : α} : (List.replicate k [x]).flatten = List.replicate k x := by
  induction k with
  | zero => rfl
  | succ k ih => rw [List.replicate_succ, List.flatten_cons, ih]; rfl
theorem len_tup {h : AH} {xs : List AV} : lenA (.tup xs) h = some (.int (xs.length : Int), h) := rfl
theorem o_modN {h : AH} {i j : Nat} (hj : 0 < j) : opA .Mod (.int (i : Int)) (.int (j : Int)) h = some (.int ((i % j : Nat) : Int), h) := by
  rw [o_mod (by omega)]
  simp
theorem Dc.new2 {h : AH} {d c : Nat} {L : List (Nat × AO)} (D : Dc h d c L) (o o' : AO) : Dc (h ++ [o, o']) d c ((h.length, o) :: (h.length + 1, o') :: L) := by
  have D4 := ((D.new o).new o').perm (List.Perm.swap _ _ _)
  rwa [show (h ++ [o]).length = h.length + 1 from by simp, List.append_assoc] at D4
section
variable {x y z u v w : AV} {h : AH}
@[simp] theorem t40 : ixA (.tup [x, y, z, u]) (.int 0) h = some (x, h) := rfl
@[simp] theorem t41 : ixA (.tup [x, y, z, u]) (.int 1) h = some (y, h) := rfl
@[simp] theorem t42 : ixA (.tup [x, y, z, u]) (.int 2) h = some (z, h) := rfl
@[simp] theorem t43 : ixA (.tup [x, y, z, u]) (.int 3) h = some (u, h) := rfl
@[simp] theorem t60 : ixA (.tup [x, y, z, u, v, w]) (.int 0) h = some (x, h) := rfl
@[simp] theorem t61 : ixA (.tup [x, y, z, u, v, w]) (.int 1) h = some (y, h) := rfl
@[simp] theorem t62 : ixA (.tup [x, y, z, u, v, w]) (.int 2) h = some (z, h) := rfl
@[simp] theorem t63 : ixA (.tup [x, y, z, u, v, w]) (.int 3) h = some (u, h) := rfl
@[simp] theorem t64 : ixA (.tup [x, y, z, u, v, w]) (.int 4) h = some (v, h) := rfl
@[simp] theorem t65 : ixA (.tup [x, y, z, u, v, w]) (.int 5) h = some (w, h) := rfl
end
theorem shown_at {h : AH} {s : Hs} : (h ++ s.shownL)[h.length]? = some (.lst (s.cells.map .int)) ∧ (h ++ s.shownL)[h.length + 1]? = some (.lst (s.mem.map .int)) ∧ (h ++ s.shownL)[h.length + 2]? = some (.lst (s.marks.map .bl)) ∧ (h ++ s.shownL)[h.length + 4]? = some (.lst (s.dev.sorted.map tellV)) := by
  unfold Hs.shownL
  refine ⟨by simp, ?_, ?_, ?_⟩ <;> rw [List.getElem?_append_right (by omega)] <;> simp
theorem sorted_le (d : Dev) : d.sorted.length ≤ d.on.length := by
  unfold Dev.sorted
  refine Nat.le_trans (List.length_filterMap_le _ _) ?_
  unfold isort
  rw [List.length_mergeSort, List.length_map]
  exact Nat.le_refl _
theorem app_two {h : AH} {a b : AO} : h ++ [a, b] = (h ++ [a]) ++ [b] := by simp
theorem len_one {h : AH} {o : AO} : h.length + 1 = (h ++ [o]).length := by simp
/-- a number drawn, one up -/
theorem one_up (u : Nat) : ∃ m : Nat, (1 : Int) + (u : Int) = (m : Int) ∧ m = 1 + u := ⟨1 + u, by omega, rfl⟩
/-- a comprehension over something -/
theorem Dc.lc {O : Ora} {d c : Nat} {L : List (Nat × AO)} {vs : List Nat} {i : FI} {g : FG} {elt : FE} {σ : En} {I : It} {h h1 : AH} (e : i O σ h = some (I, h1)) (D : Dc h1 d c L) (R : List AV → List AV → Prop) (h0 : R [] I.its) (hl : I.its.length < lim)
    (hok : ∀ h, Dc h d c L → I.ok h)
    (hb : ∀ acc x r h dd, R acc (x :: r) → Dc h d c ((dd, .lst acc) :: L) → ∃ σ1, g O x (wipeA σ vs) h = some (σ1, h) ∧ wp (elt O σ1 h) fun y h' => R (acc ++ [y]) r ∧ Dc h' d c ((dd, .lst acc) :: L))
    {Q : AV → AH → Prop} (k : ∀ acc dd h', R acc [] → acc.length = I.its.length → Dc h' d c ((dd, .lst acc) :: L) → Q (.ref dd) h') : wp (fLC vs i g none elt O σ h) Q := by
  rw [lc_of e]
  exact (D.new (.lst [])).comp R h0 hl (fun acc h D => hok h (D.sub (List.sublist_cons_self _ _))) (fun acc x r h => hb acc x r h _) fun acc h' => k acc _ h'
/-- .. each by itself -/
theorem Dc.lcAll {O : Ora} {d c : Nat} {L : List (Nat × AO)} {vs : List Nat} {i : FI} {g : FG} {elt : FE} {σ : En} {I : It} {h h1 : AH} (P : AV → Prop) (e : i O σ h = some (I, h1)) (D : Dc h1 d c L) (hl : I.its.length < lim)
    (hok : ∀ h, Dc h d c L → I.ok h)
    (hb : ∀ x h L', x ∈ I.its → Dc h d c L' → L.Sublist L' → ∃ σ1, g O x (wipeA σ vs) h = some (σ1, h) ∧ wp (elt O σ1 h) fun y h' => P y ∧ Dc h' d c L')
    {Q : AV → AH → Prop} (k : ∀ acc dd h', (∀ y ∈ acc, P y) → acc.length = I.its.length → Dc h' d c ((dd, .lst acc) :: L) → Q (.ref dd) h') : wp (fLC vs i g none elt O σ h) Q := by
  refine D.lc e (fun acc r => (∀ y ∈ acc, P y) ∧ ∀ x ∈ r, x ∈ I.its) ⟨fun y hy => (by cases hy), fun x hx => hx⟩ hl hok ?_ fun acc dd h' q => k acc dd h' q.1
  intro acc x r hh dd ⟨q1, q2⟩ D'
  obtain ⟨σ1, e1, w⟩ := hb x hh _ (q2 x (by simp)) D' (List.sublist_cons_self _ _)
  refine ⟨σ1, e1, wp_mono w fun y h' ⟨p, D2⟩ => ⟨⟨fun z hz => ?_, fun z hz => q2 z (by simp [hz])⟩, D2⟩⟩
  rcases List.mem_append.mp hz with hz | hz
  · exact q1 z hz
  · have : z = y := by simpa using hz
    subst this; exact p
theorem gTup_ref {O : Ora} {gs : List FG} {xs : List AV} {a : Nat} {σ : En} {h : AH} (ha : h[a]? = some (.lst xs)) (hl : xs.length = gs.length) : SB.gTup gs O (.ref a) σ h = gAll gs O xs σ h := by
  unfold SB.gTup
  simp only [ha]
  rw [if_pos hl]
/-- all alike, two of them -/
theorem two_of {P : AV → Prop} {xs : List AV} (hl : xs.length = 2) (h : ∀ y ∈ xs, P y) : ∃ a b, xs = [a, b] ∧ P a ∧ P b := by
  match xs, hl with
  | [a, b], _ => exact ⟨a, b, rfl, h a (by simp), h b (by simp)⟩
/-- values that are each of some kind, as one list -/
theorem all_map {α : Type} {f : α → AV} {P : α → Prop} : ∀ {xs : List AV}, (∀ y ∈ xs, ∃ a, y = f a ∧ P a) → ∃ as : List α, xs = as.map f ∧ ∀ a ∈ as, P a
  | [], _ => ⟨[], rfl, fun a h => by cases h⟩
  | y :: r, h => by
    obtain ⟨a, rfl, p⟩ := h y (by simp)
    obtain ⟨as, rfl, q⟩ := all_map (xs := r) fun z hz => h z (by simp [hz])
    exact ⟨a :: as, rfl, fun b hb => by
      rcases List.mem_cons.mp hb with rfl | hb
      · exact p
      · exact q b hb⟩
theorem upd_of {h : AH} {a b : Nat} {kvs ps r : List (Key × AV)} {xs : List AV} (ha : h[a]? = some (.dic kvs)) (hb : h[b]? = some (.lst xs)) (e : mapO pairOf xs = some ps) (hl : kvs.length + xs.length ≤ 1000) (em : dmerge kvs ps = r) : updPA (.ref a) (.ref b) h = some (.non, h.set a (.dic r)) := by
  unfold updPA
  simp only [ha, hb]
  rw [if_pos hl, e, ← em]
  rfl
theorem ix_dic {h : AH} {a : Nat} {kvs : List (Key × AV)} {z : Str} {v : AV} (ha : h[a]? = some (.dic kvs)) (e : dval kvs (.inr z) = some v) : ixA (.ref a) (.str z) h = some (v, h) := by
  unfold ixA
  simp only [ha]
  show (keyOf (.str z)).bind _ = _
  simp only [keyOf, Option.bind_some, e]
  rfl
end SB

/-! The laws' works, rows, programs, asks. -/
namespace SB
open PySem
open L2 (Key)
def Row.Straight : Row → Prop
  | .go _ | .iff _ _ => False
  | _ => True
/-! _law_work -/
def workQ (many : Nat) (d c : Nat) (L : List (Nat × AO)) : AV → AH → Prop := fun v h' => ∃ w : Wk, v = w.av ∧ w.Ok many ∧ Dc h' d c L
def S_lwork (O : Ora) : Prop := ∀ (h : AH) (d c : Nat) (L : List (Nat × AO)) (many : Nat), Dc h d c L → 0 < many → many < 1000000 → wp (O n_law_work [.ref d, .int (many : Int)] h) (workQ many d c L)
theorem pick_int {a b u : Nat} (v : AV) (h : v ∈ [AV.int (a : Int), .int (b : Int)]) : ∃ n : Nat, v = .int (n : Int) ∧ (n = a ∨ n = b) := by
  simp only [List.mem_cons, List.not_mem_nil, or_false] at h
  rcases h with rfl | rfl
  · exact ⟨a, rfl, .inl rfl⟩
  · exact ⟨b, rfl, .inr rfl⟩
theorem sp_lwork {O : Ora} (S : S_off O) {h : AH} {d c : Nat} {L : List (Nat × AO)} {many : Nat} (D : Dc h d c L) (h0 : 0 < many) (h1 : many < 1000000) : wp (f_law_work.run O [.ref d, .int (many : Int)] h) (workQ many d c L) := by
  refine wp_run rfl ?_
  show wp (b_law_work O _ h) _
  unfold b_law_work
  simp only [s_sAll2, s_sAll1]
  refine wp_seq ?_
  simp [-seqQ_next, f_law_work]
  refine D.off S (by decide) (by decide) fun mark h1 hmark D => ?_
  refine D.off S (by omega) (by omega) fun fol h1 hfol D => ?_
  rw [seqQ_next]
  refine wp_seq ?_
  simp [-seqQ_next]
  refine D.off S (by decide) (by decide) fun hm h1 _ D => ?_
  simp [-seqQ_next]
  refine D.off S (by decide) (by decide) fun hn h1 _ D => ?_
  simp [-seqQ_next]
  rw [seqQ_next]
  refine wp_seq ?_
  simp [-seqQ_next, alloc]
  refine D.pick (n := 2) S rfl (by decide) (by decide) fun v h1 hv D => ?_
  obtain ⟨n4, rfl, hn4⟩ := pick_int (a := 4) (b := 16) (u := 0) v hv
  refine D.off S (by omega) (by omega) fun sz h1 hsz D => ?_
  obtain ⟨size, es, hsize⟩ := one_up sz
  rw [o_add, wp_some, es, seqQ_next]
  refine wp_seq ?_
  simp [-seqQ_next, alloc]
  refine D.pick (n := 4) S rfl (by decide) (by decide) fun gv h1 hgv D => ?_
  obtain ⟨gr, eg⟩ : ∃ gr : Greed, gv = .str gr.s := by
    simp only [List.mem_cons, List.not_mem_nil, or_false] at hgv
    rcases hgv with rfl | rfl | rfl | rfl
    · exact ⟨.all, rfl⟩
    · exact ⟨.turn, rfl⟩
    · exact ⟨.idle, rfl⟩
    · exact ⟨.turn, rfl⟩
  subst eg
  rw [seqQ_next]
  refine wp_seq ?_
  rw [s_sAsg, wp_bnd]
  refine D.lcAll (P := fun v => ∃ n : Nat, v = .int (n : Int) ∧ n < 32) (iR1 (n := 2) rfl (by omega)) (by rw [show (irange _ _).length = 2 from rfl]; decide) (fun _ _ => trivial) ?_ ?_
  · intro x hh L' _ D' _
    refine ⟨_, rfl, ?_⟩
    simp [alloc, wipeA]
    refine D'.pick (n := 2) S rfl (by decide) (by decide) fun v h1 hv D => ?_
    obtain ⟨n4, rfl, hn4⟩ := pick_int (a := 8) (b := 32) (u := 0) v hv
    refine D.off S (by omega) (by omega) fun sz h1 hsz D => ⟨⟨sz, rfl, by omega⟩, D⟩
  · intro acc dd h' hP hl D'
    obtain ⟨_, _, rfl, ⟨b, rfl, hb⟩, ⟨g, rfl, hg⟩⟩ := two_of hl hP
    have gd := D'.get (i := dd) (o := .lst [.int (b : Int), .int (g : Int)]) (by simp)
    rw [gTup_ref gd rfl]
    simp [-seqQ_next]
    rw [seqQ_next]
    simp
    have D' := D'.sub (List.sublist_cons_self _ _)
    refine D'.off S (by decide) (by decide) fun kk h1 hkk D => ?_
    obtain ⟨k, ek, hk⟩ := one_up kk
    rw [o_add, wp_some, ek]
    refine ⟨⟨b, g, size, k, gr, if hm = 0 then some mark else none, if hn = 0 then some fol else none⟩, ?_, ⟨hb, hg, by show 1 ≤ size; omega, by show size ≤ 16; omega, by show 1 ≤ k; omega, by show k ≤ 4; omega, fun m e => ?_, fun m e => ?_⟩, D⟩
    · by_cases c1 : hm = 0 <;> by_cases c2 : hn = 0 <;> simp [c1, c2, Wk.av, optV]
    · dsimp only at e
      split at e
      · have := Option.some.inj e; omega
      · cases e
    · dsimp only at e
      split at e
      · have := Option.some.inj e; omega
      · cases e
/-! _law_works -/
def S_lworks (O : Ora) : Prop := ∀ (h : AH) (d c : Nat) (L : List (Nat × AO)) (most : Nat), Dc h d c L → most < 1000 → wp (O n_law_works [.ref d, .int (most : Int)] h) fun v h' => ∃ (a : Nat) (ws : List Wk), v = .ref a ∧ ws.length ≤ most ∧ (∀ w ∈ ws, w.Ok ws.length) ∧ Dc h' d c ((a, .lst (ws.map Wk.av)) :: L)
theorem sp_lworks {O : Ora} (S : S_off O) (S2 : S_lwork O) {h : AH} {d c : Nat} {L : List (Nat × AO)} {most : Nat} (D : Dc h d c L) (hm : most < 1000) : wp (f_law_works.run O [.ref d, .int (most : Int)] h) fun v h' => ∃ (a : Nat) (ws : List Wk), v = .ref a ∧ ws.length ≤ most ∧ (∀ w ∈ ws, w.Ok ws.length) ∧ Dc h' d c ((a, .lst (ws.map Wk.av)) :: L) := by
  refine wp_run rfl ?_
  show wp (b_law_works O _ h) _
  unfold b_law_works
  simp only [s_sAll2, s_sAll1]
  refine wp_seq ?_
  simp [-seqQ_next, f_law_works]
  refine D.off S (by omega) (by omega) fun many h1 hmany D => ?_
  rw [seqQ_next]
  rw [s_sRet, wp_bnd]
  have hi : (irange ((0 : Nat) : Int) (many : Int)).length = many := irange_len
  refine D.lcAll (P := fun v => ∃ w : Wk, v = w.av ∧ w.Ok many) (iR1 (n := many) rfl (by omega)) (by rw [hi]; show many < 16777216; omega) (fun _ _ => trivial) ?_ ?_
  · intro x hh L' hx D' _
    have h0 : 0 < many := by
      have := List.length_pos_of_mem hx
      rw [hi] at this
      exact this
    refine ⟨_, rfl, ?_⟩
    simp [wipeA]
    refine wp_mono (S2 _ _ _ _ many D' h0 (by omega)) ?_
    rintro _ h2 ⟨w, rfl, ok, D2⟩
    exact ⟨⟨w, rfl, ok⟩, D2⟩
  · intro acc dd h' hP hl D'
    obtain ⟨ws, rfl, ok⟩ := all_map hP
    rw [List.length_map, hi] at hl
    simp
    exact ⟨ws, by omega, hl.symm ▸ ok, D'⟩
/-! _law_asked -/
def S_lasked (O : Ora) : Prop := ∀ (h : AH) (d c : Nat) (L : List (Nat × AO)) (many : Nat), Dc h d c L → many < 1000 → wp (O n_law_asked [.ref d, .int (many : Int)] h) fun v h' => ∃ (a : Nat) (asks : List (Nat × Nat)), v = .ref a ∧ asks.length ≤ 8 ∧ AsksOk many 0 asks ∧ Dc h' d c ((a, .lst (asks.map pairV)) :: L)
/-! _law_row -/
def S_lrow (O : Ora) : Prop := ∀ (h : AH) (d c : Nat) (L : List (Nat × AO)) (many : Nat) (st : Bool), Dc h d c L → 0 < many → many < 1000000 → wp (O n_law_row [.ref d, .int (many : Int), .bl st] h) fun v h' => ∃ r : Row, v = r.av ∧ r.Ok many ∧ (st = true → r.Straight) ∧ Dc h' d c L
def rowWords : Bool → List AV
  | true => [.str "set", .str "add", .str "less", .str "get", .str "getx", .str "put", .str "putx", .str "pair", .str "pair", .str "lay", .str "ask", .str "ask", .str "done", .str "mark", .str "clear", .str "rest", .str "get", .str "put", .str "set"]
  | false => [.str "set", .str "add", .str "less", .str "get", .str "getx", .str "put", .str "putx", .str "pair", .str "pair", .str "lay", .str "ask", .str "ask", .str "done", .str "mark", .str "clear", .str "rest", .str "get", .str "put", .str "set", .str "if", .str "go", .str "if"]
theorem slice_of {h : AH} {a : Nat} {xs ys : List AV} {lo hi : Option Int} (e : h[a]? = some (.lst xs)) (ey : cutA xs lo hi = ys) : sliceA lo hi (.ref a) h = alloc (.lst ys) h := by
  unfold sliceA
  simp only [e, ey]
/-- behind the word -/
def rowRest : FS := sAll [
  sAsg (gTup [gVar 5, gVar 6]) (fTup [fCall ("_law_off", none) [fVar 0, fC (.int 4)], fCall ("_law_off", none) [fVar 0, fC (.int 4)]]),
  sAsg (gVar 7) (fCall ("_law_off", none) [fVar 0, fBin ixA (fLst [fC (.int 8), fC (.int 32)]) (fCall ("_law_off", none) [fVar 0, fC (.int 2)])]),
  sIf (fCmp .In (fVar 4) (fTup [fC (.str "add"), fC (.str "less"), fC (.str "getx"), fC (.str "putx")])) (sAll [
    sRet (fTup [fVar 4, fVar 5, fVar 6])]) (sAll []),
  sIf (fCmp .In (fVar 4) (fTup [fC (.str "get"), fC (.str "put")])) (sAll [
    sRet (fIf (fCmp .Eq (fVar 4) (fC (.str "get"))) (fTup [fVar 4, fVar 5, fVar 7]) (fTup [fVar 4, fVar 7, fVar 5]))]) (sAll []),
  sIf (fCmp .In (fVar 4) (fTup [fC (.str "pair"), fC (.str "lay")])) (sAll [
    sRet (fIf (fCmp .Eq (fVar 4) (fC (.str "pair"))) (fTup [fVar 4, fOp .Mod (fVar 5) (fC (.int 3)), fVar 7]) (fTup [fVar 4, fVar 7, fOp .Mod (fVar 5) (fC (.int 3))]))]) (sAll []),
  sIf (fCmp .In (fVar 4) (fTup [fC (.str "go"), fC (.str "if")])) (sAll [
    sRet (fIf (fCmp .Eq (fVar 4) (fC (.str "go"))) (fTup [fVar 4, fCall ("_law_off", none) [fVar 0, fVar 1]]) (fTup [fVar 4, fVar 5, fCall ("_law_off", none) [fVar 0, fVar 1]]))]) (sAll []),
  sAsg (gVar 8) (fDic [(fC (.str "set"), fTup [fVar 5, fCall ("_law_off", none) [fVar 0, fC (.int 1000)]]), (fC (.str "ask"), fTup [fCall ("_law_off", none) [fVar 0, fC (.int 6)]]), (fC (.str "done"), fTup [fVar 5, fCall ("_law_off", none) [fVar 0, fC (.int 6)]]), (fC (.str "end"), fTup [])]),
  sExpr (fM1 true updPA (fVar 8) (fLst [fTup [fC (.str "mark"), fTup [fOp .Mod (fVar 5) (fC (.int 3))]], fTup [fC (.str "clear"), fTup [fOp .Mod (fVar 5) (fC (.int 3))]], fTup [fC (.str "rest"), fTup [fOp .Add (fC (.int 1)) (fCall ("_law_off", none) [fVar 0, fC (.int 9)])]]])),
  sRet (fOp .Add (fTup [fVar 4]) (fBin ixA (fVar 8) (fVar 4)))]
def rowQ (many : Nat) (st : Bool) (d c : Nat) (L : List (Nat × AO)) : AV → AH → Prop := fun v h' => ∃ r : Row, v = r.av ∧ r.Ok many ∧ (st = true → r.Straight) ∧ Dc h' d c L
theorem rowRest_A {O : Ora} (S : S_off O) {h : AH} {d c : Nat} {L : List (Nat × AO)} {many : Nat} {st : Bool} {x : Option AV} {z : Str} (D : Dc h d c L)
    (hz : z = "add" ∨ z = "less" ∨ z = "getx" ∨ z = "putx") : wp (rowRest O [some (.ref d), some (.int (many : Int)), some (.bl st), x, some (.str z), none, none, none, none] h) (ctQ (rowQ many st d c L)) := by
  have i1 : ∀ hh, cmpA .In (.str z) (.tup [.str "add", .str "less", .str "getx", .str "putx"]) hh = some (.bl true, hh) := fun hh => by
    rcases hz with rfl | rfl | rfl | rfl <;> kernel_rfl
  unfold rowRest
  simp [alloc, i1]
  refine D.off S (by decide) (by decide) fun r h1 hr D => D.off S (by decide) (by decide) fun s h1 hs D => ?_
  refine D.pick (n := 2) S rfl (by decide) (by decide) fun v h1 hv D => ?_
  obtain ⟨n4, rfl, hn4⟩ := pick_int (a := 8) (b := 32) (u := 0) v hv
  refine D.off S (by omega) (by omega) fun a h1 ha D => ?_
  rcases hz with rfl | rfl | rfl | rfl
  · exact ⟨.add r s, rfl, ⟨by omega, by omega⟩, fun _ => trivial, D⟩
  · exact ⟨.less r s, rfl, ⟨by omega, by omega⟩, fun _ => trivial, D⟩
  · exact ⟨.getx r s, rfl, ⟨by omega, by omega⟩, fun _ => trivial, D⟩
  · exact ⟨.putx r s, rfl, ⟨by omega, by omega⟩, fun _ => trivial, D⟩
theorem rowRest_B {O : Ora} (S : S_off O) {h : AH} {d c : Nat} {L : List (Nat × AO)} {many : Nat} {st : Bool} {x : Option AV} {z : Str} (D : Dc h d c L)
    (hz : z = "get" ∨ z = "put") : wp (rowRest O [some (.ref d), some (.int (many : Int)), some (.bl st), x, some (.str z), none, none, none, none] h) (ctQ (rowQ many st d c L)) := by
  have i1 : ∀ hh, cmpA .In (.str z) (.tup [.str "add", .str "less", .str "getx", .str "putx"]) hh = some (.bl false, hh) := fun hh => by
    rcases hz with rfl | rfl <;> kernel_rfl
  have i2 : ∀ hh, cmpA .In (.str z) (.tup [.str "get", .str "put"]) hh = some (.bl true, hh) := fun hh => by
    rcases hz with rfl | rfl <;> kernel_rfl
  unfold rowRest
  simp [alloc, i1, i2]
  refine D.off S (by decide) (by decide) fun r h1 hr D => D.off S (by decide) (by decide) fun s h1 hs D => ?_
  refine D.pick (n := 2) S rfl (by decide) (by decide) fun v h1 hv D => ?_
  obtain ⟨n4, rfl, hn4⟩ := pick_int (a := 8) (b := 32) (u := 0) v hv
  refine D.off S (by omega) (by omega) fun a h1 ha D => ?_
  rcases hz with rfl | rfl
  · rw [show cmpA .Eq (.str "get") (.str "get") h1 = some (.bl true, h1) from by kernel_rfl]
    simp
    exact ⟨.get r a, rfl, ⟨by omega, by omega⟩, fun _ => trivial, D⟩
  · rw [show cmpA .Eq (.str "put") (.str "get") h1 = some (.bl false, h1) from by kernel_rfl]
    simp
    exact ⟨.put a r, rfl, ⟨by omega, by omega⟩, fun _ => trivial, D⟩
theorem rowRest_C {O : Ora} (S : S_off O) {h : AH} {d c : Nat} {L : List (Nat × AO)} {many : Nat} {st : Bool} {x : Option AV} {z : Str} (D : Dc h d c L)
    (hz : z = "pair" ∨ z = "lay") : wp (rowRest O [some (.ref d), some (.int (many : Int)), some (.bl st), x, some (.str z), none, none, none, none] h) (ctQ (rowQ many st d c L)) := by
  have i1 : ∀ hh, cmpA .In (.str z) (.tup [.str "add", .str "less", .str "getx", .str "putx"]) hh = some (.bl false, hh) := fun hh => by
    rcases hz with rfl | rfl <;> kernel_rfl
  have i2 : ∀ hh, cmpA .In (.str z) (.tup [.str "get", .str "put"]) hh = some (.bl false, hh) := fun hh => by
    rcases hz with rfl | rfl <;> kernel_rfl
  have i3 : ∀ hh, cmpA .In (.str z) (.tup [.str "pair", .str "lay"]) hh = some (.bl true, hh) := fun hh => by
    rcases hz with rfl | rfl <;> kernel_rfl
  unfold rowRest
  simp [alloc, i1, i2, i3]
  refine D.off S (by decide) (by decide) fun r h1 hr D => D.off S (by decide) (by decide) fun s h1 hs D => ?_
  refine D.pick (n := 2) S rfl (by decide) (by decide) fun v h1 hv D => ?_
  obtain ⟨n4, rfl, hn4⟩ := pick_int (a := 8) (b := 32) (u := 0) v hv
  refine D.off S (by omega) (by omega) fun a h1 ha D => ?_
  have m := o_mod (h := h1) (i := (r : Int)) (j := 3) (by decide)
  have hm : r % 3 < 3 := Nat.mod_lt _ (by decide)
  rcases hz with rfl | rfl
  · rw [show cmpA .Eq (.str "pair") (.str "pair") h1 = some (.bl true, h1) from by kernel_rfl]
    simp [m]
    exact ⟨.pair (r % 3) a, rfl, ⟨by omega, by omega⟩, fun _ => trivial, D⟩
  · rw [show cmpA .Eq (.str "lay") (.str "pair") h1 = some (.bl false, h1) from by kernel_rfl]
    simp [m]
    exact ⟨.lay a (r % 3), rfl, ⟨by omega, by omega⟩, fun _ => trivial, D⟩
theorem rowRest_D {O : Ora} (S : S_off O) {h : AH} {d c : Nat} {L : List (Nat × AO)} {many : Nat} {x : Option AV} {z : Str} (D : Dc h d c L) (h0 : 0 < many) (h1 : many < 1000000)
    (hz : z = "go" ∨ z = "if") : wp (rowRest O [some (.ref d), some (.int (many : Int)), some (.bl false), x, some (.str z), none, none, none, none] h) (ctQ (rowQ many false d c L)) := by
  have i1 : ∀ hh, cmpA .In (.str z) (.tup [.str "add", .str "less", .str "getx", .str "putx"]) hh = some (.bl false, hh) := fun hh => by
    rcases hz with rfl | rfl <;> kernel_rfl
  have i2 : ∀ hh, cmpA .In (.str z) (.tup [.str "get", .str "put"]) hh = some (.bl false, hh) := fun hh => by
    rcases hz with rfl | rfl <;> kernel_rfl
  have i3 : ∀ hh, cmpA .In (.str z) (.tup [.str "pair", .str "lay"]) hh = some (.bl false, hh) := fun hh => by
    rcases hz with rfl | rfl <;> kernel_rfl
  have i4 : ∀ hh, cmpA .In (.str z) (.tup [.str "go", .str "if"]) hh = some (.bl true, hh) := fun hh => by
    rcases hz with rfl | rfl <;> kernel_rfl
  unfold rowRest
  simp [alloc, i1, i2, i3, i4]
  refine D.off S (by decide) (by decide) fun r h1 hr D => D.off S (by decide) (by decide) fun s h1 hs D => ?_
  refine D.pick (n := 2) S rfl (by decide) (by decide) fun v h1 hv D => ?_
  obtain ⟨n4, rfl, hn4⟩ := pick_int (a := 8) (b := 32) (u := 0) v hv
  refine D.off S (by omega) (by omega) fun a h1 ha D => ?_
  rcases hz with rfl | rfl
  · rw [show cmpA .Eq (.str "go") (.str "go") h1 = some (.bl true, h1) from by kernel_rfl]
    simp
    refine D.off S (by omega) (by omega) fun l h1 hl D => ?_
    exact ⟨.go l, rfl, (by omega : l < many), (fun e => by cases e), D⟩
  · rw [show cmpA .Eq (.str "if") (.str "go") h1 = some (.bl false, h1) from by kernel_rfl]
    simp
    refine D.off S (by omega) (by omega) fun l h1 hl D => ?_
    exact ⟨.iff r l, rfl, ⟨by omega, by omega⟩, (fun e => by cases e), D⟩
theorem rowRest_E {O : Ora} (S : S_off O) {h : AH} {d c : Nat} {L : List (Nat × AO)} {many : Nat} {st : Bool} {x : Option AV} {z : Str} (D : Dc h d c L)
    (hz : z = "set" ∨ z = "ask" ∨ z = "done" ∨ z = "end" ∨ z = "mark" ∨ z = "clear" ∨ z = "rest") : wp (rowRest O [some (.ref d), some (.int (many : Int)), some (.bl st), x, some (.str z), none, none, none, none] h) (ctQ (rowQ many st d c L)) := by
  have i1 : ∀ hh, cmpA .In (.str z) (.tup [.str "add", .str "less", .str "getx", .str "putx"]) hh = some (.bl false, hh) := fun hh => by
    rcases hz with rfl | rfl | rfl | rfl | rfl | rfl | rfl <;> kernel_rfl
  have i2 : ∀ hh, cmpA .In (.str z) (.tup [.str "get", .str "put"]) hh = some (.bl false, hh) := fun hh => by
    rcases hz with rfl | rfl | rfl | rfl | rfl | rfl | rfl <;> kernel_rfl
  have i3 : ∀ hh, cmpA .In (.str z) (.tup [.str "pair", .str "lay"]) hh = some (.bl false, hh) := fun hh => by
    rcases hz with rfl | rfl | rfl | rfl | rfl | rfl | rfl <;> kernel_rfl
  have i4 : ∀ hh, cmpA .In (.str z) (.tup [.str "go", .str "if"]) hh = some (.bl false, hh) := fun hh => by
    rcases hz with rfl | rfl | rfl | rfl | rfl | rfl | rfl <;> kernel_rfl
  unfold rowRest
  simp [alloc, i1, i2, i3, i4, fDic, fDicGo, keyOf]
  refine D.off S (by decide) (by decide) fun r h1 hr D => D.off S (by decide) (by decide) fun s h1 hs D => ?_
  refine D.pick (n := 2) S rfl (by decide) (by decide) fun v h1 hv D => ?_
  obtain ⟨n4, rfl, hn4⟩ := pick_int (a := 8) (b := 32) (u := 0) v hv
  refine D.off S (by omega) (by omega) fun a h1 ha D => ?_
  have D1 := D.new (.dic [])
  refine D1.off S (by decide) (by decide) fun x1 h2 hx1 D => D.off S (by decide) (by decide) fun x2 h2 hx2 D => D.off S (by decide) (by decide) fun x3 h2 hx3 D => ?_
  have g := D.get (i := h1.length) (o := .dic []) (by simp)
  simp only [g]
  have eB : dmerge [] [(.inr "set", AV.tup [.int (r : Int), .int (x1 : Int)]), (.inr "ask", .tup [.int (x2 : Int)]), (.inr "done", .tup [.int (r : Int), .int (x3 : Int)]), (.inr "end", .tup [])] = [(.inr "set", AV.tup [.int (r : Int), .int (x1 : Int)]), (.inr "ask", .tup [.int (x2 : Int)]), (.inr "done", .tup [.int (r : Int), .int (x3 : Int)]), (.inr "end", .tup [])] := by kernel_rfl
  rw [eB, wp_some]
  have D2 := D.set0 (.dic [(.inr "set", AV.tup [.int (r : Int), .int (x1 : Int)]), (.inr "ask", .tup [.int (x2 : Int)]), (.inr "done", .tup [.int (r : Int), .int (x3 : Int)]), (.inr "end", .tup [])])
  generalize h1.length = b at D2 ⊢
  generalize h2.set b _ = h3 at D2 ⊢
  have g3 := D2.get (i := b) (o := .dic [(.inr "set", AV.tup [.int (r : Int), .int (x1 : Int)]), (.inr "ask", .tup [.int (x2 : Int)]), (.inr "done", .tup [.int (r : Int), .int (x3 : Int)]), (.inr "end", .tup [])]) (by simp)
  have m := fun hh => o_mod (h := hh) (i := (r : Int)) (j := 3) (by decide)
  simp [isK_dic g3, m]
  refine D2.off S (by decide) (by decide) fun y h4 hy D => ?_
  obtain ⟨y', ey, hy'⟩ := one_up y
  simp [ey]
  have D3 := D.new (.lst [.tup [.str "mark", .tup [.int ((r : Int) % 3)]], .tup [.str "clear", .tup [.int ((r : Int) % 3)]], .tup [.str "rest", .tup [.int (y' : Int)]]])
  let B2 : List (Key × AV) := [(.inr "set", AV.tup [.int (r : Int), .int (x1 : Int)]), (.inr "ask", .tup [.int (x2 : Int)]), (.inr "done", .tup [.int (r : Int), .int (x3 : Int)]), (.inr "end", .tup []), (.inr "mark", .tup [.int ((r : Int) % 3)]), (.inr "clear", .tup [.int ((r : Int) % 3)]), (.inr "rest", .tup [.int (y' : Int)])]
  have g4 := D3.get (i := b) (o := .dic [(.inr "set", AV.tup [.int (r : Int), .int (x1 : Int)]), (.inr "ask", .tup [.int (x2 : Int)]), (.inr "done", .tup [.int (r : Int), .int (x3 : Int)]), (.inr "end", .tup [])]) (by simp)
  have g5 := D3.get (i := h4.length) (o := .lst [.tup [.str "mark", .tup [.int ((r : Int) % 3)]], .tup [.str "clear", .tup [.int ((r : Int) % 3)]], .tup [.str "rest", .tup [.int (y' : Int)]]]) (by simp)
  rw [upd_of (r := B2) (ps := [(.inr "mark", .tup [.int ((r : Int) % 3)]), (.inr "clear", .tup [.int ((r : Int) % 3)]), (.inr "rest", .tup [.int (y' : Int)])]) g4 g5 (by kernel_rfl) (show 4 + 3 ≤ 1000 by decide) (by kernel_rfl), wp_some]
  have D4 := D3.set (L1 := [(h4.length, _)]) (.dic B2)
  have g6 := D4.get (i := b) (o := .dic B2) (by simp)
  have D4 := D4.sub (M := L) (List.Sublist.cons _ (List.sublist_cons_self _ _))
  generalize (h4 ++ _).set b _ = h5 at D4 g6 ⊢
  rcases hz with rfl | rfl | rfl | rfl | rfl | rfl | rfl
  · rw [ix_dic g6 (v := .tup [.int (r : Int), .int (x1 : Int)]) (by kernel_rfl), wp_some, add_tup (by simp), wp_some]
    exact ⟨.set r x1, rfl, ⟨by omega, by omega⟩, fun _ => trivial, D4⟩
  · rw [ix_dic g6 (v := .tup [.int (x2 : Int)]) (by kernel_rfl), wp_some, add_tup (by simp), wp_some]
    exact ⟨.ask x2, rfl, (by omega : x2 < 6), fun _ => trivial, D4⟩
  · rw [ix_dic g6 (v := .tup [.int (r : Int), .int (x3 : Int)]) (by kernel_rfl), wp_some, add_tup (by simp), wp_some]
    exact ⟨.done r x3, rfl, ⟨by omega, by omega⟩, fun _ => trivial, D4⟩
  · rw [ix_dic g6 (v := .tup []) (by kernel_rfl), wp_some, add_tup (by simp), wp_some]
    exact ⟨.fin, rfl, trivial, fun _ => trivial, D4⟩
  · rw [ix_dic g6 (v := .tup [.int ((r : Int) % 3)]) (by kernel_rfl), wp_some, add_tup (by simp), wp_some]
    exact ⟨.mark (r % 3), rfl, (by omega : r % 3 < 3), fun _ => trivial, D4⟩
  · rw [ix_dic g6 (v := .tup [.int ((r : Int) % 3)]) (by kernel_rfl), wp_some, add_tup (by simp), wp_some]
    exact ⟨.clear (r % 3), rfl, (by omega : r % 3 < 3), fun _ => trivial, D4⟩
  · rw [ix_dic g6 (v := .tup [.int (y' : Int)]) (by kernel_rfl), wp_some, add_tup (by simp), wp_some]
    exact ⟨.rest y', rfl, ⟨by omega, by omega⟩, fun _ => trivial, D4⟩
theorem sp_lrow {O : Ora} (S : S_off O) {h : AH} {d c : Nat} {L : List (Nat × AO)} {many : Nat} {st : Bool} (D : Dc h d c L) (h0 : 0 < many) (h1 : many < 1000000) : wp (f_law_row.run O [.ref d, .int (many : Int), .bl st] h) (rowQ many st d c L) := by
  refine wp_run rfl ?_
  show wp (b_law_row O _ h) _
  unfold b_law_row
  show wp (sSeq _ (sSeq _ (sSeq _ rowRest)) O _ h) _
  refine wp_seq ?_
  simp [-seqQ_next, -s_sAll1, -s_sAll2, f_law_row, alloc]
  have D1 := D.new (.lst [.str "set", .str "add", .str "less", .str "get", .str "getx", .str "put", .str "putx", .str "pair", .str "pair", .str "lay", .str "ask", .str "ask", .str "done", .str "mark"])
  have g1 := D1.get (i := h.length) (o := .lst [.str "set", .str "add", .str "less", .str "get", .str "getx", .str "put", .str "putx", .str "pair", .str "pair", .str "lay", .str "ask", .str "ask", .str "done", .str "mark"]) (by simp)
  rw [seqQ_next]
  generalize h.length = a1 at D1 g1 ⊢
  generalize h ++ [AO.lst [.str "set", .str "add", .str "less", .str "get", .str "getx", .str "put", .str "putx", .str "pair", .str "pair", .str "lay", .str "ask", .str "ask", .str "done", .str "mark"]] = h2 at D1 g1 ⊢
  refine wp_seq ?_
  simp [-seqQ_next, -s_sAll1, -s_sAll2, alloc, pOpt]
  have D2 := D1.new (.lst [.str "clear", .str "rest", .str "get", .str "put", .str "set", .str "if", .str "go", .str "if"])
  have g2 := D2.get (i := h2.length) (o := .lst [.str "clear", .str "rest", .str "get", .str "put", .str "set", .str "if", .str "go", .str "if"]) (by simp)
  have g1 := D2.get (i := a1) (o := .lst [.str "set", .str "add", .str "less", .str "get", .str "getx", .str "put", .str "putx", .str "pair", .str "pair", .str "lay", .str "ask", .str "ask", .str "done", .str "mark"]) (by simp)
  generalize h2.length = a2 at D2 g2 ⊢
  generalize h2 ++ [AO.lst [.str "clear", .str "rest", .str "get", .str "put", .str "set", .str "if", .str "go", .str "if"]] = h3 at D2 g1 g2 ⊢
  have m : opA .Mult (.int 3) (.int (if st = true then 1 else 0)) h3 = some (.int (if st = true then 3 else 0), h3) := by
    rw [o_mul (by cases st <;> decide)]
    cases st <;> rfl
  obtain ⟨ys, es, ey⟩ : ∃ ys, sliceA none (some (8 - if st = true then (3 : Int) else 0)) (.ref a2) h3 = alloc (.lst ys) h3 ∧ [AV.str "set", .str "add", .str "less", .str "get", .str "getx", .str "put", .str "putx", .str "pair", .str "pair", .str "lay", .str "ask", .str "ask", .str "done", .str "mark"] ++ ys = rowWords st := by
    refine ⟨_, slice_of g2 rfl, ?_⟩
    cases st <;> kernel_rfl
  simp only [m, wp_some, o_sub, es, wp_alloc]
  have D3 := D2.new (.lst ys)
  have g3 := D3.get (i := h3.length) (o := .lst ys) (by simp)
  have g1 := D3.get (i := a1) (o := .lst [.str "set", .str "add", .str "less", .str "get", .str "getx", .str "put", .str "putx", .str "pair", .str "pair", .str "lay", .str "ask", .str "ask", .str "done", .str "mark"]) (by simp)
  have hly : ys.length ≤ 8 := by
    have := congrArg List.length ey
    rw [List.length_append] at this
    cases st <;> simp [rowWords] at this <;> omega
  rw [add_lst g1 g3 (by simp; omega), wp_some, ey, seqQ_next]
  have D4 := D3.new (.lst (rowWords st))
  generalize h3 ++ [AO.lst ys] = h4 at D4 ⊢
  have D4 := D4.sub (M := (h4.length, .lst (rowWords st)) :: L) (List.Sublist.cons_cons _ (List.Sublist.cons _ (List.Sublist.cons _ (List.sublist_cons_self _ _))))
  generalize h4.length = a4 at D4 ⊢
  generalize h4 ++ [AO.lst (rowWords st)] = h5 at D4 ⊢
  refine wp_seq ?_
  simp [-seqQ_next]
  refine D4.off S (by decide) (by decide) fun u h6 hu D5 => ?_
  have g6 := D5.get (i := a4) (o := .lst (rowWords st)) (by simp)
  have ll : 0 < (rowWords st).length ∧ (rowWords st).length ≤ 22 := by cases st <;> decide
  have key : ∀ (z : Str) (h7 : AH), AV.str z ∈ rowWords st ∨ z = "end" → Dc h7 d c L → wp (rowRest O [some (.ref d), some (.int (many : Int)), some (.bl st), some (.ref a4), some (.str z), none, none, none, none] h7) (ctQ (rowQ many st d c L)) := by
    intro z h7 hz D7
    cases st with
    | true =>
      simp only [rowWords, List.mem_cons, List.not_mem_nil, or_false, AV.str.injEq] at hz
      rcases hz with (hz | hz | hz | hz | hz | hz | hz | hz | hz | hz | hz | hz | hz | hz | hz | hz | hz | hz | hz) | hz
      · exact rowRest_E S D7 (by simp [hz])
      · exact rowRest_A S D7 (by simp [hz])
      · exact rowRest_A S D7 (by simp [hz])
      · exact rowRest_B S D7 (by simp [hz])
      · exact rowRest_A S D7 (by simp [hz])
      · exact rowRest_B S D7 (by simp [hz])
      · exact rowRest_A S D7 (by simp [hz])
      · exact rowRest_C S D7 (by simp [hz])
      · exact rowRest_C S D7 (by simp [hz])
      · exact rowRest_C S D7 (by simp [hz])
      · exact rowRest_E S D7 (by simp [hz])
      · exact rowRest_E S D7 (by simp [hz])
      · exact rowRest_E S D7 (by simp [hz])
      · exact rowRest_E S D7 (by simp [hz])
      · exact rowRest_E S D7 (by simp [hz])
      · exact rowRest_E S D7 (by simp [hz])
      · exact rowRest_B S D7 (by simp [hz])
      · exact rowRest_B S D7 (by simp [hz])
      · exact rowRest_E S D7 (by simp [hz])
      · exact rowRest_E S D7 (by simp [hz])
    | false =>
      simp only [rowWords, List.mem_cons, List.not_mem_nil, or_false, AV.str.injEq] at hz
      rcases hz with (hz | hz | hz | hz | hz | hz | hz | hz | hz | hz | hz | hz | hz | hz | hz | hz | hz | hz | hz | hz | hz | hz) | hz
      · exact rowRest_E S D7 (by simp [hz])
      · exact rowRest_A S D7 (by simp [hz])
      · exact rowRest_A S D7 (by simp [hz])
      · exact rowRest_B S D7 (by simp [hz])
      · exact rowRest_A S D7 (by simp [hz])
      · exact rowRest_B S D7 (by simp [hz])
      · exact rowRest_A S D7 (by simp [hz])
      · exact rowRest_C S D7 (by simp [hz])
      · exact rowRest_C S D7 (by simp [hz])
      · exact rowRest_C S D7 (by simp [hz])
      · exact rowRest_E S D7 (by simp [hz])
      · exact rowRest_E S D7 (by simp [hz])
      · exact rowRest_E S D7 (by simp [hz])
      · exact rowRest_E S D7 (by simp [hz])
      · exact rowRest_E S D7 (by simp [hz])
      · exact rowRest_E S D7 (by simp [hz])
      · exact rowRest_B S D7 (by simp [hz])
      · exact rowRest_B S D7 (by simp [hz])
      · exact rowRest_E S D7 (by simp [hz])
      · exact rowRest_D S D7 h0 h1 (by simp [hz])
      · exact rowRest_D S D7 h0 h1 (by simp [hz])
      · exact rowRest_D S D7 h0 h1 (by simp [hz])
      · exact rowRest_E S D7 (by simp [hz])
  rw [c_gt, wp_some]
  refine wp_ifB' (fun _ => ?_) (fun _ => ?_)
  · simp [-seqQ_next, len_lst g6]
    refine D5.off S (by omega) (by omega) fun i h7 hi D7 => ?_
    have g7 := D7.get (i := a4) (o := .lst (rowWords st)) (by simp)
    have hi : i < (rowWords st).length := by omega
    obtain ⟨z, ez⟩ : ∃ z, (rowWords st)[i] = .str z := by
      have : ∀ v ∈ rowWords st, ∃ z, v = .str z := by
        intro v hv
        cases st <;> simp only [rowWords, List.mem_cons, List.not_mem_nil, or_false] at hv
        · rcases hv with h | h | h | h | h | h | h | h | h | h | h | h | h | h | h | h | h | h | h | h | h | h <;> exact ⟨_, h⟩
        · rcases hv with h | h | h | h | h | h | h | h | h | h | h | h | h | h | h | h | h | h | h <;> exact ⟨_, h⟩
      exact this _ (List.getElem_mem hi)
    rw [ix_lst (i := i) (v := .str z) g7 (by rw [List.getElem?_eq_getElem hi, ez]), wp_some, seqQ_next]
    exact key z h7 (.inl (ez ▸ List.getElem_mem hi)) (D7.sub (List.sublist_cons_self _ _))
  · simp [-seqQ_next]
    rw [seqQ_next]
    exact key _ h6 (.inr rfl) (D5.sub (List.sublist_cons_self _ _))
/-! _law_program -/
def S_lprogram (O : Ora) : Prop := ∀ (h : AH) (d c : Nat) (L : List (Nat × AO)) (st : Bool), Dc h d c L → wp (O n_law_program [.ref d, .bl st] h) fun v h' => ∃ prog : List Row, v = .tup (prog.map Row.av) ∧ prog ≠ [] ∧ prog.length ≤ 40 ∧ (∀ r ∈ prog, r.Ok prog.length ∧ (st = true → r.Straight)) ∧ Dc h' d c L
theorem sp_lprogram {O : Ora} (S : S_off O) (S2 : S_lrow O) {h : AH} {d c : Nat} {L : List (Nat × AO)} {st : Bool} (D : Dc h d c L) : wp (f_law_program.run O [.ref d, .bl st] h) fun v h' => ∃ prog : List Row, v = .tup (prog.map Row.av) ∧ prog ≠ [] ∧ prog.length ≤ 40 ∧ (∀ r ∈ prog, r.Ok prog.length ∧ (st = true → r.Straight)) ∧ Dc h' d c L := by
  refine wp_run rfl ?_
  show wp (b_law_program O _ h) _
  unfold b_law_program
  simp only [s_sAll2, s_sAll1]
  refine wp_seq ?_
  simp [-seqQ_next, f_law_program, alloc]
  refine D.pick (n := 3) S rfl (by decide) (by decide) fun v h1 hv D => ?_
  obtain ⟨n4, rfl, hn4⟩ : ∃ n : Nat, v = .int (n : Int) ∧ (n = 8 ∨ n = 20 ∨ n = 40) := by
    simp only [List.mem_cons, List.not_mem_nil, or_false] at hv
    rcases hv with rfl | rfl | rfl
    · exact ⟨8, rfl, .inl rfl⟩
    · exact ⟨20, rfl, .inr (.inl rfl)⟩
    · exact ⟨40, rfl, .inr (.inr rfl)⟩
  refine D.off S (by omega) (by omega) fun u h1 hu D => ?_
  obtain ⟨many, em, hm⟩ := one_up u
  rw [o_add, wp_some, em, seqQ_next, s_sRet, s_fUn, wp_bnd, wp_bnd]
  have hi : (irange ((0 : Nat) : Int) (many : Int)).length = many := irange_len
  refine D.lcAll (P := fun v => ∃ r : Row, v = r.av ∧ (r.Ok many ∧ (st = true → r.Straight))) (iR1 (n := many) rfl (by omega)) (by rw [hi]; show many < 16777216; omega) (fun _ _ => trivial) ?_ ?_
  · intro x hh L' hx D' _
    refine ⟨_, rfl, ?_⟩
    simp [wipeA]
    refine wp_mono (S2 _ _ _ _ many st D' (by omega) (by omega)) ?_
    rintro _ h2 ⟨r, rfl, ok, s, D2⟩
    exact ⟨⟨r, rfl, ok, s⟩, D2⟩
  · intro acc dd h' hP hl D'
    obtain ⟨prog, rfl, ok⟩ := all_map hP
    rw [List.length_map, hi] at hl
    have g := D'.get (i := dd) (o := .lst (prog.map Row.av)) (by simp)
    rw [show tupleA (.ref dd) h' = some (.tup (prog.map Row.av), h') from by unfold tupleA; simp only [g]]
    simp
    exact ⟨prog, rfl, fun e => by rw [e] at hl; simp at hl; omega, by omega, fun r hr => hl.symm ▸ ok r hr, D'.sub (List.sublist_cons_self _ _)⟩
end SB

/-! The laws' asks; run. -/
namespace SB
open PySem
open L2 (Key)
theorem wp_lc {O : Ora} {vs : List Nat} {i : FI} {g : FG} {t : Option FE} {elt : FE} {σ : En} {h : AH} {Q : AV → AH → Prop} (e : wp (i O σ h) fun I h1 => wp (loopC h1.length I.ok g t elt O (wipeA σ vs) I.its (h1 ++ [.lst []])) Q) : wp (fLC vs i g t elt O σ h) Q := by
  unfold fLC
  rw [wp_bnd]
  exact e
theorem wp_range {O : Ora} {a : FE} {σ : En} {h : AH} {Q : It → AH → Prop} (e : wp (a O σ h) fun v h => ∃ n : Nat, v = .int (n : Int) ∧ n ≤ 1000000 ∧ Q ⟨irange ((0 : Nat) : Int) (n : Int), fun _ => True⟩ h) : wp (iRange1 a O σ h) Q := by
  unfold iRange1
  rw [wp_bnd]
  refine wp_mono e fun v h' ⟨n, ev, hn, q⟩ => ?_
  subst ev
  simp only []
  rw [if_pos (mid_small (by omega) (by omega)), wp_some]
  exact q
/-- .. each by itself, the walk -/
theorem Dc.loopAll {O : Ora} {d c : Nat} {L : List (Nat × AO)} {ok : AH → Prop} {its : List AV} {g : FG} {elt : FE} {σ : En} {h1 : AH} (P : AV → Prop) (D : Dc h1 d c L) (hl : its.length < lim)
    (hok : ∀ h, Dc h d c L → ok h)
    (hb : ∀ x h L', x ∈ its → Dc h d c L' → L.Sublist L' → ∃ σ1, g O x σ h = some (σ1, h) ∧ wp (elt O σ1 h) fun y h' => P y ∧ Dc h' d c L')
    {Q : AV → AH → Prop} (k : ∀ acc dd h', (∀ y ∈ acc, P y) → acc.length = its.length → Dc h' d c ((dd, .lst acc) :: L) → Q (.ref dd) h') : wp (loopC h1.length ok g none elt O σ its (h1 ++ [.lst []])) Q := by
  refine (D.new (.lst [])).comp (fun acc r => (∀ y ∈ acc, P y) ∧ ∀ x ∈ r, x ∈ its) ⟨fun y hy => (by cases hy), fun x hx => hx⟩ hl (fun acc h D => hok h (D.sub (List.sublist_cons_self _ _))) ?_ fun acc h' q => k acc _ h' q.1
  intro acc x r hh ⟨q1, q2⟩ D'
  obtain ⟨σ1, e1, w⟩ := hb x hh _ (q2 x (by simp)) D' (List.sublist_cons_self _ _)
  refine ⟨σ1, e1, wp_mono w fun y h' ⟨p, D2⟩ => ⟨⟨fun z hz => ?_, fun z hz => q2 z (by simp [hz])⟩, D2⟩⟩
  rcases List.mem_append.mp hz with hz | hz
  · exact q1 z hz
  · have : z = y := by simpa using hz
    subst this; exact p
/-! sorted numbers -/
theorem sorted_of {h : AH} {a : Nat} {ns : List Int} (ha : h[a]? = some (.lst (ns.map .int))) : sortedA (.ref a) h = some (.ref h.length, h ++ [.lst ((isort ns).map .int)]) := by
  unfold sortedA
  simp only [ha, intsOf_map]
  rfl
theorem asksOk_of {many : Nat} : ∀ (ps : List (Nat × Nat)) (ahead : Nat), (ps.map (·.1)).Pairwise (· ≤ ·) → (∀ p ∈ ps, ahead ≤ p.1 ∧ p.1 ≤ 200 ∧ p.2 < many) → AsksOk many ahead ps
  | [], _, _, _ => trivial
  | (t, w) :: r, ahead, hs, h => by
    obtain ⟨h1, h2, h3⟩ := h (t, w) (by simp)
    rw [List.map_cons, List.pairwise_cons] at hs
    exact ⟨h1, h2, h3, asksOk_of r t hs.2 fun p hp => ⟨hs.1 p.1 (List.mem_map_of_mem hp), (h p (by simp [hp])).2⟩⟩
def AskInv (many : Nat) (ss : List Int) (acc r : List AV) : Prop := ∃ (ps : List (Nat × Nat)) (rs : List Int), acc = ps.map pairV ∧ r = rs.map .int ∧ ss = (ps.map fun p => (p.1 : Int)) ++ rs ∧ ∀ p ∈ ps, p.2 < many
theorem sp_lasked {O : Ora} (S : S_off O) {h : AH} {d c : Nat} {L : List (Nat × AO)} {many : Nat} (D : Dc h d c L) (hm : many < 1000) : wp (f_law_asked.run O [.ref d, .int (many : Int)] h) fun v h' => ∃ (a : Nat) (asks : List (Nat × Nat)), v = .ref a ∧ asks.length ≤ 8 ∧ AsksOk many 0 asks ∧ Dc h' d c ((a, .lst (asks.map pairV)) :: L) := by
  refine wp_run rfl ?_
  show wp (b_law_asked O _ h) _
  unfold b_law_asked
  simp only [s_sAll2, s_sAll1]
  refine wp_seq ?_
  rw [s_sAsg, s_fUn, wp_bnd, wp_bnd]
  refine wp_lc (wp_range ?_)
  simp [f_law_asked]
  refine D.off S (by decide) (by decide) fun u h1 hu D => ?_
  have em : opA .Mult (.int (u : Int)) (.int (if 0 < many then 1 else 0)) h1 = some (.int ((u * (if 0 < many then 1 else 0) : Nat) : Int), h1) := by
    rw [o_mul (by split <;> decide)]
    split <;> simp
  rw [em, wp_some]
  obtain ⟨cnt, hcnt⟩ : ∃ cnt : Nat, cnt = u * (if 0 < many then 1 else 0) := ⟨_, rfl⟩
  have hc0 : cnt ≠ 0 → 0 < many := fun h => by
    rcases Nat.eq_zero_or_pos many with z | z
    · rw [z] at hcnt; simp at hcnt; exact absurd hcnt h
    · exact z
  have hc8 : cnt ≤ 8 := by
    rw [hcnt]
    split <;> omega
  rw [← hcnt]
  refine ⟨cnt, rfl, by omega, ?_⟩
  have hi : (irange 0 (cnt : Int)).length = cnt := irange_len
  refine D.loopAll (P := fun v => ∃ n : Nat, v = .int (n : Int) ∧ n ≤ 200) (by rw [hi]; show cnt < 16777216; omega) (fun _ _ => trivial) ?_ ?_
  · intro x hh L' hx D' _
    refine ⟨_, rfl, ?_⟩
    simp [wipeA, alloc]
    refine D'.pick (n := 2) S rfl (by decide) (by decide) fun v h1 hv D => ?_
    obtain ⟨n4, rfl, hn4⟩ := pick_int (a := 20) (b := 201) (u := 0) v hv
    refine D.off S (by omega) (by omega) fun sz h1 hsz D => ⟨⟨sz, rfl, by omega⟩, D⟩
  · intro acc dd h2 hP hl D2
    obtain ⟨bs, rfl, hb⟩ := all_map hP
    rw [List.length_map, hi] at hl
    have g := D2.get (i := dd) (o := .lst ((bs.map fun (n : Nat) => (n : Int)).map .int)) (by simp)
    rw [sorted_of g]
    have D3 := D2.new (.lst ((isort (bs.map fun (n : Nat) => (n : Int))).map .int))
    generalize h2 ++ [AO.lst ((isort (bs.map fun (n : Nat) => (n : Int))).map .int)] = h3 at D3 ⊢
    generalize h2.length = a3 at D3 ⊢
    have D3 := D3.sub (M := (a3, .lst ((isort (bs.map fun (n : Nat) => (n : Int))).map .int)) :: L) (List.Sublist.cons_cons _ (List.sublist_cons_self _ _))
    have hs := isort_sorted (bs.map fun (n : Nat) => (n : Int))
    have hp := isort_perm (bs.map fun (n : Nat) => (n : Int))
    generalize isort (bs.map fun (n : Nat) => (n : Int)) = ss at D3 hs hp ⊢
    have hss : ∀ x ∈ ss, ∃ n : Nat, x = (n : Int) ∧ n ≤ 200 := fun x hx => by
      obtain ⟨n, hn, rfl⟩ := List.mem_map.mp (hp.mem_iff.mp hx)
      exact ⟨n, rfl, hb n hn⟩
    have hsl : ss.length = cnt := by rw [hp.length_eq, List.length_map, hl]
    simp [-seqQ_next]
    refine wp_lc ?_
    have g3 := D3.get (i := a3) (o := .lst (ss.map .int)) (by simp)
    rw [itv (n := a3) (xs := ss.map .int) rfl g3, wp_some]
    refine (D3.new (.lst [])).comp (AskInv many ss) ⟨[], ss, rfl, rfl, rfl, fun p hp => by cases hp⟩ (by show (ss.map _).length < 16777216; rw [List.length_map]; omega) (fun acc h D => D.get (by simp)) ?_ ?_
    · rintro acc x r hh ⟨ps, rs, rfl, er, es, hp2⟩ D'
      cases rs with
      | nil => cases er
      | cons b rs =>
        obtain ⟨rfl, rfl⟩ := List.cons.inj er
        obtain ⟨n, rfl, hn⟩ := hss b (by rw [es]; simp)
        have h0 : 0 < many := hc0 (by rw [← hsl, es]; simp)
        refine ⟨_, rfl, ?_⟩
        simp [wipeA]
        refine D'.off S (by omega) (by omega) fun w h1 hw D => ⟨⟨ps ++ [(n, w)], rs, by simp [pairV], rfl, by rw [es]; simp, fun p hp => ?_⟩, D⟩
        rcases List.mem_append.mp hp with hp | hp
        · exact hp2 p hp
        · have : p = (n, w) := by simpa using hp
          subst this
          show w < many
          omega
    · rintro acc h4 ⟨ps, rs, rfl, er, es, hp2⟩ hl4 D4
      have : rs = [] := by cases rs with
        | nil => rfl
        | cons _ _ => cases er
      subst this
      rw [List.append_nil] at es
      refine ⟨_, rfl, ps, ?_, asksOk_of ps 0 ?_ fun p hp => ?_, D4.sub (List.Sublist.cons_cons _ (List.sublist_cons_self _ _))⟩
      · rw [es, List.length_map] at hsl; omega
      · rw [es] at hs
        rw [List.pairwise_map] at hs ⊢
        exact hs.imp fun h => by omega
      · obtain ⟨n, en, hn⟩ := hss (p.1 : Int) (by rw [es]; exact List.mem_map_of_mem (f := fun q : Nat × Nat => (q.1 : Int)) hp)
        exact ⟨Nat.zero_le _, by omega, hp2 p hp⟩
end SB

/-! run. -/
namespace SB
open PySem
open L2 (Key)
def Hs.go : Nat → Hs → Hs
  | 0, s => s
  | n + 1, s => (Hs.go n s).beat
def Hs.entry (s : Hs) : Told × Did := (s.open_.told, s.open_.did)
def Hs.log (n : Nat) (s : Hs) : List (Told × Did) := (List.range n).map fun k => (Hs.go k s).entry
def entryV (e : Told × Did) : AV := .tup [toldV e.1, didV e.2]
theorem Hs.log_succ (n : Nat) (s : Hs) : Hs.log (n + 1) s = Hs.log n s ++ [(Hs.go n s).entry] := by
  unfold Hs.log
  rw [List.range_succ, List.map_append]
  rfl
theorem Hs.log_len (n : Nat) (s : Hs) : (Hs.log n s).length = n := by simp [Hs.log]
theorem openGo_len (time : Nat) : ∀ (asks : List (Nat × Nat)) (d : Dev), (openGo time asks d).1.length ≤ asks.length
  | [], d => Nat.le_refl _
  | (t, w) :: r, d => by
    unfold openGo
    split
    · exact Nat.le_trans (openGo_len time r _) (by simp)
    · exact Nat.le_refl _
theorem machine_asks (s : Hs) : s.machine.1.asks = s.asks ∧ s.machine.1.time = s.time := by
  unfold Hs.machine
  split
  · exact ⟨rfl, rfl⟩
  · obtain ⟨z1, z2, z3, z4, z5, z6, z7, z8, z9, z10, z11⟩ := turn_same s s.cur
    simp only
    generalize (s.turn s.cur).1 = s1 at z1 z2 z3 z4 z5 z6 z7 z8 z9 z10 z11
    unfold Hs.stepped
    split
    · unfold Hs.close
      obtain ⟨y1, y2, y3, y4, y5, y6, y7, y8, y9, y10, y11⟩ := next_same { s1 with step := 0, dones := s1.dones ++ [(s1.row, s1.time)] } s.cur
      exact ⟨y3.trans z3, y6.trans z7⟩
    · exact ⟨z3, z7⟩
theorem beat1_asks (s : Hs) : s.beat1.asks = s.asks ∧ s.beat1.time = s.time + 1 := by
  unfold Hs.beat1 Hs.acts
  split
  · exact ⟨rfl, rfl⟩
  · obtain ⟨a, b⟩ := machine_asks s.moved
    exact ⟨a, congrArg (· + 1) b⟩
theorem beat_asks (s : Hs) : s.beat.asks.length ≤ s.asks.length ∧ s.beat.time = s.time + 1 := by
  obtain ⟨a, b⟩ := beat1_asks s.open_
  refine ⟨?_, b⟩
  show s.open_.beat1.asks.length ≤ _
  rw [a]
  exact openGo_len _ _ _
theorem go_asks (s : Hs) : ∀ n, (Hs.go n s).asks.length ≤ s.asks.length ∧ (Hs.go n s).time = s.time + n
  | 0 => ⟨Nat.le_refl _, rfl⟩
  | n + 1 => by
    obtain ⟨a, b⟩ := go_asks s n
    obtain ⟨c, d⟩ := beat_asks (Hs.go n s)
    exact ⟨Nat.le_trans c a, by show (Hs.go n s).beat.time = _; rw [d, b]; omega⟩
theorem go_ok {s : Hs} (k : s.Ok) : ∀ n, (Hs.go n s).Ok
  | 0 => k
  | n + 1 => (go_ok k n).beat
theorem Keep.fr {h0 h h' : AH} {own : List Nat} (k : Keep h0 h) (F : Fr own h h') (o : ∀ i ∈ own, h0.length ≤ i) : Keep h0 h' := fun i x e => by
  refine F.at_ i x (fun m => ?_) (k i x e)
  have := o i m
  have := lt_of e
  omega
/-- a hall of one's own: what was, stays -/
structure HO (h0 h : AH) (A : HAd) (s : Hs) (L : List (Nat × AO)) : Prop where
  on : A.G.map (·.2) = s.dev.on
  has : Has h (hallL A s ++ L)
  keep : Keep h0 h
  own : ∀ i ∈ A.own, h0.length ≤ i
  lo : ∀ p ∈ L, h0.length ≤ p.1
section
variable {O : Ora} {h0 h h' : AH} {A : HAd} {s : Hs} {L : List (Nat × AO)}
theorem HO.at_ (D : HO h0 h A s L) : HallAt h A s := ⟨D.on, D.has.left⟩
theorem HO.adv {A' : HAd} {s' : Hs} (D : HO h0 h A s L) (D' : HallAt h' A' s') (V : Adv A.own A'.own h h') : HO h0 h' A' s' L :=
  ⟨D'.on, D.has.adv D'.has (by rw [hallL_adr, hallL_adr]; exact V), D.keep.fr V.fr D.own, fun i hi => by
    rcases V.new i hi with z | z
    · exact D.own i z
    · have := D.keep.len; omega, D.lo⟩
theorem HO.new (D : HO h0 h A s L) (o : AO) : HO h0 (h ++ [o]) A s ((h.length, o) :: L) :=
  ⟨D.on, (D.has.new o).perm (by
    rw [List.append_assoc]
    exact List.Perm.append_left _ (List.perm_append_singleton _ _).symm), D.keep.trans (Keep.app _ _), D.own, fun p hp => by
    rcases List.mem_cons.mp hp with rfl | hp
    · exact D.keep.len
    · exact D.lo p hp⟩
theorem HO.app (D : HO h0 h A s L) (t : AH) : HO h0 (h ++ t) A s L := ⟨D.on, D.has.app t, D.keep.trans (Keep.app _ _), D.own, D.lo⟩
theorem HO.set0 {i : Nat} {o : AO} {R : List (Nat × AO)} (D : HO h0 h A s ((i, o) :: R)) (o' : AO) : HO h0 (h.set i o') A s ((i, o') :: R) :=
  ⟨D.on, D.has.setAt o', D.keep.fr (Fr.set (own := [i]) (by simp)) (fun j hj => by
    have : j = i := by simpa using hj
    subst this
    exact D.lo (j, o) (by simp)), D.own, fun p hp => by
    rcases List.mem_cons.mp hp with rfl | hp
    · exact D.lo (i, o) (by simp)
    · exact D.lo p (by simp [hp])⟩
theorem mk_HO (S : S_hall_init O) {w m q : Nat} {prog : List Row} {ws : List Wk} {mem : List Int} {asks : List (Nat × Nat)}
    (hw : h[w]? = some (.lst (ws.map Wk.av))) (hm : h[m]? = some (.lst (mem.map .int))) (hq : h[q]? = some (.lst (asks.map pairV))) (g : Good4 prog ws mem asks) :
    ∃ A h', O n_Hall_init [.ref h.length, .tup (prog.map Row.av), .ref w, .ref m, .ref q] (h ++ [.ins "Hall" []]) = some (.non, h') ∧ A.a = h.length ∧ HO h h' A (Hs.new prog ws mem asks) [] := by
  obtain ⟨A, h', e, ea, D, k, own⟩ := mk_hall S (L := []) ⟨List.nodup_nil, fun p hp => by cases hp⟩ hw hm hq g
  exact ⟨A, h', e, ea, D.on, D.has, k, own, fun p hp => by cases hp⟩
end
/-- what shown tells, laid at a -/
def shownT (s : Hs) (a : Nat) : AV := .tup [.int s.time, rowV s, .ref a, .ref (a + 1), .ref (a + 2), .ref (a + 4)]
def shownO (s : Hs) (a : Nat) : List (Nat × AO) := [(a, .lst (s.cells.map .int)), (a + 1, .lst (s.mem.map .int)), (a + 2, .lst (s.marks.map .bl)), (a + 4, .lst (s.dev.sorted.map tellV))]
theorem shown_has {h : AH} {L : List (Nat × AO)} {s : Hs} (H : Has h L) : Has (h ++ s.shownL) (shownO s h.length ++ L) := by
  obtain ⟨a1, a2, a3, a4⟩ := shown_at (h := h) (s := s)
  refine ⟨?_, fun p hp => ?_⟩
  · rw [List.map_append, List.nodup_append]
    refine ⟨?_, H.nd, fun x hx y hy => ?_⟩
    · simp [shownO]
    · obtain ⟨p, hp, rfl⟩ := List.mem_map.mp hy
      have := H.lt (i := p.1) (o := p.2) hp
      simp [shownO] at hx
      omega
  · rcases List.mem_append.mp hp with hp | hp
    · simp only [shownO, List.mem_cons, List.not_mem_nil, or_false] at hp
      rcases hp with rfl | rfl | rfl | rfl
      · exact a1
      · exact a2
      · exact a3
      · exact a4
    · exact Keep.app h _ _ _ (H.at_ p hp)
def S_need_beats (O : Ora) : Prop := ∀ (n : Nat) (h : AH), n ≤ 300 → O n_need_beats [.int (n : Int)] h = some (.non, h)
theorem sp_need_beats {O : Ora} (S : S_between O) {n : Nat} {h : AH} (hn : n ≤ 300) : f_need_beats.run O [.int (n : Int)] h = some (.non, h) := by
  have e := S (n : Int) 0 300 h
  have c1 : (0 : Int) ≤ (n : Int) := by omega
  have c2 : (n : Int) ≤ 300 := by omega
  rw [decide_eq_true c1, decide_eq_true c2] at e
  refine of_wp (wp_run rfl ?_)
  simp [f_need_beats, b_need_beats, e]
def runV (s : Hs) (lg a : Nat) : AV := .tup [.ref lg, shownT s a]
def S_run (O : Ora) : Prop := ∀ (h : AH) (w m q : Nat) (prog : List Row) (ws : List Wk) (mem : List Int) (asks : List (Nat × Nat)) (n : Nat), h[w]? = some (.lst (ws.map Wk.av)) → h[m]? = some (.lst (mem.map .int)) → h[q]? = some (.lst (asks.map pairV)) → Good4 prog ws mem asks → n ≤ 300 →
  ∃ h' lg a, O n_run [.tup (prog.map Row.av), .ref w, .ref m, .ref q, .int (n : Int)] h = some (runV (Hs.go n (Hs.new prog ws mem asks)) lg a, h') ∧ Keep h h' ∧ (∀ p ∈ (lg, AO.lst ((Hs.log n (Hs.new prog ws mem asks)).map entryV)) :: shownO (Hs.go n (Hs.new prog ws mem asks)) a, h.length ≤ p.1) ∧
    Has h' ((lg, .lst ((Hs.log n (Hs.new prog ws mem asks)).map entryV)) :: shownO (Hs.go n (Hs.new prog ws mem asks)) a)
theorem sp_run {O : Ora} (S1 : S_hall_init O) (S2 : S_need_beats O) (S3 : S_beat O) (S4 : S_shown O) {h : AH} {w m q : Nat} {prog : List Row} {ws : List Wk} {mem : List Int} {asks : List (Nat × Nat)} {n : Nat} (hw : h[w]? = some (.lst (ws.map Wk.av))) (hm : h[m]? = some (.lst (mem.map .int))) (hq : h[q]? = some (.lst (asks.map pairV))) (g : Good4 prog ws mem asks) (hn : n ≤ 300) :
    ∃ h' lg a, f_run.run O [.tup (prog.map Row.av), .ref w, .ref m, .ref q, .int (n : Int)] h = some (runV (Hs.go n (Hs.new prog ws mem asks)) lg a, h') ∧ Keep h h' ∧ (∀ p ∈ (lg, AO.lst ((Hs.log n (Hs.new prog ws mem asks)).map entryV)) :: shownO (Hs.go n (Hs.new prog ws mem asks)) a, h.length ≤ p.1) ∧
    Has h' ((lg, .lst ((Hs.log n (Hs.new prog ws mem asks)).map entryV)) :: shownO (Hs.go n (Hs.new prog ws mem asks)) a) := by
  obtain ⟨A, h1, e1, ea, D1⟩ := mk_HO S1 hw hm hq g
  have ok := g.ok
  have a0 : (Hs.new prog ws mem asks).asks.length ≤ 8 := g.a1
  have t0 : (Hs.new prog ws mem asks).time = 0 := rfl
  generalize Hs.new prog ws mem asks = s0 at D1 ok a0 t0 ⊢
  let σ : En := [some (.tup (prog.map Row.av)), some (.ref w), some (.ref m), some (.ref q), some (.int (n : Int)), some (.ref A.a), none, none]
  have s1 : sAsg (gVar 5) (fMake "Hall" [fVar 0, fVar 1, fVar 2, fVar 3]) O [some (.tup (prog.map Row.av)), some (.ref w), some (.ref m), some (.ref q), some (.int (n : Int)), none, none, none] h = some (.next σ, h1) := by
    simp [e1, ea, σ]
  have s2 : sExpr (fCall ("need_beats", none) [fVar 4]) O σ h1 = some (.next σ, h1) := by
    simp [σ, S2 n h1 hn]
  have hl : (irange ((0 : Nat) : Int) (n : Int)).length = n := irange_len
  obtain ⟨acc, h2, e2, ⟨k, A2, ea2, er, ek, D2⟩, _⟩ := loopC_inv (d := h1.length) (ok := fun _ => True) (g := gVar 7) (elt := fMeth "beat" (fVar 5) []) (O := O) (σ := σ)
    (fun acc r hh => ∃ k A', A'.a = A.a ∧ r = irange ((k : Nat) : Int) (n : Int) ∧ (k ≤ n ∧ acc = (Hs.log k s0).map entryV) ∧ HO h hh A' (Hs.go k s0) [(h1.length, .lst acc)])
    (fun acc x r hh ⟨k, A', ea', er, ⟨hk, eacc⟩, D⟩ hd => by
      have hk2 : k < n := by
        rcases Nat.lt_or_ge k n with z | z
        · exact z
        · have : k = n := by omega
          subst this
          rw [irange_nil] at er
          cases er
      rw [irange_cons hk2] at er
      obtain ⟨rfl, rfl⟩ := List.cons.inj er
      obtain ⟨q1, q2⟩ := go_asks s0 k
      obtain ⟨G, h3, e3, D3, V3⟩ := S3 hh A' (Hs.go k s0) D.at_ (go_ok ok k) (by omega) (by omega)
      have D4 := D.adv D3 V3
      have el : acc ++ [AV.tup [toldV (Hs.go k s0).open_.told, didV (Hs.go k s0).open_.did]] = (Hs.log (k + 1) s0).map entryV := by
        rw [Hs.log_succ, List.map_append, eacc]
        rfl
      have cm := (call_of (O := O) (m := "beat") (vs := []) (h' := hh) D.at_.a (by kernel_rfl)).trans e3
      rw [ea'] at cm
      refine ⟨trivial, _, hh, _, h3, rfl, ?_, D4.has.get (by simp), ?_, k + 1, { A' with G := G }, ea', rfl, ⟨hk2, el⟩, D4.set0 _⟩
      · simp [σ, cm]
      · rw [eacc, List.length_map, Hs.log_len]; show k < 16777216; omega)
    (fun _ _ _ _ => trivial) (irange ((0 : Nat) : Int) (n : Int)) [] (h1 ++ [.lst []]) ⟨0, A, rfl, rfl, ⟨Nat.zero_le _, rfl⟩, D1.new _⟩ (by simp)
  have hk : k = n := by
    rcases Nat.lt_or_ge k n with z | z
    · rw [irange_cons z] at er; cases er
    · omega
  subst hk
  have s3 : sAsg (gVar 6) (fLC [7] (iRange1 (fVar 4)) (gVar 7) none (fMeth "beat" (fVar 5) [])) O σ h1 = some (.next (σ.set 6 (some (.ref h1.length))), h2) := by
    rw [s_sAsg, lc_of (iR1 (n := k) rfl (by omega))]
    show bnd (loopC h1.length (fun _ => True) (gVar 7) none (fMeth "beat" (fVar 5) []) O σ (irange ((0 : Nat) : Int) (k : Int)) (h1 ++ [.lst []])) _ = _
    rw [e2, bnd_some]
    rfl
  have e4 := S4 h2 A2 (Hs.go k s0) D2.at_ (go_ok ok k).dev
  have cm := (call_of (O := O) (m := "shown") (vs := []) (h' := h2) D2.at_.a (by kernel_rfl)).trans e4
  rw [ea2] at cm
  refine ⟨h2 ++ (Hs.go k s0).shownL, h1.length, h2.length, ?_, D2.keep.trans (Keep.app _ _), ?_, ?_⟩
  · refine run_ret rfl ?_
    show sSeq _ (sSeq _ (sSeq _ _)) O [some (.tup (prog.map Row.av)), some (.ref w), some (.ref m), some (.ref q), some (.int (k : Int)), none, none, none] h = _
    rw [seq_next s1, seq_next s2, seq_next s3]
    simp [σ, cm]
    rfl
  · have kl := D2.keep.len
    have kl1 := D1.keep.len
    intro p hp
    simp only [shownO, List.mem_cons, List.not_mem_nil, or_false] at hp
    rcases hp with rfl | rfl | rfl | rfl | rfl <;> show h.length ≤ _ <;> omega
  · have H := shown_has (s := Hs.go k s0) D2.has.right
    rw [ek.2] at H
    exact H.perm (List.perm_append_singleton _ _).symm
/-- new things beside the dice -/
theorem Dc.fresh {h h' : AH} {d c : Nat} {L M : List (Nat × AO)} (D : Dc h d c L) (k : Keep h h') (H : Has h' M) (lo : ∀ p ∈ M, h.length ≤ p.1) : Dc h' d c (M ++ L) := by
  obtain ⟨x, cs, y, H0⟩ := D
  refine ⟨x, cs, y, ⟨?_, fun p hp => ?_⟩⟩
  · rw [List.map_append, List.map_append, List.nodup_append, List.nodup_append]
    have n0 := H0.nd
    rw [List.map_append, List.nodup_append] at n0
    have lt : ∀ p ∈ diceL d c x cs y ++ L, p.1 < h.length := fun p hp => H0.lt (i := p.1) (o := p.2) hp
    refine ⟨n0.1, ⟨H.nd, n0.2.1, fun a ha b hb e => ?_⟩, fun a ha b hb e => ?_⟩
    · obtain ⟨p, hp, rfl⟩ := List.mem_map.mp ha
      obtain ⟨r, hr, rfl⟩ := List.mem_map.mp hb
      have := lo p hp
      have := lt r (List.mem_append_right _ hr)
      omega
    · obtain ⟨p, hp, rfl⟩ := List.mem_map.mp ha
      rcases List.mem_append.mp hb with hb | hb
      · obtain ⟨r, hr, rfl⟩ := List.mem_map.mp hb
        have := lo r hr
        have := lt p (List.mem_append_left _ hp)
        omega
      · exact n0.2.2 _ ha b hb e
  · rcases List.mem_append.mp hp with hp | hp
    · exact k _ _ (H0.at_ p (List.mem_append_left _ hp))
    · rcases List.mem_append.mp hp with hp | hp
      · exact H.at_ p hp
      · exact k _ _ (H0.at_ p (List.mem_append_right _ hp))
theorem Dc.run {O : Ora} (S : S_run O) {h : AH} {d c w m q : Nat} {L : List (Nat × AO)} {prog : List Row} {ws : List Wk} {mem : List Int} {asks : List (Nat × Nat)} {n : Nat} (D : Dc h d c L) (hw : h[w]? = some (.lst (ws.map Wk.av))) (hm : h[m]? = some (.lst (mem.map .int))) (hq : h[q]? = some (.lst (asks.map pairV))) (g : Good4 prog ws mem asks) (hn : n ≤ 300) {Q : AV → AH → Prop}
    (k : ∀ h' lg a, Dc h' d c ((lg, .lst ((Hs.log n (Hs.new prog ws mem asks)).map entryV)) :: shownO (Hs.go n (Hs.new prog ws mem asks)) a ++ L) → Keep h h' → Q (runV (Hs.go n (Hs.new prog ws mem asks)) lg a) h') : wp (O n_run [.tup (prog.map Row.av), .ref w, .ref m, .ref q, .int (n : Int)] h) Q := by
  obtain ⟨h', lg, a, e, kp, lo, H⟩ := S h w m q prog ws mem asks n hw hm hq g hn
  exact ⟨_, _, e, k h' lg a (D.fresh kp H lo) kp⟩
section
variable {T : Dn → Option Df}
theorem HallT.g_need_beats (t : HallT T) (e : T n_need_beats = some f_need_beats) (k : Nat) : S_need_beats (ora T (k + 2)) := fun n h hn => (ora_some (k + 1) e _ _).trans (sp_need_beats (t.g_between k) hn)
theorem HallT.g_run (t : HallT T) (e1 : T n_run = some f_run) (e2 : T n_need_beats = some f_need_beats) (e3 : T n_Hall_beat = some f_Hall_beat) (e4 : T n_Device_told = some f_Device_told) (e5 : T n_Hall_shown = some f_Hall_shown) (k : Nat) : S_run (ora T (k + 7)) := fun h w m q prog ws mem asks n hw hm hq g hn => by
  obtain ⟨h', lg, a, e, r⟩ := sp_run (t.g_hall_init (k + 1)) (t.g_need_beats e2 (k + 4)) (t.g_beat e3 k) (g_shown e4 e5 (k + 4)) hw hm hq g hn
  exact ⟨h', lg, a, (ora_some (k + 6) e1 _ _).trans e, r⟩
theorem g_lwork (e0 : T n_law_off = some f_law_off) (e : T n_law_work = some f_law_work) (k : Nat) : S_lwork (ora T (k + 2)) := fun h d c L many D h0 h1 => wp_ora e (sp_lwork (g_off e0 k) D h0 h1)
theorem g_lworks (e0 : T n_law_off = some f_law_off) (e : T n_law_work = some f_law_work) (e1 : T n_law_works = some f_law_works) (k : Nat) : S_lworks (ora T (k + 3)) := fun h d c L most D h0 => wp_ora e1 (sp_lworks (g_off e0 (k + 1)) (g_lwork e0 e k) D h0)
theorem g_lasked (e0 : T n_law_off = some f_law_off) (e : T n_law_asked = some f_law_asked) (k : Nat) : S_lasked (ora T (k + 2)) := fun h d c L many D h0 => wp_ora e (sp_lasked (g_off e0 k) D h0)
theorem g_lrow (e0 : T n_law_off = some f_law_off) (e : T n_law_row = some f_law_row) (k : Nat) : S_lrow (ora T (k + 2)) := fun h d c L many st D h0 h1 => wp_ora e (sp_lrow (g_off e0 k) D h0 h1)
theorem g_lprogram (e0 : T n_law_off = some f_law_off) (e : T n_law_row = some f_law_row) (e1 : T n_law_program = some f_law_program) (k : Nat) : S_lprogram (ora T (k + 3)) := fun h d c L st D => wp_ora e1 (sp_lprogram (g_off e0 (k + 1)) (g_lrow e0 e k) D)
end
end SB

/-! Equality of what is alike. -/
namespace SB
open PySem
open L2 (Key)
theorem shaped_iff {d : PyData} : SeqAt.shaped d = true ↔ PyData.canLay0 d = true ∧ PyData.depth d ≤ 64 := by
  unfold SeqAt.shaped
  rw [Bool.and_eq_true, decide_eq_true_iff]
theorem eqD_refl {d : PyData} (hs : SeqAt.shaped d = true) : eqD (some d) (some d) = some true := by
  unfold eqD
  simp only
  rw [if_pos ⟨hs, hs⟩, SeqAt.eqv_refl d (shaped_iff.mp hs).1]
theorem eq_same {h : AH} {x y : AV} {d : PyData} (hx : toH h 6 x = some d) (hy : toH h 6 y = some d) (hs : SeqAt.shaped d = true) : cmpA .Eq x y h = some (.bl true, h) := by
  show eqO x y h = _
  unfold eqO eqA
  rw [hx, hy, eqD_refl hs]
  rfl
theorem ne_same {h : AH} {x y : AV} {d : PyData} (hx : toH h 6 x = some d) (hy : toH h 6 y = some d) (hs : SeqAt.shaped d = true) : cmpA .NotEq x y h = some (.bl false, h) := by
  show neO x y h = _
  unfold neO eqA
  rw [hx, hy, eqD_refl hs]
  rfl
theorem toH_lst {h : AH} {a n : Nat} {xs : List AV} {ds : List PyData} (ha : h[a]? = some (.lst xs)) (e : mapO (toH h n) xs = some ds) : toH h (n + 1) (.ref a) = some (.list ds) := by
  unfold toH
  simp only [ha, e]
  rfl
/-- lists of numbers alike -/
theorem ne_ints {h : AH} {a b : Nat} {xs : List Int} (ha : h[a]? = some (.lst (xs.map .int))) (hb : h[b]? = some (.lst (xs.map .int))) : cmpA .NotEq (.ref a) (.ref b) h = some (.bl false, h) :=
  ne_same (toH_lst ha (ints_D xs)) (toH_lst hb (ints_D xs)) (ints_shaped xs)
theorem slice_tup {h : AH} {xs ys : List AV} {lo hi : Option Int} (ey : cutA xs lo hi = ys) : sliceA lo hi (.tup xs) h = some (.tup ys, h) := by
  unfold sliceA
  simp only [ey]
def Did.isAcc : Did → Bool
  | .acc _ => true
  | _ => false
def Did.isWaits : Did → Bool
  | .waits => true
  | _ => false
@[simp] theorem inst_tup {h : AH} {d : Did} : isinstA "tuple" (didV d) h = some (.bl d.isAcc, h) := by
  cases d <;> kernel_rfl
theorem did_waits {h : AH} {d : Did} : cmpA .Eq (didV d) (.str "waits") h = some (.bl d.isWaits, h) := by
  cases d with
  | acc a =>
    obtain ⟨p, x, y⟩ := a
    cases p <;> kernel_rfl
  | _ => kernel_rfl
theorem str_get {h : AH} {p : Bool} : cmpA .Eq (.str (if p = true then "put" else "get")) (.str "get") h = some (.bl (!p), h) := by
  cases p <;> kernel_rfl
end SB

/-! More rules for walks. -/
namespace SB
open PySem
open L2 (Key)
theorem wp_forI {O : Ora} {σ : En} {h : AH} {i : FI} {g : FG} {b : FS} {Q : Ct → AH → Prop} (e : wp (i O σ h) fun I h1 => wp (loopF I.ok g b O I.its σ h1) Q) : wp (sFor i g b O σ h) Q := by
  unfold sFor
  rw [wp_bnd]
  exact e
theorem loopN_wp {O : Ora} {σ : En} {h1 : AH} {g : FG} {b : FS} {lo n : Nat} {ok : AH → Prop} {Q : Ct → AH → Prop} (hl : lo ≤ n) (hok : ∀ h, ok h) (P : Nat → En → AH → Prop) (h0 : P lo σ h1)
    (hb : ∀ (k : Nat) σ h, k < n → P k σ h → wp (bnd (g O (.int (k : Int)) σ h) fun σ h => b O σ h) (forQ (P (k + 1)) Q)) (he : ∀ σ h, P n σ h → Q (.next σ) h) : wp (loopF ok g b O (irange (lo : Int) (n : Int)) σ h1) Q := by
  have e : iVal (fC (.tup (irange (lo : Int) (n : Int)))) O σ h1 = some (⟨irange (lo : Int) (n : Int), fun _ => True⟩, h1) := rfl
  refine loopF_wp (fun r σ h => ∃ k : Nat, k ≤ n ∧ r = irange (k : Int) (n : Int) ∧ P k σ h) ?_ ?_ _ _ _ ⟨lo, hl, rfl, h0⟩
  · rintro x r σ h ⟨k, hk, er, p⟩
    refine ⟨hok h, ?_⟩
    rcases Nat.lt_or_ge k n with hk2 | hk2
    · rw [irange_cons hk2] at er
      obtain ⟨rfl, rfl⟩ := List.cons.inj er
      refine wp_mono (hb k σ h hk2 p) fun c h' q => ?_
      cases c with
      | next σ2 => exact ⟨k + 1, hk2, rfl, q⟩
      | ret v => exact q
    · have : k = n := by omega
      subst this
      rw [irange_nil] at er
      cases er
  · rintro σ h ⟨k, hk, er, p⟩
    refine ⟨hok h, ?_⟩
    rcases Nat.lt_or_ge k n with hk2 | hk2
    · rw [irange_cons hk2] at er
      cases er
    · have : k = n := by omega
      subst this
      exact he σ h p
/-- a comprehension with a test, of pure parts -/
theorem Dc.lcFilter {O : Ora} {d c : Nat} {L : List (Nat × AO)} {vs : List Nat} {i : FI} {g : FG} {t elt : FE} {σ : En} {I : It} {h h1 : AH} {α : Type} {xs : List α} {f e : α → AV} {p : α → Bool} (ei : i O σ h = some (I, h1)) (D : Dc h1 d c L) (ex : I.its = xs.map f) (hl : xs.length < lim)
    (hok : ∀ h, Dc h d c L → I.ok h)
    (hb : ∀ a ∈ xs, ∀ h, Dc h d c L → ∃ σ1, g O (f a) (wipeA σ vs) h = some (σ1, h) ∧ t O σ1 h = some (.bl (p a), h) ∧ (p a = true → elt O σ1 h = some (e a, h)))
    {Q : AV → AH → Prop} (k : ∀ dd h', Dc h' d c ((dd, .lst ((xs.filter p).map e)) :: L) → Q (.ref dd) h') : wp (fLC vs i g (some t) elt O σ h) Q := by
  rw [lc_of ei, ex]
  have D0 := D.new (.lst [])
  obtain ⟨acc', h', e1, ⟨as, bs, ea, eb, ed, D1⟩, _⟩ := loopC_test (d := h1.length) (ok := I.ok) (g := g) (t := t) (elt := elt) (O := O) (σ := wipeA σ vs)
    (fun acc r hh => ∃ as bs, xs = as ++ bs ∧ r = bs.map f ∧ acc = (as.filter p).map e ∧ Dc hh d c ((h1.length, .lst acc) :: L))
    (fun acc x r hh ⟨as, bs, e1, e2, e3, D⟩ hd => by
      cases bs with
      | nil => cases e2
      | cons b bs =>
        obtain ⟨rfl, rfl⟩ := List.cons.inj e2
        have DL := D.sub (List.sublist_cons_self _ _)
        obtain ⟨σ1, q1, q2, q3⟩ := hb b (by rw [e1]; simp) hh DL
        refine ⟨hok hh DL, σ1, hh, p b, hh, q1, q2, ?_⟩
        cases hp : p b with
        | true =>
          rw [if_pos rfl]
          refine ⟨e b, hh, q3 hp, hd, ?_, as ++ [b], bs, by rw [e1]; simp, rfl, by rw [e3]; simp [hp], D.set0 _⟩
          rw [e3, List.length_map]
          have h1 := List.length_filter_le p as
          have h2 : as.length ≤ xs.length := by rw [e1]; simp
          omega
        | false =>
          rw [if_neg (by decide)]
          exact ⟨⟨as ++ [b], bs, by rw [e1]; simp, rfl, by rw [e3]; simp [hp], D⟩, hd⟩)
    (fun acc hh ⟨as, bs, e1, e2, e3, D⟩ hd => hok hh (D.sub (List.sublist_cons_self _ _))) (xs.map f) [] (h1 ++ [.lst []]) ⟨[], xs, rfl, rfl, rfl, D0⟩ (by simp)
  have : bs = [] := by cases bs with
    | nil => rfl
    | cons _ _ => cases eb
  subst this
  rw [List.append_nil] at ea
  subst ea
  subst ed
  exact ⟨_, _, e1, k _ _ D1⟩
/-- .. without a test -/
theorem Dc.lcMap {O : Ora} {d c : Nat} {L : List (Nat × AO)} {vs : List Nat} {i : FI} {g : FG} {elt : FE} {σ : En} {I : It} {h h1 : AH} {α : Type} {xs : List α} {f e : α → AV} (ei : i O σ h = some (I, h1)) (D : Dc h1 d c L) (ex : I.its = xs.map f) (hl : xs.length < lim)
    (hok : ∀ h, Dc h d c L → I.ok h)
    (hb : ∀ a ∈ xs, ∀ h, Dc h d c L → ∃ σ1, g O (f a) (wipeA σ vs) h = some (σ1, h) ∧ elt O σ1 h = some (e a, h))
    {Q : AV → AH → Prop} (k : ∀ dd h', Dc h' d c ((dd, .lst (xs.map e)) :: L) → Q (.ref dd) h') : wp (fLC vs i g none elt O σ h) Q := by
  refine D.lc ei (fun acc r => ∃ as bs, xs = as ++ bs ∧ r = bs.map f ∧ acc = as.map e) ⟨[], xs, rfl, ex, rfl⟩ (by rw [ex, List.length_map]; exact hl) hok ?_ ?_
  · rintro acc x r hh dd ⟨as, bs, e1, e2, e3⟩ D'
    cases bs with
    | nil => cases e2
    | cons b bs =>
      obtain ⟨rfl, rfl⟩ := List.cons.inj e2
      obtain ⟨σ1, q1, q2⟩ := hb b (by rw [e1]; simp) hh (D'.sub (List.sublist_cons_self _ _))
      refine ⟨σ1, q1, _, _, q2, ⟨as ++ [b], bs, by rw [e1]; simp, rfl, by rw [e3]; simp⟩, D'⟩
  · rintro acc dd h' ⟨as, bs, e1, e2, e3⟩ _ D'
    have : bs = [] := by cases bs with
      | nil => rfl
      | cons _ _ => cases e2
    subst this
    rw [List.append_nil] at e1
    subst e1
    exact k dd h' (e3 ▸ D')
/-- what is beside the hall, and the hall -/
theorem HD.ofDc {h : AH} {d c : Nat} {A : HAd} {s : Hs} {X L : List (Nat × AO)} (on : A.G.map (·.2) = s.dev.on) (D : Dc h d c (X ++ (hallL A s ++ L))) : HD h d c A s (X ++ L) := by
  refine ⟨on, D.perm ?_⟩
  rw [← List.append_assoc, ← List.append_assoc]
  exact List.Perm.append_right _ List.perm_append_comm
theorem HD.new {h : AH} {d c : Nat} {A : HAd} {s : Hs} {L : List (Nat × AO)} (D : HD h d c A s L) (o : AO) : HD (h ++ [o]) d c A s ((h.length, o) :: L) :=
  HD.ofDc (X := [(h.length, o)]) D.on (D.dc.new o)
theorem HD.perm {h : AH} {d c : Nat} {A : HAd} {s : Hs} {L M : List (Nat × AO)} (D : HD h d c A s L) (p : M.Perm L) : HD h d c A s M := ⟨D.on, D.dc.perm (List.Perm.append_left _ p)⟩
/-- one thing beside the hall, put ahead -/
theorem HD.front {h : AH} {d c : Nat} {A : HAd} {s : Hs} {p : Nat × AO} {L : List (Nat × AO)} (D : HD h d c A s (p :: L)) : Dc h d c (p :: (hallL A s ++ L)) := D.dc.perm List.perm_middle.symm
theorem HD.back {h : AH} {d c : Nat} {A : HAd} {s : Hs} {p : Nat × AO} {L : List (Nat × AO)} (on : A.G.map (·.2) = s.dev.on) (D : Dc h d c (p :: (hallL A s ++ L))) : HD h d c A s (p :: L) := HD.ofDc (X := [p]) on D
/-- numbers' lists against [] -/
theorem ne_nil_ints {h : AH} {a b : Nat} {xs : List Int} (ha : h[a]? = some (.lst (xs.map .int))) (hb : h[b]? = some (.lst [])) : cmpA .NotEq (.ref a) (.ref b) h = some (.bl (!xs.isEmpty), h) := by
  have := neE ha hb (ints_D xs) (ints_shaped xs)
  rw [this]
  cases xs <;> rfl
theorem ne_bl {h : AH} {a b : Bool} : cmpA .NotEq (.bl a) (.bl b) h = some (.bl (a != b), h) := by
  cases a <;> cases b <;> kernel_rfl
theorem perm3 {α : Type} {a b c : α} {r : List α} : (a :: b :: c :: r).Perm (c :: b :: a :: r) :=
  (List.Perm.cons a (List.Perm.swap c b r)).trans ((List.Perm.swap c a (b :: r)).trans (List.Perm.cons c (List.Perm.swap b a r)))
/-- shown, its lists beside -/
theorem HD.shown_call' {O : Ora} {h : AH} {d c : Nat} {A : HAd} {s : Hs} {L : List (Nat × AO)} (S : S_shown O) (D : HD h d c A s L) (ok : s.dev.Ok) {Q : AV → AH → Prop}
    (k : HD (h ++ s.shownL) d c A s (shownO s h.length ++ L) → Q (shownT s h.length) (h ++ s.shownL)) : wp (callM O "shown" (.ref A.a) [] h h) Q := by
  have H : Has (h ++ s.shownL) (shownO s h.length ++ []) := shown_has ⟨List.nodup_nil, fun p hp => by cases hp⟩
  rw [List.append_nil] at H
  refine HD.shown_call S D ok fun _ => k (HD.ofDc D.on (D.dc.fresh (Keep.app _ _) H fun p hp => ?_))
  simp only [shownO, List.mem_cons, List.not_mem_nil, or_false] at hp
  rcases hp with rfl | rfl | rfl | rfl <;> show h.length ≤ _ <;> omega
end SB

/-! Told beats as data. -/
namespace SB
open PySem
open L2 (Key)
def toldD : Told → PyData
  | none => .none
  | some (n, p, a, x) => .tuple [.int n, .str (if p = true then "put" else "get"), .int a, .int x]
def didD : Did → PyData
  | .waits => .str "waits"
  | .goes => .str "goes"
  | .ends => .str "ends"
  | .acc a => .tuple [.str (if a.1 = true then "put" else "get"), .int a.2.1, .int a.2.2]
def entryD (e : Told × Did) : PyData := .tuple [toldD e.1, didD e.2]
theorem told_toH {h : AH} {n : Nat} (t : Told) : toH h (n + 1) (toldV t) = some (toldD t) := by
  cases t with
  | none => rfl
  | some t => obtain ⟨a, b, c, d⟩ := t; cases n <;> cases b <;> rfl
theorem did_toH {h : AH} {n : Nat} (d : Did) : toH h (n + 1) (didV d) = some (didD d) := by
  cases d with
  | acc a => obtain ⟨p, x, y⟩ := a; cases n <;> cases p <;> rfl
  | _ => rfl
theorem entry_toH {h : AH} {n : Nat} (e : Told × Did) : toH h (n + 2) (entryV e) = some (entryD e) := by
  show (mapO (toH h (n + 1)) [toldV e.1, didV e.2]).map PyData.tuple = _
  simp only [mapO, told_toH, did_toH]
  rfl
theorem told_low (t : Told) : PyData.canLay0 (toldD t) = true ∧ PyData.depth (toldD t) ≤ 2 := by
  cases t with
  | none => exact ⟨rfl, by simp [toldD, PyData.depth]⟩
  | some t => obtain ⟨a, b, c, d⟩ := t; cases b <;> exact ⟨by kernel_rfl, by simp [toldD, PyData.depth, PyData.depthAll]⟩
theorem did_low (d : Did) : PyData.canLay0 (didD d) = true ∧ PyData.depth (didD d) ≤ 2 := by
  cases d with
  | acc a => obtain ⟨p, x, y⟩ := a; cases p <;> exact ⟨by kernel_rfl, by simp [didD, PyData.depth, PyData.depthAll]⟩
  | _ => exact ⟨by kernel_rfl, by simp [didD, PyData.depth]⟩
theorem entry_low (e : Told × Did) : PyData.canLay0 (entryD e) = true ∧ PyData.depth (entryD e) ≤ 60 := by
  obtain ⟨a1, a2⟩ := told_low e.1
  obtain ⟨b1, b2⟩ := did_low e.2
  refine ⟨?_, ?_⟩
  · show (PyData.canLay0 (toldD e.1) && (PyData.canLay0 (didD e.2) && true)) = true
    rw [a1, b1]; rfl
  · simp only [entryD, PyData.depth, PyData.depthAll]
    omega
theorem mapO_map {α : Type} {f : α → AV} {g : α → PyData} {k : AV → Option PyData} (e : ∀ a, k (f a) = some (g a)) : ∀ xs : List α, mapO k (xs.map f) = some (xs.map g)
  | [] => rfl
  | x :: r => by
    rw [List.map_cons, mapO, mapO_map e r, e]
    rfl
/-- lists alike, of things that are data -/
theorem ne_lists {α : Type} {f : α → AV} {g : α → PyData} {h : AH} {a b : Nat} {xs : List α} (ha : h[a]? = some (.lst (xs.map f))) (hb : h[b]? = some (.lst (xs.map f))) (e : ∀ x, toH h 5 (f x) = some (g x)) (lo : ∀ x, PyData.canLay0 (g x) = true ∧ PyData.depth (g x) ≤ 60) : cmpA .NotEq (.ref a) (.ref b) h = some (.bl false, h) :=
  ne_same (toH_lst ha (mapO_map e xs)) (toH_lst hb (mapO_map e xs)) (shaped_list fun d hd => by
    obtain ⟨x, _, rfl⟩ := List.mem_map.mp hd
    exact lo x)
theorem ne_entries {h : AH} {a b : Nat} {xs : List (Told × Did)} (ha : h[a]? = some (.lst (xs.map entryV))) (hb : h[b]? = some (.lst (xs.map entryV))) : cmpA .NotEq (.ref a) (.ref b) h = some (.bl false, h) :=
  ne_lists ha hb (fun x => entry_toH x) entry_low
theorem ne_tolds {h : AH} {a b : Nat} {xs : List Told} (ha : h[a]? = some (.lst (xs.map toldV))) (hb : h[b]? = some (.lst (xs.map toldV))) : cmpA .NotEq (.ref a) (.ref b) h = some (.bl false, h) :=
  ne_lists ha hb (fun x => told_toH x) fun x => ⟨(told_low x).1, Nat.le_trans (told_low x).2 (by decide)⟩
/-! slices -/
theorem cut_to {α : Type} (xs : List α) (n : Nat) (h : n ≤ xs.length) : cutA xs none (some (n : Int)) = xs.take n := by
  unfold cutA
  rw [HT.sIx_none, HT.sIx_nat, List.drop_zero, Nat.sub_zero, Nat.min_eq_left h]
theorem cut_mid {α : Type} (xs : List α) (m n : Nat) (hm : m ≤ n) (h : n ≤ xs.length) : cutA xs (some (m : Int)) (some (n : Int)) = (xs.drop m).take (n - m) := by
  unfold cutA
  rw [HT.sIx_nat, HT.sIx_nat, Nat.min_eq_left h, Nat.min_eq_left (by omega)]
theorem cut_from {α : Type} (xs : List α) (m : Nat) (hm : m ≤ xs.length) : cutA xs (some (m : Int)) none = xs.drop m := by
  unfold cutA
  rw [HT.sIx_nat, HT.sIx_none, Nat.min_eq_left hm]
  exact List.take_of_length_le (by simp)
theorem irange_len0 {n : Nat} : (irange ((0 : Nat) : Int) (n : Int)).length = n := irange_len
theorem irange_lt {n : Nat} (h : n < 16777216) : (irange ((0 : Nat) : Int) (n : Int)).length < lim := by
  rw [irange_len0]; exact h
theorem perm_rot {α : Type} {a b c : α} {r : List α} : (a :: b :: c :: r).Perm (c :: a :: b :: r) :=
  (List.Perm.cons a (List.Perm.swap c b r)).trans (List.Perm.swap c a (b :: r))
theorem Dc.new3 {h : AH} {d c : Nat} {L : List (Nat × AO)} (D : Dc h d c L) (o o' o2 : AO) : Dc (h ++ [o, o', o2]) d c ((h.length, o) :: (h.length + 1, o') :: (h.length + 1 + 1, o2) :: L) := by
  have D3 := (D.new2 o o').new o2
  rw [show (h ++ [o, o']).length = h.length + 1 + 1 from by simp, List.append_assoc] at D3
  exact D3.perm perm_rot
theorem gr_all {g : Greed} {h : AH} : cmpA .Eq (.str g.s) (.str "all") h = some (.bl (decide (g = .all)), h) := by
  cases g <;> kernel_rfl
end SB

/-! Chains, plainly. -/
namespace SB
open PySem
/-! the machine leaves the device alone where no row asks -/
def NoAsk (prog : List Row) : Prop := ∀ r ∈ prog, ∀ w, r ≠ .ask w
theorem next_dev {s : Hs} {r : Row} (h : ∀ w, r ≠ .ask w) : (s.next r).1.dev = s.dev := by
  cases r <;> first | rfl | exact absurd rfl (h _)
theorem machine_same {s : Hs} (ok : s.Ok) (na : NoAsk s.prog) : s.machine.1.dev = s.dev ∧ s.machine.1.prog = s.prog ∧ s.machine.1.asks = s.asks ∧ s.machine.1.time = s.time := by
  unfold Hs.machine
  split
  · exact ⟨rfl, rfl, rfl, rfl⟩
  · rename_i ho
    have ho : s.over = false := by simpa using ho
    have ec := (ok.cur ho).1
    have nw := na _ (List.mem_of_getElem? ec)
    obtain ⟨z1, z2, z3, z4, z5, z6, z7, z8, z9, z10, z11⟩ := turn_same s s.cur
    simp only
    generalize (s.turn s.cur).1 = s1 at z1 z2 z3 z4 z5 z6 z7 z8 z9 z10 z11
    unfold Hs.stepped
    split
    · unfold Hs.close
      obtain ⟨y1, y2, y3, y4, y5, y6, y7, y8, y9, y10, y11⟩ := next_same { s1 with step := 0, dones := s1.dones ++ [(s1.row, s1.time)] } s.cur
      have yd := next_dev (s := { s1 with step := 0, dones := s1.dones ++ [(s1.row, s1.time)] }) nw
      exact ⟨yd.trans z2, y1.trans z1, y3.trans z3, y6.trans z7⟩
    · exact ⟨z2, z1, z3, z7⟩
theorem beat1_same {s : Hs} (ok : s.Ok) (na : NoAsk s.prog) : s.beat1.dev = (s.dev.beat s.mem s.marks s.wanted).1 ∧ s.beat1.prog = s.prog ∧ s.beat1.asks = s.asks ∧ s.beat1.time = s.time + 1 := by
  unfold Hs.beat1 Hs.acts
  split
  · exact ⟨rfl, rfl, rfl, rfl⟩
  · obtain ⟨a, b, c, d⟩ := machine_same ok.moved (show NoAsk s.moved.prog from na)
    exact ⟨a, b, c, congrArg (· + 1) d⟩
/-! the turns -/
def turnFrom : Nat → List Wk → List Nat
  | _, [] => []
  | k, w :: r => List.replicate (2 * w.n) k ++ turnFrom (k + 1) r
theorem turnFrom_app : ∀ (k : Nat) (a b : List Wk), turnFrom k (a ++ b) = turnFrom k a ++ turnFrom (k + a.length) b
  | k, [], b => rfl
  | k, w :: r, b => by
    rw [List.cons_append, turnFrom, turnFrom, turnFrom_app (k + 1) r b, List.append_assoc, List.length_cons, show k + 1 + r.length = k + (r.length + 1) from by omega]
def follow (many : Nat) (round : Bool) (k : Nat) : Option Nat := if k + 1 < many then some (k + 1) else if round = true then some 0 else none
structure Chain (round : Bool) (ws : List Wk) : Prop where
  ne : ws ≠ []
  gr : ∀ w ∈ ws, w.gr = .all
  mark : ∀ w ∈ ws, w.mark = none
  nxt : ∀ k w, ws[k]? = some w → w.nxt = follow ws.length round k
  n1 : ∀ w ∈ ws, 1 ≤ w.n
def due (round : Bool) (ws : List Wk) (t : Nat) : Option Nat := if (turnFrom 0 ws).length ≤ t ∧ round = false then none else (turnFrom 0 ws)[t % (turnFrom 0 ws).length]?
/-- where the chain stands -/
def ChPos (round : Bool) (ws : List Wk) (t : Nat) (on : List Going) : Prop :=
  (round = false ∧ (turnFrom 0 ws).length ≤ t ∧ on = []) ∨
  ((round = true ∨ t < (turnFrom 0 ws).length) ∧ ∃ g w, on = [g] ∧ ws[g.num]? = some w ∧ g.moved < w.n ∧
    (turnFrom 0 ws).drop (t % (turnFrom 0 ws).length) = List.replicate (2 * (w.n - g.moved) - (if g.hand = none then 0 else 1)) g.num ++ turnFrom (g.num + 1) (ws.drop (g.num + 1)))
theorem chosen_one {d : Dev} {g : Going} {w : Wk} (e : d.on = [g]) (hw : d.works[g.num]? = some w) (h1 : w.gr = .all) (h2 : w.mark = none) (marks : List Bool) (wanted : Bool) : d.chosen marks wanted = some g ∧ d.wk g = w := by
  have ew : d.wk g = w := by simp [Dev.wk, List.getD, hw]
  refine ⟨?_, ew⟩
  have so : d.sorted = [g] := by
    unfold Dev.sorted
    rw [e]
    have : isort ([g].map fun g => (g.num : Int)) = [(g.num : Int)] := by simp [isort]
    rw [this]
    simp
  unfold Dev.chosen
  rw [so]
  simp [ew, held, h2, mayTake, h1]
theorem Dev.beat_idle {d : Dev} (e : d.on = []) (mem : List Int) (marks : List Bool) (wanted : Bool) : d.beat mem marks wanted = ({ d with took := false }, mem, none, none) := by
  have : d.chosen marks wanted = none := by
    unfold Dev.chosen Dev.sorted
    rw [e]
    simp [isort]
  unfold Dev.beat
  rw [this]
theorem drop_succ {xs ys : List Nat} {r m i : Nat} (e : xs.drop r = List.replicate (m + 1) i ++ ys) : xs.drop (r + 1) = List.replicate m i ++ ys ∧ xs[r]? = some i ∧ r < xs.length := by
  have h1 : xs.drop (r + 1) = (xs.drop r).drop 1 := by rw [List.drop_drop]
  have h2 : (xs.drop r)[0]? = xs[r]? := by rw [List.getElem?_drop]; rfl
  have h3 : xs[r]? = some i := by rw [← h2, e]; simp [List.replicate_succ]
  refine ⟨?_, h3, (List.getElem?_eq_some_iff.mp h3).1⟩
  rw [h1, e]
  simp [List.replicate_succ]
theorem turn_pos {round : Bool} {ws : List Wk} (c : Chain round ws) : 0 < (turnFrom 0 ws).length := by
  cases hws : ws with
  | nil => exact absurd hws c.ne
  | cons w r =>
    have := c.n1 w (by rw [hws]; simp)
    rw [turnFrom, List.length_append, List.length_replicate]
    omega
theorem due_pos {round : Bool} {ws : List Wk} {t i : Nat} (c : round = true ∨ t < (turnFrom 0 ws).length) (e : (turnFrom 0 ws)[t % (turnFrom 0 ws).length]? = some i) : due round ws t = some i := by
  unfold due
  rw [if_neg, e]
  rintro ⟨h1, h2⟩
  rcases c with c | c
  · rw [c] at h2; cases h2
  · omega
theorem mod_step {t l : Nat} (h : t % l + 1 < l) : (t + 1) % l = t % l + 1 := by
  rw [Nat.add_mod, Nat.mod_eq_of_lt (a := 1) (by omega), Nat.mod_eq_of_lt h]
theorem mod_end {t l : Nat} (h0 : 0 < l) (h : t % l + 1 = l) : (t + 1) % l = 0 := by
  have e := Nat.div_add_mod t l
  have : t + 1 = l * (t / l + 1) := by rw [Nat.mul_add]; omega
  rw [this, Nat.mul_mod_right]
theorem chPos_start {round : Bool} {ws : List Wk} (c : Chain round ws) (mine : Nat) : ChPos round ws 0 [⟨0, 0, none, mine⟩] := by
  have hp := turn_pos c
  refine .inr ⟨.inr hp, ⟨0, 0, none, mine⟩, ws.getD 0 nilWk, rfl, ?_, ?_, ?_⟩
  · cases hws : ws with
    | nil => exact absurd hws c.ne
    | cons w r => rfl
  · cases hws : ws with
    | nil => exact absurd hws c.ne
    | cons w r => have := c.n1 w (by rw [hws]; simp); exact this
  · rw [Nat.zero_mod, List.drop_zero]
    cases hws : ws with
    | nil => exact absurd hws c.ne
    | cons w r => rfl
theorem chPos_one {round : Bool} {ws : List Wk} {t : Nat} {on : List Going} (p : ChPos round ws t on) : on.length ≤ 1 := by
  rcases p with ⟨_, _, rfl⟩ | ⟨_, g, w, rfl, _⟩ <;> simp
theorem turnFrom_drop {ws : List Wk} {j : Nat} {w : Wk} (e : ws[j]? = some w) : turnFrom j (ws.drop j) = List.replicate (2 * w.n) j ++ turnFrom (j + 1) (ws.drop (j + 1)) := by
  obtain ⟨hj, rfl⟩ := List.getElem?_eq_some_iff.mp e
  rw [List.drop_eq_getElem_cons hj, turnFrom]
theorem chain_step {round : Bool} {d : Dev} {t : Nat} (c : Chain round d.works) (p : ChPos round d.works t d.on) (mem : List Int) (marks : List Bool) (wanted : Bool) :
    (d.beat mem marks wanted).2.2.1.map (·.1) = due round d.works t ∧ (d.beat mem marks wanted).1.works = d.works ∧ ChPos round d.works (t + 1) (d.beat mem marks wanted).1.on := by
  have hp := turn_pos c
  refine ⟨?_, (Dev.beat_same d mem marks wanted).1, ?_⟩
  · rcases p with ⟨h1, h2, h3⟩ | ⟨h1, g, w, h2, h3, h4, h5⟩
    · rw [Dev.beat_idle h3]
      unfold due
      rw [if_pos ⟨h2, h1⟩]
      rfl
    · obtain ⟨ec, ew⟩ := chosen_one h2 h3 (c.gr w (List.mem_of_getElem? h3)) (c.mark w (List.mem_of_getElem? h3)) marks wanted
      have hd : ∃ m, 2 * (w.n - g.moved) - (if g.hand = none then 0 else 1) = m + 1 := ⟨2 * (w.n - g.moved) - (if g.hand = none then 0 else 1) - 1, by split <;> omega⟩
      obtain ⟨m, hm⟩ := hd
      rw [hm] at h5
      rw [due_pos h1 (drop_succ h5).2.1]
      unfold Dev.beat
      rw [ec]
      cases hh : g.hand <;> simp only [hh] <;> rfl
  · rcases p with ⟨h1, h2, h3⟩ | ⟨h1, g, w, h2, h3, h4, h5⟩
    · rw [Dev.beat_idle h3]
      exact .inl ⟨h1, by omega, h3⟩
    · obtain ⟨ec, ew⟩ := chosen_one h2 h3 (c.gr w (List.mem_of_getElem? h3)) (c.mark w (List.mem_of_getElem? h3)) marks wanted
      cases hh : g.hand with
      | none =>
        rw [hh, if_pos rfl, show 2 * (w.n - g.moved) - 0 = (2 * (w.n - g.moved) - 1) + 1 from by omega] at h5
        obtain ⟨q1, q2, q3⟩ := drop_succ h5
        have hne : t % (turnFrom 0 d.works).length + 1 < (turnFrom 0 d.works).length := by
          rcases Nat.lt_or_ge (t % (turnFrom 0 d.works).length + 1) (turnFrom 0 d.works).length with z | z
          · exact z
          · rw [List.drop_eq_nil_of_le z] at q1
            have := congrArg List.length q1
            rw [List.length_append, List.length_replicate] at this
            simp at this
            omega
        refine .inr ⟨h1.imp id fun z => ?_, { g with hand := some (mem.getD (((d.wk g).b + g.moved) % mem.length) 0) }, w, ?_, h3, h4, ?_⟩
        · rw [Nat.mod_eq_of_lt z] at hne; exact hne
        · unfold Dev.beat
          rw [ec]
          simp only [hh]
          show (d.on.map _) = _
          rw [h2]
          simp
        · rw [mod_step hne, q1]
          simp
      | some x =>
        rw [hh, if_neg (by simp), show 2 * (w.n - g.moved) - 1 = (2 * (w.n - g.moved - 1)) + 1 from by omega] at h5
        obtain ⟨q1, q2, q3⟩ := drop_succ h5
        by_cases hm : g.moved + 1 = w.n
        · -- the work is over
          rw [show 2 * (w.n - g.moved - 1) = 0 from by omega, List.replicate_zero, List.nil_append] at q1
          have eb : (d.beat mem marks wanted).1 = (({ d with took := true } : Dev).drop g.num).next w.nxt := by
            unfold Dev.beat
            rw [ec]
            simp only [hh, ew]
            rw [if_pos hm]
          rw [eb]
          have eo : (({ d with took := true } : Dev).drop g.num).on = [] := by
            show d.on.filter _ = _
            rw [h2]; simp
          have ews : (({ d with took := true } : Dev).drop g.num).works = d.works := rfl
          have bg : ∀ j, j < d.works.length → ((({ d with took := true } : Dev).drop g.num).begin j).on = [⟨j, 0, none, d.begun⟩] := fun j hj => by
            unfold Dev.begin
            rw [if_pos (by rw [eo]; exact ⟨hj, by simp⟩)]
            show _ ++ _ = _
            rw [eo]
            rfl
          rw [c.nxt _ _ h3]
          unfold follow
          split
          · rename_i hlt
            obtain ⟨w', hw'⟩ : ∃ w', d.works[g.num + 1]? = some w' := ⟨_, List.getElem?_eq_getElem hlt⟩
            have n1 := c.n1 w' (List.mem_of_getElem? hw')
            rw [turnFrom_drop hw'] at q1
            have hne : t % (turnFrom 0 d.works).length + 1 < (turnFrom 0 d.works).length := by
              rcases Nat.lt_or_ge (t % (turnFrom 0 d.works).length + 1) (turnFrom 0 d.works).length with z | z
              · exact z
              · rw [List.drop_eq_nil_of_le z] at q1
                have := congrArg List.length q1
                rw [List.length_append, List.length_replicate] at this
                simp at this
                omega
            refine .inr ⟨h1.imp id fun z => ?_, ⟨g.num + 1, 0, none, d.begun⟩, w', bg _ hlt, hw', n1, ?_⟩
            · rw [Nat.mod_eq_of_lt z] at hne; exact hne
            · rw [mod_step hne, q1]
              simp
          · rename_i hlt
            have hend : t % (turnFrom 0 d.works).length + 1 = (turnFrom 0 d.works).length := by
              rw [List.drop_eq_nil_of_le (show d.works.length ≤ g.num + 1 by omega)] at q1
              have := congrArg List.length q1
              rw [List.length_drop] at this
              simp [turnFrom] at this
              omega
            cases hr : round with
            | true =>
              rw [if_pos rfl]
              obtain ⟨w', hw'⟩ : ∃ w', d.works[0]? = some w' := ⟨_, List.getElem?_eq_getElem (List.length_pos_iff.mpr c.ne)⟩
              have n1 := c.n1 w' (List.mem_of_getElem? hw')
              refine .inr ⟨.inl rfl, ⟨0, 0, none, d.begun⟩, w', bg _ (List.length_pos_iff.mpr c.ne), hw', n1, ?_⟩
              rw [mod_end hp hend]
              exact turnFrom_drop hw'
            | false =>
              rw [if_neg (by decide)]
              refine .inl ⟨rfl, ?_, eo⟩
              rcases h1 with z | z
              · rw [z] at hr; cases hr
              · rw [Nat.mod_eq_of_lt z] at hend; omega
        · have hne : t % (turnFrom 0 d.works).length + 1 < (turnFrom 0 d.works).length := by
            rcases Nat.lt_or_ge (t % (turnFrom 0 d.works).length + 1) (turnFrom 0 d.works).length with z | z
            · exact z
            · rw [List.drop_eq_nil_of_le z] at q1
              have := congrArg List.length q1
              rw [List.length_append, List.length_replicate] at this
              simp at this
              omega
          refine .inr ⟨h1.imp id fun z => ?_, { g with hand := none, moved := g.moved + 1 }, w, ?_, h3, by show g.moved + 1 < w.n; omega, ?_⟩
          · rw [Nat.mod_eq_of_lt z] at hne; exact hne
          · unfold Dev.beat
            rw [ec]
            simp only [hh, ew]
            rw [if_neg hm]
            show (d.on.map _) = _
            rw [h2]
            simp
          · rw [mod_step hne, q1]
            simp [show w.n - g.moved - 1 = w.n - (g.moved + 1) from by omega]
/-- the hall ahead of beat `n` -/
structure ChInv (round : Bool) (ws : List Wk) (ask n : Nat) (s : Hs) : Prop where
  ok : s.Ok
  na : NoAsk s.prog
  works : s.dev.works = ws
  time : s.time = n
  pos : (n ≤ ask ∧ s.asks = [(ask, 0)] ∧ s.dev.on = []) ∨ (ask < n ∧ s.asks = [] ∧ ChPos round ws (n - ask) s.dev.on)
def dueAt (round : Bool) (ws : List Wk) (ask n : Nat) : Option Nat := if n < ask then none else due round ws (n - ask)
theorem chain_beat {round : Bool} {ws : List Wk} {ask n : Nat} {s : Hs} (c : Chain round ws) (I : ChInv round ws ask n s) :
    s.open_.told.map (·.1) = dueAt round ws ask n ∧ ChInv round ws ask (n + 1) s.beat ∧ s.beat.dev.on.length ≤ 1 := by
  obtain ⟨ok, na, hw, ht, hp⟩ := I
  have oko := ok.open_
  have nao : NoAsk s.open_.prog := na
  obtain ⟨b1, b2, b3, b4⟩ := beat1_same oko nao
  have key : (n < ask ∧ s.open_.asks = [(ask, 0)] ∧ s.open_.dev.on = [] ∧ s.open_.dev.works = ws) ∨ (ask ≤ n ∧ s.open_.asks = [] ∧ ChPos round ws (n - ask) s.open_.dev.on ∧ s.open_.dev.works = ws) := by
    have ow : s.open_.dev.works = ws := (openGo_works _ _ _).trans hw
    rcases hp with ⟨p1, p2, p3⟩ | ⟨p1, p2, p3⟩
    · by_cases hl : n < ask
      · left
        have : openGo s.time s.asks s.dev = ([(ask, 0)], s.dev) := by
          rw [p2, ht]; unfold openGo; rw [if_neg (by omega)]
        refine ⟨hl, ?_, ?_, ow⟩
        · show (openGo _ _ _).1 = _; rw [this]
        · show (openGo _ _ _).2.on = _; rw [this]; exact p3
      · right
        have : openGo s.time s.asks s.dev = ([], s.dev.begin 0) := by
          rw [p2, ht]; unfold openGo; rw [if_pos (by omega)]; rfl
        refine ⟨by omega, ?_, ?_, ow⟩
        · show (openGo _ _ _).1 = _; rw [this]
        · show ChPos _ _ _ (openGo _ _ _).2.on
          rw [this]
          have eb : (s.dev.begin 0).on = [⟨0, 0, none, s.dev.begun⟩] := by
            unfold Dev.begin
            rw [if_pos (by rw [p3, hw]; exact ⟨List.length_pos_iff.mpr c.ne, by simp⟩)]
            show _ ++ _ = _
            rw [p3]; rfl
          show ChPos _ _ _ (s.dev.begin 0).on
          rw [eb, show n - ask = 0 from by omega]
          exact chPos_start c _
    · right
      have : openGo s.time s.asks s.dev = ([], s.dev) := by
        rw [p2]; rfl
      refine ⟨by omega, ?_, ?_, ow⟩
      · show (openGo _ _ _).1 = _; rw [this]
      · show ChPos _ _ _ (openGo _ _ _).2.on; rw [this]; exact p3
  have et : s.open_.time = n := ht
  have okb := ok.beat
  have nab : NoAsk s.beat.prog := by show NoAsk s.open_.beat1.prog; rw [b2]; exact na
  have tb : s.beat.time = n + 1 := by show s.open_.beat1.time = _; rw [b4, et]
  rcases key with ⟨k1, k2, k3, k4⟩ | ⟨k1, k2, k3, k4⟩
  · have e1 := Dev.beat_idle k3 s.open_.mem s.open_.marks s.open_.wanted
    rw [e1] at b1
    refine ⟨?_, ⟨okb, nab, ?_, tb, .inl ⟨by omega, b3.trans k2, ?_⟩⟩, ?_⟩
    · unfold Hs.told dueAt
      rw [e1, if_pos k1]; rfl
    · show s.open_.beat1.dev.works = _; rw [b1]; exact k4
    · show s.open_.beat1.dev.on = _; rw [b1]; exact k3
    · show s.open_.beat1.dev.on.length ≤ 1; rw [b1]; show s.open_.dev.on.length ≤ 1; rw [k3]; simp
  · subst k4
    obtain ⟨c1, c2, c3⟩ := chain_step c k3 s.open_.mem s.open_.marks s.open_.wanted
    refine ⟨?_, ⟨okb, nab, ?_, tb, .inr ⟨by omega, b3.trans k2, ?_⟩⟩, ?_⟩
    · unfold Hs.told dueAt
      rw [c1, if_neg (by omega)]
    · show s.open_.beat1.dev.works = _; rw [b1]; exact c2
    · show ChPos _ _ _ s.open_.beat1.dev.on; rw [b1, show n + 1 - ask = n - ask + 1 from by omega]; exact c3
    · show s.open_.beat1.dev.on.length ≤ 1; rw [b1]; exact chPos_one c3
theorem chain_new {round : Bool} {prog : List Row} {ws : List Wk} {mem : List Int} {ask : Nat} (g : Good4 prog ws mem [(ask, 0)]) (na : NoAsk prog) : ChInv round ws ask 0 (Hs.new prog ws mem [(ask, 0)]) :=
  ⟨g.ok, na, rfl, rfl, .inl ⟨Nat.zero_le _, rfl, rfl⟩⟩
end SB

/-! What a beat does to the words, plainly. -/
namespace SB
open PySem
def toldAcc : Told → List Acc
  | none => []
  | some (_, p, a, x) => [(p, a, x)]
def didAcc : Did → List Acc
  | .acc a => [a]
  | _ => []
def accs (e : Told × Did) : List Acc := toldAcc e.1 ++ didAcc e.2
def laid (m : List Int) (l : List Acc) : List Int := l.foldl (fun m a => m.set a.2.1 a.2.2) m
/-- one access fits the words -/
def AccOk (m : List Int) (a : Acc) : Prop := a.2.1 < m.length ∧ (a.1 = false → m.getD a.2.1 0 = a.2.2)
theorem set_getD {m : List Int} {i : Nat} (h : i < m.length) : m.set i (m.getD i 0) = m := by
  rw [List.getD_eq_getElem?_getD, List.getElem?_eq_getElem h]
  exact List.set_getElem_self h
theorem dev_mem (d : Dev) (mem : List Int) (marks : List Bool) (wanted : Bool) (h0 : 0 < mem.length) :
    (∀ a ∈ toldAcc (d.beat mem marks wanted).2.2.1, AccOk mem a) ∧ (d.beat mem marks wanted).2.1 = laid mem (toldAcc (d.beat mem marks wanted).2.2.1) := by
  unfold Dev.beat
  cases d.chosen marks wanted with
  | none => exact ⟨(fun a ha => by cases ha), rfl⟩
  | some g =>
    simp only
    have hb := Nat.mod_lt ((d.wk g).b + g.moved) h0
    have hg := Nat.mod_lt ((d.wk g).g + g.moved) h0
    cases g.hand with
    | none =>
      simp only [toldAcc, laid, List.foldl]
      refine ⟨fun a ha => ?_, (set_getD hb).symm⟩
      have := List.mem_singleton.mp ha
      subst this
      exact ⟨hb, fun _ => rfl⟩
    | some x =>
      simp only [toldAcc, laid, List.foldl]
      refine ⟨fun a ha => ?_, trivial⟩
      have := List.mem_singleton.mp ha
      subst this
      exact ⟨hg, (fun e => by cases e)⟩
/-- the machine's own -/
theorem machine_mem {s : Hs} (ok : s.Ok) : (∀ a ∈ didAcc s.machine.2, AccOk s.mem a ∧ s.wanted = true) ∧ (didAcc s.machine.2).length ≤ 1 ∧ s.machine.1.mem = laid s.mem (didAcc s.machine.2) ∧ (s.wanted = true ↔ ∃ a, s.machine.2 = .acc a) ∧ s.machine.2 ≠ .waits := by
  unfold Hs.machine Hs.wanted
  cases ho : s.over with
  | true =>
    rw [if_pos rfl]
    refine ⟨(fun a ha => by cases ha), by simp [didAcc], rfl, ?_, ?_⟩
    · simp
    · intro e; cases e
  | false =>
    rw [if_neg (by decide)]
    have h0 : 0 < s.mem.length := by have := ok.m1; omega
    have la := adr_lt (s := s) (r := s.cur) h0
    obtain ⟨z1, z2, z3, z4, z5, z6, z7, z8, z9, z10, z11⟩ := turn_same s s.cur
    have mem_st : ((s.turn s.cur).1.stepped s.cur).mem = (s.turn s.cur).1.mem := by
      unfold Hs.stepped
      split
      · unfold Hs.close
        exact (next_same { (s.turn s.cur).1 with step := 0, dones := (s.turn s.cur).1.dones ++ [((s.turn s.cur).1.row, (s.turn s.cur).1.time)] } s.cur).2.1
      · rfl
    simp only
    rw [mem_st]
    unfold Hs.turn
    cases hw : s.cur.wants with
    | false =>
      rw [if_neg (by decide)]
      refine ⟨(fun a ha => by cases ha), by simp [didAcc], rfl, ?_, ?_⟩
      · simp
      · intro e; cases e
    | true =>
      rw [if_pos rfl]
      unfold Hs.words
      cases hg : s.cur.isGet with
      | true =>
        rw [if_pos rfl]
        refine ⟨fun a ha => ?_, by simp [didAcc], ?_, ?_, ?_⟩
        · have := List.mem_singleton.mp ha
          subst this
          exact ⟨⟨la, fun _ => rfl⟩, by simp⟩
        · exact (set_getD la).symm
        · simp
        · intro e; cases e
      | false =>
        rw [if_neg (by decide)]
        refine ⟨fun a ha => ?_, by simp [didAcc], rfl, ?_, ?_⟩
        · have := List.mem_singleton.mp ha
          subst this
          exact ⟨⟨la, (fun e => by cases e)⟩, by simp⟩
        · simp
        · intro e; cases e
theorem moved_wanted (s : Hs) : s.moved.wanted = s.wanted := rfl
theorem beat_mem {s : Hs} (ok : s.Ok) : (∀ a ∈ accs s.entry, AccOk s.mem a) ∧ (accs s.entry).length ≤ 1 ∧ s.beat.mem = laid s.mem (accs s.entry) ∧ (s.entry.2 = .waits → s.entry.1 ≠ none) := by
  have okm := ok.open_.moved
  have h0 : 0 < s.open_.mem.length := by have := ok.m1; exact (by omega : 0 < s.mem.length)
  obtain ⟨d1, d2⟩ := dev_mem s.open_.dev s.open_.mem s.open_.marks s.open_.wanted h0
  obtain ⟨m1, m2, m3, m4, m5⟩ := machine_mem okm
  have d2 : s.open_.moved.mem = laid s.open_.mem (toldAcc s.open_.told) := d2
  have d1 : ∀ a ∈ toldAcc s.open_.told, AccOk s.open_.mem a := d1
  have em : s.open_.mem = s.mem := rfl
  unfold accs Hs.entry Hs.beat Hs.beat1 Hs.did Hs.acts
  rw [moved_wanted] at m1 m4
  rw [em] at d1 d2
  simp only
  generalize s.open_ = s1 at *
  cases ht : s1.told with
  | none =>
    rw [ht] at d1 d2
    have d2 : s1.moved.mem = s.mem := d2
    rw [d2] at m1 m3
    simp [toldAcc, -Prod.forall]
    refine ⟨fun a h => (m1 _ h).1, m2, m3, m5⟩
  | some t =>
    obtain ⟨n, p, a, x⟩ := t
    rw [ht] at d1 d2
    cases hw : s1.wanted with
    | true =>
      simp [toldAcc, didAcc]
      exact ⟨d1 _ (by simp [toldAcc]), d2⟩
    | false =>
      rw [hw] at m4
      have hn : didAcc s1.moved.machine.2 = [] := by
        cases hd : s1.moved.machine.2 with
        | acc a => exact absurd (m4.mpr ⟨a, hd⟩) (by decide)
        | waits => rfl
        | goes => rfl
        | ends => rfl
      rw [hn] at m3
      simp [toldAcc, hn]
      exact ⟨d1 _ (by simp [toldAcc]), m3.trans d2⟩
end SB

/-! One work beside a machine that puts nothing, plainly. -/
namespace SB
open PySem
/-- rows that put nothing, go nowhere, and leave the device alone -/
def Row.Quiet : Row → Prop
  | .rest _ => True
  | .get _ _ => True
  | .pair _ _ => True
  | .add _ _ => True
  | .set _ _ => True
  | .fin => True
  | _ => False
def QuietP (prog : List Row) : Prop := ∀ r ∈ prog, r.Quiet
/-- with another device and other asks -/
def Hs.as (s : Hs) (d : Dev) (q : List (Nat × Nat)) : Hs := { s with dev := d, asks := q }
theorem next_as {s : Hs} {r : Row} (h : r.Quiet) (d : Dev) (q : List (Nat × Nat)) : ((s.as d q).next r).1 = (s.next r).1.as d q ∧ ((s.as d q).next r).2 = (s.next r).2 := by
  cases r <;> first | exact ⟨rfl, rfl⟩ | exact h.elim
theorem words_as {s : Hs} {r : Row} (d : Dev) (q : List (Nat × Nat)) : ((s.as d q).words r).1 = (s.words r).1.as d q ∧ ((s.as d q).words r).2 = (s.words r).2 := by
  unfold Hs.words
  split <;> exact ⟨rfl, rfl⟩
theorem machine_as {s : Hs} (ok : s.Ok) (hq : QuietP s.prog) (d : Dev) (q : List (Nat × Nat)) : (s.as d q).machine.1 = s.machine.1.as d q ∧ (s.as d q).machine.2 = s.machine.2 := by
  unfold Hs.machine
  cases ho : s.over with
  | true => rw [if_pos (show (s.as d q).over = true from ho), if_pos rfl]; exact ⟨rfl, rfl⟩
  | false =>
    have ho2 : (s.as d q).over = false := ho
    rw [if_neg (by rw [ho2]; decide), if_neg (by decide)]
    have ec := (ok.cur ho).1
    have hr := hq _ (List.mem_of_getElem? ec)
    have e0 : (s.as d q).cur = s.cur := rfl
    rw [e0]
    generalize s.cur = r at hr
    have et : (s.as d q).turn r = ((s.turn r).1.as d q, (s.turn r).2) := by
      unfold Hs.turn
      split
      · obtain ⟨a, b⟩ := words_as (s := s) (r := r) d q
        rw [a, b]
      · rfl
    rw [et]
    refine ⟨?_, rfl⟩
    generalize (s.turn r).1 = s1
    show (s1.as d q).stepped r = (s1.stepped r).as d q
    unfold Hs.stepped
    have e1 : (s1.as d q).step = s1.step := rfl
    rw [e1]
    split
    · unfold Hs.close
      obtain ⟨a, b⟩ := next_as (s := { s1 with step := 0, dones := s1.dones ++ [(s1.row, s1.time)] }) hr d q
      have a : (({ s1.as d q with step := 0, dones := (s1.as d q).dones ++ [((s1.as d q).row, (s1.as d q).time)] } : Hs).next r).1 = _ := a
      have b : (({ s1.as d q with step := 0, dones := (s1.as d q).dones ++ [((s1.as d q).row, (s1.as d q).time)] } : Hs).next r).2 = _ := b
      simp only
      rw [a, b]
      rfl
    · rfl
theorem machine_prog (s : Hs) : s.machine.1.prog = s.prog := by
  unfold Hs.machine
  split
  · rfl
  · obtain ⟨z1, z2, z3, z4, z5, z6, z7, z8, z9, z10, z11⟩ := turn_same s s.cur
    simp only
    generalize (s.turn s.cur).1 = s1 at z1
    unfold Hs.stepped
    split
    · unfold Hs.close
      exact (next_same { s1 with step := 0, dones := s1.dones ++ [(s1.row, s1.time)] } s.cur).1.trans z1
    · exact z1
theorem beat_prog (s : Hs) : s.beat.prog = s.prog := by
  show s.open_.acts.1.prog = _
  unfold Hs.acts
  split
  · rfl
  · exact machine_prog _
theorem go_prog (s : Hs) : ∀ n, (Hs.go n s).prog = s.prog
  | 0 => rfl
  | n + 1 => (beat_prog _).trans (go_prog s n)
/-! the machine's rows ahead -/
def Row.takes (r : Row) : Nat := if r.wants = true then r.beats else 0
def Hs.rem (s : Hs) : Nat := if s.over = true then 0 else ((s.prog.drop s.row).map Row.takes).sum - (if s.cur.wants = true then s.step else 0)
theorem quiet_next {s : Hs} {r : Row} (h : r.Quiet) : (s.next r).2 = if r = .fin then s.prog.length else s.row + 1 := by
  cases r <;> first | rfl | exact h.elim
theorem quiet_mem {s : Hs} {r : Row} (h : r.Quiet) (hw : r.wants = true) : r.isGet = true := by
  cases r <;> first | rfl | exact h.elim | cases hw
theorem takes_le (l : List Row) (n : Nat) : ((l.drop n).map Row.takes).sum ≤ (l.map Row.takes).sum := by
  conv => rhs; rw [← List.take_append_drop n l, List.map_append, List.sum_append]
  omega
/-- a beat of a quiet machine -/
theorem quiet_beat {s : Hs} (ok : s.Ok) (hq : QuietP s.prog) : s.machine.1.mem = s.mem ∧ s.machine.1.rem + (if s.wanted = true then 1 else 0) ≤ s.rem := by
  unfold Hs.machine Hs.wanted
  cases ho : s.over with
  | true =>
    rw [if_pos rfl]
    exact ⟨rfl, by simp⟩
  | false =>
    rw [if_neg (by decide)]
    obtain ⟨ec, oc⟩ := ok.cur ho
    have hr := hq _ (List.mem_of_getElem? ec)
    have hrow := ok.row ho
    have hst := ok.step ho
    have hst : s.step < s.cur.beats := hst
    have hcur : s.prog[s.row] = s.cur := by
      have := (List.getElem?_eq_some_iff.mp ec).2
      exact this
    have hsum : ((s.prog.drop s.row).map Row.takes).sum = s.cur.takes + ((s.prog.drop (s.row + 1)).map Row.takes).sum := by
      rw [List.drop_eq_getElem_cons hrow, List.map_cons, List.sum_cons, hcur]
    have hrem : s.rem = s.cur.takes + ((s.prog.drop (s.row + 1)).map Row.takes).sum - (if s.cur.wants = true then s.step else 0) := by
      unfold Hs.rem
      rw [ho, if_neg (by decide), hsum]
    obtain ⟨z1, z2, z3, z4, z5, z6, z7, z8, z9, z10, z11⟩ := turn_same s s.cur
    have tm : (s.turn s.cur).1.mem = s.mem := by
      unfold Hs.turn
      split
      · rename_i hw
        unfold Hs.words
        rw [if_pos (quiet_mem (s := s) hr hw)]
      · rfl
    simp only [Bool.not_false, Bool.true_and]
    rw [hrem]
    generalize (s.turn s.cur).1 = s1 at z1 z2 z3 z4 z5 z6 z7 z8 z9 z10 z11 tm
    have c1 : s1.prog.getD s1.row .fin = s.cur := by rw [z1, z5]; rfl
    unfold Hs.stepped
    split
    · rename_i hd
      rw [z6] at hd
      unfold Hs.close
      have nx := next_same { s1 with step := 0, dones := s1.dones ++ [(s1.row, s1.time)] } s.cur
      have en := quiet_next (s := { s1 with step := 0, dones := s1.dones ++ [(s1.row, s1.time)] }) hr
      simp only
      generalize (({ s1 with step := 0, dones := s1.dones ++ [(s1.row, s1.time)] } : Hs).next s.cur).2 = n at en
      generalize (({ s1 with step := 0, dones := s1.dones ++ [(s1.row, s1.time)] } : Hs).next s.cur).1 = s5 at nx
      obtain ⟨y1, y2, y3, y4, y5, y6, y7, y8, y9, y10, y11⟩ := nx
      simp only at y1 y2 y5
      refine ⟨y2.trans tm, ?_⟩
      have hn : s.row + 1 ≤ n := by
        rw [en]
        split
        · show s.row + 1 ≤ s1.prog.length; rw [z1]; exact hrow
        · show s.row + 1 ≤ s1.row + 1; rw [z5]; exact Nat.le_refl _
      have hle : ({ s5 with row := n, over := decide (n = s1.prog.length) } : Hs).rem ≤ ((s.prog.drop (s.row + 1)).map Row.takes).sum := by
        unfold Hs.rem
        split
        · exact Nat.zero_le _
        · refine Nat.le_trans (Nat.sub_le _ _) ?_
          show ((s5.prog.drop n).map Row.takes).sum ≤ _
          rw [y1, z1]
          obtain ⟨k, rfl⟩ : ∃ k, n = s.row + 1 + k := ⟨n - (s.row + 1), by omega⟩
          rw [← List.drop_drop]
          exact takes_le _ _
      have ht : s.cur.takes = if s.cur.wants = true then s.cur.beats else 0 := rfl
      have hle : ({ s5 with row := n, over := decide (n = s1.prog.length) } : Hs).rem + (if s.cur.wants = true then 1 else 0) ≤ s.cur.takes + ((s.prog.drop (s.row + 1)).map Row.takes).sum - (if s.cur.wants = true then s.step else 0) := by
        rw [ht]
        split <;> omega
      exact hle
    · rename_i hd
      rw [z6] at hd
      refine ⟨tm, ?_⟩
      have e : ({ s1 with step := s1.step + 1 } : Hs).rem = s.cur.takes + ((s.prog.drop (s.row + 1)).map Row.takes).sum - (if s.cur.wants = true then s.step + 1 else 0) := by
        unfold Hs.rem
        rw [show ({ s1 with step := s1.step + 1 } : Hs).over = false from z8.trans ho, if_neg (by decide)]
        show ((s1.prog.drop s1.row).map Row.takes).sum - (if (s1.prog.getD s1.row .fin).wants = true then s1.step + 1 else 0) = _
        rw [c1, z1, z5, hsum, z6]
      rw [e]
      have ht : s.cur.takes = if s.cur.wants = true then s.cur.beats else 0 := rfl
      have hb : s.cur.takes + ((s.prog.drop (s.row + 1)).map Row.takes).sum - (if s.cur.wants = true then s.step + 1 else 0) + (if s.cur.wants = true then 1 else 0) ≤ s.cur.takes + ((s.prog.drop (s.row + 1)).map Row.takes).sum - (if s.cur.wants = true then s.step else 0) := by
        rw [ht]
        split <;> omega
      exact hb
/-! the one work -/
structure One (w : Wk) (mem0 : List Int) : Prop where
  b : w.b < 5
  g : w.g = 16
  n1 : 1 ≤ w.n
  n2 : w.n ≤ 10
  mark : w.mark = none
  nxt : w.nxt = none
  len : mem0.length = 32
/-- the words with the first k moved -/
def dueM (w : Wk) (mem0 : List Int) : Nat → List Int
  | 0 => mem0
  | k + 1 => (dueM w mem0 k).set (16 + k) (mem0.getD (w.b + k) 0)
theorem dueM_len (w : Wk) (mem0 : List Int) : ∀ k, (dueM w mem0 k).length = mem0.length
  | 0 => rfl
  | k + 1 => by rw [dueM, List.length_set, dueM_len w mem0 k]
theorem dueM_low (w : Wk) (mem0 : List Int) {i : Nat} (h : i < 16) : ∀ k, (dueM w mem0 k).getD i 0 = mem0.getD i 0
  | 0 => rfl
  | k + 1 => by
    rw [dueM, List.getD_eq_getElem?_getD, List.getElem?_set_ne (by omega), ← List.getD_eq_getElem?_getD]
    exact dueM_low w mem0 h k
/-- t moves are done -/
def OnePos (w : Wk) (mem0 : List Int) (t : Nat) (d : Dev) (mem : List Int) : Prop :=
  d.works = [w] ∧ mem = dueM w mem0 (t / 2) ∧ ((t = 2 * w.n ∧ d.on = []) ∨ (t < 2 * w.n ∧ ∃ mine, d.on = [⟨0, t / 2, if t % 2 = 0 then none else some (mem0.getD (w.b + t / 2) 0), mine⟩]))
theorem one_beat {w : Wk} {mem0 mem : List Int} {t : Nat} {d : Dev} (W : One w mem0) (p : OnePos w mem0 t d mem) (marks : List Bool) (wanted : Bool) :
    (d.beat mem marks wanted).2.2.1.isSome = (decide (t < 2 * w.n) && mayTake w wanted d.took) ∧ OnePos w mem0 (t + (if (d.beat mem marks wanted).2.2.1.isSome = true then 1 else 0)) (d.beat mem marks wanted).1 (d.beat mem marks wanted).2.1 := by
  obtain ⟨hw, hm, hp⟩ := p
  rcases hp with ⟨ht, ho⟩ | ⟨ht, mine, ho⟩
  · rw [Dev.beat_idle ho]
    have : ¬ t < 2 * w.n := by omega
    simp [this]
    exact ⟨hw, hm, .inl ⟨ht, ho⟩⟩
  · have wk : ∀ g : Going, g.num = 0 → d.wk g = w := fun g e => by simp [Dev.wk, hw, e]
    generalize hg : (⟨0, t / 2, if t % 2 = 0 then none else some (mem0.getD (w.b + t / 2) 0), mine⟩ : Going) = g at ho
    have gn : g.num = 0 := by rw [← hg]
    have gm : g.moved = t / 2 := by rw [← hg]
    have gh : g.hand = if t % 2 = 0 then none else some (mem0.getD (w.b + t / 2) 0) := by rw [← hg]
    have ew := wk g gn
    have so : d.sorted = [g] := by
      unfold Dev.sorted
      rw [ho]
      have : isort ([g].map fun g => (g.num : Int)) = [(g.num : Int)] := by simp [isort]
      rw [this]
      simp
    have hc : d.chosen marks wanted = if mayTake w wanted d.took = true then some g else none := by
      unfold Dev.chosen
      rw [so]
      simp only [List.find?_cons, List.find?_nil, ew]
      have hh : held w g marks = false := by unfold held; rw [W.mark]; simp
      rw [hh]
      cases mayTake w wanted d.took <;> rfl
    have mm : mem.length = 32 := by rw [hm, dueM_len, W.len]
    cases hmt : mayTake w wanted d.took with
    | false =>
      rw [hmt, if_neg (by decide)] at hc
      have eb : d.beat mem marks wanted = ({ d with took := false }, mem, none, none) := by unfold Dev.beat; rw [hc]
      rw [eb]
      simp
      exact ⟨hw, hm, .inr ⟨ht, mine, ho.trans (by rw [← hg])⟩⟩
    | true =>
      rw [hmt, if_pos rfl] at hc
      by_cases c : t % 2 = 0
      · rw [if_pos c] at gh
        have eb : d.beat mem marks wanted = (({ d with took := true } : Dev).upd g.num (fun r => { r with hand := some (mem.getD (((d.wk g).b + g.moved) % mem.length) 0) }), mem, some (g.num, false, ((d.wk g).b + g.moved) % mem.length, mem.getD (((d.wk g).b + g.moved) % mem.length) 0), some g.mine) := by
          unfold Dev.beat; rw [hc]; simp only [gh]
        rw [eb]
        simp only [Option.isSome_some, decide_eq_true ht, Bool.and_self, if_true, true_and]
        have hlow : w.b + t / 2 < 16 := by have := W.b; have := W.n2; omega
        have ex : mem.getD (((d.wk g).b + g.moved) % mem.length) 0 = mem0.getD (w.b + t / 2) 0 := by
          rw [ew, gm, mm, Nat.mod_eq_of_lt (by omega), hm, dueM_low w mem0 hlow]
        rw [ex]
        have h1 : (t + 1) / 2 = t / 2 := by omega
        have h2 : ¬ (t + 1) % 2 = 0 := by omega
        refine ⟨hw, by rw [h1]; exact hm, .inr ⟨by omega, mine, ?_⟩⟩
        rw [h1, if_neg h2]
        show d.on.map _ = _
        rw [ho]
        simp only [List.map_cons, List.map_nil, if_true]
        rw [← hg]
      · rw [if_neg c] at gh
        have eb : d.beat mem marks wanted = (if g.moved + 1 = (d.wk g).n then (({ d with took := true } : Dev).drop g.num).next (d.wk g).nxt else ({ d with took := true } : Dev).upd g.num (fun r => { r with hand := none, moved := g.moved + 1 }), mem.set (((d.wk g).g + g.moved) % mem.length) (mem0.getD (w.b + t / 2) 0), some (g.num, true, ((d.wk g).g + g.moved) % mem.length, mem0.getD (w.b + t / 2) 0), some g.mine) := by
          unfold Dev.beat; rw [hc]; simp only [gh]
        rw [eb]
        simp only [Option.isSome_some, decide_eq_true ht, Bool.and_self, if_true, true_and]
        have h1 : (t + 1) / 2 = t / 2 + 1 := by omega
        have h2 : (t + 1) % 2 = 0 := by omega
        have ea : ((d.wk g).g + g.moved) % mem.length = 16 + t / 2 := by
          rw [ew, gm, mm, W.g, Nat.mod_eq_of_lt (by have := W.n2; omega)]
        rw [ea, ew, gm, W.nxt]
        refine ⟨?_, by rw [h1, dueM, ← hm], ?_⟩
        · split
          · exact hw
          · exact hw
        · by_cases c2 : t / 2 + 1 = w.n
          · rw [if_pos c2]
            refine .inl ⟨by omega, ?_⟩
            show d.on.filter _ = []
            rw [ho]
            simp
          · rw [if_neg c2]
            refine .inr ⟨by omega, mine, ?_⟩
            rw [h1, if_pos h2]
            show d.on.map _ = _
            rw [ho]
            simp only [List.map_cons, List.map_nil, if_true]
            rw [← hg]
/-! the hall, beat by beat -/
def tolds (n : Nat) (s : Hs) : List Told := (Hs.log n s).map (·.1)
structure In10 (w : Wk) (mem0 : List Int) (ask W0 n : Nat) (s0 s : Hs) : Prop where
  ok : s.Ok
  quiet : QuietP s.prog
  time : s.time = n
  rem : s.rem ≤ W0
  pos : (n ≤ ask ∧ s.asks = [(ask, 0)] ∧ s.dev.on = [] ∧ s.dev.works = [w] ∧ s.mem = mem0 ∧ (tolds n s0).filterMap id = []) ∨
    (ask < n ∧ s.asks = [] ∧ ∃ t, OnePos w mem0 t s.dev s.mem ∧ (t = 2 * w.n ∨ n + s.rem ≤ ask + t + W0) ∧ ((tolds n s0).filterMap id).length = t ∧ (w.gr = .all → t = min (n - ask) (2 * w.n)))
theorem tolds_succ (n : Nat) (s : Hs) : tolds (n + 1) s = tolds n s ++ [(Hs.go n s).open_.told] := by
  unfold tolds
  rw [Hs.log_succ, List.map_append]
  rfl
/-- one beat from an opened state -/
theorem beat10 {w : Wk} {mem0 : List Int} {t : Nat} {s : Hs} (W : One w mem0) (ok : s.Ok) (hq : QuietP s.prog) (p : OnePos w mem0 t s.dev s.mem) :
    OnePos w mem0 (t + (if s.told.isSome = true then 1 else 0)) s.beat1.dev s.beat1.mem ∧ s.beat1.asks = s.asks ∧ s.beat1.time = s.time + 1 ∧ (s.told.isSome = true → s.beat1.rem ≤ s.rem) ∧ (s.told.isSome = false → s.wanted = true → s.beat1.rem + 1 ≤ s.rem) ∧ s.beat1.rem ≤ s.rem ∧
      s.told.isSome = (decide (t < 2 * w.n) && mayTake w s.wanted s.dev.took) := by
  obtain ⟨e1, p1⟩ := one_beat W p s.marks s.wanted
  have e1 : s.told.isSome = (decide (t < 2 * w.n) && mayTake w s.wanted s.dev.took) := e1
  have p1 : OnePos w mem0 (t + if s.told.isSome = true then 1 else 0) s.moved.dev s.moved.mem := p1
  have okm := ok.moved
  have hqm : QuietP s.moved.prog := hq
  have rm : s.moved.rem = s.rem := rfl
  have na : NoAsk s.moved.prog := fun r hr x e => by have := hq r hr; rw [e] at this; exact this
  obtain ⟨q1, q2⟩ := quiet_beat okm hqm
  obtain ⟨m1, m2, m3, m4⟩ := machine_same okm na
  rw [rm, moved_wanted] at q2
  have rr : ∀ (s2 : Hs), ({ s2 with time := s2.time + 1 } : Hs).rem = s2.rem := fun s2 => rfl
  unfold Hs.beat1
  by_cases c : (s.wanted && s.told.isSome) = true
  · have ea : s.acts = (s.moved, .waits) := by unfold Hs.acts; rw [if_pos c]
    rw [ea]
    rw [Bool.and_eq_true] at c
    refine ⟨p1, rfl, rfl, fun _ => Nat.le_of_eq (rr _), fun z => ?_, Nat.le_of_eq (rr _), e1⟩
    rw [c.2] at z; cases z
  · have ea : s.acts = s.moved.machine := by unfold Hs.acts; rw [if_neg c]
    rw [ea]
    refine ⟨?_, m3, congrArg (· + 1) m4, fun _ => ?_, fun z hw => ?_, ?_, e1⟩
    · show OnePos _ _ _ s.moved.machine.1.dev s.moved.machine.1.mem
      rw [m1, q1]; exact p1
    · rw [rr]; omega
    · rw [rr]; rw [hw] at q2; simpa using q2
    · rw [rr]; omega
theorem step10 {w : Wk} {mem0 : List Int} {ask W0 n : Nat} {s0 : Hs} (W : One w mem0) (I : In10 w mem0 ask W0 n s0 (Hs.go n s0)) : In10 w mem0 ask W0 (n + 1) s0 (Hs.go (n + 1) s0) := by
  obtain ⟨ok, hq, ht, hr, hp⟩ := I
  have hgo : Hs.go (n + 1) s0 = (Hs.go n s0).beat := rfl
  have hts := tolds_succ n s0
  rw [hgo]
  generalize Hs.go n s0 = s at ok hq ht hr hp hts ⊢
  have oko := ok.open_
  have hqo : QuietP s.open_.prog := hq
  have hqb : QuietP s.beat.prog := by rw [beat_prog]; exact hq
  have eto : s.open_.time = n := ht
  have ero : s.open_.rem = s.rem := rfl
  have go : ∀ t, OnePos w mem0 t s.open_.dev s.open_.mem → s.open_.asks = [] → ask ≤ n → (t = 2 * w.n ∨ n + s.rem ≤ ask + t + W0) → ((tolds n s0).filterMap id).length = t → (w.gr = .all → t = min (n - ask) (2 * w.n)) → In10 w mem0 ask W0 (n + 1) s0 s.beat := by
    intro t p ha hn hb hl hg
    obtain ⟨b1, b2, b3, b4, b5, b6, b7⟩ := beat10 W oko hqo p
    refine ⟨ok.beat, hqb, by show s.open_.beat1.time = _; rw [b3, eto], by show s.open_.beat1.rem ≤ _; rw [ero] at b6; omega, .inr ⟨by omega, by show s.open_.beat1.asks = _; rw [b2]; exact ha, _, b1, ?_, ?_, ?_⟩⟩
    · rcases hb with hb | hb
      · left
        have : s.open_.told.isSome = false := by rw [b7, decide_eq_false (by omega)]; rfl
        rw [this]; simpa using hb
      · show _ ∨ n + 1 + s.open_.beat1.rem ≤ _
        cases hs : s.open_.told.isSome with
        | true =>
          right
          rw [ero] at b6
          simp
          omega
        | false =>
          by_cases c : t = 2 * w.n
          · left; simpa using c
          · right
            have : t < 2 * w.n := by
              rcases p.2.2 with ⟨z, _⟩ | ⟨z, _⟩
              · exact absurd z c
              · exact z
            rw [hs, decide_eq_true this, Bool.true_and] at b7
            have hw : s.open_.wanted = true := by
              cases hw : s.open_.wanted with
              | true => rfl
              | false =>
                rw [hw] at b7
                unfold mayTake at b7
                cases hgr : w.gr <;> rw [hgr] at b7 <;> simp at b7
            have := b5 hs hw
            rw [ero] at this
            simp
            omega
    · rw [hts, List.filterMap_append, List.length_append, hl]
      cases hs : s.open_.told with
      | none => simp
      | some x => simp
    · intro e
      have := hg e
      rw [b7]
      unfold mayTake
      rw [e]
      by_cases c : t < 2 * w.n
      · simp [c]; omega
      · simp [c]; omega
  rcases hp with ⟨p1, p2, p3, p4, p5, p6⟩ | ⟨p1, p2, t, p3, p4, p5, p6⟩
  · by_cases hl : n < ask
    · have eo : openGo s.time s.asks s.dev = ([(ask, 0)], s.dev) := by
        rw [p2, ht]; unfold openGo; rw [if_neg (by omega)]
      have eoa : s.open_.asks = [(ask, 0)] := by show (openGo _ _ _).1 = _; rw [eo]
      have eod : s.open_.dev = s.dev := by show (openGo _ _ _).2 = _; rw [eo]
      have na : NoAsk s.open_.prog := fun r hr x e => by have := hqo r hr; rw [e] at this; exact this
      obtain ⟨c1, c2, c3, c4⟩ := beat1_same oko na
      have eon : s.open_.dev.on = [] := by rw [eod]; exact p3
      have eb := Dev.beat_idle eon s.open_.mem s.open_.marks s.open_.wanted
      have etd : s.open_.told = none := by unfold Hs.told; rw [eb]
      have okm := oko.moved
      obtain ⟨q1, q2⟩ := quiet_beat okm (show QuietP s.open_.moved.prog from hqo)
      have emm : s.open_.moved.mem = mem0 := by show (s.open_.dev.beat _ _ _).2.1 = _; rw [eb]; exact p5
      have act : s.open_.acts = s.open_.moved.machine := by unfold Hs.acts; rw [etd]; simp
      have rmv : s.open_.moved.rem = s.rem := rfl
      refine ⟨ok.beat, hqb, by show s.open_.beat1.time = _; rw [c4, eto], ?_, .inl ⟨by omega, c3.trans eoa, ?_, ?_, ?_, ?_⟩⟩
      · show s.open_.acts.1.rem ≤ W0
        rw [act]
        omega
      · show s.open_.beat1.dev.on = _; rw [c1, eb]; exact eon
      · show s.open_.beat1.dev.works = _; rw [c1, eb]; show s.open_.dev.works = _; rw [eod]; exact p4
      · show s.open_.acts.1.mem = _; rw [act, q1]; exact emm
      · rw [hts, List.filterMap_append, p6, etd]; rfl
    · have hn : n = ask := by omega
      have eo : openGo s.time s.asks s.dev = ([], s.dev.begin 0) := by
        rw [p2, ht]; unfold openGo; rw [if_pos (by omega)]; rfl
      have eoa : s.open_.asks = [] := by show (openGo _ _ _).1 = _; rw [eo]
      have eod : s.open_.dev = s.dev.begin 0 := by show (openGo _ _ _).2 = _; rw [eo]
      have ebg : s.dev.begin 0 = { s.dev with on := [⟨0, 0, none, s.dev.begun⟩], begun := s.dev.begun + 1 } := by
        unfold Dev.begin
        rw [if_pos (by rw [p3, p4]; exact ⟨by simp, by simp⟩), p3]
        rfl
      have n1 := W.n1
      refine go 0 ⟨by rw [eod, ebg]; exact p4, p5, .inr ⟨by omega, s.dev.begun, by rw [eod, ebg]; rfl⟩⟩ eoa (by omega) (.inr (by omega)) (by rw [p6]; rfl) (fun _ => by omega)
  · have eo : openGo s.time s.asks s.dev = ([], s.dev) := by
      rw [p2]; rfl
    have eoa : s.open_.asks = [] := by show (openGo _ _ _).1 = _; rw [eo]
    have eod : s.open_.dev = s.dev := by show (openGo _ _ _).2 = _; rw [eo]
    exact go t (by rw [eod]; exact p3) eoa (by omega) p4 p5 p6
theorem all10 {w : Wk} {mem0 : List Int} {ask W0 : Nat} {s0 : Hs} (W : One w mem0) (I : In10 w mem0 ask W0 0 s0 s0) : ∀ n, In10 w mem0 ask W0 n s0 (Hs.go n s0)
  | 0 => I
  | n + 1 => step10 W (all10 W I n)
theorem new10 {w : Wk} {mem0 : List Int} {ask : Nat} {prog : List Row} (g : Good4 prog [w] mem0 [(ask, 0)]) (hq : QuietP prog) : In10 w mem0 ask ((prog.map Row.takes).sum) 0 (Hs.new prog [w] mem0 [(ask, 0)]) (Hs.new prog [w] mem0 [(ask, 0)]) :=
  ⟨g.ok, hq, rfl, by
    unfold Hs.rem
    split
    · exact Nat.zero_le _
    · exact Nat.sub_le _ _, .inl ⟨Nat.zero_le _, rfl, rfl, rfl, rfl, rfl⟩⟩
/-! ahead of the ask: as alone -/
def noDev : Dev := ⟨[], [], 0, false⟩
theorem alone_step {s : Hs} {ask : Nat} (ok : s.Ok) (hq : QuietP s.prog) (ha : s.asks = [(ask, 0)]) (ht : s.time < ask) (ho : s.dev.on = []) :
    (s.as noDev []).beat = s.beat.as noDev [] ∧ (s.as noDev []).entry = s.entry := by
  have eo : openGo s.time s.asks s.dev = ([(ask, 0)], s.dev) := by
    rw [ha]; unfold openGo; rw [if_neg (by omega)]
  have e1 : s.open_ = s := by
    unfold Hs.open_
    rw [eo, ← ha]
  have e2 : (s.as noDev []).open_ = s.as noDev [] := rfl
  have b1 := Dev.beat_idle ho s.mem s.marks s.wanted
  have b2 := Dev.beat_idle (d := noDev) rfl s.mem s.marks (s.as noDev []).wanted
  have t1 : s.told = none := by unfold Hs.told; rw [b1]
  have t2 : (s.as noDev []).told = none := by
    show ((s.as noDev []).dev.beat (s.as noDev []).mem (s.as noDev []).marks (s.as noDev []).wanted).2.2.1 = _
    show (noDev.beat s.mem s.marks (s.as noDev []).wanted).2.2.1 = _
    rw [b2]
  have m2 : (s.as noDev []).moved = s.moved.as noDev [] := by
    unfold Hs.moved Hs.as
    show ({ s with dev := (noDev.beat s.mem s.marks (s.as noDev []).wanted).1, mem := (noDev.beat s.mem s.marks (s.as noDev []).wanted).2.1, asks := [] } : Hs) = { s with dev := noDev, mem := (s.dev.beat s.mem s.marks s.wanted).2.1, asks := [] }
    have b2' := congrArg (·.1) b2
    have b3' := congrArg (·.2.1) b2
    have b4' := congrArg (·.2.1) b1
    simp only at b2' b3' b4'
    rw [b2', b3', b4']
    rfl
  have a1 : s.acts = s.moved.machine := by unfold Hs.acts; rw [t1]; simp
  have a2 : (s.as noDev []).acts = (s.as noDev []).moved.machine := by unfold Hs.acts; rw [t2]; simp
  obtain ⟨c1, c2⟩ := machine_as ok.moved (show QuietP s.moved.prog from hq) noDev []
  constructor
  · unfold Hs.beat
    rw [e1, e2]
    unfold Hs.beat1
    rw [a1, a2, m2, c1]
    rfl
  · unfold Hs.entry
    rw [e1, e2, t1, t2]
    unfold Hs.did
    rw [a1, a2, m2, c2]
theorem alone10 {w : Wk} {mem0 : List Int} {ask : Nat} {prog : List Row} {W0 : Nat} (h : ∀ n, In10 w mem0 ask W0 n (Hs.new prog [w] mem0 [(ask, 0)]) (Hs.go n (Hs.new prog [w] mem0 [(ask, 0)]))) :
    ∀ n, n ≤ ask → Hs.go n (Hs.new prog [] mem0 []) = (Hs.go n (Hs.new prog [w] mem0 [(ask, 0)])).as noDev []
  | 0, _ => rfl
  | n + 1, hn => by
    have I := h n
    have ih := alone10 h n (by omega)
    show (Hs.go n (Hs.new prog [] mem0 [])).beat = _
    rw [ih]
    rcases I.pos with ⟨p1, p2, p3, p4, p5, p6⟩ | ⟨p1, _⟩
    · exact (alone_step I.ok I.quiet p2 (by rw [I.time]; omega) p3).1
    · omega
theorem alone_log {w : Wk} {mem0 : List Int} {ask : Nat} {prog : List Row} {W0 : Nat} (h : ∀ n, In10 w mem0 ask W0 n (Hs.new prog [w] mem0 [(ask, 0)]) (Hs.go n (Hs.new prog [w] mem0 [(ask, 0)]))) (m : Nat) (hm : ask ≤ m) :
    (Hs.log m (Hs.new prog [w] mem0 [(ask, 0)])).take ask = Hs.log ask (Hs.new prog [] mem0 []) := by
  unfold Hs.log
  rw [← List.map_take, List.take_range, Nat.min_eq_left hm]
  refine List.map_congr_left fun k hk => ?_
  have hk : k < ask := List.mem_range.mp hk
  have I := h k
  rcases I.pos with ⟨p1, p2, p3, p4, p5, p6⟩ | ⟨p1, _⟩
  · rw [alone10 h k (by omega), (alone_step I.ok I.quiet p2 (by rw [I.time]; omega) p3).2]
  · omega
/-- what the end is -/
theorem end10 {w : Wk} {mem0 : List Int} {ask W0 : Nat} {s0 : Hs} (hW : W0 ≤ 58) (W : One w mem0) (ha : ask < 100) (h : ∀ n, In10 w mem0 ask W0 n s0 (Hs.go n s0)) :
    (Hs.go 300 s0).mem = dueM w mem0 w.n ∧ (Hs.go 300 s0).dev.on = [] ∧ ((tolds 300 s0).filterMap id).length = 2 * w.n := by
  have I := h 300
  rcases I.pos with ⟨p1, _⟩ | ⟨p1, p2, t, p3, p4, p5, p6⟩
  · omega
  · have n2 := W.n2
    have ht : t = 2 * w.n := by
      rcases p4 with z | z
      · exact z
      · rcases p3.2.2 with ⟨y, _⟩ | ⟨y, _⟩
        · exact y
        · omega
    subst ht
    refine ⟨?_, ?_, p5⟩
    · rw [p3.2.1]; congr 1; omega
    · rcases p3.2.2 with ⟨_, y⟩ | ⟨y, _⟩
      · exact y
      · omega
/-- by "all": at once, one behind the other -/
theorem told_at {w : Wk} {mem0 : List Int} {ask W0 : Nat} {s0 : Hs} (h : ∀ n, In10 w mem0 ask W0 n s0 (Hs.go n s0)) (hg : w.gr = .all) (n : Nat) : ((tolds n s0).filterMap id).length = min (n - ask) (2 * w.n) := by
  have I := h n
  rcases I.pos with ⟨p1, p2, p3, p4, p5, p6⟩ | ⟨p1, p2, t, p3, p4, p5, p6⟩
  · rw [p6]; simp; omega
  · rw [p5]; exact p6 hg
theorem tolds_take (s0 : Hs) {n m : Nat} (h : n ≤ m) : (tolds m s0).take n = tolds n s0 := by
  unfold tolds Hs.log
  rw [← List.map_take, ← List.map_take, List.take_range, Nat.min_eq_left h]
theorem tolds_len (n : Nat) (s0 : Hs) : (tolds n s0).length = n := by simp [tolds, Hs.log_len]
/-- where as many are told as there are beats, each is told -/
theorem all_some : ∀ (l : List Told), (l.filterMap id).length = l.length → (l.filterMap id).map some = l
  | [], _ => rfl
  | none :: r, h => by
    have h2 := List.length_filterMap_le id r
    have e : (none :: r : List Told).filterMap id = r.filterMap id := rfl
    rw [e, List.length_cons] at h
    omega
  | some x :: r, h => by
    have e : (some x :: r : List Told).filterMap id = x :: r.filterMap id := rfl
    rw [e, List.length_cons, List.length_cons] at h
    rw [e, List.map_cons, all_some r (by omega)]
theorem slice10 {w : Wk} {mem0 : List Int} {ask W0 : Nat} {s0 : Hs} (W : One w mem0) (ha : ask < 100) (h : ∀ n, In10 w mem0 ask W0 n s0 (Hs.go n s0)) (hg : w.gr = .all) :
    ((tolds 300 s0).filterMap id).map some = ((tolds 300 s0).drop ask).take (2 * w.n) := by
  have n2 := W.n2
  have l0 := told_at h hg ask
  have l1 := told_at h hg (ask + 2 * w.n)
  have l2 := told_at h hg 300
  have e1 : tolds 300 s0 = tolds ask s0 ++ (((tolds 300 s0).drop ask).take (2 * w.n) ++ (tolds 300 s0).drop (ask + 2 * w.n)) := by
    have a := (List.take_append_drop ask (tolds 300 s0)).symm
    have b := (List.take_append_drop (2 * w.n) ((tolds 300 s0).drop ask)).symm
    rw [List.drop_drop] at b
    conv => lhs; rw [a]
    rw [tolds_take s0 (by omega)]
    exact congrArg _ b
  have e2 : tolds (ask + 2 * w.n) s0 = tolds ask s0 ++ ((tolds 300 s0).drop ask).take (2 * w.n) := by
    rw [← tolds_take s0 (show ask + 2 * w.n ≤ 300 by omega), List.take_add, tolds_take s0 (by omega)]
  have f0 : (tolds ask s0).filterMap id = [] := List.length_eq_zero_iff.mp (by rw [l0]; omega)
  have f1 : ((((tolds 300 s0).drop ask).take (2 * w.n)).filterMap id).length = 2 * w.n := by
    rw [e2, List.filterMap_append, f0, List.nil_append] at l1
    rw [l1]; omega
  have f2 : ((tolds 300 s0).drop (ask + 2 * w.n)).filterMap id = [] := by
    have l2' := l2
    rw [e1, List.filterMap_append, List.filterMap_append, f0, List.nil_append, List.length_append, f1] at l2'
    exact List.length_eq_zero_iff.mp (by omega)
  have f3 : (tolds 300 s0).filterMap id = (((tolds 300 s0).drop ask).take (2 * w.n)).filterMap id := by
    conv => lhs; rw [e1, List.filterMap_append, List.filterMap_append, f0, f2]
    simp
  rw [f3]
  refine all_some _ ?_
  rw [f1, List.length_take, List.length_drop, tolds_len]
  omega
end SB

/- ARGS: hallT T_run T_need_beats T_Hall_beat T_Device_told T_Hall_shown T_law_dice T_law_off T_law -/
namespace SB
open PySem
open L2 (Key)
def I10 (ns : List Int) (d c : Nat) : En → AH → Prop := fun σ h => ∃ x2 x3 x4 x5 x6 x7 x8 x9 x10 x11 x12 x13 x14 x15 x16, σ = [some (.scr ns), some (.ref d), x2, x3, x4, x5, x6, x7, x8, x9, x10, x11, x12, x13, x14, x15, x16] ∧ Dc h d c []
def Row10 (r : Row) : Prop := r.Quiet ∧ r.takes ≤ 2 ∧ ∀ n, r.Ok n
theorem row10_of {n : Nat} (h1 : 1 ≤ n) (h2 : n ≤ 9) : ∀ v ∈ [AV.tup [.str "rest", .int (n : Int)], .tup [.str "get", .int 0, .int 30], .tup [.str "pair", .int 1, .int 28], .tup [.str "add", .int 0, .int 1], .tup [.str "set", .int 2, .int 7]], ∃ r : Row, v = r.av ∧ Row10 r := by
  intro v hv
  simp only [List.mem_cons, List.not_mem_nil, or_false] at hv
  rcases hv with rfl | rfl | rfl | rfl | rfl
  · exact ⟨.rest n, rfl, trivial, by simp [Row.takes, Row.wants], fun _ => ⟨h1, h2⟩⟩
  · exact ⟨.get 0 30, rfl, trivial, by decide, fun _ => by simp [Row.Ok]⟩
  · exact ⟨.pair 1 28, rfl, trivial, by decide, fun _ => by simp [Row.Ok]⟩
  · exact ⟨.add 0 1, rfl, trivial, by decide, fun _ => by simp [Row.Ok]⟩
  · exact ⟨.set 2 7, rfl, trivial, by decide, fun _ => by simp [Row.Ok]⟩
theorem takes_sum : ∀ (l : List Row), (∀ r ∈ l, Row10 r) → (l.map Row.takes).sum ≤ 2 * l.length
  | [], _ => Nat.zero_le _
  | r :: t, h => by
    have a := (h r (by simp)).2.1
    have b := takes_sum t fun x hx => h x (by simp [hx])
    simp
    omega
theorem taken_eq (lgv : List (Told × Did)) : (lgv.filter fun e => e.1.isSome).map (fun e => toldV e.1) = (((lgv.map (·.1)).filterMap id).map some).map toldV := by
  induction lgv with
  | nil => rfl
  | cons e r ih =>
    obtain ⟨t, dd⟩ := e
    cases t with
    | none => exact ih
    | some t =>
      show toldV (some t) :: _ = toldV (some t) :: _
      exact congrArg _ ih
def P10 (ns : List Int) (d t ma many : Nat) (gr : Greed) (w : Wk) (rows : List AV) (prog : List Row) (ask lg : Nat) (sv : AV) (du : Nat) (x14 x15 x16 : Option AV) (mem : List Int) (c : Nat) (L : List (Nat × AO)) : Nat → En → AH → Prop := fun k σ h => ∃ x13, σ = [some (.scr ns), some (.ref d), some (.int (t : Int)), some (.ref ma), some (.int (many : Int)), some (.str gr.s), some w.av, some (.tup rows), some (.tup (prog.map Row.av)), some (.int (ask : Int)), some (.ref lg), some sv, some (.ref du), x13, x14, x15, x16] ∧
  Dc h d c ((du, .lst ((dueM w mem k).map .int)) :: L)
theorem law_wp {O : Ora} (S1 : S_dice O) (S2 : S_off O) (S7 : S_run O) (ns : List Int) : wp (f_law.run O [.scr ns] []) fun v _ => v = .bl true := by
  refine wp_run rfl ?_
  show wp (b_law O _ []) _
  unfold b_law
  simp only [s_sAll2, s_sAll1]
  refine wp_seq ?_
  simp [-seqQ_next, f_law]
  refine wp_mono (S1 [] ns 0 [] ⟨List.nodup_nil, fun p hp => by cases hp⟩) ?_
  rintro _ h1 ⟨d, c, rfl, D, _⟩
  rw [seqQ_next]
  refine wp_seq ?_
  refine wp_forN (n := 3) (Nat.zero_le _) (iR1 rfl (by omega)) (fun _ => trivial) (fun _ => I10 ns d c) ⟨_, _, _, _, _, _, _, _, _, _, _, _, _, _, _, rfl, D⟩ ?_ ?_
  · rintro t _ h _ ⟨x2, x3, x4, x5, x6, x7, x8, x9, x10, x11, x12, x13, x14, x15, x16, rfl, D⟩
    simp only [s_gVar, bnd_some, List.set_cons_succ, List.set_cons_zero]
    -- the words
    refine wp_seq ?_
    rw [s_sAsg, wp_bnd]
    refine D.lcAll (P := fun v => ∃ x : Int, v = .int x ∧ (0 ≤ x ∧ x ≤ 999)) (iR1 (n := 32) rfl (by omega)) (irange_lt (n := 32) (by decide)) (fun _ _ => trivial) ?_ ?_
    · intro x hh L' _ D' _
      refine ⟨_, rfl, ?_⟩
      simp [wipeA]
      exact D'.off S2 (by decide) (by decide) fun u h1 hu D => ⟨⟨(u : Int), rfl, by omega, by omega⟩, D⟩
    intro acc ma h1 hP hl D
    obtain ⟨mem, rfl, hmem⟩ := all_map hP
    have hl : mem.length = 32 := by rw [List.length_map] at hl; exact hl.trans irange_len
    try simp [-seqQ_next]
    rw [seqQ_next]
    refine wp_seq ?_
    simp [-seqQ_next]
    refine D.off S2 (by decide) (by decide) fun u h2 hu D => ?_
    obtain ⟨many, em, hm⟩ := one_up u
    rw [o_add, wp_some, em, seqQ_next]
    refine wp_seq ?_
    simp [-seqQ_next, alloc]
    refine D.pick (n := 3) S2 rfl (by decide) (by decide) fun gv h3 hgv D => ?_
    obtain ⟨gr, rfl⟩ : ∃ gr : Greed, gv = .str gr.s := by
      simp only [List.mem_cons, List.not_mem_nil, or_false] at hgv
      rcases hgv with rfl | rfl | rfl
      · exact ⟨.all, rfl⟩
      · exact ⟨.turn, rfl⟩
      · exact ⟨.idle, rfl⟩
    rw [seqQ_next]
    refine wp_seq ?_
    simp [-seqQ_next]
    refine D.off S2 (by decide) (by decide) fun b h4 hb D => ?_
    try simp [-seqQ_next]
    refine D.off S2 (by decide) (by decide) fun kk h5 hkk D => ?_
    obtain ⟨k, ek, hk⟩ := one_up kk
    rw [o_add, wp_some, ek]
    try simp [-seqQ_next]
    obtain ⟨w, hw⟩ : ∃ w : Wk, w = ⟨b, 16, many, k, gr, none, none⟩ := ⟨_, rfl⟩
    have ewv : AV.tup [.int (b : Int), .int 16, .int (many : Int), .int (k : Int), .str gr.s, .non, .non] = w.av := by rw [hw]; rfl
    rw [ewv, seqQ_next]
    refine wp_seq ?_
    simp [-seqQ_next]
    refine D.off S2 (by decide) (by decide) fun re h6 hre D => ?_
    obtain ⟨rs, ers, hrs⟩ := one_up re
    rw [o_add, wp_some, ers]
    try simp [-seqQ_next]
    have hrows := row10_of (n := rs) (by omega) (by omega)
    have hrl : [AV.tup [.str "rest", .int (rs : Int)], .tup [.str "get", .int 0, .int 30], .tup [.str "pair", .int 1, .int 28], .tup [.str "add", .int 0, .int 1], .tup [.str "set", .int 2, .int 7]].length = 5 := rfl
    rw [seqQ_next]
    generalize [AV.tup [.str "rest", .int (rs : Int)], .tup [.str "get", .int 0, .int 30], .tup [.str "pair", .int 1, .int 28], .tup [.str "add", .int 0, .int 1], .tup [.str "set", .int 2, .int 7]] = rows at hrows hrl ⊢
    refine wp_seq ?_
    rw [s_sAsg, s_fOp, s_fUn, wp_bnd, wp_bnd, wp_bnd]
    refine wp_lc (wp_range ?_)
    simp [-seqQ_next]
    refine D.off S2 (by decide) (by decide) fun cnt h7 hcnt D => ⟨cnt, rfl, by omega, ?_⟩
    refine D.loopAll (P := fun v => ∃ r : Row, v = r.av ∧ Row10 r) (irange_lt (by omega)) (fun _ _ => trivial) ?_ ?_
    · intro x hh L' _ D' _
      refine ⟨_, rfl, ?_⟩
      simp [wipeA]
      refine D'.off S2 (by decide) (by decide) fun u h1 hu D => ?_
      have hu : u < rows.length := by omega
      rw [ix_tup (i := u) (v := rows[u]) (by simp [hu]), wp_some]
      exact ⟨hrows _ (List.getElem_mem hu), D⟩
    intro acc dd h8 hP hl8 D
    obtain ⟨rws, rfl, hrws⟩ := all_map hP
    rw [List.length_map] at hl8
    have hl9 : rws.length = cnt := hl8.trans irange_len
    have g := D.get (i := dd) (o := .lst (rws.map Row.av)) (by simp)
    rw [show tupleA (.ref dd) h8 = some (.tup (rws.map Row.av), h8) from by unfold tupleA; simp only [g]]
    simp [-seqQ_next]
    rw [add_tup (by simp; omega), wp_some]
    have ep : rws.map Row.av ++ [AV.tup [.str "end"]] = (rws ++ [Row.fin]).map Row.av := by rw [List.map_append]; rfl
    rw [ep, seqQ_next]
    have hq : QuietP (rws ++ [Row.fin]) := fun r hr => by
      rcases List.mem_append.mp hr with hr | hr
      · exact (hrws r hr).1
      · have : r = .fin := by simpa using hr
        subst this; exact trivial
    have hts : ((rws ++ [Row.fin]).map Row.takes).sum ≤ 58 := by
      have := takes_sum rws hrws
      rw [List.map_append, List.sum_append]
      have e : ([Row.fin].map Row.takes).sum = 0 := rfl
      omega
    have hpl : (rws ++ [Row.fin]).length ≤ 40 := by simp; omega
    have hpo : ∀ r ∈ rws ++ [Row.fin], ∀ n, r.Ok n := fun r hr n => by
      rcases List.mem_append.mp hr with hr | hr
      · exact (hrws r hr).2.2 n
      · have : r = .fin := by simpa using hr
        subst this; exact trivial
    have hpn : rws ++ [Row.fin] ≠ [] := by simp
    generalize rws ++ [Row.fin] = prog at hq hts hpl hpo hpn ⊢
    have D := D.sub (List.sublist_cons_self _ _)
    refine wp_seq ?_
    simp [-seqQ_next]
    refine D.off S2 (by decide) (by decide) fun ask h9 hask D => ?_
    rw [seqQ_next]
    refine wp_seq ?_
    simp [-seqQ_next, alloc]
    have D := D.new2 (.lst ([w].map Wk.av)) (.lst (([(ask, 0)] : List (Nat × Nat)).map pairV))
    have W : One w mem := by
      subst hw
      exact ⟨by show b < 5; omega, rfl, by show 1 ≤ many; omega, by show many ≤ 10; omega, rfl, rfl, hl⟩
    have wn : w.n = many := by subst hw; rfl
    have wgr : w.gr = gr := by subst hw; rfl
    have wb : w.b = b := by subst hw; rfl
    have wok : w.Ok 1 := by
      subst hw
      refine ⟨by show b < 32; omega, by show 16 < 32; omega, by show 1 ≤ many; omega, by show many ≤ 16; omega, by show 1 ≤ k; omega, by show k ≤ 4; omega, (fun m e => by cases e), fun m e => by cases e⟩
    have G : Good4 prog [w] mem [(ask, 0)] := ⟨hpn, hpl, fun r hr => hpo r hr _, by simp, fun x hx => by
      have : x = w := by simpa using hx
      subst this; exact wok, by omega, by omega, hmem, by simp, ⟨Nat.zero_le _, by omega, by simp, trivial⟩⟩
    have e2 : h9 ++ [AO.lst [w.av], AO.lst [.tup [.int (ask : Int), .int 0]]] = h9 ++ [.lst ([w].map Wk.av), .lst (([(ask, 0)] : List (Nat × Nat)).map pairV)] := rfl
    rw [e2]
    refine D.run S7 (n := 300) (D.get (by simp)) (D.get (by simp)) (D.get (by simp)) G (by omega) fun h10 lg a D kp => ?_
    have I := all10 W (new10 G hq)
    obtain ⟨z1, z2, z3⟩ := end10 hts W (by omega) I
    have z4 := alone_log I 300 (by omega)
    have z5 := slice10 W (by omega) I
    have t5 : ((Hs.log 300 (Hs.new prog [w] mem [(ask, 0)])).map (·.1)) = tolds 300 (Hs.new prog [w] mem [(ask, 0)]) := rfl
    have hll : (Hs.log 300 (Hs.new prog [w] mem [(ask, 0)])).length = 300 := Hs.log_len _ _
    rw [← t5] at z3 z5
    generalize Hs.log 300 (Hs.new prog [w] mem [(ask, 0)]) = lgv at D z3 z4 z5 hll ⊢
    generalize Hs.go 300 (Hs.new prog [w] mem [(ask, 0)]) = sE at D z1 z2 ⊢
    simp [-seqQ_next, runV]
    rw [seqQ_next]
    refine wp_seq ?_
    have gm := D.get (i := ma) (o := .lst (mem.map .int)) (by simp)
    simp [-seqQ_next, list_of gm]
    have D := D.new (.lst (mem.map .int))
    rw [seqQ_next]
    generalize h10.length = du at D ⊢
    generalize h10 ++ [AO.lst (mem.map .int)] = h11 at D ⊢
    have D := D.sub (M := (du, .lst (mem.map .int)) :: (lg, .lst ((lgv).map entryV)) :: (a + 1, .lst ((sE).mem.map .int)) :: (a + 4, .lst ((sE).dev.sorted.map tellV)) :: [(ma, .lst (mem.map .int))]) (List.Sublist.cons_cons _ (List.Sublist.cons_cons _ (List.Sublist.cons _ (List.Sublist.cons_cons _ (List.Sublist.cons _ (List.Sublist.cons_cons _ (List.Sublist.cons _ (List.Sublist.cons _ (List.Sublist.refl _)))))))))
    refine wp_seq ?_
    refine wp_forN (n := many) (Nat.zero_le _) (iR1 rfl (by omega)) (fun _ => trivial) (P10 ns d t ma many gr w rows prog ask lg (shownT (sE) a) du x14 x15 x16 mem c [(lg, .lst ((lgv).map entryV)), (a + 1, .lst ((sE).mem.map .int)), (a + 4, .lst ((sE).dev.sorted.map tellV)), (ma, .lst (mem.map .int))]) ⟨_, rfl, D⟩ ?_ ?_
    · rintro j _ h hj ⟨x13, rfl, D⟩
      have g1 := D.get (i := du) (o := .lst ((dueM w mem j).map .int)) (by simp)
      have g2 := D.get (i := ma) (o := .lst (mem.map .int)) (by simp)
      have ix := ix_mem g2 (i := b + j) (by omega)
      have st := setIx_int (i := 16 + j) (v := mem.getD (b + j) 0) g1 (by rw [dueM_len, hl]; omega)
      rw [Int.natCast_add] at ix st
      have D2 := D.set0 (.lst ((dueM w mem (j + 1)).map .int))
      have e1 : dueM w mem (j + 1) = (dueM w mem j).set (16 + j) (mem.getD (b + j) 0) := by rw [dueM, wb]
      rw [e1] at D2
      simp only [s_gVar, bnd_some, List.set_cons_succ, List.set_cons_zero]
      generalize mem.getD (b + j) 0 = z at ix st D2 e1
      have w0 : ∀ hh, ixA w.av (.int 0) hh = some (.int (b : Int), hh) := fun hh => by rw [← wb]; rfl
      have st : setIxA (.ref du) (.int (16 + (j : Int))) (.int z) h = _ := st
      rw [List.map_set] at st D2
      simp [w0, ix, st]
      rw [forQ_next]
      refine ⟨_, rfl, ?_⟩
      rw [e1, List.map_set]
      exact D2
    · rintro _ h12 ⟨x13, rfl, D⟩
      rw [seqQ_next]
      refine wp_seq ?_
      rw [s_sAsg, wp_bnd]
      refine D.lcFilter (xs := lgv) (f := entryV) (p := fun e => e.1.isSome) (e := fun e => toldV e.1) (itv (n := lg) rfl (D.get (o := .lst (lgv.map entryV)) (by simp))) rfl (by rw [hll]; decide) (fun hh DD => DD.get (by simp)) ?_ ?_
      · intro e he hh DD
        refine ⟨_, rfl, ?_, fun _ => rfl⟩
        simp [wipeA, toldV_isNon]
      intro tk h13 D
      try simp [-seqQ_next]
      rw [seqQ_next]
      refine wp_seq ?_
      have etk := taken_eq lgv
      have D : Dc h13 d c ((tk, .lst ((((lgv.map (·.1)).filterMap id).map some).map toldV)) :: _) := etk ▸ D
      have gtk := D.get (i := tk) (o := .lst ((((lgv.map (·.1)).filterMap id).map some).map toldV)) (by simp)
      have ltk := len_lst gtk
      rw [List.length_map, List.length_map, z3, wn] at ltk
      have g3 := D.get (i := a + 1) (o := .lst (sE.mem.map .int)) (by simp)
      have gdu := D.get (i := du) (o := .lst ((dueM w mem many).map .int)) (by simp)
      rw [z1, wn] at g3
      have n1 := ne_ints g3 gdu
      have g5 := D.get (i := a + 4) (o := .lst (sE.dev.sorted.map tellV)) (by simp)
      have e5 : sE.dev.sorted = [] := by simp [Dev.sorted, z2, isort]
      rw [e5] at g5
      have n2 := neE (b := h13.length) (Keep.app h13 [.lst []] _ _ g5) (by simp) rfl (by rfl)
      have n2 : cmpA .NotEq (.ref (a + 4)) (.ref h13.length) (h13 ++ [.lst []]) = some (.bl false, h13 ++ [.lst []]) := n2
      have ltk2 : lenA (.ref tk) (h13 ++ [.lst []]) = some (.int ((2 * many : Nat) : Int), h13 ++ [.lst []]) := by
        have := len_lst (Keep.app h13 [.lst []] _ _ gtk)
        rw [List.length_map, List.length_map, z3, wn] at this
        exact this
      have mm2 : opA .Mult (.int 2) (.int (many : Int)) (h13 ++ [.lst []]) = some (.int ((2 * many : Nat) : Int), h13 ++ [.lst []]) := mul_nat (i := 2) (by omega)
      have D := D.app [.lst []]
      generalize 2 * many = m2 at ltk2 mm2
      simp [-seqQ_next, shownT, n1, alloc, n2, ltk2, mm2]
      rw [seqQ_next]
      refine wp_seq ?_
      generalize h13 ++ [AO.lst []] = h14 at D ⊢
      have glg := D.get (i := lg) (o := .lst (lgv.map entryV)) (by simp)
      have sl1 : sliceA none (some (ask : Int)) (.ref lg) h14 = some (.ref h14.length, h14 ++ [.lst ((Hs.log ask (Hs.new prog [] mem [])).map entryV)]) := by
        rw [slice_of (ys := (Hs.log ask (Hs.new prog [] mem [])).map entryV) glg (by rw [cut_to _ _ (by rw [List.length_map, hll]; omega), ← List.map_take, z4])]
        rfl
      rw [s_sIf, s_fCmp]
      simp [-seqQ_next, pOpt, sl1, alloc]
      have D := D.new3 (.lst ((Hs.log ask (Hs.new prog [] mem [])).map entryV)) (.lst (([] : List Wk).map Wk.av)) (.lst (([] : List (Nat × Nat)).map pairV))
      have G2 : Good4 prog [] mem [] := ⟨hpn, hpl, fun r hr => hpo r hr _, by simp, (fun x hx => by cases hx), by omega, by omega, hmem, by simp, trivial⟩
      have e3 : h14 ++ [AO.lst ((Hs.log ask (Hs.new prog [] mem [])).map entryV), .lst [], .lst []] = h14 ++ [.lst ((Hs.log ask (Hs.new prog [] mem [])).map entryV), .lst (([] : List Wk).map Wk.av), .lst (([] : List (Nat × Nat)).map pairV)] := rfl
      rw [e3]
      refine D.run S7 (n := ask) (D.get (by simp)) (D.get (by simp)) (D.get (by simp)) G2 (by omega) fun h15 lg2 a2 D kp => ?_
      have n3 := ne_entries (D.get (i := h14.length) (o := .lst ((Hs.log ask (Hs.new prog [] mem [])).map entryV)) (by simp)) (D.get (i := lg2) (o := .lst ((Hs.log ask (Hs.new prog [] mem [])).map entryV)) (by simp))
      simp [-seqQ_next, runV, n3]
      rw [seqQ_next]
      have glg := D.get (i := lg) (o := .lst (lgv.map entryV)) (by simp)
      have gtk := D.get (i := tk) (o := .lst ((((lgv.map (·.1)).filterMap id).map some).map toldV)) (by simp)
      rw [s_sIf, s_fAnd, s_fCmp]
      simp [-seqQ_next, gr_all]
      by_cases hgr : gr = .all
      · have z5 := z5 (wgr.trans hgr)
        rw [wn] at z5
        rw [z5] at gtk
        rw [if_pos hgr, wp_bnd]
        have mm : opA .Mult (.int 2) (.int (many : Int)) h15 = some (.int ((2 * many : Nat) : Int), h15) := mul_nat (i := 2) (by omega)
        have sl2 : sliceA (some (ask : Int)) (some ((ask : Int) + ((2 * many : Nat) : Int))) (.ref lg) h15 = some (.ref h15.length, h15 ++ [.lst (((lgv.drop ask).take (2 * many)).map entryV)]) := by
          rw [slice_of (ys := ((lgv.drop ask).take (2 * many)).map entryV) glg (by
            rw [show (ask : Int) + ((2 * many : Nat) : Int) = ((ask + 2 * many : Nat) : Int) from by omega, cut_mid _ _ _ (by omega) (by rw [List.length_map, hll]; omega), ← List.map_drop, ← List.map_take, Nat.add_sub_cancel_left])]
          rfl
        have D := D.new (.lst (((lgv.drop ask).take (2 * many)).map entryV))
        have g6 := D.get (i := h15.length) (o := .lst (((lgv.drop ask).take (2 * many)).map entryV)) (by simp)
        have gtk := Keep.app h15 [.lst (((lgv.drop ask).take (2 * many)).map entryV)] _ _ gtk
        have iv : iVal (fSlice (fVar 10) (some (fVar 9)) (some (fOp .Add (fVar 9) (fOp .Mult (fC (.int 2)) (fVar 4))))) O [some (.scr ns), some (.ref d), some (.int (t : Int)), some (.ref ma), some (.int (many : Int)), some (.str gr.s), some w.av, some (.tup rows), some (.tup (prog.map Row.av)), some (.int (ask : Int)), some (.ref lg), some (.tup [.int (sE.time : Int), rowV sE, .ref a, .ref (a + 1), .ref (a + 2), .ref (a + 4)]), some (.ref du), x13, some (.ref tk), x15, x16] h15 = some (⟨((lgv.drop ask).take (2 * many)).map entryV, fun hh => hh[h15.length]? = some (.lst (((lgv.drop ask).take (2 * many)).map entryV))⟩, h15 ++ [.lst (((lgv.drop ask).take (2 * many)).map entryV)]) := by
          refine itv (n := h15.length) ?_ g6
          simp [pOpt, mm]
          rw [← List.map_drop, ← List.map_take]
          exact sl2
        have hsl : ((lgv.drop ask).take (2 * many)).length ≤ 300 := by rw [List.length_take, List.length_drop, hll]; omega
        refine D.lcMap (xs := (lgv.drop ask).take (2 * many)) (f := entryV) (e := fun e => toldV e.1) iv rfl (by show _ < 16777216; omega) (fun hh DD => DD.get (by simp)) (fun e he hh DD => ⟨_, rfl, rfl⟩) ?_
        intro dd h16 D
        have gd := D.get (i := dd) (o := .lst (((lgv.drop ask).take (2 * many)).map fun e => toldV e.1)) (by simp)
        have gt := D.get (i := tk) (o := .lst ((((lgv.map (·.1)).filterMap id).map some).map toldV)) (by simp)
        rw [z5, ← List.map_drop, ← List.map_take, List.map_map] at gt
        have n4 := ne_tolds (xs := ((lgv.drop ask).take (2 * many)).map (·.1)) (by rw [List.map_map]; exact gd) (by rw [List.map_map]; exact gt)
        simp [n4]
        rw [forQ_next]
        exact ⟨_, _, _, _, _, _, _, _, _, _, _, _, _, _, _, rfl, D.sub (List.nil_sublist _)⟩
      · rw [if_neg hgr]
        simp
        rw [forQ_next]
        exact ⟨_, _, _, _, _, _, _, _, _, _, _, _, _, _, _, rfl, D.sub (List.nil_sublist _)⟩
  · rintro _ h ⟨x2, x3, x4, x5, x6, x7, x8, x9, x10, x11, x12, x13, x14, x15, x16, rfl, D⟩
    rw [seqQ_next]
    simp
theorem law_true_of {T : Dn → Option Df} (t : HallT T) (r1 : T n_run = some f_run) (r2 : T n_need_beats = some f_need_beats) (e1 : T n_Hall_beat = some f_Hall_beat) (e2 : T n_Device_told = some f_Device_told) (e3 : T n_Hall_shown = some f_Hall_shown) (e4 : T n_law_dice = some f_law_dice) (e5 : T n_law_off = some f_law_off) (e7 : T n_law = some f_law) (ns : List Int) :
    ∃ h', ora T 10 ("law", none) [.scr ns] [] = some (.bl true, h') := by
  obtain ⟨v, h', e, rfl⟩ := wp_ora (k := 9) e7 (law_wp (g_dice e4 8) (g_off e5 8) (t.g_run r1 r2 e1 e2 e3 2) ns)
  exact ⟨h', e⟩
end SB


namespace SB
open PySem PySem.Spec PyProof.Rows L2
def top (i : Nat) : Stmt := PySem.Challenge.pw_stealbeats_k10_whole_what_is_moved_arriv.main.body.getD i (.Pass ⟨0, 0, 0, 0⟩)
def cons : List (Str × CV) := [("MOST_ROWS", .i 40), ("CELLS", .i 4), ("MOST_WORD", .i 999), ("ADDRESSES", .i 32), ("WORKS", .i 6), ("MARKS", .i 3), ("MOST_REST", .i 9), ("FORMS", .t kv_FORMS), ("TAKES", .t kv_TAKES), ("MOST_MANY", .i 16), ("MOST_BLOCK", .i 4), ("GREEDS", .u [.inr "all", .inr "turn", .inr "idle"]), ("LEAST_WORDS", .i 4), ("MOST_WORDS", .i 32), ("MOST_ASKS", .i 8), ("MOST_ASKED", .i 200), ("MOST_BEATS", .i 300), ("WAITS", .s "waits"), ("GOES", .s "goes"), ("ENDS", .s "ends")]
abbrev s_Going_init : Stmt := inClass (top 1) 0
noncomputable def e_Going_init : Ent := ⟨("Going", some "__init__"), s_Going_init, ["self", "number", "work", "mine"], ["self", "number", "work", "mine"], f_Going_init⟩
abbrev s_Going_is_held : Stmt := inClass (top 1) 1
noncomputable def e_Going_is_held : Ent := ⟨("Going", some "is_held"), s_Going_is_held, ["self", "marks", "is_within"], ["self", "marks"], f_Going_is_held⟩
abbrev s_Going_may_take : Stmt := inClass (top 1) 2
noncomputable def e_Going_may_take : Ent := ⟨("Going", some "may_take"), s_Going_may_take, ["self", "is_wanted", "took"], ["self", "is_wanted", "took"], f_Going_may_take⟩
abbrev s_Device_init : Stmt := inClass (top 2) 0
noncomputable def e_Device_init : Ent := ⟨("Device", some "__init__"), s_Device_init, ["self", "works"], ["self", "works"], f_Device_init⟩
abbrev s_Device_begin : Stmt := inClass (top 2) 1
noncomputable def e_Device_begin : Ent := ⟨("Device", some "begin"), s_Device_begin, ["self", "number"], ["self", "number"], f_Device_begin⟩
abbrev s_Device_chosen : Stmt := inClass (top 2) 2
noncomputable def e_Device_chosen : Ent := ⟨("Device", some "chosen"), s_Device_chosen, ["self", "marks", "is_wanted", "number", "going"], ["self", "marks", "is_wanted"], f_Device_chosen⟩
abbrev s_Device_beat : Stmt := inClass (top 2) 3
noncomputable def e_Device_beat : Ent := ⟨("Device", some "beat"), s_Device_beat, ["self", "memory", "marks", "is_wanted", "going", "address"], ["self", "memory", "marks", "is_wanted"], f_Device_beat⟩
abbrev s_Device_told : Stmt := inClass (top 2) 4
noncomputable def e_Device_told : Ent := ⟨("Device", some "told"), s_Device_told, ["self", "number"], ["self"], f_Device_told⟩
abbrev s_is_between : Stmt := top 20
noncomputable def e_is_between : Ent := ⟨("is_between", none), s_is_between, ["part", "low", "high"], ["part", "low", "high"], f_is_between⟩
abbrev s_is_field : Stmt := top 21
noncomputable def e_is_field : Ent := ⟨("is_field", none), s_is_field, ["sort", "part", "many", "bounds"], ["sort", "part", "many"], f_is_field⟩
abbrev s_is_row : Stmt := top 22
noncomputable def e_is_row : Ent := ⟨("is_row", none), s_is_row, ["row", "many", "form", "k"], ["row", "many"], f_is_row⟩
abbrev s_need_program : Stmt := top 23
noncomputable def e_need_program : Ent := ⟨("need_program", none), s_need_program, ["program", "at", "row"], ["program"], f_need_program⟩
abbrev s_beats_of : Stmt := top 24
noncomputable def e_beats_of : Ent := ⟨("beats_of", none), s_beats_of, ["row"], ["row"], f_beats_of⟩
abbrev s_wants_bus : Stmt := top 25
noncomputable def e_wants_bus : Ent := ⟨("wants_bus", none), s_wants_bus, ["row"], ["row"], f_wants_bus⟩
abbrev s_is_work : Stmt := top 35
noncomputable def e_is_work : Ent := ⟨("is_work", none), s_is_work, ["work", "many"], ["work", "many"], f_is_work⟩
abbrev s_need_works : Stmt := top 36
noncomputable def e_need_works : Ent := ⟨("need_works", none), s_need_works, ["works", "at", "work"], ["works"], f_need_works⟩
abbrev s_need_memory : Stmt := top 37
noncomputable def e_need_memory : Ent := ⟨("need_memory", none), s_need_memory, ["memory", "word"], ["memory"], f_need_memory⟩
abbrev s_need_asks : Stmt := top 38
noncomputable def e_need_asks : Ent := ⟨("need_asks", none), s_need_asks, ["asks", "many", "ahead", "at", "ask"], ["asks", "many"], f_need_asks⟩
abbrev s_need_beats : Stmt := top 39
noncomputable def e_need_beats : Ent := ⟨("need_beats", none), s_need_beats, ["beats"], ["beats"], f_need_beats⟩
abbrev s_Hall_init : Stmt := inClass (top 44) 0
noncomputable def e_Hall_init : Ent := ⟨("Hall", some "__init__"), s_Hall_init, ["self", "program", "works", "memory", "asks"], ["self", "program", "works", "memory", "asks"], f_Hall_init⟩
abbrev s_Hall_is_wanted : Stmt := inClass (top 44) 1
noncomputable def e_Hall_is_wanted : Ent := ⟨("Hall", some "is_wanted"), s_Hall_is_wanted, ["self"], ["self"], f_Hall_is_wanted⟩
abbrev s_Hall_beat : Stmt := inClass (top 44) 2
noncomputable def e_Hall_beat : Ent := ⟨("Hall", some "beat"), s_Hall_beat, ["self"], ["self"], f_Hall_beat⟩
abbrev s_Hall_full_beat : Stmt := inClass (top 44) 3
noncomputable def e_Hall_full_beat : Ent := ⟨("Hall", some "full_beat"), s_Hall_full_beat, ["self", "is_wanted", "told", "mine", "did"], ["self"], f_Hall_full_beat⟩
abbrev s_Hall_machine_beat : Stmt := inClass (top 44) 4
noncomputable def e_Hall_machine_beat : Ent := ⟨("Hall", some "machine_beat"), s_Hall_machine_beat, ["self", "row", "did"], ["self"], f_Hall_machine_beat⟩
abbrev s_Hall_words : Stmt := inClass (top 44) 5
noncomputable def e_Hall_words : Ent := ⟨("Hall", some "words"), s_Hall_words, ["self", "row", "word", "place", "address"], ["self", "row"], f_Hall_words⟩
abbrev s_Hall_next_row : Stmt := inClass (top 44) 6
noncomputable def e_Hall_next_row : Ent := ⟨("Hall", some "next_row"), s_Hall_next_row, ["self", "row", "word"], ["self", "row"], f_Hall_next_row⟩
abbrev s_Hall_shown : Stmt := inClass (top 44) 7
noncomputable def e_Hall_shown : Ent := ⟨("Hall", some "shown"), s_Hall_shown, ["self", "row"], ["self"], f_Hall_shown⟩
abbrev s_run : Stmt := top 46
noncomputable def e_run : Ent := ⟨("run", none), s_run, ["program", "works", "memory", "asks", "beats", "hall", "log", "beat"], ["program", "works", "memory", "asks", "beats"], f_run⟩
abbrev s_law_dice : Stmt := top 48
noncomputable def e_law_dice : Ent := ⟨("_law_dice", none), s_law_dice, ["_law_script", "_law_k", "_law_found", "_law_cell"], ["_law_script", "_law_k"], f_law_dice⟩
abbrev s_law_off : Stmt := top 49
noncomputable def e_law_off : Ent := ⟨("_law_off", none), s_law_off, ["_law_d", "_law_most", "_law_at", "_law_cell"], ["_law_d", "_law_most"], f_law_off⟩
abbrev s_law : Stmt := top 50
noncomputable def e_law : Ent := ⟨("law", none), s_law, ["_law_script", "_law_d", "_law_turn", "_law_memory", "_law_many", "_law_greed", "_law_work", "_law_rows", "_law_program", "_law_ask", "_law_log", "_law_shown", "_law_due", "_law_k", "_law_taken", "_law_told", "_law_did"], ["_law_script"], f_law⟩
noncomputable def ents : List Ent := [e_Going_init, e_Going_is_held, e_Going_may_take, e_Device_init, e_Device_begin, e_Device_chosen, e_Device_beat, e_Device_told, e_is_between, e_is_field, e_is_row, e_need_program, e_beats_of, e_wants_bus, e_is_work, e_need_works, e_need_memory, e_need_asks, e_need_beats, e_Hall_init, e_Hall_is_wanted, e_Hall_beat, e_Hall_full_beat, e_Hall_machine_beat, e_Hall_words, e_Hall_next_row, e_Hall_shown, e_run, e_law_dice, e_law_off, e_law]
noncomputable def Ld : LD := ⟨cons, ents, ["Going", "Device", "Hall"], ["len", "isinstance", "int", "bool", "str", "tuple", "list", "range", "sorted", "abs", "max", "enumerate"]⟩
noncomputable abbrev T : Dn → Option Df := Ld.T
theorem T_Going_init : T n_Going_init = some f_Going_init := by kernel_rfl
theorem T_Going_is_held : T n_Going_is_held = some f_Going_is_held := by kernel_rfl
theorem T_Going_may_take : T n_Going_may_take = some f_Going_may_take := by kernel_rfl
theorem T_Device_init : T n_Device_init = some f_Device_init := by kernel_rfl
theorem T_Device_begin : T n_Device_begin = some f_Device_begin := by kernel_rfl
theorem T_Device_chosen : T n_Device_chosen = some f_Device_chosen := by kernel_rfl
theorem T_Device_beat : T n_Device_beat = some f_Device_beat := by kernel_rfl
theorem T_Device_told : T n_Device_told = some f_Device_told := by kernel_rfl
theorem T_is_between : T n_is_between = some f_is_between := by kernel_rfl
theorem T_is_field : T n_is_field = some f_is_field := by kernel_rfl
theorem T_is_row : T n_is_row = some f_is_row := by kernel_rfl
theorem T_need_program : T n_need_program = some f_need_program := by kernel_rfl
theorem T_beats_of : T n_beats_of = some f_beats_of := by kernel_rfl
theorem T_wants_bus : T n_wants_bus = some f_wants_bus := by kernel_rfl
theorem T_is_work : T n_is_work = some f_is_work := by kernel_rfl
theorem T_need_works : T n_need_works = some f_need_works := by kernel_rfl
theorem T_need_memory : T n_need_memory = some f_need_memory := by kernel_rfl
theorem T_need_asks : T n_need_asks = some f_need_asks := by kernel_rfl
theorem T_need_beats : T n_need_beats = some f_need_beats := by kernel_rfl
theorem T_Hall_init : T n_Hall_init = some f_Hall_init := by kernel_rfl
theorem T_Hall_is_wanted : T n_Hall_is_wanted = some f_Hall_is_wanted := by kernel_rfl
theorem T_Hall_beat : T n_Hall_beat = some f_Hall_beat := by kernel_rfl
theorem T_Hall_full_beat : T n_Hall_full_beat = some f_Hall_full_beat := by kernel_rfl
theorem T_Hall_machine_beat : T n_Hall_machine_beat = some f_Hall_machine_beat := by kernel_rfl
theorem T_Hall_words : T n_Hall_words = some f_Hall_words := by kernel_rfl
theorem T_Hall_next_row : T n_Hall_next_row = some f_Hall_next_row := by kernel_rfl
theorem T_Hall_shown : T n_Hall_shown = some f_Hall_shown := by kernel_rfl
theorem T_run : T n_run = some f_run := by kernel_rfl
theorem T_law_dice : T n_law_dice = some f_law_dice := by kernel_rfl
theorem T_law_off : T n_law_off = some f_law_off := by kernel_rfl
theorem T_law : T n_law = some f_law := by kernel_rfl
theorem ok_Going_init : Ent.Ok Ld.G e_Going_init := ⟨by kernel_rfl, 40, by kernel_rfl⟩
theorem ok_Going_is_held : Ent.Ok Ld.G e_Going_is_held := ⟨by kernel_rfl, 40, by kernel_rfl⟩
theorem ok_Going_may_take : Ent.Ok Ld.G e_Going_may_take := ⟨by kernel_rfl, 40, by kernel_rfl⟩
theorem ok_Device_init : Ent.Ok Ld.G e_Device_init := ⟨by kernel_rfl, 40, by kernel_rfl⟩
theorem ok_Device_begin : Ent.Ok Ld.G e_Device_begin := ⟨by kernel_rfl, 40, by kernel_rfl⟩
theorem ok_Device_chosen : Ent.Ok Ld.G e_Device_chosen := ⟨by kernel_rfl, 40, by kernel_rfl⟩
theorem ok_Device_beat : Ent.Ok Ld.G e_Device_beat := ⟨by kernel_rfl, 40, by kernel_rfl⟩
theorem ok_Device_told : Ent.Ok Ld.G e_Device_told := ⟨by kernel_rfl, 40, by kernel_rfl⟩
theorem ok_is_between : Ent.Ok Ld.G e_is_between := ⟨by kernel_rfl, 40, by kernel_rfl⟩
theorem ok_is_field : Ent.Ok Ld.G e_is_field := ⟨by kernel_rfl, 40, by kernel_rfl⟩
theorem ok_is_row : Ent.Ok Ld.G e_is_row := ⟨by kernel_rfl, 40, by kernel_rfl⟩
theorem ok_need_program : Ent.Ok Ld.G e_need_program := ⟨by kernel_rfl, 40, by kernel_rfl⟩
theorem ok_beats_of : Ent.Ok Ld.G e_beats_of := ⟨by kernel_rfl, 40, by kernel_rfl⟩
theorem ok_wants_bus : Ent.Ok Ld.G e_wants_bus := ⟨by kernel_rfl, 40, by kernel_rfl⟩
theorem ok_is_work : Ent.Ok Ld.G e_is_work := ⟨by kernel_rfl, 40, by kernel_rfl⟩
theorem ok_need_works : Ent.Ok Ld.G e_need_works := ⟨by kernel_rfl, 40, by kernel_rfl⟩
theorem ok_need_memory : Ent.Ok Ld.G e_need_memory := ⟨by kernel_rfl, 40, by kernel_rfl⟩
theorem ok_need_asks : Ent.Ok Ld.G e_need_asks := ⟨by kernel_rfl, 40, by kernel_rfl⟩
theorem ok_need_beats : Ent.Ok Ld.G e_need_beats := ⟨by kernel_rfl, 40, by kernel_rfl⟩
theorem ok_Hall_init : Ent.Ok Ld.G e_Hall_init := ⟨by kernel_rfl, 40, by kernel_rfl⟩
theorem ok_Hall_is_wanted : Ent.Ok Ld.G e_Hall_is_wanted := ⟨by kernel_rfl, 40, by kernel_rfl⟩
theorem ok_Hall_beat : Ent.Ok Ld.G e_Hall_beat := ⟨by kernel_rfl, 40, by kernel_rfl⟩
theorem ok_Hall_full_beat : Ent.Ok Ld.G e_Hall_full_beat := ⟨by kernel_rfl, 40, by kernel_rfl⟩
theorem ok_Hall_machine_beat : Ent.Ok Ld.G e_Hall_machine_beat := ⟨by kernel_rfl, 40, by kernel_rfl⟩
theorem ok_Hall_words : Ent.Ok Ld.G e_Hall_words := ⟨by kernel_rfl, 40, by kernel_rfl⟩
theorem ok_Hall_next_row : Ent.Ok Ld.G e_Hall_next_row := ⟨by kernel_rfl, 40, by kernel_rfl⟩
theorem ok_Hall_shown : Ent.Ok Ld.G e_Hall_shown := ⟨by kernel_rfl, 40, by kernel_rfl⟩
theorem ok_run : Ent.Ok Ld.G e_run := ⟨by kernel_rfl, 40, by kernel_rfl⟩
theorem ok_law_dice : Ent.Ok Ld.G e_law_dice := ⟨by kernel_rfl, 40, by kernel_rfl⟩
theorem ok_law_off : Ent.Ok Ld.G e_law_off := ⟨by kernel_rfl, 40, by kernel_rfl⟩
theorem ok_law : Ent.Ok Ld.G e_law := ⟨by kernel_rfl, 40, by kernel_rfl⟩
theorem ents_ok : ∀ e ∈ Ld.ents, Ent.Ok Ld.G e := by
  intro e he
  have he : e ∈ [e_Going_init, e_Going_is_held, e_Going_may_take, e_Device_init, e_Device_begin, e_Device_chosen, e_Device_beat, e_Device_told, e_is_between, e_is_field, e_is_row, e_need_program, e_beats_of, e_wants_bus, e_is_work, e_need_works, e_need_memory, e_need_asks, e_need_beats, e_Hall_init, e_Hall_is_wanted, e_Hall_beat, e_Hall_full_beat, e_Hall_machine_beat, e_Hall_words, e_Hall_next_row, e_Hall_shown, e_run, e_law_dice, e_law_off, e_law] := he
  simp only [List.mem_cons, List.not_mem_nil, or_false] at he
  rcases he with rfl | rfl | rfl | rfl | rfl | rfl | rfl | rfl | rfl | rfl | rfl | rfl | rfl | rfl | rfl | rfl | rfl | rfl | rfl | rfl | rfl | rfl | rfl | rfl | rfl | rfl | rfl | rfl | rfl | rfl | rfl
  · exact ok_Going_init
  · exact ok_Going_is_held
  · exact ok_Going_may_take
  · exact ok_Device_init
  · exact ok_Device_begin
  · exact ok_Device_chosen
  · exact ok_Device_beat
  · exact ok_Device_told
  · exact ok_is_between
  · exact ok_is_field
  · exact ok_is_row
  · exact ok_need_program
  · exact ok_beats_of
  · exact ok_wants_bus
  · exact ok_is_work
  · exact ok_need_works
  · exact ok_need_memory
  · exact ok_need_asks
  · exact ok_need_beats
  · exact ok_Hall_init
  · exact ok_Hall_is_wanted
  · exact ok_Hall_beat
  · exact ok_Hall_full_beat
  · exact ok_Hall_machine_beat
  · exact ok_Hall_words
  · exact ok_Hall_next_row
  · exact ok_Hall_shown
  · exact ok_run
  · exact ok_law_dice
  · exact ok_law_off
  · exact ok_law
theorem law_mem : e_law ∈ Ld.ents := by
  show e_law ∈ [e_Going_init, e_Going_is_held, e_Going_may_take, e_Device_init, e_Device_begin, e_Device_chosen, e_Device_beat, e_Device_told, e_is_between, e_is_field, e_is_row, e_need_program, e_beats_of, e_wants_bus, e_is_work, e_need_works, e_need_memory, e_need_asks, e_need_beats, e_Hall_init, e_Hall_is_wanted, e_Hall_beat, e_Hall_full_beat, e_Hall_machine_beat, e_Hall_words, e_Hall_next_row, e_Hall_shown, e_run, e_law_dice, e_law_off, e_law]
  simp
theorem hallT : HallT T := ⟨T_Going_init, T_Going_is_held, T_Going_may_take, T_Device_init, T_Device_begin, T_Device_chosen, T_Device_beat, T_is_between, T_is_field, T_is_row, T_need_program, T_beats_of, T_wants_bus, T_is_work, T_need_works, T_need_memory, T_need_asks, T_Hall_init, T_Hall_is_wanted, T_Hall_full_beat, T_Hall_machine_beat, T_Hall_words, T_Hall_next_row⟩
theorem law_true (ns : List Int) (h : ns.length ≤ 63) : ∃ h', ora T 10 ("law", none) [.scr ns] [] = some (.bl true, h') := law_true_of hallT T_run T_need_beats T_Hall_beat T_Device_told T_Hall_shown T_law_dice T_law_off T_law ns
end SB
namespace SB
open PySem PySem.Spec PyProof.Rows L2
abbrev R : PySem.W.OpenRow := PySem.W.OpenLaw.row PySem.Challenge.rw_stealbeats_k10_whole_what_is_moved_arriv
noncomputable abbrev hk : PySem.W.Hook := He.hookX 4 Ld.fa Ld.fn Ld.ts [] Ld.ex
noncomputable def ob (s : PySem.W.SharedT) : He.AlX := He.obsX 4 Ld.fa Ld.fn Ld.ts [] Ld.ex (HandSHeadRun.getT s)
theorem ob_eq (s : PySem.W.SharedT) : ob s = hk.obs s.abs := He.obsX_eq (HandSHeadRun.getT_eq s)
def loose0 : List PySem.Str := ["Going", "Device", "BeatError", "BadProgram", "BadWorks", "BadAsks", "BadMemory", "BadBeats", "MOST_ROWS", "CELLS", "MOST_WORD", "ADDRESSES", "WORKS", "MARKS", "MOST_REST", "FORMS", "TAKES", "is_between", "is_field", "is_row", "need_program", "beats_of", "wants_bus", "MOST_MANY", "MOST_BLOCK", "GREEDS", "LEAST_WORDS", "MOST_WORDS", "MOST_ASKS", "MOST_ASKED"]
def loose1 : List PySem.Str := ["MOST_BEATS", "is_work", "need_works", "need_memory", "need_asks", "need_beats", "WAITS", "GOES", "ENDS", "Hall", "run", "_law_dice", "_law_off"]
def loose : List PySem.Str := loose0 ++ loose1
theorem runF (w : World) : HandSHeadRun.RunEq R (PySem.W.view R.prog [50]) hk ob 4000 loose (w.withFollow "special-get-raises" false) := by
  intro os
  kernel_rfl
theorem runT (w : World) : HandSHeadRun.RunEq R (PySem.W.view R.prog [50]) hk ob 4000 loose (w.withFollow "special-get-raises" true) := by
  intro os
  kernel_rfl
theorem run (w : World) : HandSHeadRun.RunEq R (PySem.W.view R.prog [50]) hk ob 4000 loose w := PySem.W.byRow2 "special-get-raises" runF runT w
end SB
open PySem PySem.W PySem.Calls PyProof.Rows
theorem PySem.Challenge.cw_stealbeats_k10_whole_what_is_moved_arriv_holds : PySem.Challenge.rw_stealbeats_k10_whole_what_is_moved_arriv.Holds := by
  w_on; o_law
  refine HandSHeadRun.head_any (r := OpenLaw.row PySem.Challenge.rw_stealbeats_k10_whole_what_is_moved_arriv) (q := view (OpenLaw.row PySem.Challenge.rw_stealbeats_k10_whole_what_is_moved_arriv).prog [50]) (H := SB.hk) (ob := SB.ob) (M := 4000) (loose := SB.loose) (d := HandSHeadRun.topDef (OpenLaw.row PySem.Challenge.rw_stealbeats_k10_whole_what_is_moved_arriv).prog 50) (kwd := []) SB.ob_eq
    (by kernel_rfl) (fun s => by kernel_rfl) SB.run (by kernel_rfl) (by kernel_rfl) (by kernel_rfl) (by rfl) (by first | assumption | decide +kernel) (by decide +kernel) ⟨rfl, rfl, rfl, rfl, rfl, by decide +kernel⟩ ?hw ?hc
  case hw => w_witness2
  case hc =>
    refine L2.walk_ofE (l := PySem.Challenge.rw_stealbeats_k10_whole_what_is_moved_arriv) (n := 63) (k := 20) (x := "_law_script") (CX := L2.CX0) rfl (by decide) (by kernel_rfl) ⟨rfl, by decide, by decide⟩ ?F (fun _ _ _ _ z => z)
    intro w mg fa h Y G hmg0
    obtain ⟨K, KX, c⟩ := Y
    have hmg : mg ("law" : PySem.Str) = some (.ref fa) := by
      have e : (HandSHeadRun.topDef (OpenLaw.row PySem.Challenge.rw_stealbeats_k10_whole_what_is_moved_arriv).prog 50).name = ("law" : PySem.Str) := by kernel_rfl
      rw [← e]
      exact hmg0
    have F := SB.LD.law c KX G SB.ents_ok (by kernel_rfl)
    have e := hmg.symm.trans (F.fn "law" _ SB.T_law)
    cases e
    obtain ⟨fd, h1, h2⟩ := SB.LD.law_fn (P := (PySem.Challenge.rw_stealbeats_k10_whole_what_is_moved_arriv).prog) c F SB.law_mem rfl rfl SB.T_law SB.ok_law 9
    exact ⟨K, fd, SB.spL w K SB.T 10, KX, h1, fun H a ns hl _ hS => SB.spL_of hS (by assumption) (SB.law_true ns hl), h2⟩

