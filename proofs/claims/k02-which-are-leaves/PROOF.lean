import PyProof.Rows.All
import Wide.All
import OpenK.AllK
import Wide.FinOn
import HandS.ForMost
import HandS.ForExc
import HandS.WordsExc
import HandS.FStr
import HandS.DictComp
import HandS.Deep
import HandS.IsInst
import HandS.StrMore
import HandS.Wide
import HandS.TryMany
import HandS.More
import HandS.TupAny
import HandS.CallRecv
import HandS.HeadWalk
import HandS.Defaults
import HandS.Zip
import HandS.RevTup
import HandS.SetFor
import HandS.StrSplit
import HandS.Style
import HandS.ExcIs
import HandS.HeadHook2
import HandS.MakeKw
import HandS.Words
import KE.KUnpackStar
import HandS.HeadEnd
import HandS.Head2
import PyProof.Rows.FoldInner
import PyProof.Rows.FinIter
import PyProof.Rows.LastStep
import PyProof.Rows.DictListVals
import PyProof.Rows.DictFoldEnd
import PyProof.Rows.RangeIter
import PyProof.Rows.RegDictList
import PyProof.Rows.LastStepAttr
import PyProof.Rows.DictItemsFold
import PyProof.Rows.RegDictFoldEnd
import KE.KStateDown
import PySem.Challenge.RW_leavechain_k02_which_are_leaves
set_option linter.all false
/-! V1: a small evaluator: values, a store of cells, expressions and statements by slots. -/
namespace Mi
open PySem

/-- a value: None, truths, whole numbers, texts (code points), tuples, lists that nobody changes, a cell of the store, a def or class of the module by its name, a built-in class -/
inductive D where
  | non | bl (b : Bool) | int (i : Int) | str (x : List Nat) | tup (xs : List D) | cl (xs : List D) | cd (kvs : List (D × D)) | exn (c : String) (fs : List (String × D)) | ref (n : Nat) | fn (x : String) | ty (n : String)
  deriving Inhabited
abbrev Fs := List (String × D)
/-- a cell: a list, a dict, an instance -/
inductive O where
  | lst (xs : List D) | dct (kvs : List (D × D)) | obj (c : String) (fs : Fs)
  deriving Inhabited
abbrev Sto := List O
abbrev Env := List (Option D)
/-- what comes of it: a value, an own exception with its fields, or nothing is told -/
inductive R (α : Type) where
  | ok (a : α) (st : Sto) | exc (c : String) (fs : Fs) (st : Sto) | no
def R.bind {α β : Type} (r : R α) (k : α → Sto → R β) : R β := match r with
  | .ok a st => k a st
  | .exc c fs st => .exc c fs st
  | .no => .no
/-- exceptions are not looked at -/
def R.calm {α : Type} (r : R α) : R α := match r with
  | .exc _ _ _ => .no
  | r => r
/-- .. of a statement -/
inductive RS where
  | next (e : Env) (st : Sto) | ret (d : D) (st : Sto) | brk (e : Env) (st : Sto) | cont (e : Env) (st : Sto) | exc (c : String) (fs : Fs) (e : Env) (st : Sto) | no

/-! ### syntax -/
mutual
inductive E where
  | var (i : Nat) | non | bl (b : Bool) | int (i : Int) | str (x : List Nat) | glob (x : String) | ty (n : String)
  | bin (z : Bool) (o : Operator) (a b : E) | neg (a : E) | not (a : E) | and (a b : E) | or (a b : E) | ite (c a b : E)
  | cmp (o : CmpOp) (a b : E) | cmp2 (o p : CmpOp) (a b c : E)
  | attr (a : E) (f : String) | ix (a b : E) | sl (z : Bool) (a : E) (lo hi : Option E) | rev (z : Bool) (a : E) | step2 (z : Bool) (a : E) (one : Bool)
  | lst (z : Bool) (es : List E) | rep (z : Bool) (es : List E) (n : E) | tup (es : List E) | dct (z : Bool) (ps : List (E × E))
  | comp (z : Bool) (e : E) (t : Tg) (it : It) (ifs : Option E) (own : List Nat)
  | dcomp (z : Bool) (k v : E) (t : Tg) (it : It) (ifs : Option E) (own : List Nat)
  | isx (a : E) (c : String) | ist (a : E) (ts : List String)
  | fstr (es : List E)
  | call (f : String) (es : List E) (ks : List String) (kes : List E)
  | make (f : String) (es : List E)
  | bi (z : Bool) (f : String) (es : List E)
  | meth (z : Bool) (a : E) (m : String) (es : List E) (ks : List String) (kes : List E)
inductive It where
  | e (e : E) | range1 (es : List E) | range2 (es : List E) | enum (e : E) | zip (a b : E) | items (e : E) | vals (e : E) | enum1 (e : E) (n : Int) | zips (a b : E) | range3 (es : List E)
inductive Tg where
  | name (i : Nat) | tup (ts : List Tg) | sub (a b : E) | fld (a : E) (f : String) | star (p : Nat) (ts : List Tg)
end
inductive S where
  | ex (e : E) | asg (t : Tg) (e : E) | aug (i : Nat) (o : Operator) (e : E) | augS (a b : E) (o : Operator) (e : E)
  | ret (e : E) | retN | iff (c : E) (a b : List S) | whil (c : E) (b : List S) | fr (t : Tg) (it : It) (b : List S)
  | rais (c : String) (es : List E) | tryc (b : List S) (c : String) (i j : Nat) | tryo (b : List S) (cs : List String) (h : List S) | pass | brk | cont

/-! ### values -/
def sl : Nat := PySem.sizeLine
def lstOf (st : Sto) : D → Option (List D)
  | .ref n => (match st[n]? with | some (.lst xs) => some xs | _ => none)
  | .cl xs => some xs
  | _ => none
def dctOf (st : Sto) : D → Option (List (D × D))
  | .cd k => some k
  | .ref n => (match st[n]? with | some (.dct k) => some k | _ => none)
  | _ => none
def seqOf (st : Sto) : D → Option (List D)
  | .tup xs => some xs
  | d => lstOf st d
def alloc (o : O) (st : Sto) : R D := .ok (.ref st.length) (st ++ [o])
def newC (z : Bool) (xs : List D) (st : Sto) : R D := if z = true then .ok (.cl xs) st else alloc (.lst xs) st
def newL (z : Bool) (xs : List D) (st : Sto) : R D := if xs.length ≤ sl then newC z xs st else .no
def newD (z : Bool) (kvs : List (D × D)) (st : Sto) : R D := if z = true then .ok (.cd kvs) st else alloc (.dct kvs) st
def okS (x : List Nat) (st : Sto) : R D := if x.length ≤ sl then .ok (.str x) st else .no
/-- factors together below 2^20 bits or so -/
def mulOk (i j : Int) : Bool := decide (i.natAbs.log2 + j.natAbs.log2 < 100000000)
def powOk (i j : Int) : Bool := decide (0 ≤ j) && decide (((i.natAbs.log2 : Int) + 1) * j ≤ 100000000)
def txtI (i : Int) : List Nat := (toString i).toList.map Char.toNat
def binD (z : Bool) (o : Operator) (a b : D) (st : Sto) : R D := match o, a, b with
  | .Add, .int i, .int j => .ok (.int (i + j)) st
  | .Sub, .int i, .int j => .ok (.int (i - j)) st
  | .Mult, .int i, .int j => if mulOk i j = true then .ok (.int (i * j)) st else .no
  | .FloorDiv, .int i, .int j => if 0 < j ∧ j.natAbs.log2 < 9000 then .ok (.int (i / j)) st else .no
  | .Mod, .int i, .int j => if 0 < j then .ok (.int (i % j)) st else .no
  | .Pow, .int i, .int j => if powOk i j = true then .ok (.int (i ^ j.toNat)) st else .no
  | .Add, .str x, .str y => okS (x ++ y) st
  | .Add, .tup xs, .tup ys => if xs.length + ys.length ≤ sl then .ok (.tup (xs ++ ys)) st else .no
  | .Add, a, b => (match lstOf st a, lstOf st b with
    | some xs, some ys => newL z (xs ++ ys) st
    | _, _ => .no)
  | _, _, _ => .no
def repD (z : Bool) (xs : List D) (b : D) (st : Sto) : R D := match b with
  | .int k => if xs.length * k.toNat ≤ sl ∧ xs.length ≤ sl ∧ -(2 ^ 63) ≤ k ∧ k < 2 ^ 63 then newL z (List.replicate k.toNat xs).flatten st else .no
  | _ => .no
/-- op=, in place: ints and texts alone (a list would be changed itself) -/
def augD (o : Operator) (a b : D) (st : Sto) : R D := match o, a, b with
  | .Add, .int i, .int j => .ok (.int (i + j)) st
  | .Sub, .int i, .int j => .ok (.int (i - j)) st
  | .Mult, .int i, .int j => if (-(2 ^ 64) < i ∧ i < 2 ^ 64) ∨ (-(2 ^ 64) < j ∧ j < 2 ^ 64) then .ok (.int (i * j)) st else .no
  | .FloorDiv, .int i, .int j => if 0 < j ∧ j < 1073741824 then .ok (.int (i / j)) st else .no
  | .Mod, .int i, .int j => if 0 < j then .ok (.int (i % j)) st else .no
  | .Add, .str x, .str y => okS (x ++ y) st
  | _, _, _ => .no
/-! ### comparisons -/
def mapO {α β : Type} (f : α → Option β) : List α → Option (List β)
  | [] => some []
  | x :: xs => (match f x, mapO f xs with
    | some p, some ps => some (p :: ps)
    | _, _ => none)
def toPy (st : Sto) : Nat → D → Option PyData
  | 0, _ => none
  | _ + 1, .non => some .none
  | _ + 1, .bl b => some (.bool b)
  | _ + 1, .int i => some (.int i)
  | _ + 1, .str x => some (.str ⟨x.toArray⟩)
  | n + 1, .tup xs => (mapO (toPy st n) xs).map .tuple
  | n + 1, .cl xs => (mapO (toPy st n) xs).map .list
  | n + 1, .ref m => (match st[m]? with
    | some (.lst xs) => (mapO (toPy st n) xs).map .list
    | _ => none)
  | _ + 1, .cd _ => none
  | _ + 1, .exn _ _ => none
  | _ + 1, .fn _ => none
  | _ + 1, .ty _ => none
/-- x in items -/
def inSeq (st : Sto) (x : D) (xs : List D) : Option Bool := match toPy st 59 x, mapO (toPy st 59) xs with
  | some p, some qs => some (qs.any fun z => PyData.eqv z p)
  | _, _ => none
def ltS : List Nat → List Nat → Bool
  | [], [] => false
  | [], _ :: _ => true
  | _ :: _, [] => false
  | a :: x, b :: y => decide (a < b) || (decide (a = b) && ltS x y)
def keyOk : D → Bool
  | .int _ => true
  | .str _ => true
  | _ => false
def keyEq : D → D → Bool
  | .int i, .int j => decide (i = j)
  | .str x, .str y => decide (x = y)
  | _, _ => false
def getK (kvs : List (D × D)) (k : D) : Option D := (kvs.find? fun p => keyEq p.1 k).map (·.2)
def putK (kvs : List (D × D)) (k v : D) : List (D × D) :=
  if (kvs.any fun p => keyEq p.1 k) = true then kvs.map (fun p => if keyEq p.1 k = true then (p.1, v) else p) else kvs ++ [(k, v)]
def delK (kvs : List (D × D)) (k : D) : List (D × D) := kvs.filter fun p => !keyEq p.1 k
/-- small values, alike -/
def eqFl : D → D → Bool
  | .non, .non => true
  | .bl a, .bl b => a == b
  | .int a, .int b => decide (a = b)
  | .str a, .str b => decide (a = b)
  | _, _ => false
/-- dicts of the same keys with the same small values -/
def sameK (k l : List (D × D)) : Bool := decide (k.length = l.length) && k.all fun p => match getK l p.1 with | some v => eqFl p.2 v | none => false
def eqD (st : Sto) (a b : D) : Option Bool := match toPy st 60 a, toPy st 60 b with
  | some p, some q => some (PyData.eqv p q)
  | _, _ => (match dctOf st a, dctOf st b with
    | some k, some l => if sameK k l = true then some true else none
    | _, _ => none)
def okB (b : Bool) (st : Sto) : R D := .ok (.bl b) st
def okOB (b : Option Bool) (st : Sto) : R D := match b with | some b => okB b st | none => .no
def memD (a b : D) (st : Sto) : Option Bool := match b with
  | .str y => (match a with
    | .str [c] => some (decide (c ∈ y))
    | _ => none)
  | b => (match seqOf st b with
    | some xs => inSeq st a xs
    | none => (match dctOf st b with
      | some kvs => if keyOk a = true then some (getK kvs a).isSome else none
      | none => none))
def isNon : D → Bool
  | .non => true
  | _ => false
def isD (a b : D) : Option Bool := match b with
  | .non => some (isNon a)
  | .bl c => (match a with
    | .bl b => some (decide (b = c))
    | _ => none)
  | _ => none
def cmpD (o : CmpOp) (a b : D) (st : Sto) : R D := match o with
  | .Eq => okOB (eqD st a b) st
  | .NotEq => okOB ((eqD st a b).map (!·)) st
  | .In => okOB (memD a b st) st
  | .NotIn => okOB ((memD a b st).map (!·)) st
  | .Is => okOB (isD a b) st
  | .IsNot => okOB ((isD a b).map (!·)) st
  | .Lt => (match a, b with
    | .int i, .int j => okB (decide (i < j)) st
    | .str x, .str y => okB (ltS x y) st
    | _, _ => .no)
  | .LtE => (match a, b with
    | .int i, .int j => okB (decide (i ≤ j)) st
    | .str x, .str y => okB (!ltS y x) st
    | _, _ => .no)
  | .Gt => (match a, b with
    | .int i, .int j => okB (decide (j < i)) st
    | .str x, .str y => okB (ltS y x) st
    | _, _ => .no)
  | .GtE => (match a, b with
    | .int i, .int j => okB (decide (j ≤ i)) st
    | .str x, .str y => okB (!ltS x y) st
    | _, _ => .no)

/-! ### places -/
def ixOf (n : Nat) (i : Int) : Option Nat := if 0 ≤ i then (if i < n then some i.toNat else none) else if -(n : Int) ≤ i then some (i + n).toNat else none
def atD {α : Type} (xs : List α) (i : Int) : Option α := (ixOf xs.length i).bind fun j => xs[j]?
def ixD (a b : D) (st : Sto) : R D := match a, b with
  | .str x, .int i => (match atD x i with | some c => .ok (.str [c]) st | none => .no)
  | a, b => (match seqOf st a, b with
    | some xs, .int i => (match atD xs i with | some d => .ok d st | none => .no)
    | some _, _ => .no
    | none, _ => (match dctOf st a with
      | some kvs => if keyOk b = true then (match getK kvs b with | some d => .ok d st | none => .no) else .no
      | none => .no))
def sIx (n d : Nat) : Option Int → Nat
  | none => d
  | some v => if v < 0 then (v + (n : Int)).toNat else min v.toNat n
def cut {α : Type} (xs : List α) (lo hi : Option Int) : List α := (xs.drop (sIx xs.length 0 lo)).take (sIx xs.length xs.length hi - sIx xs.length 0 lo)
def slD (z : Bool) (a : D) (lo hi : Option Int) (st : Sto) : R D := match a with
  | .str x => .ok (.str (cut x lo hi)) st
  | .tup xs => .ok (.tup (cut xs lo hi)) st
  | a => (match lstOf st a with
    | some xs => newL z (cut xs lo hi) st
    | none => .no)
/-- every c-th of them -/
def each {α : Type} (c : Nat) (xs : List α) : List α := (List.range ((xs.length + c - 1) / c)).filterMap fun i => xs[i * c]?
def revD (z : Bool) (a : D) (st : Sto) : R D := match a with
  | .tup xs => .ok (.tup xs.reverse) st
  | a => (match lstOf st a with | some xs => newL z xs.reverse st | none => .no)
def step2D (z one : Bool) (a : D) (st : Sto) : R D := match lstOf st a with | some xs => newL z (each 2 (if one = true then xs.drop 1 else xs)) st | none => .no
/-- a mutable place is read -/
def getD (a b : D) (st : Sto) : R D := match a, b with
  | .ref n, b => (match st[n]?, b with
    | some (.lst xs), .int i => (match atD xs i with | some d => .ok d st | none => .no)
    | some (.dct kvs), k => if keyOk k = true then (match getK kvs k with | some d => .ok d st | none => .no) else .no
    | _, _ => .no)
  | _, _ => .no
/-- a store at a place -/
def setD (a b v : D) (st : Sto) : R Unit := match a, b with
  | .ref n, b => (match st[n]?, b with
    | some (.lst xs), .int i => (match ixOf xs.length i with | some j => .ok () (st.set n (.lst (xs.set j v))) | none => .no)
    | some (.dct kvs), k => if keyOk k = true ∧ kvs.length < sl then .ok () (st.set n (.dct (putK kvs k v))) else .no
    | _, _ => .no)
  | _, _ => .no

/-! ### fields -/
def getF (fs : Fs) (f : String) : Option D := (fs.find? fun p => p.1 == f).map (·.2)
def putF (f : String) (v : D) : Fs → Fs
  | [] => [(f, v)]
  | (g, x) :: r => if g = f then (g, v) :: r else (g, x) :: putF f v r
def attrD (a : D) (f : String) (st : Sto) : R D := match a with
  | .ref n => (match st[n]? with
    | some (.obj _ fs) => (match getF fs f with | some d => .ok d st | none => .no)
    | _ => .no)
  | _ => .no
def fldD (fld : String → List String) (a : D) (f : String) (v : D) (st : Sto) : R Unit := match a with
  | .ref n => (match st[n]? with
    | some (.obj c fs) => if fs.length < 1000 ∧ f ∈ fld c then .ok () (st.set n (.obj c (putF f v fs))) else .no
    | _ => .no)
  | _ => .no

/-! ### built-ins -/
def clsOf (st : Sto) : D → Option String
  | .ref n => (match st[n]? with | some (.obj c _) => some c | _ => none)
  | _ => none
def tyOf (st : Sto) : D → Option String
  | .non => some "NoneType" | .bl _ => some "bool" | .int _ => some "int" | .str _ => some "str" | .tup _ => some "tuple" | .cl _ => some "list" | .cd _ => some "dict"
  | .ref n => (match st[n]? with
    | some (.lst _) => some "list" | some (.dct _) => some "dict" | _ => none)
  | _ => none
def tyNames : List String := ["NoneType", "bool", "int", "str", "tuple", "list", "dict"]
def isiB (vs : List D) (st : Sto) : R D := match vs with
  | [x, .ty t] => (match tyOf st x with
    | some a => if a ∈ tyNames ∧ t ∈ tyNames then okB (decide (a = t) || (decide (a = "bool") && decide (t = "int"))) st else .no
    | none => .no)
  | _ => .no
def lenD (a : D) (st : Sto) : Option Nat := match a with
  | .str x => some x.length
  | a => (match seqOf st a with
    | some xs => some xs.length
    | none => (match a with
      | .ref n => (match st[n]? with | some (.dct kvs) => some kvs.length | _ => none)
      | .cd kvs => some kvs.length
      | _ => none))
def lenB (vs : List D) (st : Sto) : R D := match vs with
  | [a] => (match lenD a st with | some n => .ok (.int n) st | none => .no)
  | _ => .no
def blsOf : List D → Option (List Bool)
  | [] => some []
  | .bl b :: r => (blsOf r).map (b :: ·)
  | _ => none
def intsOf : List D → Option (List Int)
  | [] => some []
  | .int b :: r => (intsOf r).map (b :: ·)
  | _ => none
def strsOf : List D → Option (List (List Nat))
  | [] => some []
  | .str b :: r => (strsOf r).map (b :: ·)
  | _ => none
def insS (x : List Nat) : List (List Nat) → List (List Nat)
  | [] => [x]
  | y :: r => if ltS y x = true then y :: insS x r else x :: y :: r
def sortS : List (List Nat) → List (List Nat)
  | [] => []
  | x :: r => insS x (sortS r)
def insI (x : Int) : List Int → List Int
  | [] => [x]
  | y :: r => if y < x then y :: insI x r else x :: y :: r
def sortI : List Int → List Int
  | [] => []
  | x :: r => insI x (sortI r)
def numT (i : Int) (st : Sto) : R D := if i.natAbs.log2 < 1920 then .ok (.str (txtI i)) st else .no
def sortedD (z : Bool) (xs : List D) (st : Sto) : R D := match strsOf xs with
  | some ys => if ys.length < 64 then newL z ((sortS ys).map .str) st else .no
  | none => (match intsOf xs with
    | some ns => if ns.length < 64 then newL z ((sortI ns).map .int) st else .no
    | none => .no)
def intB (vs : List D) (st : Sto) : R D := match vs with
  | [.bl b] => .ok (.int (if b = true then 1 else 0)) st
  | [.int i] => .ok (.int i) st
  | _ => .no
def strB (vs : List D) (st : Sto) : R D := match vs with
  | [.int i] => numT i st
  | [.bl b] => .ok (.str (if b = true then [84, 114, 117, 101] else [70, 97, 108, 115, 101])) st
  | [.non] => .ok (.str [78, 111, 110, 101]) st
  | _ => .no
def absB (vs : List D) (st : Sto) : R D := match vs with
  | [.int i] => .ok (.int (if i < 0 then -i else i)) st
  | _ => .no
def maxB (vs : List D) (st : Sto) : R D := match vs with
  | [.int i, .int j] => .ok (.int (if j > i then j else i)) st
  | _ => .no
def minB (vs : List D) (st : Sto) : R D := match vs with
  | [.int i, .int j] => .ok (.int (if j < i then j else i)) st
  | _ => .no
def allB (vs : List D) (st : Sto) : R D := match vs with
  | [a] => (match lstOf st a with | some xs => (match blsOf xs with | some bs => okB (bs.all id) st | none => .no) | none => .no)
  | _ => .no
def anyB (vs : List D) (st : Sto) : R D := match vs with
  | [a] => (match lstOf st a with | some xs => (match blsOf xs with | some bs => okB (bs.any id) st | none => .no) | none => .no)
  | _ => .no
def sumB (vs : List D) (st : Sto) : R D := match vs with
  | [a] => (match lstOf st a with | some xs => (match intsOf xs with | some bs => .ok (.int bs.sum) st | none => .no) | none => .no)
  | _ => .no
def sortedB (z : Bool) (vs : List D) (st : Sto) : R D := match vs with
  | [a] => (match lstOf st a with
    | some xs => sortedD z xs st
    | none => (match dctOf st a with | some kvs => sortedD z (kvs.map (·.1)) st | none => .no))
  | _ => .no
def listB (z : Bool) (vs : List D) (st : Sto) : R D := match vs with
  | [a] => (match seqOf st a with | some xs => newL z xs st | none => (match dctOf st a with | some kvs => newL z (kvs.map (·.1)) st | none => .no))
  | _ => .no
def tupleB (vs : List D) (st : Sto) : R D := match vs with
  | [a] => (match seqOf st a with | some xs => .ok (.tup xs) st | none => .no)
  | _ => .no
def pairsOf : List D → Option (List (D × D))
  | [] => some []
  | .tup [k, v] :: r => if keyOk k = true then (pairsOf r).map ((k, v) :: ·) else none
  | _ => none
def dictB (z : Bool) (vs : List D) (st : Sto) : R D := match vs with
  | [a] => (match dctOf st a with | some kvs => newD z kvs st | none => (match lstOf st a with
    | some xs => (match pairsOf xs with | some ps => newD z (ps.foldl (fun k p => putK k p.1 p.2) []) st | none => .no)
    | none => .no))
  | _ => .no
def biD (z : Bool) (f : String) : List D → Sto → R D := match f with
  | "len" => lenB | "isinstance" => isiB | "int" => intB | "str" => strB | "abs" => absB | "max" => maxB | "min" => minB | "all" => allB | "any" => anyB
  | "sum" => sumB | "sorted" => sortedB z | "list" => listB z | "tuple" => tupleB | "dict" => dictB z
  | _ => fun _ _ => .no

/-! ### built-in methods -/
inductive Kd where
  | str | list | dict | own (c : String) | no
def kindOf (st : Sto) : D → Kd
  | .str _ => .str
  | .cd _ => .dict
  | .cl _ => .list
  | .ref n => (match st[n]? with
    | some (.lst _) => .list
    | some (.dct _) => .dict
    | some (.obj c _) => .own c
    | _ => .no)
  | _ => .no
def joinS (s : List Nat) : List (List Nat) → List Nat
  | [] => []
  | [x] => x
  | x :: y :: r => x ++ (s ++ joinS s (y :: r))
def appendM (a : D) (vs : List D) (st : Sto) : R D := match a, vs with
  | .ref n, [v] => (match st[n]? with
    | some (.lst xs) => if xs.length < sl then .ok .non (st.set n (.lst (xs ++ [v]))) else .no
    | _ => .no)
  | _, _ => .no
def extendM (a : D) (vs : List D) (st : Sto) : R D := match a, vs with
  | .ref n, [b] => (match st[n]?, lstOf st b with
    | some (.lst xs), some ys => if xs.length + ys.length ≤ sl then .ok .non (st.set n (.lst (xs ++ ys))) else .no
    | _, _ => .no)
  | _, _ => .no
def insertM (a : D) (vs : List D) (st : Sto) : R D := match a, vs with
  | .ref n, [.int i, v] => (match st[n]? with
    | some (.lst xs) => if xs.length < sl ∧ 0 ≤ i ∧ i < 2 ^ 63 then .ok .non (st.set n (.lst (xs.take i.toNat ++ v :: xs.drop i.toNat))) else .no
    | _ => .no)
  | _, _ => .no
def reverseM (a : D) (vs : List D) (st : Sto) : R D := match a, vs with
  | .ref n, [] => (match st[n]? with
    | some (.lst xs) => .ok .non (st.set n (.lst xs.reverse))
    | _ => .no)
  | _, _ => .no
def popM (a : D) (vs : List D) (st : Sto) : R D := match a, vs with
  | .ref n, [.int i] => (match st[n]? with
    | some (.lst xs) => (match ixOf xs.length i with
      | some j => (match xs[j]? with | some d => .ok d (st.set n (.lst (xs.eraseIdx j))) | none => .no)
      | none => .no)
    | _ => .no)
  | .ref n, [] => (match st[n]? with
    | some (.lst xs) => (match xs[xs.length - 1]? with | some d => .ok d (st.set n (.lst xs.dropLast)) | none => .no)
    | _ => .no)
  | _, _ => .no
def dpopM (a : D) (vs : List D) (st : Sto) : R D := match a, vs with
  | .ref n, [k] => (match st[n]? with
    | some (.dct kvs) => if keyOk k = true then (match getK kvs k with | some d => .ok d (st.set n (.dct (delK kvs k))) | none => .no) else .no
    | _ => .no)
  | _, _ => .no
def dgetM (a : D) (vs : List D) (st : Sto) : R D := match vs with
  | [k] => (match dctOf st a with | some kvs => if keyOk k = true then .ok ((getK kvs k).getD .non) st else .no | none => .no)
  | [k, d] => (match dctOf st a with | some kvs => if keyOk k = true then .ok ((getK kvs k).getD d) st else .no | none => .no)
  | _ => .no
def joinM (a : D) (vs : List D) (st : Sto) : R D := match a, vs with
  | .str s, [a] => (match seqOf st a with
    | some xs => (match strsOf xs with | some ys => if (ys.map List.length).sum + ys.length * s.length ≤ 16777216 then okS (joinS s ys) st else .no | none => .no)
    | none => .no)
  | _, _ => .no
def upC (c : Nat) : Nat := if 97 ≤ c ∧ c ≤ 122 then c - 32 else c
/-- letters that the first block holds alone -/
def upperM (a : D) (vs : List D) (st : Sto) : R D := match a, vs with
  | .str x, [] => if x.length ≤ 100000 ∧ (x.all fun c => decide (c < 128)) = true then .ok (.str (x.map upC)) st else .no
  | _, _ => .no
def indexM (a : D) (vs : List D) (st : Sto) : R D := match lstOf st a, vs with
  | some xs, [y] => (match toPy st 59 y, mapO (toPy st 59) xs with
    | some p, some ps => (match ps.findIdx? fun z => PyData.eqv z p with | some j => .ok (.int (j : Nat)) st | none => .no)
    | _, _ => .no)
  | _, _ => .no
def mtOk : Kd → String → Bool
  | .list, m => ["append", "extend", "pop", "insert", "reverse", "index"].contains m
  | .dict, m => ["get"].contains m
  | .str, m => ["join", "upper"].contains m
  | _, _ => false
def methD (z : Bool) (k : Kd) (m : String) : D → List D → Sto → R D := match k with
  | .list => (match m with | "append" => appendM | "extend" => extendM | "pop" => popM | "insert" => insertM | "reverse" => reverseM | "index" => indexM | _ => fun _ _ _ => .no)
  | .dict => (match m with | "pop" => dpopM | "get" => dgetM | _ => fun _ _ _ => .no)
  | .str => (match m with | "join" => joinM | "upper" => upperM | _ => fun _ _ _ => .no)
  | _ => fun _ _ _ => .no

/-! ### cells that a call leaves behind -/
mutual
def cleanD (n : Nat) : D → Bool
  | .ref m => decide (m < n)
  | .tup xs => cleanDs n xs
  | .cl xs => cleanDs n xs
  | .cd k => cleanKs n k
  | .exn _ fs => cleanFs n fs
  | _ => true
def cleanDs (n : Nat) : List D → Bool
  | [] => true
  | x :: r => cleanD n x && cleanDs n r
def cleanKs (n : Nat) : List (D × D) → Bool
  | [] => true
  | (a, b) :: r => cleanD n a && cleanD n b && cleanKs n r
def cleanFs (n : Nat) : List (String × D) → Bool
  | [] => true
  | (_, b) :: r => cleanD n b && cleanFs n r
end
mutual
def eqDB : D → D → Bool
  | .non, .non => true
  | .bl a, .bl b => a == b
  | .int a, .int b => decide (a = b)
  | .str a, .str b => decide (a = b)
  | .tup a, .tup b => eqDsB a b
  | .cl a, .cl b => eqDsB a b
  | .cd a, .cd b => eqKsB a b
  | .exn c fs, .exn d gs => decide (c = d) && eqFsB fs gs
  | .ref a, .ref b => decide (a = b)
  | .fn a, .fn b => decide (a = b)
  | .ty a, .ty b => decide (a = b)
  | _, _ => false
def eqDsB : List D → List D → Bool
  | [], [] => true
  | x :: r, y :: s => eqDB x y && eqDsB r s
  | _, _ => false
def eqKsB : List (D × D) → List (D × D) → Bool
  | [], [] => true
  | (a, b) :: r, (x, y) :: s => eqDB a x && eqDB b y && eqKsB r s
  | _, _ => false
def eqFsB : List (String × D) → List (String × D) → Bool
  | [], [] => true
  | (a, b) :: r, (x, y) :: s => decide (a = x) && eqDB b y && eqFsB r s
  | _, _ => false
end
def cleanO (n : Nat) : O → Bool
  | .lst xs => cleanDs n xs
  | .dct k => cleanKs n k
  | .obj _ fs => cleanFs n fs
def eqOB : O → O → Bool
  | .lst a, .lst b => eqDsB a b
  | .dct a, .dct b => eqKsB a b
  | .obj c a, .obj d b => decide (c = d) && eqFsB a b
  | _, _ => false
/-- each old cell is as it was, or knows of no cell from n on -/
def keptB (n : Nat) : Sto → Sto → Bool
  | [], _ => true
  | o :: r, p :: s => (eqOB o p || cleanO n p) && keptB n r s
  | _ :: _, [] => false
/-- behind a call: 0 as it is; 1 cells that the call made are gone; 2 a list or dict that it tells is fixed, too -/
def gcR (m : Nat) (st : Sto) (r : R D) : R D := match m with
  | 0 => r
  | m + 1 => (match r with
    | .ok d st' => if keptB st.length st st' = true then (if cleanD st.length d = true then .ok d (st'.take st.length) else match m, d with
      | 1, .ref k => (match st'[k]? with
        | some (.lst xs) => if st.length ≤ k ∧ cleanDs st.length xs = true then .ok (.cl xs) (st'.take st.length) else .no
        | some (.dct kvs) => if st.length ≤ k ∧ cleanKs st.length kvs = true then .ok (.cd kvs) (st'.take st.length) else .no
        | _ => .no)
      | _, _ => .no) else .no
    | .exc c fs st' => if keptB st.length st st' = true ∧ cleanFs st.length fs = true then .exc c fs (st'.take st.length) else .no
    | .no => .no)

/-! ### what is walked -/
inductive Iv where
  | fix (xs : List D) | cell (n : Nat) | enum (a : Iv) | zip (a b : Iv)
def nextI (st : Sto) (i : Nat) : Iv → Option (Option D)
  | .fix xs => some xs[i]?
  | .cell n => (match st[n]? with | some (.lst xs) => some xs[i]? | _ => none)
  | .enum a => (match nextI st i a with
    | some (some d) => some (some (.tup [.int (i : Nat), d]))
    | some none => some none
    | none => none)
  | .zip a b => (match nextI st i a, nextI st i b with
    | some (some x), some (some y) => some (some (.tup [x, y]))
    | some none, some _ => some none
    | some (some _), some none => some none
    | _, _ => none)
def lenI (st : Sto) : Iv → Nat
  | .fix xs => xs.length
  | .cell n => (match st[n]? with | some (.lst xs) => xs.length | _ => 0)
  | .enum a => lenI st a
  | .zip a b => min (lenI st a) (lenI st b)
def ivOf (st : Sto) : D → Option Iv
  | .tup xs => some (.fix xs)
  | .cl xs => some (.fix xs)
  | .str x => some (.fix (x.map fun c => .str [c]))
  | .cd k => some (.fix (k.map (·.1)))
  | .ref n => (match st[n]? with | some (.lst _) => some (.cell n) | _ => none)
  | _ => none
/-- a list alone -/
def ivL (st : Sto) : D → Option Iv
  | .cl xs => some (.fix xs)
  | .ref n => (match st[n]? with | some (.lst _) => some (.cell n) | _ => none)
  | _ => none
def zipOf (st : Sto) (a b : D) : Option Iv := match a, b with
  | .tup xs, .tup ys => some (.zip (.fix xs) (.fix ys))
  | a, b => (match ivL st a, ivL st b with
    | some i, some j => some (.zip i j)
    | _, _ => none)
def rangeL (lo : Int) (n : Nat) : List D := (List.range n).map fun (i : Nat) => D.int (lo + (i : Int))
/-- a loop's turns from the i-th on -/
def loopS (body : D → Env → Sto → RS) (iv : Iv) : Nat → Nat → Env → Sto → RS
  | 0, _, _, _ => .no
  | f + 1, i, env, st => match nextI st i iv with
    | none => .no
    | some none => .next env st
    | some (some d) => match body d env st with
      | .next e s => loopS body iv f (i + 1) e s
      | .cont e s => loopS body iv f (i + 1) e s
      | .brk e s => .next e s
      | .ret d s => .ret d s
      | .exc c fs e s => .exc c fs e s
      | .no => .no
def loopC (item : D → Sto → R (Option D)) (iv : Iv) : Nat → Nat → List D → Sto → R (List D)
  | 0, _, _, _ => .no
  | f + 1, i, acc, st => match nextI st i iv with
    | none => .no
    | some none => .ok acc st
    | some (some d) => match item d st with
      | .ok none s => loopC item iv f (i + 1) acc s
      | .ok (some x) s => if acc.length < sl then loopC item iv f (i + 1) (acc ++ [x]) s else .no
      | .exc c fs s => .no
      | .no => .no
def loopD (item : D → Sto → R (Option (D × D))) (iv : Iv) : Nat → Nat → List (D × D) → Sto → R (List (D × D))
  | 0, _, _, _ => .no
  | f + 1, i, acc, st => match nextI st i iv with
    | none => .no
    | some none => .ok acc st
    | some (some d) => match item d st with
      | .ok none s => loopD item iv f (i + 1) acc s
      | .ok (some (k, v)) s => if keyOk k = true ∧ acc.length < sl then loopD item iv f (i + 1) (putK acc k v) s else .no
      | .exc c fs s => .no
      | .no => .no
def whileS (test : Env → Sto → R D) (body : Env → Sto → RS) : Nat → Env → Sto → RS
  | 0, _, _ => .no
  | f + 1, env, st => match test env st with
    | .ok (.bl true) s => (match body env s with
      | .next e s => whileS test body f e s
      | .cont e s => whileS test body f e s
      | .brk e s => .next e s
      | .ret d s => .ret d s
      | .exc c fs e s => .exc c fs e s
      | .no => .no)
    | .ok (.bl false) s => .next env s
    | .exc c fs s => .exc c fs env s
    | _ => .no
/-- what goes to the targets, a starred one among them -/
def starM {α : Type} (p n : Nat) (xs : List α) : List α := (xs.drop p).take (xs.length + 1 - n)
def starL {α : Type} (p n : Nat) (xs : List α) (m : α) : List α := xs.take p ++ [m] ++ (xs.drop p).drop (xs.length + 1 - n)
def wipeE (env : Env) : List Nat → Env
  | [] => env
  | v :: vs => (wipeE env vs).set v none
def keysOk : List D → Bool
  | [] => true
  | k :: r => keyOk k && keysOk r
def fmtD : D → Option (List Nat)
  | .str x => some x
  | .int i => if i.natAbs.log2 < 1920 then some (txtI i) else none
  | _ => none
/-- where a parameter's value comes from: a place, a keyword, a default -/
inductive Src where
  | pos (i : Nat) | kw (i : Nat) | dv (d : D)
def Src.pick (vs : List D) (zs : List D) : Src → D
  | .pos i => vs.getD i .non
  | .kw i => zs.getD i .non
  | .dv d => d
structure Ctx where
  g : String → Option D
  plan : String → Nat → List String → Option (List Src)
  mplan : String → String → Nat → List String → Option (List Src)
  run : String → List D → Sto → R D
  mrun : String → String → List D → Sto → R D
  fld : String → List String
  bi : String → Bool
  fz : String → Nat
  mfz : String → String → Nat
  makes : String → Bool
  rz : String → Bool
  exm : String → String → Option Bool
  isx : String → String → Option Bool

mutual
def evE (c : Ctx) : E → Env → Sto → R D
  | .var i, env, st => (match env[i]? with | some (some d) => .ok d st | _ => .no)
  | .non, _, st => .ok .non st
  | .bl b, _, st => .ok (.bl b) st
  | .int i, _, st => .ok (.int i) st
  | .str x, _, st => .ok (.str x) st
  | .glob x, _, st => (match c.g x with | some d => .ok d st | none => .no)
  | .ty n, _, st => .ok (.ty n) st
  | .bin z o a b, env, st => (evE c a env st).bind fun x st => (evE c b env st).bind fun y st => binD z o x y st
  | .neg a, env, st => (evE c a env st).bind fun x st => (match x with | .int i => .ok (.int (-i)) st | _ => .no)
  | .not a, env, st => (evE c a env st).bind fun x st => (match x with | .bl b => .ok (.bl (!b)) st | _ => .no)
  | .and a b, env, st => (evE c a env st).bind fun x st => (match x with | .bl true => evE c b env st | .bl false => .ok (.bl false) st | _ => .no)
  | .or a b, env, st => (evE c a env st).bind fun x st => (match x with | .bl false => evE c b env st | .bl true => .ok (.bl true) st | _ => .no)
  | .ite t a b, env, st => (evE c t env st).bind fun x st => (match x with | .bl true => evE c a env st | .bl false => evE c b env st | _ => .no)
  | .cmp o a b, env, st => (evE c a env st).bind fun x st => (evE c b env st).bind fun y st => cmpD o x y st
  | .cmp2 o p a b d, env, st => (evE c a env st).bind fun x st => (evE c b env st).bind fun y st => (cmpD o x y st).bind fun r st => (match r with
    | .bl true => (evE c d env st).bind fun z st => cmpD p y z st
    | .bl false => .ok (.bl false) st
    | _ => .no)
  | .attr a f, env, st => (evE c a env st).bind fun x st => attrD x f st
  | .ix a b, env, st => (evE c a env st).bind fun x st => (evE c b env st).bind fun y st => ixD x y st
  | .sl z a lo hi, env, st => (evE c a env st).bind fun x st => (evO c lo env st).bind fun l st => (evO c hi env st).bind fun h st => slD z x l h st
  | .rev z a, env, st => (evE c a env st).bind fun x st => revD z x st
  | .step2 z a one, env, st => (evE c a env st).bind fun x st => step2D z one x st
  | .lst z es, env, st => (evEs c es env st).bind fun xs st => newL z xs st
  | .rep z es n, env, st => (evEs c es env st).bind fun xs st => if xs.length ≤ sl then (evE c n env st).bind fun y st => repD z xs y st else .no
  | .tup es, env, st => (evEs c es env st).bind fun xs st => if xs.length ≤ sl then .ok (.tup xs) st else .no
  | .dct z ps, env, st => (evPs c ps env st).bind fun xs st => if keysOk (xs.map (·.1)) = true ∧ xs.length ≤ 15 then newD z (xs.foldl (fun k p => putK k p.1 p.2) []) st else .no
  | .comp z e t it ifs own, env, st => (itE c it env st).bind fun iv st =>
      (loopC (fun d st => (asT c t d (wipeE env own) st).bind fun env1 st => (evI c ifs env1 st).bind fun b st => if b = true then (evE c e env1 st).bind fun y st => .ok (some y) st else .ok none st) iv (lenI st iv + 1) 0 [] st).bind fun xs st => newC z xs st
  | .dcomp z k v t it ifs own, env, st => (itE c it env st).bind fun iv st =>
      (loopD (fun d st => (asT c t d (wipeE env own) st).bind fun env1 st => (evI c ifs env1 st).bind fun b st => if b = true then (evE c k env1 st).bind fun x st => (evE c v env1 st).bind fun y st => .ok (some (x, y)) st else .ok none st) iv (lenI st iv + 1) 0 [] st).bind fun kvs st => newD z kvs st
  | .ist a ts, env, st => (evE c a env st).bind fun x st => (match tyOf st x with
    | some a => if a ∈ tyNames ∧ (∀ t ∈ ts, t ∈ tyNames) ∧ ts.length ≤ 9 then okB (ts.any fun t => decide (a = t) || (decide (a = "bool") && decide (t = "int"))) st else .no
    | none => .no)
  | .isx a cl, env, st => (evE c a env st).bind fun x st => (match x with
    | .exn e _ => okOB (c.isx e cl) st
    | _ => .no)
  | .fstr es, env, st => evFs c es [] env st
  | .call f es ks kes, env, st => (evEs c es env st).bind fun xs st => (evEs c kes env st).bind fun zs st =>
      (match c.plan f xs.length ks with
      | some pl => if zs.length = ks.length then gcR (c.fz f) st (c.run f (pl.map (Src.pick xs zs)) st) else .no
      | none => .no)
  | .make f es, env, st => (evEs c es env st).bind fun xs st => if c.makes f = false then .no else (match c.mplan f "__init__" (xs.length + 1) [] with
      | some pl => (c.mrun f "__init__" (pl.map (Src.pick (.ref st.length :: xs) [])) (st ++ [.obj f []])).bind fun d st1 => (match d with | .non => .ok (.ref st.length) st1 | _ => .no)
      | none => .no)
  | .bi z f es, env, st => (evEs c es env st).bind fun xs st => biD z f xs st
  | .meth z a m es ks kes, env, st => (evE c a env st).bind fun x st => (match kindOf st x with
      | .own cl => (match c.mplan cl m (es.length + 1) ks with
        | some pl => (evEs c es env st).bind fun xs st => (evEs c kes env st).bind fun zs st => if xs.length = es.length ∧ zs.length = ks.length then gcR (c.mfz cl m) st (c.mrun cl m (pl.map (Src.pick (x :: xs) zs)) st) else .no
        | none => .no)
      | k => if mtOk k m = true ∧ ks = [] ∧ kes = [] then (evEs c es env st).bind fun xs st => methD z k m x xs st else .no)
def evEs (c : Ctx) : List E → Env → Sto → R (List D)
  | [], _, st => .ok [] st
  | e :: es, env, st => (evE c e env st).bind fun x st => (evEs c es env st).bind fun xs st => .ok (x :: xs) st
def evPs (c : Ctx) : List (E × E) → Env → Sto → R (List (D × D))
  | [], _, st => .ok [] st
  | (k, v) :: r, env, st => (evE c k env st).bind fun x st => (evE c v env st).bind fun y st => (evPs c r env st).bind fun xs st => .ok ((x, y) :: xs) st
def evFs (c : Ctx) : List E → List Nat → Env → Sto → R D
  | [], acc, _, st => .ok (.str acc) st
  | e :: es, acc, env, st => (evE c e env st).bind fun x st => (match fmtD x with
    | some y => if (acc ++ y).length ≤ sl then evFs c es (acc ++ y) env st else .no
    | none => .no)
def evO (c : Ctx) : Option E → Env → Sto → R (Option Int)
  | none, _, st => .ok none st
  | some e, env, st => (evE c e env st).bind fun x st => (match x with | .int i => .ok (some i) st | _ => .no)
def evI (c : Ctx) : Option E → Env → Sto → R Bool
  | none, _, st => .ok true st
  | some e, env, st => (evE c e env st).bind fun x st => (match x with | .bl b => .ok b st | _ => .no)
def itE (c : Ctx) : It → Env → Sto → R Iv
  | .e e, env, st => (evE c e env st).bind fun x st => (match ivOf st x with | some iv => .ok iv st | none => .no)
  | .range1 es, env, st => (evEs c es env st).bind fun xs st => (match xs with
    | [.int j] => if -(2 ^ 62) ≤ j ∧ j < 2 ^ 62 then .ok (.fix (rangeL 0 j.toNat)) st else .no
    | _ => .no)
  | .range2 es, env, st => (evEs c es env st).bind fun xs st => (match xs with
    | [.int i, .int j] => if -(2 ^ 62) ≤ i ∧ i < 2 ^ 62 ∧ -(2 ^ 62) ≤ j ∧ j < 2 ^ 62 then .ok (.fix (rangeL i (j - i).toNat)) st else .no
    | _ => .no)
  | .enum e, env, st => (evE c e env st).bind fun x st => (match ivL st x with | some iv => .ok (.enum iv) st | none => .no)
  | .zip a b, env, st => (evE c a env st).bind fun x st => (evE c b env st).bind fun y st => (match zipOf st x y with | some iv => .ok iv st | none => .no)
  | .items e, env, st => (evE c e env st).bind fun x st => (match x with | .cd k => .ok (.fix (k.map fun p => .tup [p.1, p.2])) st | _ => .no)
  | .vals e, env, st => (evE c e env st).bind fun x st => (match x with | .cd k => .ok (.fix (k.map (·.2))) st | _ => .no)
  | .enum1 _ _, _, _ => .no
  | .zips _ _, _, _ => .no
  | .range3 _, _, _ => .no
def asT (c : Ctx) : Tg → D → Env → Sto → R Env
  | .name i, d, env, st => .ok (env.set i (some d)) st
  | .tup ts, d, env, st => (match d with
    | .tup xs => if xs.length = ts.length then (asTs c ts xs env st).calm else .no
    | _ => .no)
  | .star p ts, d, env, st => (match seqOf st d with
    | some xs => if p < ts.length ∧ ts.length ≤ xs.length + 1 ∧ xs.length ≤ 16384 then
        (asTs c ts (starL p ts.length xs (.ref st.length)) env (st ++ [.lst (starM p ts.length xs)])).calm else .no
    | none => .no)
  | .sub a b, d, env, st => (evE c a env st).bind fun x st => (evE c b env st).bind fun y st => (setD x y d st).bind fun _ st => .ok env st
  | .fld a f, d, env, st => (evE c a env st).bind fun x st => (fldD c.fld x f d st).bind fun _ st => .ok env st
def asTs (c : Ctx) : List Tg → List D → Env → Sto → R Env
  | [], [], env, st => .ok env st
  | t :: ts, d :: ds, env, st => (asT c t d env st).bind fun env st => asTs c ts ds env st
  | _, _, _, _ => .no
end
def R.st (r : R α) (env : Env) (k : α → Sto → RS) : RS := match r with
  | .ok a st => k a st
  | .exc c fs st => .exc c fs env st
  | .no => .no
mutual
def exS (c : Ctx) : S → Env → Sto → RS
  | .ex e, env, st => (evE c e env st).st env fun _ st => .next env st
  | .asg t e, env, st => (evE c e env st).st env fun x st => (asT c t x env st).st env fun env st => .next env st
  | .aug i o e, env, st => (match env[i]? with
    | some (some x) => (evE c e env st).st env fun y st => (augD o x y st).st env fun z st => .next (env.set i (some z)) st
    | _ => .no)
  | .augS a b o e, env, st => (evE c a env st).st env fun x st => (evE c b env st).st env fun y st => (getD x y st).st env fun z st =>
      (evE c e env st).st env fun w st => (augD o z w st).st env fun r st => (setD x y r st).st env fun _ st => .next env st
  | .ret e, env, st => (evE c e env st).st env fun x st => .ret x st
  | .retN, _, st => .ret .non st
  | .iff t a b, env, st => (evE c t env st).st env fun x st => (match x with | .bl true => exSs c a env st | .bl false => exSs c b env st | _ => .no)
  | .whil t b, env, st => whileS (evE c t) (exSs c b) 1048576 env st
  | .fr t it b, env, st => (itE c it env st).st env fun iv st => loopS (fun d env st => (asT c t d env st).st env fun env st => exSs c b env st) iv (lenI st iv + 1) 0 env st
  | .rais cl es, env, st => (evEs c es env st).st env fun xs st => (match xs with | [.str _] => if c.rz cl = true then .exc cl [] env st else .no | _ => .no)
  | .tryc b cl i j, env, st => (match exSs c b env st with
    | .exc e fs env st => match c.exm e cl, fs with | some true, [] => .next ((env.set i none).set j (some (.exn e []))) st | _, _ => .no
    | o => o)
  | .tryo _ _ _, _, _ => .no
  | .pass, env, st => .next env st
  | .brk, env, st => .brk env st
  | .cont, env, st => .cont env st
def exSs (c : Ctx) : List S → Env → Sto → RS
  | [], env, st => .next env st
  | s :: r, env, st => (match exS c s env st with
    | .next env st => exSs c r env st
    | o => o)
end
/-! ### defs -/
structure Fn where
  slots : Nat
  body : List S
abbrev Plans := List ((Nat × List String) × List Src)
structure Prog where
  fns : List (String × Fn)
  mts : List ((String × String) × Fn)
  plans : List (String × Plans)
  mplans : List ((String × String) × Plans)
  g : List (String × D)
  fld : List (String × List String)
  bi : List String
  fz : List (String × Nat)
  mfz : List ((String × String) × Nat)
  makes : List String
  rz : List String
  exm : List ((String × String) × Bool)
  isx : List ((String × String) × Bool)
def runF (c : Ctx) (f : Fn) (ds : List D) (st : Sto) : R D := match exSs c f.body (ds.map some ++ List.replicate (f.slots - ds.length) none) st with
  | .next _ st => .ok .non st
  | .ret d st => .ok d st
  | .exc c fs _ st => .exc c fs st
  | _ => .no
def look {α β : Type} [BEq α] (k : α) (l : List (α × β)) : Option β := l.lookup k
def Prog.ctx (P : Prog) (run : String → List D → Sto → R D) (mrun : String → String → List D → Sto → R D) : Ctx :=
  ⟨fun x => P.g.lookup x, fun f n ks => (P.plans.lookup f).bind fun p => p.lookup (n, ks), fun c m n ks => (P.mplans.lookup (c, m)).bind fun p => p.lookup (n, ks), run, mrun, fun c => (P.fld.lookup c).getD [], fun x => P.bi.contains x, fun f => (P.fz.lookup f).getD 0, fun c m => (P.mfz.lookup (c, m)).getD 0, fun c => P.makes.contains c, fun c => P.rz.contains c, fun e t => P.exm.lookup (e, t), fun e t => P.isx.lookup (e, t)⟩
mutual
def callF (P : Prog) : Nat → String → List D → Sto → R D
  | 0, _, _, _ => .no
  | k + 1, f, ds, st => match P.fns.lookup f with
    | none => .no
    | some fn => runF (P.ctx (callF P k) (callM P k)) fn ds st
def callM (P : Prog) : Nat → String → String → List D → Sto → R D
  | 0, _, _, _, _ => .no
  | k + 1, c, m, ds, st => match P.mts.lookup (c, m) with
    | none => .no
    | some fn => runF (P.ctx (callF P k) (callM P k)) fn ds st
end
end Mi

set_option linter.all false
set_option maxRecDepth 100000
/-! V2: how values and cells stand in the abstract heap; what is wanted behind a step. -/
namespace Mi
open PySem PySem.Spec L2
open PyProof.Rows hiding St

structure Fx where
  K : PySem.W.Frag
  mg : Str → Option Value
  fld : String → List String
def tS (x : List Nat) : Str := ⟨x.toArray⟩
def StrOk (x : List Nat) : Prop := x.length ≤ sizeLine ∧ ∀ c ∈ x, c < 1114112
/-- a list that nobody changes: known to the object, or of the written part -/
def CL (K : PySem.W.Frag) (H : Hp) (a : Addr) (xs : List V) : Prop :=
  (∃ o, H a = some (.frz o (.lst xs))) ∨ ∃ (o : Obj) (its : Array Value) (n : Nat), K.lookup a = some o ∧ o.cls = .type "list" ∧ o.dict = none ∧ o.data = .seq its n ∧ its.size ≤ sizeLine ∧ Vals xs its.toList
theorem CL.sq {K : PySem.W.Frag} {H : Hp} {a : Addr} {xs : List V} (h : CL K H a xs) : SqL K H a xs := by
  rcases h with ⟨o, h⟩ | h
  · exact .inl (.inr ⟨o, h⟩)
  · exact .inr h
/-- a list, changed by some or by nobody -/
def LS (K : PySem.W.Frag) (H : Hp) (a : Addr) (xs : List V) : Prop := H a = some (.lst xs) ∨ CL K H a xs
theorem LS.sq {K : PySem.W.Frag} {H : Hp} {a : Addr} {xs : List V} (h : LS K H a xs) : SqL K H a xs := h.elim (fun h => .inl (.inl h)) CL.sq
theorem LS.exact {X : Cx} {pins : List (Addr × Obj)} {σ : L2.St} {H : Hp} {s : Shared} {a : Addr} {xs : List V} (h : LS X.K H a xs) (I : Inv X pins σ H s) :
    xs.length ≤ sizeLine ∧ ∃ (its : List Value) (n : Nat) (dd : Option Addr) (sl : Array (Option Value)), Vals xs its ∧ xs.length = its.length ∧ s.heap.get? a = some { cls := .type "list", dict := dd, data := .seq its.toArray n, slots := sl } := by
  rcases h with h | ⟨o, h⟩ | ⟨o, its, n, h, h1, h2, h3, hz, r⟩
  · obtain ⟨z, its, n, r, e1, e⟩ := I.lstM h
    exact ⟨z, its, n, none, #[], r, e1, e⟩
  · obtain ⟨z, its, n, r, e⟩ := (Rd.ok (.inr ⟨o, h⟩) I.hok : ObjOk X.prog X.w H s.heap a (.lst xs))
    exact ⟨z, its, n, none, #[], r, r.length, e⟩
  · have e := r.length
    obtain ⟨c, d, dt, sl⟩ := o
    simp only at h1 h2 h3
    subst h1 h2 h3
    refine ⟨by rw [e]; simpa using hz, its.toList, n, none, sl, r, e, ?_⟩
    have := I.kIn a _ h
    simpa using this
/-- what never changes stays -/
structure KeepT (H H' : Hp) : Prop where
  tup : ∀ a xs, H a = some (.tup xs) → H' a = some (.tup xs)
  frl : ∀ a o xs, H a = some (.frz o (.lst xs)) → H' a = some (.frz o (.lst xs))
  frt : ∀ a o xs, H a = some (.frz o (.tup xs)) → H' a = some (.frz o (.tup xs))
  frd : ∀ a o xs, H a = some (.frz o (.dK xs)) → H' a = some (.frz o (.dK xs))
  ext : ∀ a φ, H a = some (.ext φ) → H' a = some (.ext φ)
theorem KeepT.sqT {K : PySem.W.Frag} {H H' : Hp} {a : Addr} {xs : List V} (k : KeepT H H') (h : SqT K H a xs) : SqT K H' a xs := by
  rcases h with (h | ⟨o, h⟩) | h
  · exact .inl (.inl (k.tup _ _ h))
  · exact .inl (.inr ⟨o, k.frt _ _ _ h⟩)
  · exact .inr h
theorem KeepT.cl {K : PySem.W.Frag} {H H' : Hp} {a : Addr} {xs : List V} (k : KeepT H H') (h : CL K H a xs) : CL K H' a xs := by
  rcases h with ⟨o, h⟩ | h
  · exact .inl ⟨o, k.frl _ _ _ h⟩
  · exact .inr h
theorem KeepT.refl (H : Hp) : KeepT H H := ⟨fun _ _ h => h, fun _ _ _ h => h, fun _ _ _ h => h, fun _ _ _ h => h, fun _ _ h => h⟩
/-- what stays: all that the cells do not hold; the new cells are new -/
structure Keep (ι ι' : List Addr) (H H' : Hp) : Prop where
  tup : ∀ a xs, H a = some (.tup xs) → H' a = some (.tup xs)
  frl : ∀ a o xs, H a = some (.frz o (.lst xs)) → H' a = some (.frz o (.lst xs))
  frt : ∀ a o xs, H a = some (.frz o (.tup xs)) → H' a = some (.frz o (.tup xs))
  frd : ∀ a o xs, H a = some (.frz o (.dK xs)) → H' a = some (.frz o (.dK xs))
  ext : ∀ a φ, H a = some (.ext φ) → H' a = some (.ext φ)
  xd : ∀ a fs, H a = some (.xd fs) → H' a = some (.xd fs)
  out : ∀ a o, a ∉ ι → H a = some o → H' a = some o
  new : ∀ a, a ∈ ι' → a ∉ ι → H a = none
theorem Keep.refl {ι : List Addr} (H : Hp) : Keep ι ι H H := ⟨fun _ _ h => h, fun _ _ _ h => h, fun _ _ _ h => h, fun _ _ _ h => h, fun _ _ h => h, fun _ _ h => h, fun _ _ _ h => h, fun _ h n => absurd h n⟩
theorem Keep.trans {ι ι1 ι2 : List Addr} {H H1 H2 : Hp} (a : Keep ι ι1 H H1) (b : Keep ι1 ι2 H1 H2) : Keep ι ι2 H H2 :=
  ⟨fun _ _ h => b.tup _ _ (a.tup _ _ h), fun _ _ _ h => b.frl _ _ _ (a.frl _ _ _ h), fun _ _ _ h => b.frt _ _ _ (a.frt _ _ _ h), fun _ _ _ h => b.frd _ _ _ (a.frd _ _ _ h), fun _ _ h => b.ext _ _ (a.ext _ _ h), fun _ _ h => b.xd _ _ (a.xd _ _ h),
    fun x o n h => b.out _ _ (fun m => by rw [a.new x m n] at h; cases h) (a.out _ _ n h),
    fun x m n => by
      by_cases c : x ∈ ι1
      · exact a.new x c n
      · have h1 := b.new x m c
        cases e : H x with
        | none => rfl
        | some o => rw [a.out x o n e] at h1; cases h1⟩
theorem Keep.t {ι ι' : List Addr} {H H' : Hp} (k : Keep ι ι' H H') : KeepT H H' := ⟨k.tup, k.frl, k.frt, k.frd, k.ext⟩
theorem Keep.sqT {ι ι' : List Addr} {K : PySem.W.Frag} {H H' : Hp} {a : Addr} {xs : List V} (k : Keep ι ι' H H') (h : SqT K H a xs) : SqT K H' a xs := k.t.sqT h
theorem Keep.cl {ι ι' : List Addr} {K : PySem.W.Frag} {H H' : Hp} {a : Addr} {xs : List V} (k : Keep ι ι' H H') (h : CL K H a xs) : CL K H' a xs := k.t.cl h
/-- a cell's object may be changed -/
def Cell : HO → Prop
  | .lst _ => True
  | .dK _ => True
  | .ins _ _ _ => True
  | .own _ => True
  | _ => False
theorem upd_old {H : Hp} {a : Addr} {o : HO} (h : H a = none ∨ ∃ u, H a = some u ∧ Cell u) {b : Addr} {u : HO} (hb : H b = some u) (hc : ¬ Cell u) : upd H a o b = some u := by
  rw [upd_ne]
  · exact hb
  · rintro rfl
    rcases h with h | ⟨u', h, c⟩
    · rw [h] at hb; cases hb
    · rw [h] at hb; cases hb; exact hc c
theorem Keep.side {ι : List Addr} {H : Hp} {a : Addr} {o : HO} (h : H a = none) : Keep ι ι H (upd H a o) :=
  ⟨fun _ _ q => upd_old (.inl h) q id, fun _ _ _ q => upd_old (.inl h) q id, fun _ _ _ q => upd_old (.inl h) q id, fun _ _ _ q => upd_old (.inl h) q id, fun _ _ q => upd_old (.inl h) q id, fun _ _ q => upd_old (.inl h) q id,
    fun b u _ q => by rw [upd_ne (ne_of_none q h)]; exact q, fun _ q n => absurd q n⟩
theorem Keep.cell {ι : List Addr} {H : Hp} {a : Addr} {o : HO} (h : H a = none) : Keep ι (ι ++ [a]) H (upd H a o) :=
  ⟨fun _ _ q => upd_old (.inl h) q id, fun _ _ _ q => upd_old (.inl h) q id, fun _ _ _ q => upd_old (.inl h) q id, fun _ _ _ q => upd_old (.inl h) q id, fun _ _ q => upd_old (.inl h) q id, fun _ _ q => upd_old (.inl h) q id,
    fun b u _ q => by rw [upd_ne (ne_of_none q h)]; exact q, fun x q n => by
      rcases List.mem_append.mp q with q | q
      · exact absurd q n
      · rw [List.mem_singleton.mp q]; exact h⟩
theorem Keep.put {ι : List Addr} {H : Hp} {a : Addr} {o : HO} (m : a ∈ ι) (h : ∃ u, H a = some u ∧ Cell u) : Keep ι ι H (upd H a o) :=
  ⟨fun _ _ q => upd_old (.inr h) q id, fun _ _ _ q => upd_old (.inr h) q id, fun _ _ _ q => upd_old (.inr h) q id, fun _ _ _ q => upd_old (.inr h) q id, fun _ _ q => upd_old (.inr h) q id, fun _ _ q => upd_old (.inr h) q id,
    fun b u n q => by rw [upd_ne (fun z => n (by rw [z]; exact m))]; exact q, fun _ q n => absurd q n⟩

def RKey : D → Key → Prop
  | .int i, k => k = .inl i
  | .str x, k => k = .inr (tS x) ∧ StrOk x
  | _, _ => False
/-- an exception that nobody raises any more -/
def XO (D a : Addr) : HO := .ext fun h => ∃ oc : Obj, h.get? a = some oc ∧ oc.cls = .ref D ∧ oc.dict = none ∧ ∃ vs, oc.data = .fields vs
mutual
inductive RV (F : Fx) (ι : List Addr) (H : Hp) : D → V → Prop where
  | non : RV F ι H .non .non
  | bl (b : Bool) : RV F ι H (.bl b) (.bl b)
  | int (i : Int) : RV F ι H (.int i) (.int i)
  | str (x : List Nat) : StrOk x → RV F ι H (.str x) (.str (tS x))
  | tup {ds : List D} {vs : List V} {a : Addr} : SqT F.K H a vs → RVs F ι H ds vs → ds.length ≤ sizeLine → RV F ι H (.tup ds) (.ref a)
  | cl {ds : List D} {vs : List V} {a : Addr} : CL F.K H a vs → RVs F ι H ds vs → ds.length ≤ sizeLine → RV F ι H (.cl ds) (.ref a)
  | cd {kvs : List (D × D)} {ks : List (Key × V)} {a : Addr} {o : Obj} : H a = some (.frz o (.dK ks)) → Paired (fun p q => RKey p.1 q.1) kvs ks → RVs F ι H (kvs.map (·.2)) (ks.map (·.2)) → kvs.length ≤ sizeLine → RV F ι H (.cd kvs) (.ref a)
  | exn {c : String} {a C : Addr} : F.mg (Str.ofString c) = some (.ref C) → H a = some (XO C a) → RV F ι H (.exn c []) (.ref a)
  | ref {n : Nat} {a : Addr} : ι[n]? = some a → RV F ι H (.ref n) (.ref a)
  | fn {x : String} {a : Addr} : F.mg (Str.ofString x) = some (.ref a) → RV F ι H (.fn x) (.ref a)
  | ty (n : String) : RV F ι H (.ty n) (.ty n)
inductive RVs (F : Fx) (ι : List Addr) (H : Hp) : List D → List V → Prop where
  | nil : RVs F ι H [] []
  | cons {d : D} {ds : List D} {v : V} {vs : List V} : RV F ι H d v → RVs F ι H ds vs → RVs F ι H (d :: ds) (v :: vs)
end
section
variable {F : Fx} {ι ι' : List Addr} {H H' : Hp}
theorem pre_get {α : Type} {l l' : List α} {n : Nat} {a : α} (p : l <+: l') (h : l[n]? = some a) : l'[n]? = some a := by
  obtain ⟨r, rfl⟩ := p
  rw [List.getElem?_append_left (List.getElem?_eq_some_iff.mp h).1]
  exact h
mutual
theorem RV.monoT (p : ι <+: ι') (k : KeepT H H') : ∀ {d : D} {v : V}, RV F ι H d v → RV F ι' H' d v
  | _, _, .non => .non
  | _, _, .bl b => .bl b
  | _, _, .int i => .int i
  | _, _, .str x h => .str x h
  | _, _, .tup h hs z => .tup (k.sqT h) (RVs.monoT p k hs) z
  | _, _, .cl h hs z => .cl (k.cl h) (RVs.monoT p k hs) z
  | _, _, .cd h e hs z => .cd (k.frd _ _ _ h) e (RVs.monoT p k hs) z
  | _, _, .exn h e => .exn h (k.ext _ _ e)
  | _, _, .ref h => .ref (pre_get p h)
  | _, _, .fn h => .fn h
  | _, _, .ty n => .ty n
theorem RVs.monoT (p : ι <+: ι') (k : KeepT H H') : ∀ {ds : List D} {vs : List V}, RVs F ι H ds vs → RVs F ι' H' ds vs
  | _, _, .nil => .nil
  | _, _, .cons h t => .cons (RV.monoT p k h) (RVs.monoT p k t)
end
theorem RV.mono (p : ι <+: ι') (k : Keep ι ι' H H') {d : D} {v : V} (h : RV F ι H d v) : RV F ι' H' d v := h.monoT p k.t
theorem RVs.mono (p : ι <+: ι') (k : Keep ι ι' H H') {d : List D} {v : List V} (h : RVs F ι H d v) : RVs F ι' H' d v := h.monoT p k.t
theorem RVs.length : ∀ {ds : List D} {vs : List V}, RVs F ι H ds vs → ds.length = vs.length
  | _, _, .nil => rfl
  | _, _, .cons _ t => by rw [List.length_cons, List.length_cons, RVs.length t]
theorem RVs.get : ∀ {ds : List D} {vs : List V} {i : Nat} {d : D}, RVs F ι H ds vs → ds[i]? = some d → ∃ v, vs[i]? = some v ∧ RV F ι H d v
  | _, _, _, _, .nil, e => by simp at e
  | _, _, 0, _, .cons r _, e => by simp at e; subst e; exact ⟨_, rfl, r⟩
  | _, _, i + 1, _, .cons _ t, e => by
    obtain ⟨v, h1, h2⟩ := RVs.get t (by simpa using e)
    exact ⟨v, by simpa using h1, h2⟩
theorem RVs.get' : ∀ {ds : List D} {vs : List V} {i : Nat} {v : V}, RVs F ι H ds vs → vs[i]? = some v → ∃ d, ds[i]? = some d ∧ RV F ι H d v
  | _, _, _, _, .nil, e => by simp at e
  | _, _, 0, _, .cons r _, e => by simp at e; subst e; exact ⟨_, rfl, r⟩
  | _, _, i + 1, _, .cons _ t, e => by
    obtain ⟨v, h1, h2⟩ := RVs.get' t (by simpa using e)
    exact ⟨v, by simpa using h1, h2⟩
theorem RVs.append : ∀ {ds es : List D} {vs ws : List V}, RVs F ι H ds vs → RVs F ι H es ws → RVs F ι H (ds ++ es) (vs ++ ws)
  | _, _, _, _, .nil, s => s
  | _, _, _, _, .cons r t, s => .cons r (RVs.append t s)
theorem RVs.one {d : D} {v : V} (h : RV F ι H d v) : RVs F ι H [d] [v] := .cons h .nil
theorem RVs.set {d : D} {v : V} (h : RV F ι H d v) : ∀ {ds : List D} {vs : List V} (i : Nat), RVs F ι H ds vs → RVs F ι H (ds.set i d) (vs.set i v)
  | _, _, _, .nil => .nil
  | _, _, 0, .cons _ t => .cons h t
  | _, _, i + 1, .cons q t => .cons q (RVs.set h i t)
theorem RVs.take : ∀ {ds : List D} {vs : List V} (n : Nat), RVs F ι H ds vs → RVs F ι H (ds.take n) (vs.take n)
  | _, _, 0, _ => .nil
  | _, _, _ + 1, .nil => .nil
  | _, _, n + 1, .cons r t => .cons r (RVs.take n t)
theorem RVs.drop : ∀ {ds : List D} {vs : List V} (n : Nat), RVs F ι H ds vs → RVs F ι H (ds.drop n) (vs.drop n)
  | _, _, 0, r => r
  | _, _, _ + 1, .nil => .nil
  | _, _, n + 1, .cons _ t => RVs.drop n t
theorem RVs.eraseIdx : ∀ {ds : List D} {vs : List V} (n : Nat), RVs F ι H ds vs → RVs F ι H (ds.eraseIdx n) (vs.eraseIdx n)
  | _, _, _, .nil => .nil
  | _, _, 0, .cons _ t => t
  | _, _, n + 1, .cons r t => .cons r (RVs.eraseIdx n t)
theorem RVs.reverse : ∀ {ds : List D} {vs : List V}, RVs F ι H ds vs → RVs F ι H ds.reverse vs.reverse
  | _, _, .nil => .nil
  | _, _, .cons r t => by rw [List.reverse_cons, List.reverse_cons]; exact (RVs.reverse t).append (.one r)
theorem RVs.replicate {ds : List D} {vs : List V} (h : RVs F ι H ds vs) : ∀ n : Nat, RVs F ι H (List.replicate n ds).flatten (List.replicate n vs).flatten
  | 0 => .nil
  | n + 1 => by
    rw [List.replicate_succ, List.replicate_succ, List.flatten_cons, List.flatten_cons]
    exact h.append (RVs.replicate h n)
/-! inversions -/
theorem RV.int_inv {i : Int} {v : V} (h : RV F ι H (.int i) v) : v = .int i := by cases h; rfl
theorem RV.bl_inv {i : Bool} {v : V} (h : RV F ι H (.bl i) v) : v = .bl i := by cases h; rfl
theorem RV.str_inv {x : List Nat} {v : V} (h : RV F ι H (.str x) v) : v = .str (tS x) ∧ StrOk x := by cases h; exact ⟨rfl, by assumption⟩
theorem RVs.ints : ∀ {ns : List Int} {vs : List V}, RVs F ι H (ns.map .int) vs → vs = ns.map V.int
  | [], _, h => by cases h; rfl
  | n :: ns, _, h => by
    rw [List.map_cons] at h
    cases h with
    | cons r t => rw [RV.int_inv r, RVs.ints t, List.map_cons]
theorem RVs.bls : ∀ {ns : List Bool} {vs : List V}, RVs F ι H (ns.map .bl) vs → vs = ns.map V.bl
  | [], _, h => by cases h; rfl
  | n :: ns, _, h => by
    rw [List.map_cons] at h
    cases h with
    | cons r t => rw [RV.bl_inv r, RVs.bls t, List.map_cons]
theorem RVs.strs : ∀ {ns : List (List Nat)} {vs : List V}, RVs F ι H (ns.map .str) vs → vs = (ns.map tS).map V.str ∧ ∀ x ∈ ns, StrOk x
  | [], _, h => by cases h; exact ⟨rfl, by simp⟩
  | n :: ns, _, h => by
    rw [List.map_cons] at h
    cases h with
    | cons r t =>
      obtain ⟨rfl, o⟩ := RV.str_inv r
      obtain ⟨rfl, os⟩ := RVs.strs t
      refine ⟨rfl, fun x hx => ?_⟩
      rcases List.mem_cons.mp hx with rfl | hx
      · exact o
      · exact os x hx
end
theorem intsOf_some : ∀ {xs : List D} {ns : List Int}, intsOf xs = some ns → xs = ns.map .int
  | [], ns, h => by simp [intsOf] at h; subst h; rfl
  | .int i :: r, ns, h => by
    simp only [intsOf, Option.map_eq_some_iff] at h
    obtain ⟨m, h1, rfl⟩ := h
    rw [intsOf_some h1, List.map_cons]
  | .non :: _, _, h | .bl _ :: _, _, h | .str _ :: _, _, h | .tup _ :: _, _, h | .cl _ :: _, _, h | .cd _ :: _, _, h | .exn _ _ :: _, _, h | .ref _ :: _, _, h | .fn _ :: _, _, h | .ty _ :: _, _, h => by simp [intsOf] at h
theorem blsOf_some : ∀ {xs : List D} {ns : List Bool}, blsOf xs = some ns → xs = ns.map .bl
  | [], ns, h => by simp [blsOf] at h; subst h; rfl
  | .bl i :: r, ns, h => by
    simp only [blsOf, Option.map_eq_some_iff] at h
    obtain ⟨m, h1, rfl⟩ := h
    rw [blsOf_some h1, List.map_cons]
  | .non :: _, _, h | .int _ :: _, _, h | .str _ :: _, _, h | .tup _ :: _, _, h | .cl _ :: _, _, h | .cd _ :: _, _, h | .exn _ _ :: _, _, h | .ref _ :: _, _, h | .fn _ :: _, _, h | .ty _ :: _, _, h => by simp [blsOf] at h
theorem strsOf_some : ∀ {xs : List D} {ns : List (List Nat)}, strsOf xs = some ns → xs = ns.map .str
  | [], ns, h => by simp [strsOf] at h; subst h; rfl
  | .str i :: r, ns, h => by
    simp only [strsOf, Option.map_eq_some_iff] at h
    obtain ⟨m, h1, rfl⟩ := h
    rw [strsOf_some h1, List.map_cons]
  | .non :: _, _, h | .int _ :: _, _, h | .bl _ :: _, _, h | .tup _ :: _, _, h | .cl _ :: _, _, h | .cd _ :: _, _, h | .exn _ _ :: _, _, h | .ref _ :: _, _, h | .fn _ :: _, _, h | .ty _ :: _, _, h => by simp [strsOf] at h

/-! ### cells -/
def RK (F : Fx) (ι : List Addr) (H : Hp) : List (D × D) → List (Key × V) → Prop := Paired fun p q => RKey p.1 q.1 ∧ RV F ι H p.2 q.2
def RF (F : Fx) (ι : List Addr) (H : Hp) : Fs → List (Str × V) → Prop := Paired fun p q => q.1 = Str.ofString p.1 ∧ RV F ι H p.2 q.2
def RO (F : Fx) (ι : List Addr) (H : Hp) (a : Addr) : O → Prop
  | .lst ds => ∃ vs, H a = some (.lst vs) ∧ RVs F ι H ds vs ∧ ds.length ≤ sizeLine
  | .dct kvs => ∃ ks, H a = some (.dK ks) ∧ RK F ι H kvs ks ∧ kvs.length ≤ sizeLine
  | .obj c fs => ∃ C dx vs, F.mg (Str.ofString c) = some (.ref C) ∧ H a = some (.ins C dx vs) ∧ RF F ι H fs vs ∧ L2.Cls F.K C ∧ ∀ p ∈ fs, p.1 ∈ F.fld c
structure Rs (F : Fx) (ι : List Addr) (st : Sto) (H : Hp) : Prop where
  len : ι.length = st.length
  nd : ι.Nodup
  cell : ∀ (n : Nat) (o : O), st[n]? = some o → ∃ a, ι[n]? = some a ∧ RO F ι H a o
section
variable {F : Fx} {ι ι' : List Addr} {H H' : Hp} {a : Addr} {o : O} {st : Sto}
theorem RO.monoT (p : ι <+: ι') (k : KeepT H H') (e : H' a = H a) (h : RO F ι H a o) : RO F ι' H' a o := by
  cases o with
  | lst ds => obtain ⟨vs, h1, h2, h3⟩ := h; exact ⟨vs, by rw [e]; exact h1, h2.monoT p k, h3⟩
  | dct kvs => obtain ⟨ks, h1, h2, h3⟩ := h; exact ⟨ks, by rw [e]; exact h1, Paired.mapP h2 fun _ _ z => ⟨z.1, z.2.monoT p k⟩, h3⟩
  | obj c fs => obtain ⟨C, dx, vs, h0, h1, h2, h3⟩ := h; exact ⟨C, dx, vs, h0, by rw [e]; exact h1, Paired.mapP h2 fun _ _ z => ⟨z.1, z.2.monoT p k⟩, h3⟩
theorem RO.mono (p : ι <+: ι') (k : Keep ι ι' H H') (e : H' a = H a) (h : RO F ι H a o) : RO F ι' H' a o := h.monoT p k.t e
theorem RO.some (h : RO F ι H a o) : ∃ u, H a = some u ∧ Cell u := by
  cases o with
  | lst ds => obtain ⟨vs, h1, _⟩ := h; exact ⟨_, h1, trivial⟩
  | dct kvs => obtain ⟨ks, h1, _⟩ := h; exact ⟨_, h1, trivial⟩
  | obj c fs => obtain ⟨C, dx, vs, _, h1, _⟩ := h; exact ⟨_, h1, trivial⟩
theorem Rs.at_ (r : Rs F ι st H) {n : Nat} (hn : ι[n]? = some a) (hs : st[n]? = some o) : RO F ι H a o := by
  obtain ⟨b, hb, h⟩ := r.cell n o hs
  rw [hn] at hb; cases hb; exact h
theorem Rs.has (r : Rs F ι st H) {n : Nat} (hn : ι[n]? = some a) : ∃ u, H a = some u ∧ Cell u := by
  have hl : n < st.length := by rw [← r.len]; exact (List.getElem?_eq_some_iff.mp hn).1
  have := r.at_ hn (List.getElem?_eq_getElem hl)
  exact this.some
theorem Rs.fresh (r : Rs F ι st H) (h : H a = none) : a ∉ ι := fun hm => by
  obtain ⟨n, hn⟩ := List.mem_iff_getElem?.mp hm
  obtain ⟨u, hu, _⟩ := r.has hn
  rw [h] at hu; cases hu
/-- the heap grows beside -/
theorem Rs.side (r : Rs F ι st H) (k : Keep ι ι H H') (e : ∀ b ∈ ι, H' b = H b) : Rs F ι st H' :=
  ⟨r.len, r.nd, fun n o h => by
    obtain ⟨a, ha, q⟩ := r.cell n o h
    exact ⟨a, ha, q.mono (List.prefix_refl _) k (e _ (List.mem_of_getElem? ha))⟩⟩
theorem Rs.tup (r : Rs F ι st H) {p : Addr} {u : HO} (hp : H p = none) : Rs F ι st (upd H p u) :=
  r.side (Keep.side hp) fun b hb => upd_ne fun e => r.fresh hp (e ▸ hb)
/-- a new cell -/
theorem Rs.new (r : Rs F ι st H) {p : Addr} {u : HO} (hp : H p = none) (h : RO F (ι ++ [p]) (upd H p u) p o) : Rs F (ι ++ [p]) (st ++ [o]) (upd H p u) := by
  have k : Keep ι (ι ++ [p]) H (upd H p u) := Keep.cell hp
  refine ⟨by rw [List.length_append, List.length_append, r.len]; rfl, ?_, fun n o' h' => ?_⟩
  · refine List.nodup_append.mpr ⟨r.nd, by simp, fun x hx y hy => ?_⟩
    rw [List.mem_singleton] at hy
    subst hy
    rintro rfl
    exact r.fresh hp hx
  · by_cases hn : n < st.length
    · rw [List.getElem?_append_left hn] at h'
      obtain ⟨a, ha, q⟩ := r.cell n o' h'
      exact ⟨a, pre_get (List.prefix_append _ _) ha, q.mono (List.prefix_append _ _) k (upd_ne fun e => r.fresh hp (e ▸ List.mem_of_getElem? ha))⟩
    · rw [List.getElem?_append_right (by omega)] at h'
      have hz : n - st.length = 0 := by
        have := (List.getElem?_eq_some_iff.mp h').1
        simp at this
        omega
      rw [hz] at h'
      simp at h'
      subst h'
      refine ⟨p, ?_, h⟩
      rw [List.getElem?_append_right (by rw [r.len]; omega), r.len, hz]
      rfl
/-- a cell written -/
theorem Rs.set (r : Rs F ι st H) {n : Nat} {u : HO} (hn : ι[n]? = some a) (h : RO F ι (upd H a u) a o) : Rs F ι (st.set n o) (upd H a u) := by
  obtain ⟨u0, hu0, c0⟩ := r.has hn
  have k : Keep ι ι H (upd H a u) := Keep.put (List.mem_of_getElem? hn) ⟨u0, hu0, c0⟩
  refine ⟨by rw [List.length_set]; exact r.len, r.nd, fun m o' h' => ?_⟩
  by_cases e : m = n
  · subst e
    have hl : m < st.length := by rw [← r.len]; exact (List.getElem?_eq_some_iff.mp hn).1
    rw [List.getElem?_set_self hl] at h'
    cases h'
    exact ⟨a, hn, h⟩
  · rw [List.getElem?_set_ne (fun z => e z.symm)] at h'
    obtain ⟨b, hb, q⟩ := r.cell m o' h'
    refine ⟨b, hb, q.mono (List.prefix_refl _) k (upd_ne fun z => ?_)⟩
    subst z
    have h1 := (List.getElem?_eq_some_iff.mp hb)
    have h2 := (List.getElem?_eq_some_iff.mp hn)
    exact e ((List.getElem_inj r.nd).mp (h1.2.trans h2.2.symm))
theorem Rs.keepSet (r : Rs F ι st H) {n : Nat} {u : HO} (hn : ι[n]? = some a) : Keep ι ι H (upd H a u) := by
  obtain ⟨u0, hu0, c0⟩ := r.has hn
  exact Keep.put (List.mem_of_getElem? hn) ⟨u0, hu0, c0⟩
end

/-! ### locals -/
structure Re (F : Fx) (ι : List Addr) (H : Hp) (env : Env) (σ : L2.St) : Prop where
  len : env.length = σ.length
  slot : ∀ (i : Nat) (d : D), env[i]? = some (some d) → ∃ v, σ[i]? = some (some v) ∧ RV F ι H d v
section
variable {F : Fx} {ι ι' : List Addr} {H H' : Hp} {env : Env} {σ : L2.St}
theorem Re.mono (p : ι <+: ι') (k : Keep ι ι' H H') (r : Re F ι H env σ) : Re F ι' H' env σ :=
  ⟨r.len, fun i d h => by obtain ⟨v, h1, h2⟩ := r.slot i d h; exact ⟨v, h1, h2.mono p k⟩⟩
theorem Re.set (r : Re F ι H env σ) (i : Nat) {d : D} {v : V} (h : RV F ι H d v) : Re F ι H (env.set i (some d)) (σ.set i (some v)) := by
  refine ⟨by rw [List.length_set, List.length_set]; exact r.len, fun j d' e => ?_⟩
  by_cases hj : j = i
  · subst hj
    have hl : j < env.length := by
      have := (List.getElem?_eq_some_iff.mp e).1
      rwa [List.length_set] at this
    rw [List.getElem?_set_self hl] at e
    cases e
    exact ⟨v, List.getElem?_set_self (by rw [← r.len]; exact hl), h⟩
  · rw [List.getElem?_set_ne (fun z => hj z.symm)] at e
    obtain ⟨w, h1, h2⟩ := r.slot j d' e
    exact ⟨w, by rw [List.getElem?_set_ne (fun z => hj z.symm)]; exact h1, h2⟩
theorem Re.wipe (r : Re F ι H env σ) : ∀ vs : List Nat, Re F ι H (wipeE env vs) (L2.wipe σ vs)
  | [] => r
  | v :: vs => by
    have ih := Re.wipe r vs
    refine ⟨by unfold wipeE L2.wipe; rw [List.length_set, List.length_set]; exact ih.len, fun j d' e => ?_⟩
    unfold wipeE at e
    unfold L2.wipe
    by_cases hj : j = v
    · subst hj
      have hl : j < (wipeE env vs).length := by
        have := (List.getElem?_eq_some_iff.mp e).1
        rwa [List.length_set] at this
      rw [List.getElem?_set_self hl] at e
      cases e
    · rw [List.getElem?_set_ne (fun z => hj z.symm)] at e
      obtain ⟨w, h1, h2⟩ := ih.slot j d' e
      exact ⟨w, by rw [List.getElem?_set_ne (fun z => hj z.symm)]; exact h1, h2⟩
end

/-! ### what is wanted -/
/-- the exception's own dict -/
def XF (F : Fx) (ι : List Addr) (H : Hp) : Fs → Option Addr → Prop
  | [], dx => dx = none
  | [(f, d)], dx => ∃ b v, dx = some b ∧ H b = some (.xd [(Str.ofString f, v)]) ∧ RV F ι H d v
  | _, _ => False
def Post {α β : Type} (F : Fx) (RA : List Addr → Hp → α → β → Prop) (Q : β → Hp → Prop) (W : XK) (ι : List Addr) (H : Hp) : R α → Prop
  | .ok a st => ∀ ι' H' b, ι <+: ι' → Keep ι ι' H H' → Rs F ι' st H' → RA ι' H' a b → Q b H'
  | .exc c fs st => ∀ ι' H' C dx, ι <+: ι' → Keep ι ι' H H' → Rs F ι' st H' → F.mg (Str.ofString c) = some (.ref C) → XF F ι' H' fs dx → W (.ref C) dx H'
  | .no => False
section
variable {F : Fx} {α β γ δ : Type} {RA : List Addr → Hp → α → β → Prop} {RB : List Addr → Hp → γ → δ → Prop} {Q Q' : β → Hp → Prop} {P : δ → Hp → Prop} {W : XK} {ι ι' : List Addr} {H H' : Hp} {r : R α} {k : α → Sto → R γ}
theorem Post.mono (h : Post F RA Q W ι H r) (p : ι <+: ι') (kp : Keep ι ι' H H') : Post F RA Q W ι' H' r := by
  cases r with
  | ok a st => exact fun i h' b q k' => h i h' b (p.trans q) (kp.trans k')
  | exc c fs st => exact fun i h' C dx q k' => h i h' C dx (p.trans q) (kp.trans k')
  | no => exact h
theorem Post.bind (h : Post F RB P W ι H (r.bind k)) :
    Post F RA (fun b H1 => ∃ ι1 st1 a, ι <+: ι1 ∧ Keep ι ι1 H H1 ∧ Rs F ι1 st1 H1 ∧ RA ι1 H1 a b ∧ Post F RB P W ι1 H1 (k a st1)) W ι H r := by
  cases r with
  | ok a st => exact fun i h' b q k' rs ra => ⟨i, st, a, q, k', rs, ra, Post.mono h q k'⟩
  | exc c fs st => exact h
  | no => exact h
theorem Post.imp (h : Post F RA Q W ι H r) (f : ∀ b H', Q b H' → Q' b H') : Post F RA Q' W ι H r := by
  cases r with
  | ok a st => exact fun i h' b q k' rs ra => f _ _ (h i h' b q k' rs ra)
  | exc c fs st => exact h
  | no => exact h
end
theorem Post.calm {F : Fx} {α β : Type} {RA : List Addr → Hp → α → β → Prop} {Q : β → Hp → Prop} {W W' : XK} {ι : List Addr} {H : Hp} {r : R α} (h : Post F RA Q W ι H r.calm) : Post F RA Q W' ι H r := by
  cases r with
  | ok a st => exact h
  | exc c fs st => exact h.elim
  | no => exact h
/-- an expression's reading by the evaluator -/
def tE (F : Fx) (W : L2.WX) (m : Env → Sto → R D) : TE := fun σ H Q => ∃ ι st env, Rs F ι st H ∧ Re F ι H env σ ∧ Post F (RV F) Q (fun c d H' => W c d σ H') ι H (m env st)
def tT (F : Fx) (W : L2.WX) (m : Env → Sto → R D) : TT := fun σ H Q => ∃ ι st env, Rs F ι st H ∧ Re F ι H env σ ∧ Post F (RV F) (fun v H' => ∃ b, v = .bl b ∧ Q b H') (fun c d H' => W c d σ H') ι H (m env st)
def tL (F : Fx) (W : L2.WX) (m : Env → Sto → R (List D)) : TA := fun σ H Q => ∃ ι st env, Rs F ι st H ∧ Re F ι H env σ ∧ Post F (RVs F) Q (fun c d H' => W c d σ H') ι H (m env st)
/-- two values, by the evaluator -/
def r2 (F : Fx) (W : XK) (f : D → D → Sto → R D) : R2 := fun x y H Q => ∃ ι st d e, Rs F ι st H ∧ RV F ι H d x ∧ RV F ι H e y ∧ Post F (RV F) Q W ι H (f d e st)
def r1 (F : Fx) (W : XK) (f : D → Sto → R D) : V → Hp → VK → Prop := fun x H Q => ∃ ι st d, Rs F ι st H ∧ RV F ι H d x ∧ Post F (RV F) Q W ι H (f d st)
def rL (F : Fx) (W : XK) (f : List D → Sto → R D) : List V → Hp → VK → Prop := fun xs H Q => ∃ ι st ds, Rs F ι st H ∧ RVs F ι H ds xs ∧ Post F (RV F) Q W ι H (f ds st)
def rM (F : Fx) (W : XK) (f : D → List D → Sto → R D) : V → List V → Hp → VK → Prop := fun x xs H Q => ∃ ι st d ds, Rs F ι st H ∧ RV F ι H d x ∧ RVs F ι H ds xs ∧ Post F (RV F) Q W ι H (f d ds st)
section
variable {X : Cx}
theorem PE.imp {e : Expr} {t t' : TE} (h : PE X e t) (f : ∀ σ H Q, t' σ H Q → t σ H Q) : PE X e t' := ⟨fun pins s σ H Q I q => h.run pins s σ H Q I (f _ _ _ q)⟩
theorem PT.imp {e : Expr} {t t' : TT} (h : PT X e t) (f : ∀ σ H Q, t' σ H Q → t σ H Q) : PT X e t' := ⟨fun pins s σ H Q I q => h.run pins s σ H Q I (f _ _ _ q)⟩
theorem PA.imp {e : List Expr} {t t' : TA} (h : PA X e t) (f : ∀ σ H Q, t' σ H Q → t σ H Q) : PA X e t' := ⟨fun pos pins s σ H Q I q => h.run pos pins s σ H Q I (f _ _ _ q)⟩
theorem PS.imp {e : Stmt} {t t' : TS} (h : PS X e t) (f : ∀ D σ H, t' D σ H → t D σ H) : PS X e t' := ⟨fun pins s σ H D I q => h.run pins s σ H D I (f _ _ _ q)⟩
theorem PSs.imp {e : List Stmt} {t t' : TS} (h : PSs X e t) (f : ∀ D σ H, t' D σ H → t D σ H) : PSs X e t' := ⟨fun pins s σ H D I q => h.run pins s σ H D I (f _ _ _ q)⟩
theorem OpR.imp {f : Value → Value → Sem Value} {r r' : R2} (h : OpR X f r) (g : ∀ x y H Q, r' x y H Q → r x y H Q) : OpR X f r' := fun pins s σ H x y v u Q I rx ry q => h pins s σ H x y v u Q I rx ry (g _ _ _ _ q)
theorem PE.ex {ι : Type} {e : Expr} {t : ι → TE} (h : ∀ i, PE X e (t i)) : PE X e (fun σ H Q => ∃ i, t i σ H Q) := ⟨fun pins s σ H Q I ⟨i, q⟩ => (h i).run pins s σ H Q I q⟩
theorem PE.or {e : Expr} {t t' : TE} (h : PE X e t) (h' : PE X e t') : PE X e (fun σ H Q => t σ H Q ∨ t' σ H Q) := ⟨fun pins s σ H Q I q => q.elim (h.run pins s σ H Q I) (h'.run pins s σ H Q I)⟩
end
/-! ### things that are fixed from now on -/
theorem upd_keepT {H : Hp} {a : Addr} {o u : HO} (h : H a = some u) (c : Cell u) : KeepT H (upd H a o) :=
  ⟨fun _ _ q => upd_old (.inr ⟨u, h, c⟩) q id, fun _ _ _ q => upd_old (.inr ⟨u, h, c⟩) q id, fun _ _ _ q => upd_old (.inr ⟨u, h, c⟩) q id, fun _ _ _ q => upd_old (.inr ⟨u, h, c⟩) q id, fun _ _ q => upd_old (.inr ⟨u, h, c⟩) q id⟩
/-- the ghost step: a list or dict is known by its object -/
theorem Inv.fix {X : Cx} {pins : List (Addr × Obj)} {σ : L2.St} {H : Hp} {s : Shared} {a : Addr} {u : HO} (I : L2.Inv X pins σ H s) (h : H a = some u) (hu : (∃ xs, u = .lst xs) ∨ ∃ kvs, u = .dK kvs) :
    ∃ o, L2.Inv X pins σ (upd H a (.frz o u)) s := by
  have ho : ∃ o, s.heap.get? a = some o := by
    rcases hu with ⟨xs, rfl⟩ | ⟨kvs, rfl⟩
    · obtain ⟨_, _, _, _, e⟩ := (I.hok a _ h : ObjOk X.prog X.w H s.heap a (.lst xs))
      exact ⟨_, e⟩
    · obtain ⟨_, _, _, _, o, _, _, e, _⟩ := (I.hok a _ h : ObjOk X.prog X.w H s.heap a (.dK kvs))
      exact ⟨o, e⟩
  obtain ⟨o, ho⟩ := ho
  have other : ∀ (b : Addr) (v : HO), H b = some v → v ≠ u → upd H a (.frz o u) b = some v := fun b v e ne => by
    rw [upd_ne]
    · exact e
    · rintro rfl
      rw [h] at e
      exact ne (Option.some.inj e).symm
  have nf : ∀ v : HO, (∀ xs, v ≠ .lst xs) → (∀ k, v ≠ .dK k) → v ≠ u := fun v h1 h2 e => by
    rcases hu with ⟨xs, rfl⟩ | ⟨kvs, rfl⟩
    · exact h1 xs e
    · exact h2 kvs e
  have un : Un X.fs [] H (upd H a (.frz o u)) s.heap s.heap := by
    refine ⟨fun b ob q _ _ _ => q, fun b ob q _ _ _ => ⟨ob.slots, q⟩, fun b ob q n _ => ?_, fun b ob q _ => ⟨ob, q⟩, fun b xs q => other b _ q (nf _ (fun _ z => nomatch z) fun _ z => nomatch z), fun b ob v q => other b _ q (nf _ (fun _ z => nomatch z) fun _ z => nomatch z),
      fun b ps q => ⟨#[], by rw [other b _ q (nf _ (fun _ z => nomatch z) fun _ z => nomatch z)]; simp⟩⟩
    rw [upd_ne (fun z => by rw [z, h] at n; cases n)]
    exact n
  have stays : ∀ b v, H b = some v → ObjOk X.prog X.w (upd H a (.frz o u)) s.heap b v := fun b v e =>
    (I.hok b v e).stay (fun c w' _ q => q) (fun c q => other c _ q (nf _ (fun _ z => nomatch z) fun _ z => nomatch z)) fun c xs q => other c _ q (nf _ (fun _ z => nomatch z) fun _ z => nomatch z)
  refine ⟨o, ?_⟩
  have := I.un (h' := s.heap) (t' := s.toks) un fun b v e => ?_
  · exact this
  · by_cases hb : b = a
    · subst hb
      rw [upd_same] at e
      cases e
      exact ⟨ho, stays _ _ h⟩
    · rw [upd_ne hb] at e
      exact stays b v e
/-- what holds of some state that differs by ghost steps alone -/
def FzQ (X : Cx) {β : Type} (Q : β → Hp → Prop) : β → Hp → Prop := fun v H => ∀ pins σ s, L2.Inv X pins σ H s → ∃ H2, L2.Inv X pins σ H2 s ∧ Q v H2
theorem FzQ.now {X : Cx} {β : Type} {Q : β → Hp → Prop} {v : β} {H : Hp} (h : Q v H) : FzQ X Q v H := fun _ _ _ I => ⟨H, I, h⟩
/-- a cell that is fixed -/
theorem Rs.fixed {F : Fx} {ι : List Addr} {st : Sto} {H : Hp} {p : Addr} {u : HO} (r : Rs F ι st H) (hn : p ∉ ι) (h : H p = some u) (c : Cell u) {v : HO} : Rs F ι st (upd H p v) :=
  ⟨r.len, r.nd, fun n o h' => by
    obtain ⟨b, hb, q⟩ := r.cell n o h'
    exact ⟨b, hb, q.monoT (List.prefix_refl _) (upd_keepT h c) (upd_ne fun z => hn (z ▸ List.mem_of_getElem? hb))⟩⟩
theorem Keep.beside' {ι ι' : List Addr} {H H' : Hp} {a : Addr} {o u : HO} (k : Keep ι ι' H H') (hn : H a = none) (h : H' a = some u) (c : Cell u) : Keep ι ι' H (upd H' a o) :=
  ⟨fun _ _ q => upd_old (.inr ⟨u, h, c⟩) (k.tup _ _ q) id, fun _ _ _ q => upd_old (.inr ⟨u, h, c⟩) (k.frl _ _ _ q) id, fun _ _ _ q => upd_old (.inr ⟨u, h, c⟩) (k.frt _ _ _ q) id, fun _ _ _ q => upd_old (.inr ⟨u, h, c⟩) (k.frd _ _ _ q) id, fun _ _ q => upd_old (.inr ⟨u, h, c⟩) (k.ext _ _ q) id,
    fun _ _ q => upd_old (.inr ⟨u, h, c⟩) (k.xd _ _ q) id, fun b v m q => by rw [upd_ne (ne_of_none q hn)]; exact k.out b v m q, k.new⟩
end Mi

set_option linter.all false
set_option maxRecDepth 100000
/-! V3: operators on values. -/
namespace Mi
open PySem PySem.Spec L2
open PyProof.Rows hiding St
abbrev fx (X : Cx) (fld : String → List String) : Fx := ⟨X.K, X.mg, fld⟩
section
variable {X : Cx} {W : XK} {fld : String → List String}
theorem pre_refl {α : Type} (l : List α) : l <+: l := List.prefix_refl l
/-- a lstOf that is told stands as a list -/
theorem lst_of {F : Fx} {ι : List Addr} {st : Sto} {H : Hp} {d : D} {v : V} {xs : List D} (rs : Rs F ι st H) (r : RV F ι H d v) (h : lstOf st d = some xs) :
    ∃ a vs, v = .ref a ∧ LS F.K H a vs ∧ RVs F ι H xs vs ∧ xs.length ≤ sizeLine := by
  cases r with
  | cl h1 h2 h3 => simp only [lstOf, Option.some.injEq] at h; subst h; exact ⟨_, _, rfl, .inr h1, h2, h3⟩
  | @ref n a e =>
    simp only [lstOf] at h
    split at h
    · rename_i ys hs
      simp only [Option.some.injEq] at h
      subst h
      obtain ⟨vs, h1, h2, h3⟩ := rs.at_ e hs
      exact ⟨_, _, rfl, .inl h1, h2, h3⟩
    · cases h
  | _ => simp [lstOf] at h
theorem seq_of {F : Fx} {ι : List Addr} {st : Sto} {H : Hp} {d : D} {v : V} {xs : List D} (rs : Rs F ι st H) (r : RV F ι H d v) (h : seqOf st d = some xs) :
    ∃ a vs, v = .ref a ∧ (LS F.K H a vs ∨ SqT F.K H a vs) ∧ RVs F ι H xs vs ∧ xs.length ≤ sizeLine := by
  have c : d = .tup xs ∨ lstOf st d = some xs := by cases d <;> simp_all [seqOf]
  rcases c with rfl | c
  · cases r with
    | tup h1 h2 h3 => exact ⟨_, _, rfl, .inr h1, h2, h3⟩
  · obtain ⟨a, vs, e, q⟩ := lst_of rs r c
    exact ⟨a, vs, e, .inl q.1, q.2⟩
theorem tS_append (x y : List Nat) : tS (x ++ y) = tS x ++ tS y := by
  show (⟨(x ++ y).toArray⟩ : Str) = ⟨x.toArray ++ y.toArray⟩
  simp
theorem tS_length (x : List Nat) : (tS x).length = x.length := by
  show x.toArray.size = _
  simp
/-- up to ghost steps -/
theorem wp_fz {pins : List (Addr × Obj)} {σ : L2.St} {A : Around} {s : Shared} {Q : VK} {E : Value → Shared → Prop} {m : Sem Value} (h : wpAny (model X.prog X.w) A m (EP X pins σ (FzQ X Q)) E s) : wpAny (model X.prog X.w) A m (EP X pins σ Q) E s :=
  wpAny_mono h (fun _ _ ⟨v, H, I, r, q⟩ => let ⟨H2, I2, q2⟩ := q pins σ _ I; ⟨v, H2, I2, r, q2⟩) fun _ _ e => e
theorem PE.fz {e : Expr} {t : TE} (h : PE X e t) : PE X e (fun σ H Q => t σ H (FzQ X Q)) := ⟨fun pins s σ H Q I q => wp_fz (h.run pins s σ H _ I q)⟩
/-- the ends -/
theorem Post.here {F : Fx} {Q : VK} {ι : List Addr} {st : Sto} {H : Hp} {d : D} {v : V} (h : Post F (RV F) Q W ι H (.ok d st)) (rs : Rs F ι st H) (r : RV F ι H d v) : Q v H :=
  h ι H v (pre_refl ι) (Keep.refl H) rs r
theorem RVs.fixed {F : Fx} {ι : List Addr} {H : Hp} {p : Addr} {v u : HO} {ds : List D} {vs : List V} (r : RVs F ι H ds vs) (h : H p = some u) (c : Cell u) : RVs F ι (upd H p v) ds vs := r.monoT (pre_refl _) (upd_keepT h c)
/-- a new list as the answer -/
theorem Post.lst {F : Fx} {Q : VK} {ι : List Addr} {st : Sto} {H : Hp} {xs : List D} {vs : List V} {z : Bool} (h : Post F (RV F) Q W ι H (newL z xs st)) (rs : Rs F ι st H) (r : RVs F ι H xs vs) {p : Addr} (hp : H p = none) : FzQ X Q (.ref p) (upd H p (.lst vs)) := by
  unfold newL at h
  split at h
  · rename_i hl
    unfold newC at h
    split at h
    · intro pins σ s I
      obtain ⟨o, I2⟩ := Inv.fix I (upd_same (o := .lst vs)) (.inl ⟨_, rfl⟩)
      rw [upd_upd] at I2
      refine ⟨_, I2, ?_⟩
      have k : Keep ι ι H (upd H p (.frz o (.lst vs))) := Keep.side hp
      exact h ι _ _ (pre_refl _) k (rs.tup hp) (.cl (.inl ⟨o, upd_same⟩) (r.mono (pre_refl _) k) hl)
    · have k : Keep ι (ι ++ [p]) H (upd H p (.lst vs)) := Keep.cell hp
      exact FzQ.now (h (ι ++ [p]) _ _ (List.prefix_append _ _) k (rs.new hp ⟨vs, upd_same, r.mono (List.prefix_append _ _) k, hl⟩) (.ref (by rw [List.getElem?_append_right (by rw [rs.len]; omega), rs.len]; simp)))
  · exact h.elim
/-- a new dict as the answer -/
theorem Post.dct {F : Fx} {Q : VK} {ι : List Addr} {st : Sto} {H : Hp} {kvs : List (D × D)} {ks : List (Key × V)} {z : Bool} (h : Post F (RV F) Q W ι H (newD z kvs st)) (rs : Rs F ι st H) (r : RK F ι H kvs ks) (hl : kvs.length ≤ sizeLine) {p : Addr} (hp : H p = none) : FzQ X Q (.ref p) (upd H p (.dK ks)) := by
  unfold newD at h
  split at h
  · intro pins σ s I
    obtain ⟨o, I2⟩ := Inv.fix I (upd_same (o := .dK ks)) (.inr ⟨_, rfl⟩)
    rw [upd_upd] at I2
    refine ⟨_, I2, ?_⟩
    have k : Keep ι ι H (upd H p (.frz o (.dK ks))) := Keep.side hp
    refine h ι _ _ (pre_refl _) k (rs.tup hp) (.cd upd_same (Paired.mapP r fun _ _ z => z.1) ?_ hl)
    have go : ∀ {kvs : List (D × D)} {ks : List (Key × V)}, RK F ι H kvs ks → RVs F ι (upd H p (.frz o (.dK ks))) (kvs.map (·.2)) (ks.map (·.2)) ∨ True := fun _ => .inr trivial
    have all : ∀ {kvs : List (D × D)} {js : List (Key × V)}, RK F ι H kvs js → RVs F ι (upd H p (.frz o (.dK ks))) (kvs.map (·.2)) (js.map (·.2)) := by
      intro kvs js r
      induction r with
      | nil => exact .nil
      | cons e t ih => exact .cons (e.2.mono (pre_refl _) k) ih
    exact all r
  · have k : Keep ι (ι ++ [p]) H (upd H p (.dK ks)) := Keep.cell hp
    exact FzQ.now (h (ι ++ [p]) _ _ (List.prefix_append _ _) k (rs.new hp ⟨ks, upd_same, Paired.mapP r fun _ _ z => ⟨z.1, z.2.mono (List.prefix_append _ _) k⟩, hl⟩) (.ref (by rw [List.getElem?_append_right (by rw [rs.len]; omega), rs.len]; simp)))
theorem newL_ok {F : Fx} {Q : VK} {ι : List Addr} {st : Sto} {H : Hp} {xs : List D} {z : Bool} (h : Post F (RV F) Q W ι H (newL z xs st)) : xs.length ≤ sizeLine := by
  unfold newL at h
  split at h
  · assumption
  · exact h.elim
/-- a new tuple as the answer -/
theorem Post.tupl {F : Fx} {Q : VK} {ι : List Addr} {st : Sto} {H : Hp} {xs : List D} {vs : List V} (h : Post F (RV F) Q W ι H (.ok (.tup xs) st)) (rs : Rs F ι st H) (r : RVs F ι H xs vs) (hl : xs.length ≤ sizeLine) {p : Addr} (hp : H p = none) : Q (.ref p) (upd H p (.tup vs)) := by
  have k : Keep ι ι H (upd H p (.tup vs)) := Keep.side hp
  exact h ι _ _ (pre_refl _) k (rs.tup hp) (.tup (SqT.of upd_same) (r.mono (pre_refl _) k) hl)

theorem op_catL : OpR X (binaryOp .Add) (fun x y H Q => ∃ l b xs zs, x = .ref l ∧ y = .ref b ∧ LS X.K H l xs ∧ LS X.K H b zs ∧ xs.length + zs.length ≤ sizeLine ∧ ∀ p, H p = none → Q (.ref p) (upd H p (.lst (xs ++ zs)))) := by
  rintro pins s σ H x y v u Q I rx ry ⟨l, b, xs, zs, rfl, rfl, h1, h2, hz, q⟩
  cases rx
  cases ry
  obtain ⟨_, i1, n1, d1, s1, r1, e1, o1⟩ := h1.exact I
  obtain ⟨_, i2, n2, d2, s2, r2, e2, o2⟩ := h2.exact I
  refine concat_meets ⟨_, o1, rfl⟩ ⟨_, o2, rfl⟩ noFill_list_add seq_list_add PySem.F.slot_list_add PySem.F.entry_list_add (PySem.F.args_list_add_2 _ _) (list_addW l b i1.toArray i2.toArray n1 n2 d1 d2 s1 s2 (by simp only [List.size_toArray]; omega)) ⟨o1, o2, ?_⟩
  rw [show i1.toArray ++ i2.toArray = (i1 ++ i2).toArray by simp]
  exact ⟨.ref _, _, I.lnew (t' := s.toks) (r1.append r2) (by rw [List.length_append]; omega), rfl, q _ I.fresh⟩
theorem bin_add {z : Bool} : OpR X (binaryOp .Add) (r2 (fx X fld) W (binD z .Add)) := by
  rintro pins s σ H x y v u Q I rx ry ⟨ι, st, d, e, rs, rd, re, p⟩
  have lists : ∀ xs ys, lstOf st d = some xs → lstOf st e = some ys → Post (fx X fld) (RV (fx X fld)) Q W ι H (newL z (xs ++ ys) st) → wpAny (model X.prog X.w) X.A (binaryOp .Add v u) (EP X pins σ Q) X.xe s := by
    intro xs ys h1 h2 p
    obtain ⟨a, vs, rfl, l1, q1, z1⟩ := lst_of rs rd h1
    obtain ⟨b, ws, rfl, l2, q2, z2⟩ := lst_of rs re h2
    have hz := newL_ok p
    rw [List.length_append, q1.length, q2.length] at hz
    refine wp_fz ?_
    exact op_catL pins s σ H _ _ v u _ I rx ry ⟨a, b, vs, ws, rfl, rfl, l1, l2, hz, fun c hc => p.lst rs (q1.append q2) hc⟩
  unfold binD at p
  split at p <;> try (first | contradiction | exact p.elim)
  · have := rd.int_inv; have := re.int_inv; subst_vars
    exact op_add pins s σ H _ _ v u Q I rx ry ⟨_, _, rfl, rfl, p.here rs (.int _)⟩
  · obtain ⟨rfl, o1⟩ := rd.str_inv
    obtain ⟨rfl, o2⟩ := re.str_inv
    unfold okS at p
    split at p
    · rename_i hz
      have hz' := hz
      rw [List.length_append] at hz'
      refine op_add_str pins s σ H _ _ v u Q I rx ry ⟨_, _, rfl, rfl, by rw [tS_length, tS_length]; exact hz', ?_⟩
      rw [← tS_append]
      refine p.here rs (.str _ ⟨hz, fun c hc => ?_⟩)
      rcases List.mem_append.mp hc with hc | hc
      · exact o1.2 c hc
      · exact o2.2 c hc
    · exact p.elim
  · cases rd with
    | tup t1 q1 z1 => cases re with
      | tup t2 q2 z2 =>
        split at p
        · rename_i hz
          have hz' := hz
          rw [q1.length, q2.length] at hz'
          refine op_catA pins s σ H _ _ v u Q I rx ry ⟨_, _, _, _, rfl, rfl, t1, t2, hz', fun e => ?_, fun _ e => ?_, fun _ _ c hc => ?_⟩
          · subst e
            cases q1
            exact p.here rs (.tup t2 q2 z2)
          · subst e
            cases q2
            rw [List.append_nil] at p
            exact p.here rs (.tup t1 q1 z1)
          · exact p.tupl rs (q1.append q2) (by rw [List.length_append]; exact hz) hc
        · exact p.elim
  · split at p
    · exact lists _ _ (by assumption) (by assumption) p
    · exact p.elim
theorem bits_le (x : Int) : Builtin.Int.intBits x ≤ x.natAbs.log2 + 1 := by
  unfold Builtin.Int.intBits
  split <;> omega
theorem mulOk_ok {i j : Int} (h : mulOk i j = true) : IntMulOk i j := by
  have h0 : i.natAbs.log2 + j.natAbs.log2 < 100000000 := of_decide_eq_true h
  have b1 := bits_le i
  have b2 := bits_le j
  have e : bitsLine = 134217728 := by decide
  unfold IntMulOk
  intro z
  have z2 := (Bool.and_eq_true_iff.mp z).2
  unfold Builtin.Int.intTooBig at z2
  have := of_decide_eq_true z2
  rw [e] at this
  omega
theorem bin_sub {z : Bool} : OpR X (binaryOp .Sub) (r2 (fx X fld) W (binD z .Sub)) := by
  rintro pins s σ H x y v u Q I rx ry ⟨ι, st, d, e, rs, rd, re, p⟩
  unfold binD at p
  split at p <;> try (first | contradiction | exact p.elim)
  have := rd.int_inv; have := re.int_inv; subst_vars
  exact op_sub pins s σ H _ _ v u Q I rx ry ⟨_, _, rfl, rfl, p.here rs (.int _)⟩
theorem bin_mul {z : Bool} : OpR X (binaryOp .Mult) (r2 (fx X fld) W (binD z .Mult)) := by
  rintro pins s σ H x y v u Q I rx ry ⟨ι, st, d, e, rs, rd, re, p⟩
  unfold binD at p
  split at p <;> try (first | contradiction | exact p.elim)
  · have := rd.int_inv; have := re.int_inv; subst_vars
    split at p
    · rename_i h
      have R : OpR X (binaryOp .Mult) (rI (fun i j => mulOk i j = true) fun i j => .int (i * j)) := opI fun _ _ _ _ _ _ _ hc q => PyProof.Rows.mul_int q (mulOk_ok hc)
      exact R pins s σ H _ _ v u Q I rx ry ⟨_, _, rfl, rfl, h, p.here rs (.int _)⟩
    · exact p.elim
theorem bin_fdiv {z : Bool} : OpR X (binaryOp .FloorDiv) (r2 (fx X fld) W (binD z .FloorDiv)) := by
  rintro pins s σ H x y v u Q I rx ry ⟨ι, st, d, e, rs, rd, re, p⟩
  unfold binD at p
  split at p <;> try (first | contradiction | exact p.elim)
  have := rd.int_inv; have := re.int_inv; subst_vars
  split at p
  · rename_i h
    exact op_fdivW pins s σ H _ _ v u Q I rx ry ⟨_, _, rfl, rfl, h, p.here rs (.int _)⟩
  · exact p.elim
theorem bin_mod {z : Bool} : OpR X (binaryOp .Mod) (r2 (fx X fld) W (binD z .Mod)) := by
  rintro pins s σ H x y v u Q I rx ry ⟨ι, st, d, e, rs, rd, re, p⟩
  unfold binD at p
  split at p <;> try (first | contradiction | exact p.elim)
  have := rd.int_inv; have := re.int_inv; subst_vars
  split at p
  · rename_i h
    exact op_mod pins s σ H _ _ v u Q I rx ry ⟨_, _, rfl, rfl, h, p.here rs (.int _)⟩
  · exact p.elim
theorem bin_pow {z : Bool} : OpR X (binaryOp .Pow) (r2 (fx X fld) W (binD z .Pow)) := by
  rintro pins s σ H x y v u Q I rx ry ⟨ι, st, d, e, rs, rd, re, p⟩
  unfold binD at p
  split at p <;> try (first | contradiction | exact p.elim)
  have := rd.int_inv; have := re.int_inv; subst_vars
  split at p
  · rename_i h
    have R : OpR X (binaryOp .Pow) (rI (fun i j => powOk i j = true) fun i j => .int (i ^ j.toNat)) := opI fun i j _ _ _ _ _ hc q => by
      have h1 := Bool.and_eq_true_iff.mp hc
      have h2 : 0 ≤ j := of_decide_eq_true h1.1
      have h3 : ((i.natAbs.log2 : Int) + 1) * j ≤ 100000000 := of_decide_eq_true h1.2
      have b1 : (Builtin.Int.intBits i : Int) ≤ (i.natAbs.log2 : Int) + 1 := by have := bits_le i; omega
      have h4 := Int.mul_le_mul_of_nonneg_right b1 h2
      exact PyProof.Rows.pow_int h2 (by omega) q
    exact R pins s σ H _ _ v u Q I rx ry ⟨_, _, rfl, rfl, h, p.here rs (.int _)⟩
  · exact p.elim
theorem bin_ok (z : Bool) (op : Operator) : OpR X (binaryOp op) (r2 (fx X fld) W (binD z op)) := by
  cases op with
  | Add => exact bin_add
  | Sub => exact bin_sub
  | Mult => exact bin_mul
  | FloorDiv => exact bin_fdiv
  | Mod => exact bin_mod
  | Pow => exact bin_pow
  | _ =>
    rintro pins s σ H x y v u Q I rx ry ⟨ι, st, d, e, rs, rd, re, p⟩
    unfold binD at p
    split at p <;> first | contradiction | exact p.elim
/-- [..] * n -/
theorem rep_run {F : Fx} {z : Bool} {ι : List Addr} {st : Sto} {H : Hp} {xs : List D} {vs : List V} {b : D} {y : V} {Q : VK} (rs : Rs F ι st H) (rx : RVs F ι H xs vs) (ry : RV F ι H b y) (h : Post F (RV F) Q W ι H (repD z xs b st)) :
    ∃ k, y = .int k ∧ vs.length ≤ sizeLine ∧ vs.length * k.toNat ≤ sizeLine ∧ -(2 ^ 63) ≤ k ∧ k < 2 ^ 63 ∧ ∀ q, H q = none → FzQ X Q (.ref q) (upd H q (.lst (List.replicate k.toNat vs).flatten)) := by
  unfold repD at h
  split at h
  · rename_i k
    have := ry.int_inv; subst this
    split at h
    · rename_i hz
      rw [rx.length] at hz
      exact ⟨k, rfl, hz.2.1, hz.1, hz.2.2.1, hz.2.2.2, fun q hq => h.lst rs (rx.replicate _) hq⟩
    · exact h.elim
  · exact h.elim
end
end Mi

set_option linter.all false
set_option maxRecDepth 100000
/-! V4: comparisons. -/
namespace Mi
open PySem PySem.Spec L2
open PyProof.Rows hiding St
section
variable {F : Fx} {ι : List Addr} {st : Sto} {H : Hp}
theorem toPy_dp (rs : Rs F ι st H) : ∀ (n : Nat) {d : D} {v : V} {p : PyData}, RV F ι H d v → toPy st n d = some p → Dp F.K H v p ∧ p.canLay0 = true ∧ p.depth ≤ n := by
  intro n
  induction n with
  | zero => intro d v p r h; simp [toPy] at h
  | succ n ih =>
    have all : ∀ {ds : List D} {vs : List V} {ps : List PyData}, RVs F ι H ds vs → mapO (toPy st n) ds = some ps → DpAll F.K H vs ps ∧ PyData.canLayAll0 ps = true ∧ PyData.depthAll ps ≤ n := by
      intro ds
      induction ds with
      | nil => intro vs ps r h; cases r; simp only [mapO, Option.some.injEq] at h; subst h; exact ⟨.nil, by simp [PyData.canLayAll0], by simp [PyData.depthAll]⟩
      | cons d ds ih2 =>
        intro vs ps r h
        cases r with
        | cons r1 r2 =>
          simp only [mapO] at h
          split at h
          · rename_i p ps' h1 h2
            simp only [Option.some.injEq] at h
            subst h
            obtain ⟨a1, a2, a3⟩ := ih r1 h1
            obtain ⟨b1, b2, b3⟩ := ih2 r2 h2
            exact ⟨.cons a1 b1, by simp [PyData.canLayAll0, a2, b2], by simp only [PyData.depthAll]; omega⟩
          · cases h
    intro d v p r h
    cases r with
    | non => simp only [toPy, Option.some.injEq] at h; subst h; exact ⟨.non, by simp [PyData.canLay0], by simp [PyData.depth]⟩
    | bl b => simp only [toPy, Option.some.injEq] at h; subst h; exact ⟨.bl b, by simp [PyData.canLay0], by simp [PyData.depth]⟩
    | int b => simp only [toPy, Option.some.injEq] at h; subst h; exact ⟨.int b, by simp [PyData.canLay0], by simp [PyData.depth]⟩
    | str x o =>
      simp only [toPy, Option.some.injEq] at h; subst h
      refine ⟨.str _, ?_, by simp [PyData.depth]⟩
      simp only [PyData.canLay0, PyData.strOk, List.all_toArray, List.all_eq_true, decide_eq_true_eq]
      exact fun c hc => by have := o.2 c hc; omega
    | tup t rr z =>
      simp only [toPy, Option.map_eq_some_iff] at h
      obtain ⟨ps, h1, rfl⟩ := h
      obtain ⟨a1, a2, a3⟩ := all rr h1
      exact ⟨.tup t a1, by simpa [PyData.canLay0] using a2, by simp only [PyData.depth]; omega⟩
    | cl t rr z =>
      simp only [toPy, Option.map_eq_some_iff] at h
      obtain ⟨ps, h1, rfl⟩ := h
      obtain ⟨a1, a2, a3⟩ := all rr h1
      exact ⟨.lst t.sq a1, by simpa [PyData.canLay0] using a2, by simp only [PyData.depth]; omega⟩
    | @ref m a e =>
      simp only [toPy] at h
      split at h
      · rename_i xs hs
        simp only [Option.map_eq_some_iff] at h
        obtain ⟨ps, h1, rfl⟩ := h
        obtain ⟨vs, q1, q2, q3⟩ := rs.at_ e hs
        obtain ⟨a1, a2, a3⟩ := all q2 h1
        exact ⟨.lst (SqL.of q1) a1, by simpa [PyData.canLay0] using a2, by simp only [PyData.depth]; omega⟩
      · cases h
    | cd _ _ _ _ => simp [toPy] at h
    | exn _ _ => simp [toPy] at h
    | fn e => simp [toPy] at h
    | ty n => simp [toPy] at h
theorem toPys_dp (rs : Rs F ι st H) (n : Nat) : ∀ {ds : List D} {vs : List V} {ps : List PyData}, RVs F ι H ds vs → mapO (toPy st n) ds = some ps → DpAll F.K H vs ps ∧ PyData.canLayAll0 ps = true ∧ PyData.depthAll ps ≤ n := by
  intro ds
  induction ds with
  | nil => intro vs ps r h; cases r; simp only [mapO, Option.some.injEq] at h; subst h; exact ⟨.nil, by simp [PyData.canLayAll0], by simp [PyData.depthAll]⟩
  | cons d ds ih2 =>
    intro vs ps r h
    cases r with
    | cons r1 r2 =>
      simp only [mapO] at h
      split at h
      · rename_i p ps' h1 h2
        simp only [Option.some.injEq] at h
        subst h
        obtain ⟨a1, a2, a3⟩ := toPy_dp rs n r1 h1
        obtain ⟨b1, b2, b3⟩ := ih2 r2 h2
        exact ⟨.cons a1 b1, by simp [PyData.canLayAll0, a2, b2], by simp only [PyData.depthAll]; omega⟩
      · cases h
theorem shaped_of {p : PyData} (h : p.canLay0 = true) (hd : p.depth ≤ 64) : SeqAt.shaped p = true := by
  unfold SeqAt.shaped
  rw [h, decide_eq_true hd]
  rfl
end
section
variable {X : Cx} {W : XK} {fld : String → List String}
theorem okOB_here {F : Fx} {Q : VK} {ι : List Addr} {st : Sto} {H : Hp} {o : Option Bool} (h : Post F (RV F) Q W ι H (okOB o st)) (rs : Rs F ι st H) : ∃ b, o = some b ∧ Q (.bl b) H := by
  unfold okOB at h
  split at h
  · exact ⟨_, rfl, h.here rs (.bl _)⟩
  · exact h.elim
theorem eq_dp {F : Fx} {ι : List Addr} {st : Sto} {H : Hp} {d e : D} {x y : V} {b : Bool} (rs : Rs F ι st H) (rd : RV F ι H d x) (re : RV F ι H e y) (h : eqD st d e = some b) :
    (∃ p q, Dp F.K H x p ∧ Dp F.K H y q ∧ SeqAt.shaped p = true ∧ SeqAt.shaped q = true ∧ PyData.eqv p q = b) ∨ ∃ k l, dctOf st d = some k ∧ dctOf st e = some l ∧ sameK k l = true ∧ b = true := by
  unfold eqD at h
  split at h
  · rename_i p q h1 h2
    obtain ⟨a1, a2, a3⟩ := toPy_dp rs 60 rd h1
    obtain ⟨b1, b2, b3⟩ := toPy_dp rs 60 re h2
    exact .inl ⟨p, q, a1, b1, shaped_of a2 (by omega), shaped_of b2 (by omega), Option.some.inj h⟩
  · split at h
    · rename_i k l h1 h2
      split at h
      · rename_i hs
        exact .inr ⟨k, l, h1, h2, hs, (Option.some.inj h).symm⟩
      · cases h
    · cases h
theorem isNon_dec {F : Fx} {ι : List Addr} {H : Hp} {d : D} {x : V} (r : RV F ι H d x) : isNon d = decide (x = .non) := by
  cases r <;> simp [isNon]
theorem isD_non {F : Fx} {ι : List Addr} {H : Hp} {d e : D} {x y : V} {b : Bool} (rd : RV F ι H d x) (re : RV F ι H e y) (h : isD d e = some b) : (y = .non ∧ b = decide (x = .non)) ∨ ∃ p q : Bool, x = .bl p ∧ y = .bl q ∧ b = decide (p = q) := by
  unfold isD at h
  split at h
  · cases re
    exact .inl ⟨rfl, by rw [← isNon_dec rd]; exact (Option.some.inj h).symm⟩
  · split at h
    · cases re
      cases rd
      exact .inr ⟨_, _, rfl, rfl, (Option.some.inj h).symm⟩
    · cases h
  · cases h
theorem cmp_is : OpR X (compareOp .Is) (r2 (fx X fld) W (cmpD .Is)) := by
  rintro pins s σ H x y v u Q I rx ry ⟨ι, st, d, e, rs, rd, re, p⟩
  obtain ⟨b, hb, q⟩ := okOB_here p rs
  rcases isD_non rd re hb with ⟨rfl, rfl⟩ | ⟨p1, q1, rfl, rfl, rfl⟩
  · exact op_isN pins s σ H _ _ v u Q I rx ry ⟨rfl, q⟩
  · exact op_isBl pins s σ H _ _ v u Q I rx ry ⟨p1, q1, rfl, rfl, q⟩
theorem cmp_isnt : OpR X (compareOp .IsNot) (r2 (fx X fld) W (cmpD .IsNot)) := by
  rintro pins s σ H x y v u Q I rx ry ⟨ι, st, d, e, rs, rd, re, p⟩
  obtain ⟨b, hb, q⟩ := okOB_here p rs
  obtain ⟨c, hc, rfl⟩ := Option.map_eq_some_iff.mp hb
  rcases isD_non rd re hc with ⟨rfl, rfl⟩ | ⟨p1, q1, rfl, rfl, rfl⟩
  · exact op_notN pins s σ H _ _ v u Q I rx ry ⟨rfl, q⟩
  · exact op_notBl pins s σ H _ _ v u Q I rx ry ⟨p1, q1, rfl, rfl, q⟩
/-! the order of texts -/
theorem ltS_iff : ∀ x y : List Nat, ltS x y = true ↔ x < y
  | [], [] => by simp [ltS]
  | [], _ :: _ => by simp [ltS]
  | _ :: _, [] => by simp [ltS]
  | a :: x, b :: y => by
    rw [List.cons_lt_cons_iff, ← ltS_iff x y]
    simp [ltS]
theorem ltS_dec (x y : List Nat) : ltS x y = decide ((tS x).cps.toList < (tS y).cps.toList) := by
  rw [Bool.eq_iff_iff, ltS_iff, decide_eq_true_iff]
  exact Iff.rfl
theorem okB_here {F : Fx} {Q : VK} {ι : List Addr} {st : Sto} {H : Hp} {b : Bool} (h : Post F (RV F) Q W ι H (okB b st)) (rs : Rs F ι st H) : Q (.bl b) H := h.here rs (.bl _)
theorem cmp_lt : OpR X (compareOp .Lt) (r2 (fx X fld) W (cmpD .Lt)) := by
  rintro pins s σ H x y v u Q I rx ry ⟨ι, st, d, e, rs, rd, re, p⟩
  simp only [cmpD] at p
  split at p
  · have := rd.int_inv; have := re.int_inv; subst_vars
    exact op_lt pins s σ H _ _ v u Q I rx ry ⟨_, _, rfl, rfl, okB_here p rs⟩
  · obtain ⟨rfl, _⟩ := rd.str_inv; obtain ⟨rfl, _⟩ := re.str_inv
    refine op_lt_str pins s σ H _ _ v u Q I rx ry ⟨_, _, rfl, rfl, ?_⟩
    rw [← ltS_dec]
    exact okB_here p rs
  · exact p.elim
theorem cmp_le : OpR X (compareOp .LtE) (r2 (fx X fld) W (cmpD .LtE)) := by
  rintro pins s σ H x y v u Q I rx ry ⟨ι, st, d, e, rs, rd, re, p⟩
  simp only [cmpD] at p
  split at p
  · have := rd.int_inv; have := re.int_inv; subst_vars
    exact op_le pins s σ H _ _ v u Q I rx ry ⟨_, _, rfl, rfl, okB_here p rs⟩
  · obtain ⟨rfl, _⟩ := rd.str_inv; obtain ⟨rfl, _⟩ := re.str_inv
    refine op_le_str pins s σ H _ _ v u Q I rx ry ⟨_, _, rfl, rfl, ?_⟩
    rw [← ltS_dec]
    exact okB_here p rs
  · exact p.elim
theorem cmp_gt : OpR X (compareOp .Gt) (r2 (fx X fld) W (cmpD .Gt)) := by
  rintro pins s σ H x y v u Q I rx ry ⟨ι, st, d, e, rs, rd, re, p⟩
  simp only [cmpD] at p
  split at p
  · have := rd.int_inv; have := re.int_inv; subst_vars
    exact op_gt pins s σ H _ _ v u Q I rx ry ⟨_, _, rfl, rfl, okB_here p rs⟩
  · obtain ⟨rfl, _⟩ := rd.str_inv; obtain ⟨rfl, _⟩ := re.str_inv
    refine op_gt_str pins s σ H _ _ v u Q I rx ry ⟨_, _, rfl, rfl, ?_⟩
    rw [← ltS_dec]
    exact okB_here p rs
  · exact p.elim
theorem cmp_ge : OpR X (compareOp .GtE) (r2 (fx X fld) W (cmpD .GtE)) := by
  rintro pins s σ H x y v u Q I rx ry ⟨ι, st, d, e, rs, rd, re, p⟩
  simp only [cmpD] at p
  split at p
  · have := rd.int_inv; have := re.int_inv; subst_vars
    exact op_ge pins s σ H _ _ v u Q I rx ry ⟨_, _, rfl, rfl, okB_here p rs⟩
  · obtain ⟨rfl, _⟩ := rd.str_inv; obtain ⟨rfl, _⟩ := re.str_inv
    refine op_ge_str pins s σ H _ _ v u Q I rx ry ⟨_, _, rfl, rfl, ?_⟩
    rw [← ltS_dec]
    exact okB_here p rs
  · exact p.elim
/-! keys -/
theorem tS_inj {x y : List Nat} (h : tS x = tS y) : x = y := by
  have := congrArg (fun s : Str => s.cps.toList) h
  simpa [tS] using this
theorem RKey.eq {d e : D} {k j : Key} (h : RKey d k) (h' : RKey e j) : keyEq d e = decide (k = j) := by
  cases d <;> first | exact h.elim | skip
  all_goals cases e <;> first | exact h'.elim | skip
  · cases h; cases h'; simp [keyEq]
  · cases h; cases h'.1; simp [keyEq]
  · cases h.1; cases h'; simp [keyEq]
  · cases h.1; cases h'.1
    simp only [keyEq, Sum.inr.injEq]
    exact decide_eq_decide.mpr ⟨fun z => by rw [z], tS_inj⟩
theorem key_of_rv {F : Fx} {ι : List Addr} {H : Hp} {d : D} {v : V} (r : RV F ι H d v) (h : keyOk d = true) : ∃ k, RKey d k ∧ v = kV k := by
  cases r <;> first | (simp [keyOk] at h; done) | skip
  · exact ⟨.inl _, rfl, rfl⟩
  · exact ⟨.inr _, ⟨rfl, by assumption⟩, rfl⟩
theorem rk_get {F : Fx} {ι : List Addr} {H : Hp} {d : D} {k : Key} (hk : RKey d k) : ∀ {kvs : List (D × D)} {ks : List (Key × V)}, RK F ι H kvs ks →
    (∀ e, getK kvs d = some e → ∃ v, valV ks k = some v ∧ RV F ι H e v) ∧ (getK kvs d = none → valV ks k = none)
  | [], _, .nil => ⟨fun _ h => (by simp [getK] at h), fun _ => rfl⟩
  | p :: kvs, q :: ks, .cons h t => by
    have e1 : keyEq p.1 d = decide (q.1 = k) := RKey.eq h.1 hk
    obtain ⟨i1, i2⟩ := rk_get hk t
    by_cases c : q.1 = k
    · have g : getK (p :: kvs) d = some p.2 := by simp [getK, List.find?, e1, c]
      rw [g]
      exact ⟨fun e he => ⟨q.2, valV_pos c, by cases he; exact h.2⟩, fun z => by cases z⟩
    · have g : getK (p :: kvs) d = getK kvs d := by simp [getK, List.find?, e1, c]
      rw [g, valV_neg c]
      exact ⟨i1, i2⟩
theorem rk_isSome {F : Fx} {ι : List Addr} {H : Hp} {d : D} {k : Key} (hk : RKey d k) {kvs : List (D × D)} {ks : List (Key × V)} (r : RK F ι H kvs ks) : (valV ks k).isSome = (getK kvs d).isSome := by
  obtain ⟨h1, h2⟩ := rk_get hk r
  cases e : getK kvs d with
  | none => rw [h2 e]; rfl
  | some z => obtain ⟨v, hv, _⟩ := h1 z e; rw [hv]; rfl
theorem rk_of {F : Fx} {ι : List Addr} {H : Hp} : ∀ {kvs : List (D × D)} {ks : List (Key × V)}, Paired (fun p q => RKey p.1 q.1) kvs ks → RVs F ι H (kvs.map (·.2)) (ks.map (·.2)) → RK F ι H kvs ks
  | [], [], .nil, _ => .nil
  | (_, _) :: _, (_, _) :: _, .cons a t, .cons b u => .cons ⟨a, b⟩ (rk_of t u)
theorem dct_of {F : Fx} {ι : List Addr} {st : Sto} {H : Hp} {d : D} {v : V} {kvs : List (D × D)} (rs : Rs F ι st H) (r : RV F ι H d v) (h : dctOf st d = some kvs) :
    ∃ a ks, v = .ref a ∧ Rd H a (.dK ks) ∧ RK F ι H kvs ks ∧ kvs.length ≤ sizeLine := by
  cases r with
  | cd h1 h2 h3 h4 => simp only [dctOf, Option.some.injEq] at h; subst h; exact ⟨_, _, rfl, .inr ⟨_, h1⟩, rk_of h2 h3, h4⟩
  | @ref n a e =>
    simp only [dctOf] at h
    split at h
    · rename_i ys hs
      simp only [Option.some.injEq] at h
      subst h
      obtain ⟨ks, h1, h2, h3⟩ := rs.at_ e hs
      exact ⟨_, _, rfl, .inl h1, h2, h3⟩
    · cases h
  | _ => simp [dctOf] at h
theorem eqFl_flat {F : Fx} {ι : List Addr} {H : Hp} {d e : D} {x y : V} (rd : RV F ι H d x) (re : RV F ι H e y) (h : eqFl d e = true) : y = x ∧ flatB x = true := by
  cases rd <;> cases re <;> simp_all [eqFl, flatB]
theorem sameK_ok {F : Fx} {ι : List Addr} {H : Hp} {k l : List (D × D)} {ks ls : List (Key × V)} (rk : RK F ι H k ks) (rl : RK F ι H l ls) (h : sameK k l = true) : ks.length = ls.length ∧ ∀ p ∈ ks, valV ls p.1 = some p.2 ∧ flatB p.2 = true := by
  unfold sameK at h
  rw [Bool.and_eq_true, decide_eq_true_eq, List.all_eq_true] at h
  obtain ⟨h1, h2⟩ := h
  refine ⟨by rw [← Paired.length rk, ← Paired.length rl]; exact h1, ?_⟩
  clear h1
  have key : ∀ {k : List (D × D)} {ks : List (Key × V)}, RK F ι H k ks → (∀ p ∈ k, (match getK l p.1 with | some v => eqFl p.2 v | none => false) = true) → ∀ p ∈ ks, valV ls p.1 = some p.2 ∧ flatB p.2 = true := by
    intro k ks r
    induction r with
    | nil => intro _ p hp; cases hp
    | @cons a b as bs hab t ih =>
      intro hh p hp
      rcases List.mem_cons.mp hp with rfl | hp
      · have q := hh a List.mem_cons_self
        split at q
        · rename_i v hv
          obtain ⟨w, hw, rw_⟩ := (rk_get hab.1 rl).1 v hv
          obtain ⟨e1, e2⟩ := eqFl_flat hab.2 rw_ q
          subst e1
          exact ⟨hw, e2⟩
        · cases q
      · exact ih (fun p hp => hh p (List.mem_cons_of_mem _ hp)) p hp
  exact key rk h2
theorem op_eqDR (hu : X.A.units < cLine) : OpR X (compareOp .Eq) (fun x y H Q => ∃ a b ks ls, x = .ref a ∧ y = .ref b ∧ Rd H a (.dK ks) ∧ Rd H b (.dK ls) ∧ ks.length = ls.length ∧ (∀ p ∈ ks, valV ls p.1 = some p.2 ∧ flatB p.2 = true) ∧ Q (.bl true) H) := by
  intro pins s σ H x y v u Q I rx ry h
  obtain ⟨a, b, ks, ls, rfl, rfl, ea, eb, hlen, hp, q⟩ := h
  obtain rfl : v = Value.ref a := rx
  obtain rfl : u = Value.ref b := ry
  obtain ⟨_, ya, va, ra, da⟩ := (Rd.ok ea I.hok : ObjOk X.prog X.w H s.heap a (.dK ks))
  obtain ⟨_, yb, vb, rb, db⟩ := (Rd.ok eb I.hok : ObjOk X.prog X.w H s.heap b (.dK ls))
  have hl : va.length = vb.length := by rw [← ra.length, ← rb.length]; exact hlen
  exact PySem.W.keq_eq (knd := mixKind X.prog X.w) (r := true) ya yb da db hu (fun _ => hits_all rb ra hp) (fin_bl I q (by simp [hl]))
theorem op_neDR (hu : X.A.units < cLine) : OpR X (compareOp .NotEq) (fun x y H Q => ∃ a b ks ls, x = .ref a ∧ y = .ref b ∧ Rd H a (.dK ks) ∧ Rd H b (.dK ls) ∧ ks.length = ls.length ∧ (∀ p ∈ ks, valV ls p.1 = some p.2 ∧ flatB p.2 = true) ∧ Q (.bl false) H) := by
  intro pins s σ H x y v u Q I rx ry h
  obtain ⟨a, b, ks, ls, rfl, rfl, ea, eb, hlen, hp, q⟩ := h
  obtain rfl : v = Value.ref a := rx
  obtain rfl : u = Value.ref b := ry
  obtain ⟨_, ya, va, ra, da⟩ := (Rd.ok ea I.hok : ObjOk X.prog X.w H s.heap a (.dK ks))
  obtain ⟨_, yb, vb, rb, db⟩ := (Rd.ok eb I.hok : ObjOk X.prog X.w H s.heap b (.dK ls))
  have hl : va.length = vb.length := by rw [← ra.length, ← rb.length]; exact hlen
  exact PySem.W.keq_ne (knd := mixKind X.prog X.w) (r := true) ya yb da db hu (fun _ => hits_all rb ra hp) (fin_bl I q (by simp [hl]))
theorem cmp_eq (hu : X.A.units + 64 < cLine) : OpR X (compareOp .Eq) (r2 (fx X fld) W (cmpD .Eq)) := by
  rintro pins s σ H x y v u Q I rx ry ⟨ι, st, d, e, rs, rd, re, p⟩
  obtain ⟨b, hb, q⟩ := okOB_here p rs
  rcases eq_dp rs rd re hb with ⟨p1, q1, a1, a2, a3, a4, rfl⟩ | ⟨k, l, h1, h2, h3, rfl⟩
  · exact op_eqD hu pins s σ H _ _ v u Q I rx ry ⟨p1, q1, a1, a2, a3, a4, q⟩
  · obtain ⟨a, ks, rfl, ra, rk, _⟩ := dct_of rs rd h1
    obtain ⟨b, ls, rfl, rb, rl, _⟩ := dct_of rs re h2
    obtain ⟨z1, z2⟩ := sameK_ok rk rl h3
    exact op_eqDR (by omega) pins s σ H _ _ v u Q I rx ry ⟨a, b, ks, ls, rfl, rfl, ra, rb, z1, z2, q⟩
theorem cmp_ne (hu : X.A.units + 64 < cLine) : OpR X (compareOp .NotEq) (r2 (fx X fld) W (cmpD .NotEq)) := by
  rintro pins s σ H x y v u Q I rx ry ⟨ι, st, d, e, rs, rd, re, p⟩
  obtain ⟨b, hb, q⟩ := okOB_here p rs
  obtain ⟨c, hc, rfl⟩ := Option.map_eq_some_iff.mp hb
  rcases eq_dp rs rd re hc with ⟨p1, q1, a1, a2, a3, a4, rfl⟩ | ⟨k, l, h1, h2, h3, rfl⟩
  · exact op_neD hu pins s σ H _ _ v u Q I rx ry ⟨p1, q1, a1, a2, a3, a4, q⟩
  · obtain ⟨a, ks, rfl, ra, rk, _⟩ := dct_of rs rd h1
    obtain ⟨b, ls, rfl, rb, rl, _⟩ := dct_of rs re h2
    obtain ⟨z1, z2⟩ := sameK_ok rk rl h3
    exact op_neDR (by omega) pins s σ H _ _ v u Q I rx ry ⟨a, b, ks, ls, rfl, rfl, ra, rb, z1, z2, q⟩
theorem mem_str {F : Fx} {ι : List Addr} {H : Hp} {y : List Nat} {d : D} {x : V} {st : Sto} {b : Bool} (rd : RV F ι H d x) (h : memD d (.str y) st = some b) : ∃ c, x = .str ⟨#[c]⟩ ∧ b = decide (c ∈ (tS y).cps.toList) := by
  simp only [memD] at h
  split at h
  · rename_i c
    cases rd
    refine ⟨c, rfl, ?_⟩
    rw [← Option.some.inj h]
    exact decide_eq_decide.mpr Iff.rfl
  · cases h
theorem mem_cases {F : Fx} {ι : List Addr} {st : Sto} {H : Hp} {d e : D} {x y : V} {b : Bool} (rs : Rs F ι st H) (rd : RV F ι H d x) (re : RV F ι H e y) (h : memD d e st = some b) :
    (∃ z c, e = .str z ∧ y = .str (tS z) ∧ x = .str ⟨#[c]⟩ ∧ b = decide (c ∈ (tS z).cps.toList)) ∨
    (∃ p ps, Dp F.K H x p ∧ (Dp F.K H y (.list ps) ∨ Dp F.K H y (.tuple ps)) ∧ p.canLay0 = true ∧ PyData.canLayAll0 ps = true ∧ p.depth ≤ 59 ∧ b = ps.any fun z => PyData.eqv z p) ∨
    (∃ a ks k, y = .ref a ∧ x = kV k ∧ Rd H a (.dK ks) ∧ b = (valV ks k).isSome) := by
  by_cases c : ∃ z, e = .str z
  · obtain ⟨z, rfl⟩ := c
    obtain ⟨rfl, _⟩ := re.str_inv
    obtain ⟨c, h1, h2⟩ := mem_str rd h
    exact .inl ⟨z, c, rfl, rfl, h1, h2⟩
  · right
    have h' : (match seqOf st e with
      | some xs => inSeq st d xs
      | none => (match dctOf st e with
        | some kvs => if keyOk d = true then some (getK kvs d).isSome else none
        | none => none)) = some b := by
      cases e <;> first | exact h | exact absurd ⟨_, rfl⟩ c
    split at h'
    · rename_i xs hx
      left
      unfold inSeq at h'
      split at h'
      · rename_i p ps h1 h2
        obtain ⟨a, vs, rfl, hq, hr, hz⟩ := seq_of rs re hx
        obtain ⟨a1, a2, a3⟩ := toPy_dp rs 59 rd h1
        obtain ⟨b1, b2, b3⟩ := toPys_dp rs 59 hr h2
        exact ⟨p, ps, a1, hq.elim (fun q => .inl (.lst q.sq b1)) (fun q => .inr (.tup q b1)), a2, b2, a3, (Option.some.inj h').symm⟩
      · cases h'
    · right
      split at h'
      · rename_i kvs hk
        split at h'
        · rename_i ok
          obtain ⟨a, ks, rfl, h1, h2, h3⟩ := dct_of rs re hk
          obtain ⟨k, h4, rfl⟩ := key_of_rv rd ok
          exact ⟨a, ks, k, rfl, rfl, h1, by rw [rk_isSome h4 h2]; exact (Option.some.inj h').symm⟩
        · cases h'
      · cases h'
theorem cmp_in (hu : X.A.units + 64 < cLine) : OpR X (compareOp .In) (r2 (fx X fld) W (cmpD .In)) := by
  rintro pins s σ H x y v u Q I rx ry ⟨ι, st, d, e, rs, rd, re, p⟩
  obtain ⟨b, hb, q⟩ := okOB_here p rs
  rcases mem_cases rs rd re hb with ⟨z, c, rfl, rfl, rfl, rfl⟩ | ⟨p1, ps, h1, h2, h3, h4, h5, rfl⟩ | ⟨a, ks, k, rfl, rfl, h1, rfl⟩
  · exact op_in_sign pins s σ H _ _ v u Q I rx ry ⟨_, _, rfl, rfl, q⟩
  · obtain ⟨as, r1⟩ := Dp.reads I p1 x v h1 rx
    have room : X.A.units + 1 + min (PyData.depthAll ps) p1.depth < cLine := by have := Nat.min_le_right (PyData.depthAll ps) p1.depth; omega
    rcases h2 with h2 | h2
    · obtain ⟨bs, r2⟩ := Dp.reads I (.list ps) y u h2 ry
      exact SeqAt.in_list_reads r2 r1 h4 h3 room ⟨.bl _, H, I, rfl, q⟩
    · obtain ⟨bs, r2⟩ := Dp.reads I (.tuple ps) y u h2 ry
      exact SeqAt.in_tuple_reads r2 r1 h4 h3 room ⟨.bl _, H, I, rfl, q⟩
  · cases ry
    exact d_in (by omega) I (.inl ⟨ks, k, h1, rfl, rfl⟩) rx fun s' I' => ⟨.bl _, H, I', rfl, q⟩
theorem cmp_notin (hu : X.A.units + 64 < cLine) : OpR X (compareOp .NotIn) (r2 (fx X fld) W (cmpD .NotIn)) := by
  rintro pins s σ H x y v u Q I rx ry ⟨ι, st, d, e, rs, rd, re, p⟩
  obtain ⟨b', hb', q⟩ := okOB_here p rs
  obtain ⟨b, hb, rfl⟩ := Option.map_eq_some_iff.mp hb'
  rcases mem_cases rs rd re hb with ⟨z, c, rfl, rfl, rfl, rfl⟩ | ⟨p1, ps, h1, h2, h3, h4, h5, rfl⟩ | ⟨a, ks, k, rfl, rfl, h1, rfl⟩
  · exact op_notIn_sign pins s σ H _ _ v u Q I rx ry ⟨_, _, rfl, rfl, q⟩
  · obtain ⟨as, r1⟩ := Dp.reads I p1 x v h1 rx
    have room : X.A.units + 1 + min (PyData.depthAll ps) p1.depth < cLine := by have := Nat.min_le_right (PyData.depthAll ps) p1.depth; omega
    rcases h2 with h2 | h2
    · obtain ⟨bs, r2⟩ := Dp.reads I (.list ps) y u h2 ry
      exact SeqAt.notIn_list_reads r2 r1 h4 h3 room ⟨.bl _, H, I, rfl, q⟩
    · obtain ⟨bs, r2⟩ := Dp.reads I (.tuple ps) y u h2 ry
      exact SeqAt.notIn_tuple_reads r2 r1 h4 h3 room ⟨.bl _, H, I, rfl, q⟩
  · cases ry
    exact d_notIn (by omega) I (.inl ⟨ks, k, h1, rfl, rfl⟩) rx fun s' I' => ⟨.bl _, H, I', rfl, q⟩
theorem cmp_ok (hu : X.A.units + 64 < cLine) (o : CmpOp) : OpR X (compareOp o) (r2 (fx X fld) W (cmpD o)) := by
  cases o with
  | Eq => exact cmp_eq hu
  | NotEq => exact cmp_ne hu
  | Lt => exact cmp_lt
  | LtE => exact cmp_le
  | Gt => exact cmp_gt
  | GtE => exact cmp_ge
  | Is => exact cmp_is
  | IsNot => exact cmp_isnt
  | In => exact cmp_in hu
  | NotIn => exact cmp_notin hu
end
end Mi

set_option linter.all false
set_option maxRecDepth 100000
/-! V5: places, slices, fields. -/
namespace Mi
open PySem PySem.Spec L2
open PyProof.Rows hiding St
section
variable {X : Cx} {W : XK} {fld : String → List String}
theorem ixOf_eq (n : Nat) (i : Int) : ixOf n i = ixN n i := rfl
theorem atD_get {F : Fx} {ι : List Addr} {H : Hp} {ds : List D} {vs : List V} {i : Int} {d : D} (r : RVs F ι H ds vs) (h : atD ds i = some d) : ∃ v, atI vs i = some v ∧ RV F ι H d v := by
  unfold atD at h
  rw [r.length] at h
  obtain ⟨j, h1, h2⟩ := Option.bind_eq_some_iff.mp h
  obtain ⟨v, h3, h4⟩ := r.get h2
  exact ⟨v, by unfold atI; rw [← ixOf_eq, h1]; exact h3, h4⟩
theorem sub_ok (hu : X.A.units + 64 < cLine) : IxR X (r2 (fx X fld) W ixD) := by
  rintro value slice pins s σ H x y v u Q I rx ry ⟨ι, st, d, e, rs, rd, re, p⟩ hs
  have c : (∃ z i, d = .str z ∧ e = .int i ∧ ∃ c, atD z i = some c ∧ Post (fx X fld) (RV (fx X fld)) Q W ι H (.ok (.str [c]) st)) ∨
      (∃ xs i q, seqOf st d = some xs ∧ e = .int i ∧ atD xs i = some q ∧ Post (fx X fld) (RV (fx X fld)) Q W ι H (.ok q st)) ∨
      (∃ kvs q, dctOf st d = some kvs ∧ keyOk e = true ∧ getK kvs e = some q ∧ Post (fx X fld) (RV (fx X fld)) Q W ι H (.ok q st)) := by
    unfold ixD at p
    split at p
    · split at p
      · exact .inl ⟨_, _, rfl, rfl, _, by assumption, p⟩
      · exact p.elim
    · split at p
      · split at p
        · exact .inr (.inl ⟨_, _, _, by assumption, rfl, by assumption, p⟩)
        · exact p.elim
      · exact p.elim
      · split at p
        · split at p
          · split at p
            · exact .inr (.inr ⟨_, _, by assumption, by assumption, by assumption, p⟩)
            · exact p.elim
          · exact p.elim
        · exact p.elim
  rcases c with ⟨z, i, rfl, rfl, c, h1, p⟩ | ⟨xs, i, q, h1, rfl, h2, p⟩ | ⟨kvs, q, h1, h2, h3, p⟩
  · obtain ⟨rfl, o⟩ := rd.str_inv
    have := re.int_inv; subst this
    refine ix_str value slice pins s σ H _ _ v u Q I rx ry ⟨tS z, i, c, rfl, rfl, by rw [tS_length]; exact o.1, h1, ?_⟩ hs
    refine p.here rs (.str [c] ⟨by rw [sizeLine_eq]; simp, fun k hk => ?_⟩)
    rw [List.mem_singleton.mp hk]
    unfold atD at h1
    obtain ⟨j, _, h3⟩ := Option.bind_eq_some_iff.mp h1
    exact o.2 c (List.mem_of_getElem? h3)
  · obtain ⟨a, vs, rfl, hq, hr, hz⟩ := seq_of rs rd h1
    have := re.int_inv; subst this
    obtain ⟨w, h3, h4⟩ := atD_get hr h2
    rcases hq with hq | hq
    · exact ix_list value slice pins s σ H _ _ v u Q I rx ry ⟨a, vs, i, w, rfl, rfl, hq.sq, h3, p.here rs h4⟩ hs
    · exact ix_tup value slice pins s σ H _ _ v u Q I rx ry ⟨a, vs, i, w, rfl, rfl, hq, h3, p.here rs h4⟩ hs
  · obtain ⟨a, ks, rfl, k1, k2, k3⟩ := dct_of rs rd h1
    obtain ⟨k, k4, rfl⟩ := key_of_rv re h2
    obtain ⟨w, k5, k6⟩ := (rk_get k4 k2).1 _ h3
    cases rx
    have g : DGet H a (kV k) (some w) := .inl ⟨ks, k, k1, rfl, k5.symm⟩
    exact tail_any (dict_typeIs I g) PySem.F.slot_dict_getitem.lookup (d_getItem (by omega) I g ry fun w' s' I' r' => ⟨w, H, I', r', p.here rs k6⟩) hs
/-- a slice's reading -/
def rS (F : Fx) (W : XK) (f : D → Option Int → Option Int → Sto → R D) : V → Option Int → Option Int → Hp → VK → Prop := fun x lo hi H Q => ∃ ι st d, Rs F ι st H ∧ RV F ι H d x ∧ Post F (RV F) Q W ι H (f d lo hi st)
theorem cut_rv {F : Fx} {ι : List Addr} {H : Hp} {ds : List D} {vs : List V} (r : RVs F ι H ds vs) (lo hi : Option Int) : RVs F ι H (cut ds lo hi) (cutV vs lo hi) := by
  have e : cut ds lo hi = (ds.drop (HT.sIx vs.length 0 lo)).take (HT.sIx vs.length vs.length hi - HT.sIx vs.length 0 lo) := by
    unfold cut
    rw [r.length]
    rfl
  rw [e]
  exact (r.drop _).take _
theorem cut_len {α : Type} (xs : List α) (lo hi : Option Int) : (cut xs lo hi).length ≤ xs.length := by
  unfold cut
  simp only [List.length_take, List.length_drop]
  omega
theorem SlR.fz {r : V → Option Int → Option Int → Hp → VK → Prop} (h : SlR X r) : SlR X (fun x lo hi H Q => r x lo hi H (FzQ X Q)) := fun pins s σ H x v vl vu lo hi sl Q I rx hs pl pu q => let ⟨T, id, a, b, c⟩ := h pins s σ H x v vl vu lo hi sl _ I rx hs pl pu q; ⟨T, id, a, b, wp_fz c⟩
theorem slice_ok {z : Bool} : SlR X (rS (fx X fld) W (slD z)) := by
  rintro pins s σ H x v vl vu lo hi sl Q I rx hs pl pu ⟨ι, st, d, rs, rd, p⟩
  unfold slD at p
  split at p
  · rename_i z
    obtain ⟨rfl, o⟩ := rd.str_inv
    refine sl_str pins s σ H _ v vl vu lo hi sl Q I rx hs pl pu ⟨tS z, rfl, by rw [tS_length]; exact o.1, ?_⟩
    have e : cutS (tS z) lo hi = tS (cut z lo hi) := by
      unfold cutS tS cut
      simp only [List.size_toArray, Str.length, List.extract_toArray]
      rfl
    rw [e]
    refine p.here rs (.str _ ⟨Nat.le_trans (cut_len z lo hi) o.1, fun c hc => o.2 c ?_⟩)
    unfold cut at hc
    exact List.mem_of_mem_drop (List.mem_of_mem_take hc)
  · rename_i xs
    cases rd with
    | tup t r z =>
      refine sl_tupA pins s σ H _ v vl vu lo hi sl Q I rx hs pl pu ⟨_, _, rfl, t, fun h => ?_, fun _ q hq => ?_⟩
      · have e : cut xs lo hi = xs := by
          have h' : sIx xs.length 0 lo = 0 ∧ sIx xs.length xs.length hi = xs.length := by rw [r.length]; exact h
          unfold cut
          rw [h'.1, h'.2]
          simp
        rw [e] at p
        exact p.here rs (.tup t r z)
      · exact p.tupl rs (cut_rv r lo hi) (Nat.le_trans (cut_len _ _ _) z) hq
  · split at p
    · rename_i xs hx
      obtain ⟨a, vs, rfl, l, r, z⟩ := lst_of rs rd hx
      exact SlR.fz sl_list pins s σ H _ v vl vu lo hi sl Q I rx hs pl pu ⟨a, vs, rfl, l.sq, fun q hq => p.lst rs (cut_rv r lo hi) hq⟩
    · exact p.elim
/-! fields -/
theorem ofString_inj {a b : String} (h : Str.ofString a = Str.ofString b) : a = b := by
  rw [Str.ofString_eq_toList, Str.ofString_eq_toList] at h
  have h1 : a.toList.map Char.toNat = b.toList.map Char.toNat := by
    have := congrArg (fun s : Str => s.cps.toList) h
    simpa using this
  have inj : ∀ l m : List Char, l.map Char.toNat = m.map Char.toNat → l = m := by
    intro l
    induction l with
    | nil => intro m e; cases m with | nil => rfl | cons _ _ => simp at e
    | cons c l ih =>
      intro m e
      cases m with
      | nil => simp at e
      | cons d m =>
        simp only [List.map_cons, List.cons.injEq] at e
        rw [ih m e.2, Char.ext (UInt32.toNat_inj.mp e.1)]
  have h2 : a.toList = b.toList := inj _ _ h1
  exact String.toList_inj.mp h2
theorem rf_get {F : Fx} {ι : List Addr} {H : Hp} {f : String} : ∀ {fs : Fs} {vs : List (Str × V)}, RF F ι H fs vs →
    (∀ d, getF fs f = some d → ∃ v, vs.lookup (Str.ofString f) = some v ∧ RV F ι H d v) ∧ (getF fs f = none → vs.lookup (Str.ofString f) = none)
  | [], _, .nil => ⟨fun _ h => (by simp [getF] at h), fun _ => rfl⟩
  | (g, x) :: fs, (h, v) :: vs, .cons e t => by
    obtain ⟨rfl, e2⟩ : h = Str.ofString g ∧ RV F ι H x v := e
    obtain ⟨i1, i2⟩ := rf_get (f := f) t
    by_cases c : g = f
    · subst c
      have q : getF ((g, x) :: fs) g = some x := by simp [getF]
      have q2 : List.lookup (Str.ofString g) ((Str.ofString g, v) :: vs) = some v := by simp [List.lookup]
      rw [q, q2]
      exact ⟨fun d hd => ⟨v, rfl, by cases hd; exact e2⟩, fun z => by cases z⟩
    · have c0 : (g == f) = false := by simpa using c
      have q : getF ((g, x) :: fs) f = getF fs f := by simp [getF, List.find?, c0]
      have c2 : (Str.ofString f == Str.ofString g) = false := by
        rw [beq_eq_false_iff_ne]
        exact fun z => c (ofString_inj z).symm
      have q2 : List.lookup (Str.ofString f) ((Str.ofString g, v) :: vs) = vs.lookup (Str.ofString f) := by simp [List.lookup, c2]
      rw [q, q2]
      exact ⟨i1, i2⟩
theorem rf_put {F : Fx} {ι : List Addr} {H : Hp} {f : String} {d : D} {w : V} (r : RV F ι H d w) : ∀ {fs : Fs} {vs : List (Str × V)}, RF F ι H fs vs → RF F ι H (putF f d fs) (L2.putF (Str.ofString f) w vs)
  | [], _, .nil => .cons ⟨rfl, r⟩ .nil
  | (g, x) :: fs, (h, v) :: vs, .cons e t => by
    obtain ⟨rfl, e2⟩ : h = Str.ofString g ∧ RV F ι H x v := e
    unfold putF L2.putF
    by_cases c : g = f
    · subst c
      rw [if_pos rfl, if_pos rfl]
      exact .cons ⟨rfl, r⟩ t
    · rw [if_neg c, if_neg (fun z => c (ofString_inj z))]
      exact .cons ⟨rfl, e2⟩ (rf_put r t)
theorem rf_len {F : Fx} {ι : List Addr} {H : Hp} {fs : Fs} {vs : List (Str × V)} (h : RF F ι H fs vs) : fs.length = vs.length := Paired.length h
end
end Mi

set_option linter.all false
set_option maxRecDepth 100000
/-! V5r: t[::-1], xs[lo:hi:k]. -/
namespace HT
open PySem PySem.Spec PyProof.Rows
section
variable {prog : Program} {w : World} {A : Around} {E : Value → Shared → Prop} {s : Shared}
theorem adjust_rev (n : Nat) : Builtin.Slice.sliceAdjust none none (-1) (n : Int) = ((n : Int) - 1, -1) := by
  unfold Builtin.Slice.sliceAdjust
  rfl
theorem places_rev (n : Nat) : Builtin.Slice.slicePlaces ((n : Int) - 1) (-1) (-1) = n := by
  unfold Builtin.Slice.slicePlaces
  have h1 : ¬ ((-1 : Int) > 0) := by omega
  have h2 : (-(-1 : Int)) = 1 := rfl
  simp only [h1, if_false, h2, Int.ediv_one]
  split <;> omega
theorem sliceApplied_rev {sl : Addr} {vs : Value} {n : Nat} {Q : Int × Int × Nat → Shared → Prop} (hs : s.heap.IsSliceOf sl .none .none vs) (ps : IsPart vs (some (-1)))
    (h : Q ((n : Int) - 1, -1, n) s) : wpAny (model prog w) A (Builtin.Slice.sliceApplied (.ref sl) (pure (n : Int))) Q E s := by
  obtain ⟨os, hos, hcs, hds⟩ := id hs
  unfold Builtin.Slice.sliceApplied Builtin.Slice.sliceFields
  refine wpAny_bind (wpAny_bind (wpAny_field hos hds (x := .none) rfl (wpAny_bind (wpAny_field hos hds (x := .none) rfl (wpAny_bind (wpAny_field hos hds (x := vs) rfl (wpAny_pure ?_)))))))
  refine wpAny_bind (slicePart_ ps ?_)
  show wpAny _ _ (if ((-1 : Int) == 0) = true then _ else _) _ _ s
  rw [if_neg (by decide)]
  refine wpAny_bind (slicePart_none (wpAny_bind (slicePart_none (wpAny_bind (wpAny_pure ?_)))))
  show wpAny _ _ (match Builtin.Slice.sliceAdjust none none (-1) (n : Int) with | (lo, hi) => pure (lo, (-1 : Int), Builtin.Slice.slicePlaces lo hi (-1))) _ _ s
  rw [adjust_rev n]
  show wpAny _ _ (pure ((n : Int) - 1, (-1 : Int), Builtin.Slice.slicePlaces ((n : Int) - 1) (-1) (-1))) _ _ s
  rw [places_rev]
  exact wpAny_pure h
theorem pick_rev (xs : Array Value) : ((List.range xs.size).filterMap fun (m : Nat) => xs[((xs.size : Int) - 1 + (m : Int) * (-1)).toNat]?).toArray = xs.toList.reverse.toArray := by
  have e : ∀ k, k ≤ xs.size → ((List.range k).filterMap fun (m : Nat) => xs[((xs.size : Int) - 1 + (m : Int) * (-1)).toNat]?) = xs.toList.reverse.take k := by
    intro k
    induction k with
    | zero => intro _; simp
    | succ k ih =>
      intro hk
      have h1 : (((xs.size : Int) - 1 + (k : Int) * (-1)).toNat) = xs.size - 1 - k := by omega
      have h2 : xs.toList.reverse[k]? = some (xs[xs.size - 1 - k]'(by omega)) := by
        rw [List.getElem?_reverse (by simp; omega)]
        simp [show xs.size - 1 - k < xs.size by omega]
      rw [List.range_succ, List.filterMap_append, ih (by omega), List.take_add_one, h2, List.filterMap_cons, h1, List.filterMap_nil]
      simp [show xs.size - 1 - k < xs.size by omega]
  rw [e _ (Nat.le_refl _), List.take_of_length_le (by simp)]
theorem getItem_tuple_rev {t sl : Addr} {items : Array Value} {vs : Value} {Q : Value → Shared → Prop} (ht : IsTup s.heap t items) (hs : s.heap.IsSliceOf sl .none .none vs) (ps : IsPart vs (some (-1)))
    (h : Q (.ref s.heap.objs.size) { s with heap := s.heap.push { cls := .type "tuple", data := .seq items.toList.reverse.toArray } })
    (hsz : items.size ≤ sizeLine) : wpAny (model prog w) A (getItem (.ref t) (.ref sl)) Q E s := by
  have htake : sizeOk (.seq items.toList.reverse.toArray) := by
    show items.toList.reverse.toArray.size ≤ sizeLine
    simpa using hsz
  obtain ⟨os, hos, hcs, hds⟩ := id hs
  have hTs : s.TypeIs (.ref sl) "slice" := ⟨os, hos, hcs⟩
  unfold getItem
  try with_reducible refine wpAny_holding ?_
  first | refine wpAny_bind (wpAny_pure ?_) | skip
  refine wpAny_bind (wpAny_sequenceKey ht.typeIs (by decide) ?_)
  refine wpAny_bind (wpAny_callSpecial?_slot (name := Str.ofString "__getitem__") ht.typeIs PyProof.Rows.slot_tuple_getitem
    (wpAny_call_entry PyProof.Rows.slot_tuple_getitem ht.typeIs entry_tuple_getitem ?_ (args_tuple_getitem _ _)))
  show wpAny _ _ (Builtin.Tuple.tupleItemsOf (.ref t) >>= _) _ _ s
  refine wpAny_bind (tupleItemsOf_ ht ?_)
  refine wpAny_bind (wpAny_typeOf hTs ?_)
  rw [if_pos (by decide)]
  refine wpAny_bind (sliceApplied_rev hs ps ?_)
  have hno : ¬ ((((items.size : Int) - 1) == 0 && (-1 : Int) == 1 && items.size == items.size) = true) := by
    intro q
    rw [Bool.and_eq_true, Bool.and_eq_true] at q
    exact absurd q.1.2 (by decide)
  show wpAny _ _ (if (((items.size : Int) - 1) == 0 && (-1 : Int) == 1 && items.size == items.size) = true then _ else _) _ _ s
  rw [if_neg hno, pick_rev]
  first
    | exact wpAny_bind (m := Builtin.Tuple.tupleExact _) (wpAny_newObj_type (wpAny_pure ⟨_, rfl, wpAny_pure h⟩) htake)
    | exact wpAny_bind (m := Builtin.Tuple.tupleExact _) (wpAny_newObj_type (wpAny_bind (wpAny_pure (wpAny_pure ⟨_, rfl, wpAny_pure h⟩))) htake)
    | exact wpAny_bind (wpAny_bind (m := Builtin.Tuple.tupleExact _) (wpAny_newObj_type (wpAny_pure (wpAny_pure ⟨_, rfl, wpAny_pure h⟩)) htake))
    | exact wpAny_bind (wpAny_bind (m := Builtin.Tuple.tupleExact _) (wpAny_newObj_type (wpAny_pure ⟨_, rfl, wpAny_pure h⟩) htake))
end
end HT
namespace Mi
open PySem PySem.Spec L2
open PyProof.Rows hiding St
section
variable {X : Cx}
/-- xs[::-1], t[::-1] -/
def tRevA (K : PySem.W.Frag) (te : TE) : TE := fun σ H Q => te σ H fun x H1 => (∃ a xs, x = .ref a ∧ SqL K H1 a xs ∧ ∀ p, H1 p = none → Q (.ref p) (upd H1 p (.lst xs.reverse))) ∨
  ∃ a xs, x = .ref a ∧ SqT K H1 a xs ∧ ∀ p, H1 p = none → Q (.ref p) (upd H1 p (.tup xs.reverse))
theorem pe_revA {e : Expr} {te : TE} {k : Nat} {p1 p2 p3 pos : Pos} (he : PE X e te) : PE X (.Subscript e (.Slice none none (some (.UnaryOp .USub (.Constant (.int 1) k p1) p2)) p3) pos) (tRevA X.K te) := by
  refine ⟨fun pins s σ H Q I h => ?_⟩
  refine Subscript_ (thn (he.run pins s σ H _ I h) fun v s1 ⟨x, H1, I1, r1, q1⟩ => ?_)
  have hst : PO X (some (.UnaryOp .USub (.Constant (.int 1) k p1) p2)) (tPart (tUn (rU fun i => .int (-i)) (tC (.int 1)))) := po_some (pe_un un_neg pe_int)
  refine wpAny_Slice (thn (po_none.run pins s1 σ H1 (fun o H2 => o = none ∧ H2 = H1) I1 ⟨rfl, rfl⟩) fun vl s2 ⟨l, H2, I2, pl, el, e2⟩ => ?_)
  subst el e2
  refine thn (po_none.run pins s2 σ H2 (fun o H3 => o = none ∧ H3 = H2) I2 ⟨rfl, rfl⟩) fun vu s3 ⟨u, H3, I3, pu, eu, e3⟩ => ?_
  subst eu e3
  refine thn (hst.run pins s3 σ H3 (fun o H4 => o = some (-1) ∧ H4 = H3) I3 ⟨1, rfl, -1, rfl, rfl, rfl⟩) fun vs s4 ⟨o, H4, I4, ps, eo, e4⟩ => ?_
  subst eo e4
  have I5 : Inv X pins σ H4 { s4 with heap := s4.heap.push { cls := .type "slice", data := .fields #[vl, vu, vs] } } := I4.kept (t' := s4.toks) fun b ob q => Heap.get?_push_of_some _ q
  cases pl
  cases pu
  rcases q1 with ⟨a, xs, ex, hx, q⟩ | ⟨a, xs, ex, hx, q⟩
  · subst ex
    cases r1
    obtain ⟨its, r, ht, hz⟩ := I5.list hx
    have hlen := r.length
    show wpAny (model X.prog X.w) X.A (subscriptTail e (.Slice none none (some (.UnaryOp .USub (.Constant (.int 1) k p1) p2)) p3) (.ref a) (.ref s4.heap.objs.size)) (EP X pins σ Q) X.xe { s4 with heap := s4.heap.push { cls := .type "slice", data := .fields #[.none, .none, vs] } }
    refine tail_any (ops := [.ref a, .ref s4.heap.objs.size]) ht.isList.typeIs (PySem.slot_list_getitem.lookup) ?_ (by with_unfolding_all rfl)
    refine wpAny_getItem_list_slice ht.isList (Heap.IsSliceOf.new _ .none .none vs) .none .none ps (by decide) ?_ (by rw [List.size_toArray]; omega)
    rw [PySem.W.krv_pick]
    refine ⟨.ref _, _, I5.laid (t' := s4.toks) (o := .lst xs.reverse) (fun b ob q => Heap.get?_push_of_some _ q) (Nat.le_refl _) ?_, rfl, q _ (I5.hok.fresh (Nat.le_refl _))⟩
    exact ⟨by rw [List.length_reverse]; exact hz, _, 0, r.reverse, Heap.get?_push_size _ rfl⟩
  · subst ex
    cases r1
    obtain ⟨its, r, ht, hz⟩ := I5.tuple hx
    have hlen := r.length
    show wpAny (model X.prog X.w) X.A (subscriptTail e (.Slice none none (some (.UnaryOp .USub (.Constant (.int 1) k p1) p2)) p3) (.ref a) (.ref s4.heap.objs.size)) (EP X pins σ Q) X.xe { s4 with heap := s4.heap.push { cls := .type "slice", data := .fields #[.none, .none, vs] } }
    refine tail_any (ops := [.ref a, .ref s4.heap.objs.size]) ht.typeIs (PyProof.Rows.slot_tuple_getitem.lookup) ?_ (by with_unfolding_all rfl)
    refine HT.getItem_tuple_rev ht (Heap.IsSliceOf.new _ .none .none vs) ps ?_ (by rw [List.size_toArray]; omega)
    refine ⟨.ref _, _, I5.laid (t' := s4.toks) (o := .tup xs.reverse) (fun b ob q => Heap.get?_push_of_some _ q) (Nat.le_refl _) ?_, rfl, q _ (I5.hok.fresh (Nat.le_refl _))⟩
    exact ⟨by rw [List.length_reverse]; exact hz, _, r.reverse, IsTup.new _ _⟩
/-- the items of xs[lo:hi:k] -/
def pickS {α : Type} (xs : List α) (lo hi : Option Int) (k : Int) : List α :=
  (sliceRange (sliceBounds lo hi (some k) xs.length).1 (sliceBounds lo hi (some k) xs.length).2.1 (sliceBounds lo hi (some k) xs.length).2.2).filterMap (xs[·]?)
theorem pickS_vals {xs : List V} {us : List Value} (r : Vals xs us) (lo hi : Option Int) (k : Int) : Vals (pickS xs lo hi k) (pickS us lo hi k) := by
  unfold pickS
  rw [r.length]
  generalize sliceRange _ _ _ = is
  induction is with
  | nil => exact .nil
  | cons i is ih =>
    rw [List.filterMap_cons, List.filterMap_cons]
    cases e : xs[i]? with
    | none => rw [r.none_of e]; exact ih
    | some x => obtain ⟨u, hu, ru⟩ := r.get e; rw [hu]; exact .cons ru ih
theorem slicePick_S (its : List Value) (lo hi : Option Int) (k : Int) : slicePick its.toArray lo hi (some k) = (pickS its lo hi k).toArray := by
  unfold slicePick pickS
  simp
theorem pickS_len (its : List Value) (lo hi : Option Int) (k : Int) : (pickS its lo hi k).length ≤ its.length := by
  have := slicePick_size_le its.toArray lo hi (some k)
  rw [slicePick_S] at this
  simpa using this
/-- xs[lo:hi:k], k a number that stands there -/
def tSlk (K : PySem.W.Frag) (k : Int) (te : TE) (tl th : TO) : TE := fun σ H Q => te σ H fun x H1 => tl σ H1 fun l H2 => th σ H2 fun u H3 => ∃ a xs, x = .ref a ∧ SqL K H3 a xs ∧ k ≠ 0 ∧ ∀ p, H3 p = none → Q (.ref p) (upd H3 p (.lst (pickS xs l u k)))
theorem pe_slk {e : Expr} {lo hi : Option Expr} {te : TE} {tl th : TO} {k : Nat} {n : Nat} {p1 p3 pos : Pos} (he : PE X e te) (hl : PO X lo tl) (hu : PO X hi th) : PE X (.Subscript e (.Slice lo hi (some (.Constant (.int (n : Int)) k p1)) p3) pos) (tSlk X.K (n : Int) te tl th) := by
  refine ⟨fun pins s σ H Q I h => ?_⟩
  refine Subscript_ (thn (he.run pins s σ H _ I h) fun v s1 ⟨x, H1, I1, r1, q1⟩ => ?_)
  have hst : PO X (some (.Constant (.int (n : Int)) k p1)) (tPart (tC (.int (n : Int)))) := po_some pe_int
  refine wpAny_Slice (thn (hl.run pins s1 σ H1 _ I1 q1) fun vl s2 ⟨l, H2, I2, pl, q2⟩ => thn (hu.run pins s2 σ H2 _ I2 q2) fun vu s3 ⟨u, H3, I3, pu, q3⟩ => ?_)
  refine thn (hst.run pins s3 σ H3 (fun o H4 => o = some (n : Int) ∧ H4 = H3) I3 ⟨(n : Int), rfl, rfl, rfl⟩) fun vs s4 ⟨o, H4, I4, ps, eo, e4⟩ => ?_
  subst eo e4
  obtain ⟨a, xs, ex, hx, h0, q⟩ := q3
  have I5 : Inv X pins σ H4 { s4 with heap := s4.heap.push { cls := .type "slice", data := .fields #[vl, vu, vs] } } := I4.kept (t' := s4.toks) fun b ob q => Heap.get?_push_of_some _ q
  subst ex
  cases r1
  obtain ⟨its, r, ht, hz⟩ := I5.list hx
  have hlen := r.length
  show wpAny (model X.prog X.w) X.A (subscriptTail e (.Slice lo hi (some (.Constant (.int (n : Int)) k p1)) p3) (.ref a) (.ref s4.heap.objs.size)) (EP X pins σ Q) X.xe { s4 with heap := s4.heap.push { cls := .type "slice", data := .fields #[vl, vu, vs] } }
  refine tail_any (ops := [.ref a, .ref s4.heap.objs.size]) ht.isList.typeIs (PySem.slot_list_getitem.lookup) ?_ (by with_unfolding_all rfl)
  refine wpAny_getItem_list_slice ht.isList (Heap.IsSliceOf.new _ vl vu vs) pl pu ps (fun e => h0 (Option.some.inj e)) ?_ (by rw [List.size_toArray]; omega)
  rw [slicePick_S]
  refine ⟨.ref _, _, I5.laid (t' := s4.toks) (o := .lst (pickS xs l u n)) (fun b ob q => Heap.get?_push_of_some _ q) (Nat.le_refl _) ?_, rfl, q _ (I5.hok.fresh (Nat.le_refl _))⟩
  have hp := (pickS_vals r l u n).length
  exact ⟨by rw [hp]; exact Nat.le_trans (pickS_len its l u n) (by omega), _, 0, pickS_vals r l u n, Heap.get?_push_size _ rfl⟩
end
end Mi

set_option linter.all false
set_option maxRecDepth 100000
/-! V6: built-in functions and methods by values. -/
namespace Mi
open PySem PySem.Spec L2
open PyProof.Rows hiding St
/-! ### sorting -/
theorem perm_uniq {α : Type} {le : α → α → Prop} (anti : ∀ a b, le a b → le b a → a = b) : ∀ {l m : List α}, l.Pairwise le → m.Pairwise le → l.Perm m → l = m
  | [], m, _, _, p => (List.Perm.nil_eq p)
  | x :: l, [], _, _, p => by have := p.length_eq; simp at this
  | x :: l, y :: m, h1, h2, p => by
    have hx : x = y ∨ x ∈ m := by have := p.mem_iff.mp (List.mem_cons_self (a := x) (l := l)); simpa using this
    have hy : y = x ∨ y ∈ l := by have := p.mem_iff.mpr (List.mem_cons_self (a := y) (l := m)); simpa using this
    have e : x = y := by
      rcases hx with e | hx
      · exact e
      · rcases hy with e | hy
        · exact e.symm
        · exact anti _ _ ((List.pairwise_cons.mp h1).1 y hy) ((List.pairwise_cons.mp h2).1 x hx)
    subst e
    rw [perm_uniq anti (List.pairwise_cons.mp h1).2 (List.pairwise_cons.mp h2).2 (List.Perm.cons_inv p)]
def leS (x y : List Nat) : Prop := ltS y x = false
theorem ltS_irrefl : ∀ x, ltS x x = false
  | [] => rfl
  | a :: x => by simp [ltS, ltS_irrefl x]
theorem ltS_asymm {x y : List Nat} (h : ltS x y = true) : ltS y x = false := by
  have h1 := (ltS_iff x y).mp h
  cases e : ltS y x with
  | false => rfl
  | true => exact absurd ((ltS_iff y x).mp e) (List.lt_asymm h1)
theorem leS_anti {x y : List Nat} (h1 : leS x y) (h2 : leS y x) : x = y := by
  have a1 : ¬ y < x := fun z => by rw [← ltS_iff, h1] at z; cases z
  have a2 : ¬ x < y := fun z => by rw [← ltS_iff, h2] at z; cases z
  exact List.le_antisymm a1 a2
theorem leS_trans {x y z : List Nat} (h1 : leS x y) (h2 : leS y z) : leS x z := by
  have a1 : ¬ y < x := fun z => by rw [← ltS_iff, h1] at z; cases z
  have a2 : ¬ z < y := fun w => by rw [← ltS_iff, h2] at w; cases w
  have a3 : x ≤ z := List.le_trans a1 a2
  unfold leS
  cases e : ltS z x with
  | false => rfl
  | true => exact absurd ((ltS_iff z x).mp e) a3
theorem insS_perm (x : List Nat) : ∀ l, (insS x l).Perm (x :: l)
  | [] => .refl _
  | y :: r => by
    unfold insS
    split
    · exact ((insS_perm x r).cons y).trans (.swap x y r)
    · exact .refl _
theorem sortS_perm : ∀ l, (sortS l).Perm l
  | [] => .refl _
  | x :: r => (insS_perm x (sortS r)).trans ((sortS_perm r).cons x)
theorem insS_sorted (x : List Nat) : ∀ {l}, l.Pairwise leS → (insS x l).Pairwise leS
  | [], _ => by simp [insS]
  | y :: r, h => by
    unfold insS
    split
    · rename_i c
      refine List.pairwise_cons.mpr ⟨fun z hz => ?_, insS_sorted x (List.pairwise_cons.mp h).2⟩
      rcases List.mem_cons.mp ((insS_perm x r).mem_iff.mp hz) with rfl | hz
      · exact ltS_asymm c
      · exact (List.pairwise_cons.mp h).1 z hz
    · rename_i c
      have c' : leS x y := by unfold leS; simpa using c
      refine List.pairwise_cons.mpr ⟨fun z hz => ?_, h⟩
      rcases List.mem_cons.mp hz with rfl | hz
      · exact c'
      · exact leS_trans c' ((List.pairwise_cons.mp h).1 z hz)
theorem sortS_sorted : ∀ l, (sortS l).Pairwise leS
  | [] => .nil
  | x :: r => insS_sorted x (sortS_sorted r)
theorem ltCps_eq : ∀ x y : List Nat, PySem.Spec.ltCps x y = ltS x y
  | [], [] => rfl
  | [], _ :: _ => rfl
  | _ :: _, [] => rfl
  | a :: x, b :: y => by
    simp only [PySem.Spec.ltCps, ltS, ltCps_eq x y]
    rfl
theorem rising_pw : ∀ (ys : List Str) (p : Str), risingS p ys = true → (p :: ys).Pairwise (fun a b => leS a.cps.toList b.cps.toList)
  | [], p, _ => by simp
  | x :: r, p, h => by
    simp only [risingS, Bool.and_eq_true, Bool.not_eq_true', ltCps_eq] at h
    have ih := rising_pw r x h.2
    have hx : leS p.cps.toList x.cps.toList := h.1
    refine List.pairwise_cons.mpr ⟨fun z hz => ?_, ih⟩
    rcases List.mem_cons.mp hz with rfl | hz
    · exact hx
    · exact leS_trans hx ((List.pairwise_cons.mp ih).1 z hz)
theorem sorted_uniq {xs : List (List Nat)} {ys : List Str} (p : ys.Perm (xs.map tS)) (h : sortedS ys = true) : ys = (sortS xs).map tS := by
  have pw : ys.Pairwise (fun a b => leS a.cps.toList b.cps.toList) := by
    cases ys with
    | nil => exact .nil
    | cons a r => exact rising_pw r a h
  refine perm_uniq (le := fun a b : Str => leS a.cps.toList b.cps.toList) (fun a b h1 h2 => ?_) pw ?_ (p.trans ((sortS_perm xs).symm.map tS))
  · have := leS_anti h1 h2
    cases a; cases b
    simpa using this
  · exact List.Pairwise.map tS (fun a b h => by simpa [tS] using h) (sortS_sorted xs)
theorem insI_perm (x : Int) : ∀ l, (insI x l).Perm (x :: l)
  | [] => .refl _
  | y :: r => by
    unfold insI
    split
    · exact ((insI_perm x r).cons y).trans (.swap x y r)
    · exact .refl _
theorem sortI_perm : ∀ l, (sortI l).Perm l
  | [] => .refl _
  | x :: r => (insI_perm x (sortI r)).trans ((sortI_perm r).cons x)
theorem insI_sorted (x : Int) : ∀ {l : List Int}, l.Pairwise (· ≤ ·) → (insI x l).Pairwise (· ≤ ·)
  | [], _ => by simp [insI]
  | y :: r, h => by
    unfold insI
    split
    · rename_i c
      refine List.pairwise_cons.mpr ⟨fun z hz => ?_, insI_sorted x (List.pairwise_cons.mp h).2⟩
      rcases List.mem_cons.mp ((insI_perm x r).mem_iff.mp hz) with rfl | hz
      · omega
      · exact (List.pairwise_cons.mp h).1 z hz
    · refine List.pairwise_cons.mpr ⟨fun z hz => ?_, h⟩
      rcases List.mem_cons.mp hz with rfl | hz
      · omega
      · have := (List.pairwise_cons.mp h).1 z hz; omega
theorem sortI_sorted : ∀ l : List Int, (sortI l).Pairwise (· ≤ ·)
  | [] => .nil
  | x :: r => insI_sorted x (sortI_sorted r)
theorem sortI_uniq {xs ys : List Int} (p : ys.Perm xs) (h : ys.Pairwise (· ≤ ·)) : ys = sortI xs :=
  perm_uniq (fun a b h1 h2 => Int.le_antisymm h1 h2) h (sortI_sorted xs) (p.trans (sortI_perm xs).symm)

section
variable {X : Cx} {W : XK} {fld : String → List String}
theorem vs1 {F : Fx} {ι : List Addr} {H : Hp} {d : D} {xs : List V} (r : RVs F ι H [d] xs) : ∃ v, xs = [v] ∧ RV F ι H d v := by
  cases r with
  | cons a t => cases t; exact ⟨_, rfl, a⟩
theorem vs2 {F : Fx} {ι : List Addr} {H : Hp} {d e : D} {xs : List V} (r : RVs F ι H [d, e] xs) : ∃ v w, xs = [v, w] ∧ RV F ι H d v ∧ RV F ι H e w := by
  cases r with
  | cons a t => obtain ⟨w, rfl, b⟩ := vs1 t; exact ⟨_, _, rfl, a, b⟩
theorem vs0 {F : Fx} {ι : List Addr} {H : Hp} {xs : List V} (r : RVs F ι H [] xs) : xs = [] := by cases r; rfl
theorem CallR.fz {f : Value} {r : List V → Hp → VK → Prop} (h : CallR X f r) : CallR X f (fun xs H Q => r xs H (FzQ X Q)) := fun pins s σ H xs us Q I rx q => wp_fz (h pins s σ H xs us _ I rx q)
theorem len_ok : CallR X (.builtin "len") (rL (fx X fld) W lenB) := by
  rintro pins s σ H xs us Q I r ⟨ι, st, ds, rs, rd, p⟩
  unfold lenB at p
  split at p
  · rename_i d
    obtain ⟨v, rfl, rv⟩ := vs1 rd
    split at p
    · rename_i n hn
      have fin : Q (.int n) H := p.here rs (.int _)
      unfold lenD at hn
      split at hn
      · obtain ⟨rfl, o⟩ := rv.str_inv
        cases hn
        exact call_len pins s σ H _ us Q I r ⟨_, _, rfl, ⟨by rw [tS_length]; exact o.1, (tS_length _).symm⟩, fin⟩
      · split at hn
        · rename_i xs hx
          cases hn
          obtain ⟨a, vs, rfl, q, r2, z⟩ := seq_of rs rv hx
          rcases q with q | q
          · exact call_len pins s σ H _ us Q I r ⟨_, _, rfl, .inl ⟨vs, q.sq, r2.length⟩, fin⟩
          · exact call_len pins s σ H _ us Q I r ⟨_, _, rfl, .inr ⟨vs, q, r2.length⟩, fin⟩
        · split at hn
          · split at hn
            · rename_i kvs hs
              cases hn
              cases rv with
              | ref e =>
                obtain ⟨ks, h1, h2, h3⟩ := rs.at_ e hs
                refine call_lenD pins s σ H _ us Q I r ⟨_, ks, rfl, h1, ?_⟩
                rw [← Paired.length h2]
                exact fin
            · cases hn
          · cases hn
            cases rv with
            | @cd kvs ks a o h1 h2 h3 h4 =>
              obtain ⟨u, rfl, ru⟩ := vals1 r
              cases ru
              refine d_len I (.inr ⟨_, h1⟩) fun t s' I' => ⟨.int ks.length, H, I', ⟨t, rfl⟩, ?_⟩
              rw [← Paired.length h2]
              exact fin
          · cases hn
    · exact p.elim
  · exact p.elim
theorem kit_all : ∀ a ∈ tyNames, ∀ b ∈ tyNames, kitB a b = some (decide (a = b) || (decide (a = "bool") && decide (b = "int"))) := by decide +kernel
theorem tyOf_x {F : Fx} {ι : List Addr} {st : Sto} {H : Hp} {d : D} {v : V} {a : String} (rs : Rs F ι st H) (r : RV F ι H d v) (h : tyOf st d = some a) : TyX F.K H v (.type a) := by
  cases r with
  | non => cases h; exact .base .non
  | bl b => cases h; exact .base (.bl _)
  | int i => cases h; exact .base (.int _)
  | str x o => cases h; exact .base (.str _)
  | tup t _ _ =>
    cases h
    rcases t with (t | ⟨o, t⟩) | ⟨o, its, n, t, c, _⟩
    · exact .base (.tup t)
    · exact .fTuple t
    · exact .kTuple t c
  | cl t _ _ =>
    cases h
    rcases t with ⟨o, t⟩ | ⟨o, its, n, t, c, _⟩
    · exact .base (.frz t)
    · exact .kList t c
  | ref e =>
    simp only [tyOf] at h
    split at h
    · rename_i hs; cases h; obtain ⟨vs, h1, _⟩ := rs.at_ e hs; exact .base (.lst h1)
    · rename_i hs; cases h; obtain ⟨vs, h1, _⟩ := rs.at_ e hs; exact .base (.dK h1)
    · cases h
  | cd h1 _ _ _ => cases h; exact .fDict h1
  | exn _ _ => cases h
  | fn e => cases h
  | ty n => cases h
theorem isi_ok : CallR X (.builtin "isinstance") (rL (fx X fld) W isiB) := by
  rintro pins s σ H xs us Q I r ⟨ι, st, ds, rs, rd, p⟩
  unfold isiB at p
  split at p
  · obtain ⟨v, w, rfl, rv, rw'⟩ := vs2 rd
    cases rw'
    split at p
    · rename_i a ha
      split at p
      · rename_i c
        exact call_isi pins s σ H _ us Q I r ⟨_, _, _, _, _, rfl, .ty _, tyOf_x rs rv ha, kit_ty (kit_all _ c.1 _ c.2), okB_here p rs⟩
      · exact p.elim
    · exact p.elim
  · exact p.elim
theorem int_ok : CallR X (.type "int") (rL (fx X fld) W intB) := by
  rintro pins s σ H xs us Q I r ⟨ι, st, ds, rs, rd, p⟩
  unfold intB at p
  split at p
  · obtain ⟨v, rfl, rv⟩ := vs1 rd
    have := rv.bl_inv; subst this
    exact call_int1 pins s σ H _ us Q I r (.inr ⟨_, rfl, p.here rs (.int _)⟩)
  · obtain ⟨v, rfl, rv⟩ := vs1 rd
    have := rv.int_inv; subst this
    exact call_int1 pins s σ H _ us Q I r (.inl ⟨_, rfl, p.here rs (.int _)⟩)
  · exact p.elim
theorem txtI_tS (i : Int) : Str.ofString (toString i) = tS (txtI i) := Str.ofString_eq_toList _
theorem txtI_ok {i : Int} (h : i.natAbs.log2 < 1920) : StrOk (txtI i) := by
  have e := PySem.int_text_fits h
  rw [txtI_tS, tS_length] at e
  refine ⟨e, fun c hc => ?_⟩
  obtain ⟨k, _, rfl⟩ := List.mem_map.mp hc
  have := k.valid
  simp only [UInt32.isValidChar, Nat.isValidChar] at this
  show k.val.toNat < _
  omega
theorem str_ok : CallR X (.type "str") (rL (fx X fld) W strB) := by
  rintro pins s σ H xs us Q I r ⟨ι, st, ds, rs, rd, p⟩
  unfold strB at p
  split at p
  · obtain ⟨v, rfl, rv⟩ := vs1 rd
    have := rv.int_inv; subst this
    unfold numT at p
    split at p
    · rename_i h
      refine call_str_int pins s σ H _ us Q I r ⟨_, rfl, h, ?_⟩
      rw [txtI_tS]
      exact p.here rs (.str _ (txtI_ok h))
    · exact p.elim
  · rename_i b
    obtain ⟨v, rfl, rv⟩ := vs1 rd
    have := rv.bl_inv; subst this
    obtain ⟨u, rfl, hu⟩ := vals1 r
    obtain rfl : u = Value.bool b := hu
    have e : (if b then ("True" : Str) else "False") = tS (if b = true then [84, 114, 117, 101] else [70, 97, 108, 115, 101]) := by cases b <;> rfl
    refine PySem.P.str_of_bool ⟨.str (tS (if b = true then [84, 114, 117, 101] else [70, 97, 108, 115, 101])), H, I.tok _, ⟨_, by rw [e]⟩, p.here rs (.str _ ?_)⟩
    cases b <;> exact ⟨by rw [sizeLine_eq]; decide, by decide⟩
  · obtain ⟨v, rfl, rv⟩ := vs1 rd
    cases rv
    obtain ⟨u, rfl, hu⟩ := vals1 r
    obtain rfl : u = Value.none := hu
    refine PySem.P.str_of_none ⟨.str (tS [78, 111, 110, 101]), H, I.tok _, ⟨_, rfl⟩, p.here rs (.str _ ⟨by rw [sizeLine_eq]; decide, by decide⟩)⟩
  · exact p.elim
theorem abs_ok : CallR X (.builtin "abs") (rL (fx X fld) W absB) := by
  rintro pins s σ H xs us Q I r ⟨ι, st, ds, rs, rd, p⟩
  unfold absB at p
  split at p
  · obtain ⟨v, rfl, rv⟩ := vs1 rd
    have := rv.int_inv; subst this
    exact call_abs pins s σ H _ us Q I r ⟨_, rfl, p.here rs (.int _)⟩
  · exact p.elim
theorem max_ok (hc : X.calm = true) : CallR X (.builtin "max") (rL (fx X fld) W maxB) := by
  rintro pins s σ H xs us Q I r ⟨ι, st, ds, rs, rd, p⟩
  unfold maxB at p
  split at p
  · obtain ⟨v, w, rfl, rv, rw'⟩ := vs2 rd
    have := rv.int_inv; have := rw'.int_inv; subst_vars
    exact call_max2 hc pins s σ H _ us Q I r ⟨_, _, rfl, p.here rs (.int _)⟩
  · exact p.elim
theorem min_ok (hc : X.calm = true) : CallR X (.builtin "min") (rL (fx X fld) W minB) := by
  rintro pins s σ H xs us Q I r ⟨ι, st, ds, rs, rd, p⟩
  unfold minB at p
  split at p
  · obtain ⟨v, w, rfl, rv, rw'⟩ := vs2 rd
    have := rv.int_inv; have := rw'.int_inv; subst_vars
    exact call_min2 hc pins s σ H _ us Q I r ⟨_, _, rfl, p.here rs (.int _)⟩
  · exact p.elim
theorem all_ok (hc : X.calm = true) : CallR X (.builtin "all") (rL (fx X fld) W allB) := by
  rintro pins s σ H xs us Q I r ⟨ι, st, ds, rs, rd, p⟩
  unfold allB at p
  split at p
  · obtain ⟨v, rfl, rv⟩ := vs1 rd
    split at p
    · rename_i ys hy
      split at p
      · rename_i bs hb
        obtain ⟨a, vs, rfl, l, q, z⟩ := lst_of rs rv hy
        have := blsOf_some hb; subst this
        have := q.bls; subst this
        exact cr_all hc pins s σ H _ us Q I r ⟨a, bs, rfl, l.sq, okB_here p rs⟩
      · exact p.elim
    · exact p.elim
  · exact p.elim
theorem any_ok (hc : X.calm = true) : CallR X (.builtin "any") (rL (fx X fld) W anyB) := by
  rintro pins s σ H xs us Q I r ⟨ι, st, ds, rs, rd, p⟩
  unfold anyB at p
  split at p
  · obtain ⟨v, rfl, rv⟩ := vs1 rd
    split at p
    · rename_i ys hy
      split at p
      · rename_i bs hb
        obtain ⟨a, vs, rfl, l, q, z⟩ := lst_of rs rv hy
        have := blsOf_some hb; subst this
        have := q.bls; subst this
        exact cr_any hc pins s σ H _ us Q I r ⟨a, bs, rfl, l.sq, okB_here p rs⟩
      · exact p.elim
    · exact p.elim
  · exact p.elim
theorem sum_ok (hc : X.calm = true) : CallR X (.builtin "sum") (rL (fx X fld) W sumB) := by
  rintro pins s σ H xs us Q I r ⟨ι, st, ds, rs, rd, p⟩
  unfold sumB at p
  split at p
  · obtain ⟨v, rfl, rv⟩ := vs1 rd
    split at p
    · rename_i ys hy
      split at p
      · rename_i bs hb
        obtain ⟨a, vs, rfl, l, q, z⟩ := lst_of rs rv hy
        have := intsOf_some hb; subst this
        have := q.ints; subst this
        exact cr_sum hc pins s σ H _ us Q I r ⟨a, bs, rfl, l.sq, p.here rs (.int _)⟩
      · exact p.elim
    · exact p.elim
  · exact p.elim
theorem rvs_strs {F : Fx} {ι : List Addr} {H : Hp} : ∀ {xs : List (List Nat)}, (∀ x ∈ xs, StrOk x) → RVs F ι H (xs.map .str) ((xs.map tS).map V.str)
  | [], _ => .nil
  | x :: xs, h => .cons (.str x (h x List.mem_cons_self)) (rvs_strs fun y hy => h y (List.mem_cons_of_mem _ hy))
theorem rvs_ints {F : Fx} {ι : List Addr} {H : Hp} : ∀ {xs : List Int}, RVs F ι H (xs.map .int) (xs.map V.int)
  | [] => .nil
  | x :: xs => .cons (.int x) rvs_ints
theorem keys_of {F : Fx} {ι : List Addr} {H : Hp} : ∀ {kvs : List (D × D)} {ks : List (Key × V)}, RK F ι H kvs ks → RVs F ι H (kvs.map (·.1)) (ks.map fun p => kV p.1)
  | [], _, .nil => .nil
  | p :: kvs, q :: ks, .cons h t => by
    refine .cons ?_ (keys_of t)
    have h1 := h.1
    obtain ⟨d, e⟩ := p
    obtain ⟨k, v⟩ := q
    cases d <;> first | exact h1.elim | skip
    · cases h1; exact .int _
    · obtain ⟨rfl, o⟩ := h1; exact .str _ o
theorem kV_inrs : ∀ {ks : List (Key × V)} {xs : List Str}, (ks.map fun p => kV p.1) = xs.map V.str → ks.map (·.1) = xs.map Sum.inr
  | [], [], _ => rfl
  | [], _ :: _, h => by simp at h
  | _ :: _, [], h => by simp at h
  | (k, v) :: ks, x :: xs, h => by
    simp only [List.map_cons, List.cons.injEq] at h ⊢
    refine ⟨?_, kV_inrs h.2⟩
    cases k with
    | inl i => exact absurd h.1 (by simp [kV])
    | inr y => have := h.1; simp only [kV, V.str.injEq] at this; rw [this]
theorem kV_inls : ∀ {ks : List (Key × V)} {xs : List Int}, (ks.map fun p => kV p.1) = xs.map V.int → ks.map (·.1) = xs.map Sum.inl
  | [], [], _ => rfl
  | [], _ :: _, h => by simp at h
  | _ :: _, [], h => by simp at h
  | (k, v) :: ks, x :: xs, h => by
    simp only [List.map_cons, List.cons.injEq] at h ⊢
    refine ⟨?_, kV_inls h.2⟩
    cases k with
    | inr i => exact absurd h.1 (by simp [kV])
    | inl y => have := h.1; simp only [kV, V.int.injEq] at this; rw [this]
theorem sorted_ok {z : Bool} (hc : X.calm = true) : CallR X (.builtin "sorted") (rL (fx X fld) W (sortedB z)) := by
  rintro pins s σ H xs us Q I r ⟨ι, st, ds, rs, rd, p⟩
  have goS : ∀ {ys : List (List Nat)}, ∀ q : Post (fx X fld) (RV (fx X fld)) Q W ι H (newL z ((sortS ys).map .str) st), (∀ x ∈ ys, StrOk x) →
      ∀ (ws : List Str) (a : Addr), ws.Perm (ys.map tS) → sortedS ws = true → H a = none → FzQ X Q (.ref a) (upd H a (.lst (ws.map V.str))) := fun q ho ws a hp hs ha => by
    rw [sorted_uniq hp hs]
    exact q.lst rs (rvs_strs fun x hx => ho x ((sortS_perm _).mem_iff.mp hx)) ha
  have goI : ∀ {ns : List Int}, ∀ q : Post (fx X fld) (RV (fx X fld)) Q W ι H (newL z ((sortI ns).map .int) st),
      ∀ (ws : List Int) (a : Addr), ws.Perm ns → ws.Pairwise (· ≤ ·) → H a = none → FzQ X Q (.ref a) (upd H a (.lst (ws.map V.int))) := fun q ws a hp hs ha => by
    rw [sortI_uniq hp hs]
    exact q.lst rs rvs_ints ha
  unfold sortedB at p
  split at p
  · obtain ⟨v, rfl, rv⟩ := vs1 rd
    split at p
    · rename_i ys hy
      obtain ⟨a, vs, rfl, l, q, z⟩ := lst_of rs rv hy
      unfold sortedD at p
      split at p
      · rename_i zs hz
        have := strsOf_some hz; subst this
        obtain ⟨rfl, ho⟩ := q.strs
        split at p
        · rename_i hl
          exact CallR.fz cr_sortedS pins s σ H _ us Q I r ⟨a, zs.map tS, rfl, l.sq, by simpa using hl, goS p ho⟩
        · exact p.elim
      · split at p
        · rename_i ns hn
          have := intsOf_some hn; subst this
          have := q.ints; subst this
          split at p
          · rename_i hl
            exact CallR.fz cr_sorted pins s σ H _ us Q I r ⟨a, ns, rfl, l.sq, hl, goI p⟩
          · exact p.elim
        · exact p.elim
    · split at p
      · rename_i kvs hk
        obtain ⟨a, ks, rfl, l, q, z⟩ := dct_of rs rv hk
        have rk := keys_of q
        unfold sortedD at p
        split at p
        · rename_i zs hz
          rw [strsOf_some hz] at rk
          obtain ⟨e, ho⟩ := rk.strs
          split at p
          · rename_i hl
            exact CallR.fz (call_sortedD hc) pins s σ H _ us Q I r ⟨a, ks, zs.map tS, rfl, l, kV_inrs e, by simpa using hl, goS p ho⟩
          · exact p.elim
        · split at p
          · rename_i ns hn
            rw [intsOf_some hn] at rk
            split at p
            · rename_i hl
              exact CallR.fz (call_sortedDI hc) pins s σ H _ us Q I r ⟨a, ks, ns, rfl, l, kV_inls rk.ints, hl, goI p⟩
            · exact p.elim
          · exact p.elim
      · exact p.elim
  · exact p.elim
theorem list_ok {z : Bool} (hc : X.calm = true) : CallR X (.type "list") (rL (fx X fld) W (listB z)) := by
  rintro pins s σ H xs us Q I r ⟨ι, st, ds, rs, rd, p⟩
  unfold listB at p
  split at p
  · obtain ⟨v, rfl, rv⟩ := vs1 rd
    split at p
    · rename_i ys hy
      obtain ⟨a, vs, rfl, l, q, z⟩ := seq_of rs rv hy
      exact CallR.fz call_list_of pins s σ H _ us Q I r ⟨a, vs, rfl, l.elim (fun l => .inl l.sq) .inr, fun b hb => p.lst rs q hb⟩
    · split at p
      · rename_i kvs hk
        obtain ⟨a, ks, rfl, l, q, z⟩ := dct_of rs rv hk
        exact CallR.fz (call_listD hc) pins s σ H _ us Q I r ⟨a, ks, rfl, l, fun b hb => p.lst rs (keys_of q) hb⟩
      · exact p.elim
  · exact p.elim
theorem tuple_ok : CallR X (.type "tuple") (rL (fx X fld) W tupleB) := by
  rintro pins s σ H xs us Q I r ⟨ι, st, ds, rs, rd, p⟩
  unfold tupleB at p
  split at p
  · obtain ⟨v, rfl, rv⟩ := vs1 rd
    split at p
    · rename_i ys hy
      obtain ⟨a, vs, rfl, l, q, z⟩ := seq_of rs rv hy
      rcases l with l | l
      · exact call_tuple_of pins s σ H _ us Q I r ⟨a, vs, rfl, .inl ⟨l.sq, fun b hb => p.tupl rs q z hb⟩⟩
      · exact call_tuple_of pins s σ H _ us Q I r ⟨a, vs, rfl, .inr ⟨l, p.here rs (.tup l q z)⟩⟩
    · exact p.elim
  · exact p.elim
theorem rk_puts {F : Fx} {ι : List Addr} {H : Hp} {d : D} {k : Key} {e : D} {w : V} (hk : RKey d k) (r : RV F ι H e w) {kvs : List (D × D)} {ks : List (Key × V)} (h : RK F ι H kvs ks) : RK F ι H (putK kvs d e) (L2.putK ks k w) := by
  have any : ∀ {kvs : List (D × D)} {ks : List (Key × V)}, RK F ι H kvs ks → (kvs.any fun p => keyEq p.1 d) = ks.any fun kv => decide (kv.1 = k) := by
    intro kvs ks h
    induction h with
    | nil => rfl
    | cons e t ih => rw [List.any_cons, List.any_cons, ih, e.1.eq hk]
  have repl : ∀ {kvs : List (D × D)} {ks : List (Key × V)}, RK F ι H kvs ks → RK F ι H (kvs.map (fun p => if keyEq p.1 d = true then (p.1, e) else p)) (ks.map fun kv => if kv.1 = k then (kv.1, w) else kv) := by
    intro kvs ks h
    induction h with
    | nil => exact .nil
    | cons q t ih =>
      rw [List.map_cons, List.map_cons]
      refine .cons ?_ ih
      rw [q.1.eq hk]
      split
      · rename_i z
        rw [if_pos (by simpa using z)]
        exact ⟨q.1, r⟩
      · rename_i z
        rw [if_neg (by simpa using z)]
        exact q
  have app : ∀ {kvs : List (D × D)} {ks : List (Key × V)}, RK F ι H kvs ks → RK F ι H (kvs ++ [(d, e)]) (ks ++ [(k, w)]) := by
    intro kvs ks h
    induction h with
    | nil => exact .cons ⟨hk, r⟩ .nil
    | cons q t ih => exact .cons q ih
  unfold putK L2.putK
  rw [any h]
  split
  · exact repl h
  · exact app h
theorem putK_len (kvs : List (D × D)) (k v : D) : (putK kvs k v).length ≤ kvs.length + 1 := by
  unfold putK
  split
  · rw [List.length_map]; omega
  · simp
theorem merge_rk {F : Fx} {ι : List Addr} {H : Hp} {xs : List (D × D)} {kvs : List (Key × V)} (r : RK F ι H xs kvs) : ∀ {acc : List (D × D)} {ks : List (Key × V)}, RK F ι H acc ks → RK F ι H (xs.foldl (fun k p => putK k p.1 p.2) acc) (mergeK ks kvs) := by
  induction r with
  | nil => exact fun h => h
  | cons e t ih => exact fun h => ih (rk_puts e.1 e.2 h)
theorem fold_len : ∀ (xs acc : List (D × D)), (xs.foldl (fun k p => putK k p.1 p.2) acc).length ≤ acc.length + xs.length
  | [], acc => Nat.le_refl _
  | p :: xs, acc => by
    have h1 := fold_len xs (putK acc p.1 p.2)
    have h2 := putK_len acc p.1 p.2
    simp only [List.foldl_cons, List.length_cons]
    omega
theorem pairs_rk {F : Fx} {ι : List Addr} {H : Hp} : ∀ {xs : List D} {vs : List V} {ps : List (D × D)}, RVs F ι H xs vs → pairsOf xs = some ps → ∃ (as : List Addr) (kvs : List (Key × V)), vs = as.map V.ref ∧ Paired (fun p kv => SqT F.K H p [kV kv.1, kv.2]) as kvs ∧ RK F ι H ps kvs
  | [], vs, ps, r, h => by
    cases r
    simp only [pairsOf, Option.some.injEq] at h
    subst h
    exact ⟨[], [], rfl, .nil, .nil⟩
  | x :: xs, vs, ps, r, h => by
    unfold pairsOf at h
    split at h
    · rename_i heq; cases heq
    · rename_i k v r' heq
      cases heq
      split at h
      · rename_i hk
        obtain ⟨qs, h1, rfl⟩ := Option.map_eq_some_iff.mp h
        cases r with
        | cons r1 r2 =>
          obtain ⟨as, kvs, rfl, p1, p2⟩ := pairs_rk r2 h1
          cases r1 with
          | @tup _ ws a t rs z =>
            obtain ⟨u, w, rfl, ru, rw'⟩ := vs2 rs
            obtain ⟨key, k1, rfl⟩ := key_of_rv ru hk
            exact ⟨a :: as, (key, w) :: kvs, rfl, .cons t p1, .cons ⟨k1, rw'⟩ p2⟩
      · cases h
    · cases h
theorem pairsOf_len : ∀ {xs : List D} {ps : List (D × D)}, pairsOf xs = some ps → ps.length = xs.length
  | [], ps, h => by simp only [pairsOf, Option.some.injEq] at h; subst h; rfl
  | x :: xs, ps, h => by
    unfold pairsOf at h
    split at h
    · rename_i heq; cases heq
    · rename_i heq
      cases heq
      split at h
      · obtain ⟨qs, h1, rfl⟩ := Option.map_eq_some_iff.mp h
        rw [List.length_cons, List.length_cons, pairsOf_len h1]
      · cases h
    · cases h
theorem dict_ok {z : Bool} (hc : X.calm = true) : CallR X (.type "dict") (rL (fx X fld) W (dictB z)) := by
  rintro pins s σ H xs us Q I r ⟨ι, st, ds, rs, rd, p⟩
  unfold dictB at p
  split at p
  · obtain ⟨v, rfl, rv⟩ := vs1 rd
    split at p
    · rename_i kvs hk
      obtain ⟨a, ks, rfl, l, q, z⟩ := dct_of rs rv hk
      exact CallR.fz call_dictD pins s σ H _ us Q I r ⟨a, ks, rfl, l, fun b hb => p.dct rs q z hb⟩
    · split at p
      · rename_i xs hx
        obtain ⟨a, vs, rfl, l, q, z⟩ := lst_of rs rv hx
        split at p
        · rename_i ps hps
          obtain ⟨as, kvs, rfl, p1, rk⟩ := pairs_rk q hps
          have len : (ps.foldl (fun k p => putK k p.1 p.2) []).length ≤ sizeLine := by
            have h1 := fold_len ps []
            have h2 := pairsOf_len hps
            simp only [List.length_nil] at h1
            omega
          exact CallR.fz (call_dictP hc) pins s σ H _ us Q I r ⟨a, as, kvs, rfl, l.sq, p1, fun b hb => p.dct rs (merge_rk (acc := []) (ks := []) rk .nil) len hb⟩
        · exact p.elim
      · exact p.elim
  · exact p.elim
end
end Mi

set_option linter.all false
set_option maxRecDepth 100000
/-! V7: built-in methods by values. -/
namespace Mi
open PySem PySem.Spec L2
open PyProof.Rows hiding St
section
variable {X : Cx} {W : XK} {fld : String → List String}
theorem append_ok : MtR X "list.append" (rM (fx X fld) W appendM) := by
  rintro pins s σ H x xs v us Q I rx rxs ⟨ι, st, d, ds, rs, rd, rds, p⟩
  unfold appendM at p
  split at p
  · obtain ⟨y, rfl, ry⟩ := vs1 rds
    split at p
    · rename_i ys hs
      cases rd with
      | @ref n a e =>
        obtain ⟨vs, h1, h2, h3⟩ := rs.at_ e hs
        split at p
        · rename_i hl
          have hl' : vs.length < sizeLine := by rw [← h2.length]; exact hl
          refine mt_append pins s σ H _ _ v us Q I rx rxs ⟨a, vs, y, rfl, rfl, h1, hl', ?_⟩
          have k : Keep ι ι H (upd H a (.lst (vs ++ [y]))) := rs.keepSet e
          have r' : RVs (fx X fld) ι (upd H a (.lst (vs ++ [y]))) (ys ++ [_]) (vs ++ [y]) := (h2.append (.one ry)).mono (pre_refl _) k
          exact p ι _ _ (pre_refl _) k (rs.set e ⟨_, upd_same, r', by rw [List.length_append]; exact hl⟩) .non
        · exact p.elim
    · exact p.elim
  · exact p.elim
theorem MtR.fz {id : String} {r : V → List V → Hp → VK → Prop} (h : MtR X id r) : MtR X id (fun x xs H Q => r x xs H (FzQ X Q)) := fun pins s σ H x xs v us Q I rx rxs q => wp_fz (h pins s σ H x xs v us _ I rx rxs q)
/-- xs.extend(ys), ys any list -/
theorem ext_meets (l b : Addr) (xs ys : Array Value) (n m : Nat) (dd : Option Addr) (sl : Array (Option Value)) (big : ¬(!xs.isEmpty && Builtin.List.listTooLong (xs.size + ys.size)) = true) (hx : xs.size ≤ sizeLine) (hy : xs.size + ys.size ≤ sizeLine + 1) :
    Meets (Builtin.«list.extend» ⟨[.ref l, .ref b], []⟩) (fun _ R s => s.heap.get? l = some ⟨.type "list", none, .seq xs n, #[]⟩ ∧ s.heap.get? b = some ⟨.type "list", dd, .seq ys m, sl⟩ ∧ R (.ok (.ret Value.none)) { s with heap := s.heap.update l (Obj.mapSeq fun x => x ++ ys), toks := s.toks }) := by
  refine .of_wp fun prog w A R s h => ?_
  obtain ⟨hp, g, d, tk, os⟩ := s
  obtain ⟨e1, e2, h⟩ := h
  have k1 := AutoSeq1.idx_int
  have k2 := AutoSeq1.sub_tuple_tuple
  have k3 := AutoSeq1.sub_list_list
  have k4 := AutoSeq1.sub_tuple_list
  have k5 := AutoSeq1.sub_list_tuple
  have hz : (xs ++ ys).size ≤ sizeLine + 1 := Array.size_append ▸ hy
  wp_walk using (wpAny_updateSeq e1 rfl (hz := hx) (_hz' := hz)), AutoSeq1.wpAny_loadPart' e1, AutoSeq1.wpAny_loadPart' e2
  exact ⟨_, rfl, h⟩
theorem ext_any : MtR X "list.extend" (fun x vs H Q => ∃ l b xs zs, x = .ref l ∧ vs = [.ref b] ∧ H l = some (.lst xs) ∧ LS X.K H b zs ∧ xs.length + zs.length ≤ sizeLine ∧ Q .non (upd H l (.lst (xs ++ zs)))) := by
  rintro pins s σ H x vs v us Q I rx rv ⟨l, b, xs, zs, rfl, rfl, hH, hB, hz, q⟩
  cases rx
  obtain ⟨u, rfl, ru⟩ := rv.one
  cases ru
  obtain ⟨z, its, n, r, hl, e⟩ := I.lstM hH
  obtain ⟨z2, its2, n2, d2, s2, r2, hl2, e2⟩ := hB.exact I
  have hsz : its.toArray.size + its2.toArray.size ≤ sizeLine := by simp only [List.size_toArray]; omega
  have big : ¬(!its.toArray.isEmpty && Builtin.List.listTooLong (its.toArray.size + its2.toArray.size)) = true := by
    rw [notLongL hsz, Bool.and_false]
    simp
  refine call_meets PySem.F.slot_list_extend ⟨_, e, rfl⟩ PySem.F.entry_list_extend (PySem.F.args_list_extend_2 _ _) (ext_meets l b its.toArray its2.toArray n n2 d2 s2 big (by rw [List.size_toArray]; omega) (by omega)) ⟨e, e2, .non, _, I.lset (its' := its ++ its2) hH e (by simp) (r.append r2) (by rw [List.length_append]; omega), rfl, q⟩
theorem dget_ok (hu : X.A.units + 64 < cLine) : MtR X "dict.get" (rM (fx X fld) W dgetM) := by
  rintro pins s σ H x xs v us Q I rx rxs ⟨ι, st, d, ds, rs, rd, rds, p⟩
  have fin : ∀ {kvs : List (D × D)} {k dd : D} {a : Addr} {ks : List (Key × V)} {key : Key} {w : V}, RK (fx X fld) ι H kvs ks → RKey k key → RV (fx X fld) ι H dd w → Post (fx X fld) (RV (fx X fld)) Q W ι H (.ok ((getK kvs k).getD dd) st) → Q ((valV ks key).getD w) H := by
    intro kvs k dd a ks key w rk hk rw' p
    obtain ⟨g1, g2⟩ := rk_get hk rk
    cases e : getK kvs k with
    | none => rw [g2 e]; rw [e] at p; exact p.here rs rw'
    | some y =>
      obtain ⟨u, u1, u2⟩ := g1 y e
      rw [u1]; rw [e] at p; exact p.here rs u2
  unfold dgetM at p
  split at p
  · obtain ⟨y, rfl, ry⟩ := vs1 rds
    split at p
    · rename_i kvs hk
      split at p
      · rename_i ok
        obtain ⟨a, ks, rfl, h1, h2, h3⟩ := dct_of rs rd hk
        obtain ⟨key, k1, rfl⟩ := key_of_rv ry ok
        obtain ⟨u, rfl, ru⟩ := rxs.one
        cases rx
        exact d_get1 (by omega) I (.inl ⟨ks, key, h1, rfl, rfl⟩) ru fun w' s' I' r' => ⟨_, H, I', r', fin (a := a) h2 k1 .non p⟩
      · exact p.elim
    · exact p.elim
  · obtain ⟨y, z, rfl, ry, rz⟩ := vs2 rds
    split at p
    · rename_i kvs hk
      split at p
      · rename_i ok
        obtain ⟨a, ks, rfl, h1, h2, h3⟩ := dct_of rs rd hk
        obtain ⟨key, k1, rfl⟩ := key_of_rv ry ok
        obtain ⟨u1, u2, rfl, r1, r2⟩ := rxs.two
        cases rx
        exact d_get2 (by omega) I (.inl ⟨ks, key, h1, rfl, rfl⟩) r1 r2 fun w' s' I' r' => ⟨_, H, I', r', fin (a := a) h2 k1 rz p⟩
      · exact p.elim
    · exact p.elim
  · exact p.elim
theorem insert_ok : MtR X "list.insert" (rM (fx X fld) W insertM) := by
  rintro pins s σ H x xs v us Q I rx rxs ⟨ι, st, d, ds, rs, rd, rds, p⟩
  unfold insertM at p
  split at p
  · rename_i n0 i w
    obtain ⟨y, z, rfl, ry, rz⟩ := vs2 rds
    have := ry.int_inv; subst this
    split at p
    · rename_i ys hs
      cases rd with
      | @ref n a e =>
        obtain ⟨vs, h1, h2, h3⟩ := rs.at_ e hs
        split at p
        · rename_i hl
          have hl1 : vs.length < sizeLine := by rw [← h2.length]; exact hl.1
          refine mt_insert pins s σ H _ _ v us Q I rx rxs ⟨a, vs, _, z, rfl, rfl, h1, hl1, hl.2.1, hl.2.2, ?_⟩
          rw [List.append_assoc, List.singleton_append]
          generalize i.toNat = j at p ⊢
          have k : Keep ι ι H (upd H a (.lst (vs.take j ++ z :: vs.drop j))) := rs.keepSet e
          have r' : RVs (fx X fld) ι H (ys.take j ++ w :: ys.drop j) (vs.take j ++ z :: vs.drop j) := (h2.take _).append (.cons rz (h2.drop _))
          refine p ι _ _ (pre_refl _) k (rs.set e ⟨_, upd_same, r'.mono (pre_refl _) k, ?_⟩) .non
          have : (ys.take j ++ w :: ys.drop j).length = ys.length + 1 := by
            rw [List.length_append, List.length_cons, ← Nat.add_assoc, ← List.length_append, List.take_append_drop]
          rw [this]
          exact hl.1
        · exact p.elim
    · exact p.elim
  · exact p.elim
theorem mt_reverse : MtR X "list.reverse" (fun x vs H Q => ∃ (l : Addr) (xs : List V), x = .ref l ∧ vs = [] ∧ H l = some (.lst xs) ∧ Q .non (upd H l (.lst xs.reverse))) := by
  rintro pins s σ H x vs v us Q I rx rv ⟨l, xs, rfl, rfl, hH, q⟩
  cases rx
  have hus := rv.zero
  subst hus
  obtain ⟨z, its, n, r, hl, e⟩ := I.lstM hH
  refine call_meets PySem.F.slot_list_reverse ⟨_, e, rfl⟩ PySem.F.entry_list_reverse (PySem.F.args_list_reverse_1 _) (AutoSeq1.list_reverse_list_0 l its.toArray n (by rw [List.size_toArray]; omega)) ⟨e, ?_⟩
  refine ⟨.non, _, I.lset (its' := its.reverse) hH e (by simp) r.reverse ?_, rfl, q⟩
  rw [List.length_reverse]; omega
theorem reverse_ok : MtR X "list.reverse" (rM (fx X fld) W reverseM) := by
  rintro pins s σ H x xs v us Q I rx rxs ⟨ι, st, d, ds, rs, rd, rds, p⟩
  unfold reverseM at p
  split at p
  · cases rds
    split at p
    · rename_i ys hs
      cases rd with
      | @ref n a e =>
        obtain ⟨vs, h1, h2, h3⟩ := rs.at_ e hs
        refine mt_reverse pins s σ H _ _ v us Q I rx rxs ⟨a, vs, rfl, rfl, h1, ?_⟩
        have k : Keep ι ι H (upd H a (.lst vs.reverse)) := rs.keepSet e
        have r' : RVs (fx X fld) ι (upd H a (.lst vs.reverse)) ys.reverse vs.reverse := (RVs.reverse h2).mono (pre_refl _) k
        exact p ι _ _ (pre_refl _) k (rs.set e ⟨_, upd_same, r', by rw [List.length_reverse]; exact h3⟩) .non
    · exact p.elim
  · exact p.elim
theorem extend_ok : MtR X "list.extend" (rM (fx X fld) W extendM) := by
  rintro pins s σ H x xs v us Q I rx rxs ⟨ι, st, d, ds, rs, rd, rds, p⟩
  unfold extendM at p
  split at p
  · obtain ⟨y, rfl, ry⟩ := vs1 rds
    split at p
    · rename_i ys zs hs hz
      cases rd with
      | @ref n a e =>
        obtain ⟨vs, h1, h2, h3⟩ := rs.at_ e hs
        obtain ⟨b, ws, rfl, g1, g2, g3⟩ := lst_of rs ry hz
        split at p
        · rename_i hl
          refine ext_any pins s σ H _ _ v us Q I rx rxs ⟨a, b, vs, ws, rfl, rfl, h1, g1, by rw [← h2.length, ← g2.length]; exact hl, ?_⟩
          have k : Keep ι ι H (upd H a (.lst (vs ++ ws))) := rs.keepSet e
          exact p ι _ _ (pre_refl _) k (rs.set e ⟨_, upd_same, (h2.append g2).mono (pre_refl _) k, by rw [List.length_append]; exact hl⟩) .non
        · exact p.elim
    · exact p.elim
  · exact p.elim
theorem pop_ok : MtR X "list.pop" (rM (fx X fld) W popM) := by
  rintro pins s σ H x xs v us Q I rx rxs ⟨ι, st, d, ds, rs, rd, rds, p⟩
  unfold popM at p
  split at p
  · obtain ⟨y, rfl, ry⟩ := vs1 rds
    have := ry.int_inv; subst this
    split at p
    · rename_i ys hs
      split at p
      · rename_i j hj
        split at p
        · rename_i q hq
          cases rd with
          | @ref n a e =>
            obtain ⟨vs, h1, h2, h3⟩ := rs.at_ e hs
            obtain ⟨w, w1, w2⟩ := h2.get hq
            rw [h2.length] at hj h3
            obtain ⟨s1, s2, s3, s4⟩ := ixN_seq hj
            have hn := line63
            refine mt_popAt pins s σ H _ _ v us Q I rx rxs ⟨a, vs, _, j, w, rfl, rfl, h1, by omega, by omega, s1, w1, ?_⟩
            have k : Keep ι ι H (upd H a (.lst (vs.eraseIdx j))) := rs.keepSet e
            have hlen : (ys.eraseIdx j).length ≤ sizeLine := Nat.le_trans (List.length_eraseIdx_le _ _) (by rw [h2.length]; exact h3)
            exact p ι _ _ (pre_refl _) k (rs.set e ⟨_, upd_same, (h2.eraseIdx j).mono (pre_refl _) k, hlen⟩) (w2.mono (pre_refl _) k)
        · exact p.elim
      · exact p.elim
    · exact p.elim
  · have := vs0 rds; subst this
    split at p
    · rename_i ys hs
      split at p
      · rename_i q hq
        cases rd with
        | @ref n a e =>
          obtain ⟨vs, h1, h2, h3⟩ := rs.at_ e hs
          obtain ⟨w, w1, w2⟩ := h2.get hq
          rw [h2.length] at w1
          refine mt_pop pins s σ H _ _ v us Q I rx rxs ⟨a, vs, w, rfl, rfl, h1, w1, ?_⟩
          have k : Keep ι ι H (upd H a (.lst vs.dropLast)) := rs.keepSet e
          have e1 : RVs (fx X fld) ι H ys.dropLast vs.dropLast := by
            rw [List.dropLast_eq_take, List.dropLast_eq_take, h2.length]
            exact h2.take _
          exact p ι _ _ (pre_refl _) k (rs.set e ⟨_, upd_same, e1.mono (pre_refl _) k, by rw [List.length_dropLast]; omega⟩) (w2.mono (pre_refl _) k)
      · exact p.elim
    · exact p.elim
  · exact p.elim
theorem sjoin_tS (s : List Nat) : ∀ ys : List (List Nat), Str.join (tS s) (ys.map tS) = tS (joinS s ys)
  | [] => rfl
  | [x] => rfl
  | x :: y :: r => by
    have ih := sjoin_tS s (y :: r)
    show tS x ++ tS s ++ Str.join (tS s) ((y :: r).map tS) = tS (x ++ (s ++ joinS s (y :: r)))
    have assoc : ∀ u v w : List Nat, tS u ++ tS v ++ tS w = tS (u ++ (v ++ w)) := fun u v w => by
      rw [← tS_append, ← tS_append, List.append_assoc]
    rw [ih, assoc]
theorem join_tS (s : List Nat) (ys : List (List Nat)) : Txt.join (tS s) (ys.map tS) = tS (joinS s ys) := by
  rw [TL.join_eq, sjoin_tS]
theorem joinS_mem {s : List Nat} : ∀ {ys : List (List Nat)} {c : Nat}, c ∈ joinS s ys → c ∈ s ∨ ∃ y ∈ ys, c ∈ y
  | [], c, h => by simp [joinS] at h
  | [x], c, h => .inr ⟨x, by simp, h⟩
  | x :: y :: r, c, h => by
    simp only [joinS, List.mem_append] at h
    rcases h with h | h | h
    · exact .inr ⟨x, by simp, h⟩
    · exact .inl h
    · rcases joinS_mem h with h | ⟨z, hz, h⟩
      · exact .inl h
      · exact .inr ⟨z, List.mem_cons_of_mem _ hz, h⟩
theorem join_ok : MtR X "str.join" (rM (fx X fld) W joinM) := by
  rintro pins s σ H x xs v us Q I rx rxs ⟨ι, st, d, ds, rs, rd, rds, p⟩
  unfold joinM at p
  split at p
  · rename_i sS aD
    obtain ⟨y, rfl, ry⟩ := vs1 rds
    obtain ⟨rfl, o⟩ := rd.str_inv
    split at p
    · rename_i ys hs
      split at p
      · rename_i zs hz
        split at p
        · rename_i hl
          obtain ⟨a, vs, rfl, l, q, z⟩ := seq_of rs ry hs
          have := strsOf_some hz; subst this
          obtain ⟨rfl, os⟩ := q.strs
          have hl' : ((zs.map tS).map (·.length)).sum + (zs.map tS).length * (tS sS).length ≤ 16777216 := by
            rw [tS_length, List.length_map, List.map_map]
            have : (fun x : Str => x.length) ∘ tS = List.length := by funext x; exact tS_length x
            rw [this]
            exact hl
          refine mt_join pins s σ H _ _ v us Q I rx rxs ⟨_, a, zs.map tS, rfl, rfl, l.elim (fun l => .inl l.sq) .inr, hl', ?_⟩
          rw [join_tS]
          unfold okS at p
          split at p
          · rename_i hj
            refine p.here rs (.str _ ⟨hj, fun c hc => ?_⟩)
            rcases joinS_mem hc with hc | ⟨y, hy, hc⟩
            · exact o.2 c hc
            · exact (os y hy).2 c hc
          · exact p.elim
        · exact p.elim
      · exact p.elim
    · exact p.elim
  · exact p.elim
/-- the value is of that kind -/
theorem upper_small : ∀ c, c < 128 → Unicode.upperOf c = [upC c] := by decide +kernel
theorem upper_tS {x : List Nat} (h : ∀ c ∈ x, c < 128) : Txt.upper (tS x) = tS (x.map upC) := by
  have e : (x.toArray.mapIdx fun _ c => (Unicode.upperOf c).toArray).flatten = (x.map upC).toArray := by
    apply Array.toList_inj.mp
    rw [Array.toList_flatten, Array.toList_mapIdx]
    show (List.map Array.toList (List.mapIdx (fun _ c => (Unicode.upperOf c).toArray) x)).flatten = x.map upC
    have e2 : List.mapIdx (fun _ c => (Unicode.upperOf c).toArray) x = x.map fun c => (Unicode.upperOf c).toArray := by
      apply List.ext_getElem?; intro i; simp
    rw [e2, List.map_map]
    clear e2
    induction x with
    | nil => rfl
    | cons c x ih =>
      rw [List.map_cons, List.flatten_cons, ih fun d hd => h d (List.mem_cons_of_mem _ hd), List.map_cons]
      show Unicode.upperOf c ++ _ = _
      rw [upper_small c (h c List.mem_cons_self)]
      rfl
  show (⟨_⟩ : Str) = ⟨_⟩
  exact congrArg Str.mk e
theorem upper_ok : MtR X "str.upper" (rM (fx X fld) W upperM) := by
  rintro pins s σ H x xs v us Q I rx rxs ⟨ι, st, d, ds, rs, rd, rds, p⟩
  unfold upperM at p
  split at p
  · cases rds
    obtain ⟨rfl, o⟩ := rd.str_inv
    split at p
    · rename_i hl
      have hc : ∀ c ∈ _, c < 128 := fun c hc => of_decide_eq_true (List.all_eq_true.mp hl.2 c hc)
      refine mt_upper pins s σ H _ _ v us Q I rx rxs ⟨_, rfl, rfl, by rw [tS_length]; omega, ?_⟩
      rw [upper_tS hc]
      refine p.here rs (.str _ ⟨by rw [sizeLine_eq, List.length_map]; omega, fun c hm => ?_⟩)
      obtain ⟨b, hb, rfl⟩ := List.mem_map.mp hm
      have := hc b hb
      unfold upC
      split <;> omega
    · exact p.elim
  · exact p.elim
theorem findIdx_at {α : Type} {p : α → Bool} : ∀ {xs : List α} {j : Nat}, xs.findIdx? p = some j → ∃ z, xs[j]? = some z ∧ p z = true ∧ ∀ m z', m < j → xs[m]? = some z' → p z' = false
  | [], j, h => by simp at h
  | x :: xs, j, h => by
    rw [List.findIdx?_cons] at h
    split at h
    · rename_i hx
      cases h
      exact ⟨x, rfl, hx, fun m z' hm _ => by omega⟩
    · rename_i hx
      obtain ⟨i, hi, rfl⟩ := Option.map_eq_some_iff.mp h
      obtain ⟨z, h1, h2, h3⟩ := findIdx_at hi
      refine ⟨z, by simpa using h1, h2, fun m z' hm hz => ?_⟩
      cases m with
      | zero => simp at hz; subst hz; simpa using hx
      | succ m => exact h3 m z' (by omega) (by simpa using hz)
/-- l.index(y): y no deeper than some -/
theorem index_ok (hu : X.A.units + 64 < cLine) : MtR X "list.index" (rM (fx X fld) W indexM) := by
  rintro pins s σ H x xs v us Q I rx rxs ⟨ι, st, d, ds, rs, rd, rds, p⟩
  unfold indexM at p
  split at p
  · rename_i xs' y hx
    obtain ⟨yv, rfl, ry⟩ := vs1 rds
    split at p
    · rename_i pd ps h1 h2
      split at p
      · rename_i j hj
        obtain ⟨a, vs, rfl, l, hr, hz⟩ := lst_of rs rd hx
        obtain ⟨a1, a2, a3⟩ := toPy_dp rs 59 ry h1
        obtain ⟨b1, b2, b3⟩ := toPys_dp rs 59 hr h2
        obtain ⟨z, hzj, hze, hno⟩ := findIdx_at hj
        have q := p.here rs (.int _)
        cases rx
        cases rxs with
        | cons ru rt =>
          rename_i uy ut
          cases rt
          obtain ⟨bs, r1⟩ := Dp.reads I pd yv uy a1 ru
          have hroom : X.A.units + 1 + min (PyData.depthAll ps) pd.depth < cLine := by have := Nat.min_le_right (PyData.depthAll ps) pd.depth; omega
          obtain ⟨its, rv, ⟨⟨cls, dd, data, sls⟩, n, ho, hc, hdn, hdt⟩, hlen⟩ := I.list l.sq
          simp only at hc hdt
          subst hc hdt
          obtain ⟨as, h4⟩ := Dp.readsAll I ps _ its b1 rv
          have hn : its.length = ps.length := SeqAt.ReadsAll.length ps its as h4
          have hmap : its.map (SeqAt.readOf s.heap) = ps := SeqAt.readsAll_map ps its as b2 h4
          have hvl := rv.length
          have hsl := sizeLine_eq
          obtain ⟨hjd, _⟩ := List.getElem?_eq_some_iff.mp hzj
          have hjs : j < its.toArray.size := by rw [List.size_toArray]; omega
          have at_ : ∀ (m : Nat) (hm : m < its.toArray.size) (z' : PyData), ps[m]? = some z' → SeqAt.readOf s.heap its.toArray[m] = z' := by
            intro m hm z' hz'
            have hml : m < its.length := by simpa using hm
            rw [← hmap, List.getElem?_map, List.getElem?_eq_getElem hml] at hz'
            have e1 : SeqAt.readOf s.heap its[m] = z' := Option.some.inj (show some (SeqAt.readOf s.heap its[m]) = some z' from hz')
            simpa using e1
          refine call_meets PySem.F.slot_list_index ⟨_, ho, rfl⟩ PySem.F.entry_list_index (PySem.F.args_list_index_2 _ _)
            (SeqAt.list_indexAt a its.toArray n dd sls uy (fun u => PyData.eqv (SeqAt.readOf s.heap u) pd) j hjs (by omega) ?_ ?_) ⟨ho, SeqAt.items_eqAt (vs := its.toArray) (show ReadsAll s.heap its.toArray.toList ps as from h4) r1 b2 a2 hroom, ?_⟩
          · show PyData.eqv (SeqAt.readOf s.heap its.toArray[j]) pd = true
            rw [at_ j hjs z hzj]
            exact hze
          · intro m hm hmj
            have hmd : m < ps.length := by omega
            have hz' : ps[m]? = some ps[m] := List.getElem?_eq_getElem hmd
            show PyData.eqv (SeqAt.readOf s.heap its.toArray[m]) pd = false
            rw [at_ m hm _ hz']
            exact hno m _ hmj hz'
          · exact ⟨.int (j : Nat), H, I.tok _, ⟨_, rfl⟩, q⟩
      · exact p.elim
    · exact p.elim
  · exact p.elim
def kdT : Kd → String
  | .str => "str" | .list => "list" | .dict => "dict" | _ => ""
theorem kind_tyV {F : Fx} {ι : List Addr} {st : Sto} {H : Hp} {d : D} {v : V} {k : Kd} (rs : Rs F ι st H) (r : RV F ι H d v) (h : kindOf st d = k) (hk : k = .str ∨ k = .list ∨ k = .dict) (hc : ∀ ks, d ≠ .cd ks) : tyV F.K (kdT k) v H := by
  subst h
  cases r with
  | str x o => exact rfl
  | @ref n a e =>
    simp only [kindOf] at hk ⊢
    split
    · rename_i xs hs
      obtain ⟨vs, h1, _⟩ := rs.at_ e hs
      exact .inl ⟨rfl, vs, SqL.of h1⟩
    · rename_i xs hs
      obtain ⟨vs, h1, _⟩ := rs.at_ e hs
      exact .inr (.inr (.inl ⟨rfl, .inl ⟨vs, h1⟩⟩))
    · rename_i c fs hs
      rw [hs] at hk
      rcases hk with hk | hk | hk <;> cases hk
    · rename_i h1 h2 h3
      exfalso
      revert hk
      split
      · rename_i xs hs; exact absurd hs (h1 xs)
      · rename_i xs hs; exact absurd hs (h2 xs)
      · rename_i c xs hs; exact absurd hs (h3 c xs)
      · rintro (hk | hk | hk) <;> cases hk
  | @cd kvs _ _ _ _ _ _ _ => exact absurd rfl (hc kvs)
  | cl h1 h2 h3 => exact .inl ⟨rfl, _, h1.sq⟩
  | _ => rcases hk with hk | hk | hk <;> cases hk
theorem kind_is {pins : List (Addr × Obj)} {σ : L2.St} {H : Hp} {s : Shared} {ι : List Addr} {st : Sto} {d : D} {x : V} {v : Value} {k : Kd} (I : Inv X pins σ H s) (rx : RelV x v) (rs : Rs (fx X fld) ι st H) (r : RV (fx X fld) ι H d x) (h : kindOf st d = k) (hk : k = .str ∨ k = .list ∨ k = .dict) :
    s.TypeIs v (kdT k) ∧ ∀ a, v = .ref a → ∃ ob, s.heap.get? a = some ob ∧ ob.dict = none := by
  by_cases c : ∃ ks, d = .cd ks
  · obtain ⟨ks, rfl⟩ := c
    cases r with
    | cd h1 _ _ _ =>
      cases rx
      subst h
      obtain ⟨e, _, _, _, _, o, _, _, e2, ex, _⟩ := I.hok _ _ h1
      exact ⟨⟨o, e2, ex.1⟩, fun a z => by cases z; exact ⟨o, e2, ex.2.1⟩⟩
  · exact tyV_is I rx (kind_tyV rs r h hk fun ks z => c ⟨ks, z⟩)
/-- the methods that are known -/
theorem mt_known (hu : X.A.units + 64 < cLine) {z : Bool} {k : Kd} {m : String} (h : mtOk k m = true) : (k = .str ∨ k = .list ∨ k = .dict) ∧ ∃ id, PlainAttrs (kdT k) ∧ Slot (kdT k) (Str.ofString m) id ∧ typeOf (.builtin id) = pure (.type "method_descriptor") ∧ MtR X id (rM (fx X fld) W (methD z k m)) := by
  cases k with
  | list =>
    refine ⟨.inr (.inl rfl), ?_⟩
    have h' : m = "append" ∨ m = "extend" ∨ m = "pop" ∨ m = "insert" ∨ m = "reverse" ∨ m = "index" := by simpa [mtOk] using h
    rcases h' with rfl | rfl | rfl | rfl | rfl | rfl
    · exact ⟨_, PySem.F.plainAttrs_list, PySem.F.slot_list_append, PySem.F.type_list_append, append_ok⟩
    · exact ⟨_, PySem.F.plainAttrs_list, PySem.F.slot_list_extend, PySem.F.type_list_extend, extend_ok⟩
    · exact ⟨_, PySem.F.plainAttrs_list, PySem.F.slot_list_pop, PySem.F.type_list_pop, pop_ok⟩
    · exact ⟨_, PySem.F.plainAttrs_list, PySem.F.slot_list_insert, PySem.F.type_list_insert, insert_ok⟩
    · exact ⟨_, PySem.F.plainAttrs_list, PySem.F.slot_list_reverse, PySem.F.type_list_reverse, reverse_ok⟩
    · exact ⟨_, PySem.F.plainAttrs_list, PySem.F.slot_list_index, PySem.F.type_list_index, index_ok hu⟩
  | str =>
    refine ⟨.inl rfl, ?_⟩
    have h' : m = "join" ∨ m = "upper" := by simpa [mtOk] using h
    rcases h' with rfl | rfl
    · exact ⟨_, PySem.F.plainAttrs_str, PySem.F.slot_str_join, PySem.F.type_str_join, join_ok⟩
    · exact ⟨_, PySem.F.plainAttrs_str, PySem.F.slot_str_upper, PySem.F.type_str_upper, upper_ok⟩
  | dict =>
    refine ⟨.inr (.inr rfl), ?_⟩
    have h' : m = "get" := by simpa [mtOk] using h
    subst h'
    exact ⟨_, PySem.F.plainAttrs_dict, PySem.F.slot_dict_get, PySem.F.type_dict_get, dget_ok hu⟩
  | _ => simp [mtOk] at h
end
end Mi

set_option linter.all false
set_option maxRecDepth 100000
/-! V8: expressions. -/
namespace Mi
open PySem PySem.Spec L2
open PyProof.Rows hiding St
/-- a def's promise by the evaluator -/
def spI (F : Fx) (n : Nat) (run : List D → Sto → R D) : Sp := fun vs H Q E => ∃ ι st ds, Rs F ι st H ∧ RVs F ι H ds vs ∧ ds.length = n ∧ Post F (RV F) Q E ι H (run ds st)
def PlanOk (F : Fx) (pl : List Src) (n m : Nat) (gV : List V → List V → List V) : Prop :=
  ∀ ι H ds vs es zs, RVs F ι H ds vs → RVs F ι H es zs → ds.length = n → es.length = m → RVs F ι H (pl.map (Src.pick ds es)) (gV vs zs)
structure FnFact (X : Cx) (F : Fx) (lv : Nat) (run : List D → Sto → R D) (n : Nat) (ks : List String) (pl : List Src) (a : Addr) : Prop where
  ex : ∃ fd ps g gV, FnOk X.prog X.w X.K X.mg X.base (L2.CX X.prog X.w) lv a fd ps (spI F pl.length run) ∧ KBn X.K fd ps n (ks.map Str.ofString) g gV ∧ PlanOk F pl n ks.length gV
/-- what is known of the module -/
structure Lib (X : Cx) (c : Ctx) (lv : Nat) : Prop where
  glob : ∀ x d, c.g x = some d → ∃ u v, X.mg (Str.ofString x) = some u ∧ RelV v u ∧ ∀ ι H, RV (fx X c.fld) ι H d v
  fn : ∀ f n ks pl, c.plan f n ks = some pl → ∃ a, X.mg (Str.ofString f) = some (.ref a) ∧ PySem.W.keepIn X.K (.ref a) = true ∧ FnFact X (fx X c.fld) lv (c.run f) n ks pl a
  mt : ∀ cl m n ks pl, c.mplan cl m n ks = some pl → ∃ C a, X.mg (Str.ofString cl) = some (.ref C) ∧ Meth X.K C (Str.ofString m) a ∧ m ∉ c.fld cl ∧ FnFact X (fx X c.fld) lv (c.mrun cl m) n ks pl a
  make : ∀ cl n pl, c.makes cl = true → c.mplan cl "__init__" n [] = some pl → ∃ C a, X.mg (Str.ofString cl) = some (.ref C) ∧ Cls X.K C ∧ Mk X.K C a ∧ FnFact X (fx X c.fld) lv (c.mrun cl "__init__") n [] pl a
  rz : ∀ cl, c.rz cl = true → ∃ C, X.mg (Str.ofString cl) = some (.ref C) ∧ PySem.W.excIn X.K C He.veBase "ValueError.__new__" = true ∧ PySem.W.keepIn X.K (.ref C) = true ∧ PySem.W.subIn X.K (.ref C) (.type "BaseException") = some true ∧ PySem.W.typeIn X.K (.ref C) = some (.type "type")
  exm : ∀ e t b, c.exm e t = some b → ∃ D C, X.mg (Str.ofString e) = some (.ref D) ∧ X.mg (Str.ofString t) = some (.ref C) ∧ PySem.W.exmOne X.K (.ref D) (.ref C) = some b
  isx : ∀ e t b, c.isx e t = some b → ∃ D v cv, X.mg (Str.ofString e) = some (.ref D) ∧ ExcC X.K D ∧ RelV v cv ∧ (∀ u, RelV v u → u = cv) ∧ PySem.W.kitOne X.K (.ref D) cv = some b ∧ (X.mg (Str.ofString t) = some cv ∨ (X.mg (Str.ofString t) = none ∧ bootBuiltins (Str.ofString t) = some cv ∧ Str.ofString t ≠ "__name__"))
  noat : ∀ cl C f, X.mg (Str.ofString cl) = some (.ref C) → f ∈ c.fld cl → NoAttr X.K C (Str.ofString f)
  bi : ∀ x, c.bi x = true → X.mg (Str.ofString x) = none
structure Cok (X : Cx) (c : Ctx) (lv : Nat) (W : L2.WX) : Prop where
  calm : X.calm = true
  room : Room (lv + 1) X.A
  nd : X.N.Nodup
  takes : Takes X W
  lib : Lib X c lv
section
variable {X : Cx} {c : Ctx} {lv : Nat} {W : L2.WX}
abbrev FX (X : Cx) (c : Ctx) : Fx := fx X c.fld
/-- value, test -/
abbrev SE (X : Cx) (c : Ctx) (W : L2.WX) (e : Expr) (e' : E) : Prop := PE X e (tE (FX X c) W (evE c e'))
abbrev ST (X : Cx) (c : Ctx) (W : L2.WX) (e : Expr) (e' : E) : Prop := PT X e (tT (FX X c) W (evE c e'))
abbrev SL (X : Cx) (c : Ctx) (W : L2.WX) (es : List Expr) (es' : List E) : Prop := PA X es (tL (FX X c) W (evEs c es'))
theorem s_var {x : Str} {i : Nat} {pos : Pos} (hN : X.N[i]? = some x) (hv : Vis X.env.scope x) (h1 : (x == ("__debug__" : Str)) = false) (h2 : (x == ("__classdict__" : Str)) = false) : SE X c W (.Name x pos) (.var i) := by
  refine PE.imp (pe_var hN hv h1 h2) ?_
  rintro σ H Q ⟨ι, st, env, rs, re, p⟩
  simp only [evE] at p
  split at p
  · rename_i d hd
    obtain ⟨v, h3, h4⟩ := re.slot i d hd
    exact ⟨v, h3, p.here rs h4⟩
  · exact p.elim
theorem s_non {j pos} : SE X c W (.Constant .none j pos) .non := PE.imp pe_non (by rintro σ H Q ⟨ι, st, env, rs, re, p⟩; exact Post.here (by simpa only [evE] using p) rs .non)
theorem s_bl {b j pos} : SE X c W (.Constant (.bool b) j pos) (.bl b) := PE.imp pe_bl (by rintro σ H Q ⟨ι, st, env, rs, re, p⟩; exact Post.here (by simpa only [evE] using p) rs (.bl b))
theorem s_int {i j pos} : SE X c W (.Constant (.int i) j pos) (.int i) := PE.imp pe_int (by rintro σ H Q ⟨ι, st, env, rs, re, p⟩; exact Post.here (by simpa only [evE] using p) rs (.int i))
theorem s_str {x : Str} {j pos} (o : StrOk x.cps.toList) : SE X c W (.Constant (.str x) j pos) (.str x.cps.toList) :=
  PE.imp pe_str (by
    rintro σ H Q ⟨ι, st, env, rs, re, p⟩
    simp only [evE] at p
    have e : tS x.cps.toList = x := by cases x; simp [tS]
    have := p.here rs (.str _ o)
    rw [e] at this
    exact this)
theorem s_glob (C : Cok X c lv W) {x : String} {pos : Pos} (hg : Gl X (Str.ofString x)) (hd : (Str.ofString x == ("__debug__" : Str)) = false) : SE X c W (.Name (Str.ofString x) pos) (.glob x) := by
  cases hx : c.g x with
  | none =>
    refine ⟨fun pins s σ H Q I => ?_⟩
    rintro ⟨ι, st, env, rs, re, p⟩
    simp only [evE, hx] at p
    exact p.elim
  | some d =>
    obtain ⟨u, v, h1, h2, h3⟩ := C.lib.glob x d hx
    refine PE.imp (pe_glob hg h1 h2 hd) ?_
    rintro σ H Q ⟨ι, st, env, rs, re, p⟩
    simp only [evE, hx] at p
    exact p.here rs (h3 ι H)
theorem s_ty {x : Str} {n : String} {pos : Pos} (hg : Gl X x) (hm : X.mg x = none) (hv : bootBuiltins x = some (.type n)) (hn : x ≠ "__name__") (hd : (x == ("__debug__" : Str)) = false) : SE X c W (.Name x pos) (.ty n) := by
  refine PE.imp (pe_bltn (v := .ty n) hg hm hv rfl hn hd) ?_
  rintro σ H Q ⟨ι, st, env, rs, re, p⟩
  simp only [evE] at p
  exact p.here rs (.ty n)
theorem OpR.exW {f : Value → Value → Sem Value} {F : Fx} {g : D → D → Sto → R D} (h : ∀ W : XK, OpR X f (r2 F W g)) : OpR X f (fun x y H Q => ∃ W, r2 F W g x y H Q) := fun pins s σ H x y v u Q I rx ry ⟨W, q⟩ => h W pins s σ H x y v u Q I rx ry q
/-- two in a row -/
theorem two {a b : E} {g : D → D → Sto → R D} {σ : St} {H : Hp} {Q : VK} {m : Env → Sto → R D} (hm : ∀ env st, m env st = (evE c a env st).bind fun x st => (evE c b env st).bind fun y st => g x y st)
    (h : tE (FX X c) W m σ H Q) : tE (FX X c) W (evE c a) σ H fun x H1 => tE (FX X c) W (evE c b) σ H1 fun y H2 => ∃ W', r2 (FX X c) W' g x y H2 Q := by
  obtain ⟨ι, st, env, rs, re, p⟩ := h
  rw [hm] at p
  refine ⟨ι, st, env, rs, re, p.bind.imp ?_⟩
  rintro x H1 ⟨ι1, st1, d1, p1, k1, rs1, rd1, q1⟩
  refine ⟨ι1, st1, env, rs1, re.mono p1 k1, q1.bind.imp ?_⟩
  rintro y H2 ⟨ι2, st2, d2, p2, k2, rs2, rd2, q2⟩
  exact ⟨_, ι2, st2, d1, d2, rs2, rd1.mono p2 k2, rd2, q2⟩
theorem s_bin {z : Bool} {op : Operator} {a b : Expr} {a' b' : E} {pos : Pos} (ha : SE X c W a a') (hb : SE X c W b b') : SE X c W (.BinOp a op b pos) (.bin z op a' b') :=
  PE.imp (pe_op (OpR.exW fun W => bin_ok (fld := c.fld) z op) ha hb) fun σ H Q h => two (fun env st => by simp only [evE]) h
theorem s_cmp (C : Cok X c lv W) {op : CmpOp} {a b : Expr} {a' b' : E} {pos : Pos} (ha : SE X c W a a') (hb : SE X c W b b') (hm : behindInMarks op b = false) : SE X c W (.Compare a [op] [b] pos) (.cmp op a' b') :=
  PE.imp (pe_cmpR (OpR.exW fun W => cmp_ok (fld := c.fld) C.room.units op) ha hb hm) fun σ H Q h => two (fun env st => by simp only [evE]) h
theorem st_cmp (C : Cok X c lv W) {op : CmpOp} {a b : Expr} {a' b' : E} {pos : Pos} (ha : SE X c W a a') (hb : SE X c W b b') (hm : behindInMarks op b = false) : ST X c W (.Compare a [op] [b] pos) (.cmp op a' b') :=
  PT.imp (pt_cmpR (OpR.exW fun W => cmp_ok (fld := c.fld) C.room.units op) ha hb hm) fun σ H Q h => two (m := evE c (.cmp op a' b')) (fun env st => by simp only [evE]) h
theorem chain {op op' : CmpOp} {a b e : E} {σ : St} {H : Hp} {Q : VK} (h : tE (FX X c) W (evE c (.cmp2 op op' a b e)) σ H Q) :
    tChain (fun x y H Q => ∃ W, r2 (FX X c) W (cmpD op) x y H Q) (fun x y H Q => ∃ W, r2 (FX X c) W (cmpD op') x y H Q) (tE (FX X c) W (evE c a)) (tE (FX X c) W (evE c b)) (tE (FX X c) W (evE c e)) σ H Q := by
  obtain ⟨ι, st, env, rs, re, p⟩ := h
  simp only [evE] at p
  refine ⟨ι, st, env, rs, re, p.bind.imp ?_⟩
  rintro x H1 ⟨ι1, st1, d1, p1, k1, rs1, rd1, q1⟩
  refine ⟨ι1, st1, env, rs1, re.mono p1 k1, q1.bind.imp ?_⟩
  rintro y H2 ⟨ι2, st2, d2, p2, k2, rs2, rd2, q2⟩
  refine ⟨_, ι2, st2, d1, d2, rs2, rd1.mono p2 k2, rd2, q2.bind.imp ?_⟩
  rintro z H3 ⟨ι3, st3, d3, p3, k3, rs3, rd3, q3⟩
  split at q3
  · cases rd3
    refine ⟨true, rfl, ?_⟩
    rw [if_pos rfl]
    refine ⟨ι3, st3, env, rs3, (re.mono p1 k1).mono (p2.trans p3) (k2.trans k3), q3.bind.imp ?_⟩
    rintro w H4 ⟨ι4, st4, d4, p4, k4, rs4, rd4, q4⟩
    exact ⟨_, ι4, st4, d2, d4, rs4, rd2.mono (p3.trans p4) (k3.trans k4), rd4, q4⟩
  · cases rd3
    refine ⟨false, rfl, ?_⟩
    rw [if_neg Bool.false_ne_true]
    exact q3.here rs3 (.bl false)
  · exact q3.elim
theorem s_cmp2 (C : Cok X c lv W) {op op' : CmpOp} {a b e : Expr} {a' b' e' : E} {pos : Pos} (ha : SE X c W a a') (hb : SE X c W b b') (he : SE X c W e e') (hm : lastMarks [op, op'] [b, e] = false) : SE X c W (.Compare a [op, op'] [b, e] pos) (.cmp2 op op' a' b' e') :=
  PE.imp (pe_chain (OpR.exW fun W => cmp_ok (fld := c.fld) C.room.units op) (OpR.exW fun W => cmp_ok (fld := c.fld) C.room.units op') ha hb he hm) fun σ H Q h => chain h
theorem st_cmp2 (C : Cok X c lv W) {op op' : CmpOp} {a b e : Expr} {a' b' e' : E} {pos : Pos} (ha : SE X c W a a') (hb : SE X c W b b') (he : SE X c W e e') (hm : lastMarks [op, op'] [b, e] = false) : ST X c W (.Compare a [op, op'] [b, e] pos) (.cmp2 op op' a' b' e') :=
  PT.imp (pt_chain (OpR.exW fun W => cmp_ok (fld := c.fld) C.room.units op) (OpR.exW fun W => cmp_ok (fld := c.fld) C.room.units op') ha hb he hm) fun σ H Q h => chain h
/-- one step behind another -/
theorem thenE {a : E} {g : D → Sto → R D} {σ : St} {H : Hp} {Q : VK} {m : Env → Sto → R D} (hm : ∀ env st, m env st = (evE c a env st).bind g) (h : tE (FX X c) W m σ H Q) :
    tE (FX X c) W (evE c a) σ H fun x H1 => ∃ ι1 st1 d, Rs (FX X c) ι1 st1 H1 ∧ RV (FX X c) ι1 H1 d x ∧ Post (FX X c) (RV (FX X c)) Q (fun c d H' => W c d σ H') ι1 H1 (g d st1) := by
  obtain ⟨ι, st, env, rs, re, p⟩ := h
  rw [hm] at p
  refine ⟨ι, st, env, rs, re, p.bind.imp ?_⟩
  rintro x H1 ⟨ι1, st1, d1, p1, k1, rs1, rd1, q1⟩
  exact ⟨ι1, st1, d1, rs1, rd1, q1⟩
theorem s_neg {a : Expr} {a' : E} {pos : Pos} (ha : SE X c W a a') : SE X c W (.UnaryOp .USub a pos) (.neg a') := by
  refine PE.imp (pe_un un_neg ha) fun σ H Q h => ?_
  refine (thenE (a := a') (fun env st => by first | (simp only [evE]; done) | (simp only [evE]; rfl)) h).imp fun ι h => ?_
  obtain ⟨st, env, rs, re, p⟩ := h
  refine ⟨st, env, rs, re, p.imp ?_⟩
  rintro x H1 ⟨ι1, st1, d, rs1, rd, q⟩
  split at q
  · have := rd.int_inv; subst this
    exact ⟨_, rfl, q.here rs1 (.int _)⟩
  · exact q.elim
theorem s_not {a : Expr} {a' : E} {pos : Pos} (ha : SE X c W a a') : SE X c W (.UnaryOp .Not a pos) (.not a') := by
  refine PE.imp (pe_not ha) fun σ H Q h => ?_
  refine (thenE (a := a') (fun env st => by first | (simp only [evE]; done) | (simp only [evE]; rfl)) h).imp fun ι h => ?_
  obtain ⟨st, env, rs, re, p⟩ := h
  refine ⟨st, env, rs, re, p.imp ?_⟩
  rintro x H1 ⟨ι1, st1, d, rs1, rd, q⟩
  split at q
  · have := rd.bl_inv; subst this
    exact ⟨_, rfl, q.here rs1 (.bl _)⟩
  · exact q.elim
theorem st_not {a : Expr} {a' : E} {pos : Pos} (ha : ST X c W a a') : ST X c W (.UnaryOp .Not a pos) (.not a') := by
  refine PT.imp (pt_not ha) fun σ H Q h => ?_
  refine (thenE (a := a') (fun env st => by first | (simp only [evE]; done) | (simp only [evE]; rfl)) h).imp fun ι h => ?_
  obtain ⟨st, env, rs, re, p⟩ := h
  refine ⟨st, env, rs, re, p.imp ?_⟩
  rintro x H1 ⟨ι1, st1, d, rs1, rd, q⟩
  split at q
  · have := rd.bl_inv; subst this
    obtain ⟨b', e, q'⟩ := q.here rs1 (.bl _)
    cases e
    exact ⟨_, rfl, q'⟩
  · exact q.elim
/-- a test's continuation -/
theorem testE {t a b : E} {m : Env → Sto → R D} {σ : St} {H : Hp} {Q : VK}
    (hm : ∀ env st, m env st = (evE c t env st).bind fun x st => (match x with | .bl true => evE c a env st | .bl false => evE c b env st | _ => .no)) (h : tE (FX X c) W m σ H Q) :
    tT (FX X c) W (evE c t) σ H fun k H1 => if k = true then tE (FX X c) W (evE c a) σ H1 Q else tE (FX X c) W (evE c b) σ H1 Q := by
  obtain ⟨ι, st, env, rs, re, p⟩ := h
  rw [hm] at p
  refine ⟨ι, st, env, rs, re, p.bind.imp ?_⟩
  rintro x H1 ⟨ι1, st1, d1, p1, k1, rs1, rd1, q1⟩
  split at q1
  · have := rd1.bl_inv; subst this
    exact ⟨true, rfl, iteT ⟨ι1, st1, env, rs1, re.mono p1 k1, q1⟩⟩
  · have := rd1.bl_inv; subst this
    exact ⟨false, rfl, iteF ⟨ι1, st1, env, rs1, re.mono p1 k1, q1⟩⟩
  · exact q1.elim
theorem s_ite {t a b : Expr} {t' a' b' : E} {pos : Pos} (ht : ST X c W t t') (ha : SE X c W a a') (hb : SE X c W b b') : SE X c W (.IfExp t a b pos) (.ite t' a' b') :=
  PE.imp (pe_ifExp ht ha hb) fun σ H Q h => testE (fun env st => by first | (simp only [evE]; done) | (simp only [evE]; rfl)) h
theorem st_ite {t a b : Expr} {t' a' b' : E} {pos : Pos} (ht : ST X c W t t') (ha : ST X c W a a') (hb : ST X c W b b') : ST X c W (.IfExp t a b pos) (.ite t' a' b') := by
  refine ⟨fun pins s σ H Q I h => ?_⟩
  have h' := testE (X := X) (c := c) (W := W) (t := t') (a := a') (b := b') (m := evE c (.ite t' a' b')) (fun env st => by first | (simp only [evE]; done) | (simp only [evE]; rfl)) (show tE (FX X c) W (evE c (.ite t' a' b')) σ H (fun v H' => ∃ b, v = .bl b ∧ Q b H') from h)
  show wpAny _ _ (do if ← isTrue t X.env (eval t X.env) then isTrue a X.env (eval a X.env) else isTrue b X.env (eval b X.env)) _ _ _
  refine wpAny_bind (thn (ht.run pins s σ H _ I h') fun k s1 ⟨H1, I1, q⟩ => ?_)
  cases k with
  | true => exact ha.run pins s1 σ H1 Q I1 (by rw [if_pos rfl] at q; exact q)
  | false => exact hb.run pins s1 σ H1 Q I1 (by rw [if_neg Bool.false_ne_true] at q; exact q)
theorem s_and {a b : Expr} {rest : List Expr} {a' b' : E} {pos : Pos} (ha : SE X c W a a') (hb : SE X c W (.BoolOp .And (b :: rest) pos) b') : SE X c W (.BoolOp .And (a :: b :: rest) pos) (.and a' b') := by
  refine PE.imp (pe_and ha hb) fun σ H Q h => ?_
  obtain ⟨ι, st, env, rs, re, p⟩ := h
  simp only [evE] at p
  refine ⟨ι, st, env, rs, re, p.bind.imp ?_⟩
  rintro x H1 ⟨ι1, st1, d1, p1, k1, rs1, rd1, q1⟩
  split at q1
  · have := rd1.bl_inv; subst this
    exact ⟨true, rfl, iteT ⟨ι1, st1, env, rs1, re.mono p1 k1, q1⟩⟩
  · have := rd1.bl_inv; subst this
    exact ⟨false, rfl, iteF (q1.here rs1 (.bl false))⟩
  · exact q1.elim
theorem s_or {a b : Expr} {rest : List Expr} {a' b' : E} {pos : Pos} (ha : SE X c W a a') (hb : SE X c W (.BoolOp .Or (b :: rest) pos) b') : SE X c W (.BoolOp .Or (a :: b :: rest) pos) (.or a' b') := by
  refine PE.imp (pe_or ha hb) fun σ H Q h => ?_
  obtain ⟨ι, st, env, rs, re, p⟩ := h
  simp only [evE] at p
  refine ⟨ι, st, env, rs, re, p.bind.imp ?_⟩
  rintro x H1 ⟨ι1, st1, d1, p1, k1, rs1, rd1, q1⟩
  split at q1
  · have := rd1.bl_inv; subst this
    exact ⟨false, rfl, iteF ⟨ι1, st1, env, rs1, re.mono p1 k1, q1⟩⟩
  · have := rd1.bl_inv; subst this
    exact ⟨true, rfl, iteT (q1.here rs1 (.bl true))⟩
  · exact q1.elim
abbrev SW (X : Cx) (c : Ctx) (W : L2.WX) (e : Expr) (e' : E) : Prop := PW X e (tT (FX X c) W (evE c e'))
theorem PW.imp {e : Expr} {t t' : TT} (h : PW X e t) (f : ∀ σ H Q, t' σ H Q → t σ H Q) : PW X e t' := ⟨fun w pins s σ H Q I q => h.run w pins s σ H Q I (f _ _ _ q)⟩
theorem sw_and {a b : Expr} {rest : List Expr} {a' b' : E} {pos : Pos} (ha : ST X c W a a') (hb : SW X c W (.BoolOp .And (b :: rest) pos) b') : SW X c W (.BoolOp .And (a :: b :: rest) pos) (.and a' b') := by
  refine PW.imp (pw_and ha hb) fun σ H Q h => ?_
  obtain ⟨ι, st, env, rs, re, p⟩ := h
  simp only [evE] at p
  refine ⟨ι, st, env, rs, re, p.bind.imp ?_⟩
  rintro x H1 ⟨ι1, st1, d1, p1, k1, rs1, rd1, q1⟩
  split at q1
  · have := rd1.bl_inv; subst this
    exact ⟨true, rfl, iteT ⟨ι1, st1, env, rs1, re.mono p1 k1, q1⟩⟩
  · have := rd1.bl_inv; subst this
    obtain ⟨k, e, q⟩ := q1.here rs1 (.bl false)
    cases e
    exact ⟨false, rfl, iteF q⟩
  · exact q1.elim
theorem sw_or {a b : Expr} {rest : List Expr} {a' b' : E} {pos : Pos} (ha : ST X c W a a') (hb : SW X c W (.BoolOp .Or (b :: rest) pos) b') : SW X c W (.BoolOp .Or (a :: b :: rest) pos) (.or a' b') := by
  refine PW.imp (pw_or ha hb) fun σ H Q h => ?_
  obtain ⟨ι, st, env, rs, re, p⟩ := h
  simp only [evE] at p
  refine ⟨ι, st, env, rs, re, p.bind.imp ?_⟩
  rintro x H1 ⟨ι1, st1, d1, p1, k1, rs1, rd1, q1⟩
  split at q1
  · have := rd1.bl_inv; subst this
    exact ⟨false, rfl, iteF ⟨ι1, st1, env, rs1, re.mono p1 k1, q1⟩⟩
  · have := rd1.bl_inv; subst this
    obtain ⟨k, e, q⟩ := q1.here rs1 (.bl true)
    cases e
    exact ⟨true, rfl, iteT q⟩
  · exact q1.elim
/-- .. a list of them -/
theorem sl_nil : SL X c W [] [] := PA.imp pa_nil (by rintro σ H Q ⟨ι, st, env, rs, re, p⟩; simp only [evEs] at p; exact p ι H _ (pre_refl _) (Keep.refl _) rs .nil)
theorem sl_cons {e : Expr} {es : List Expr} {e' : E} {es' : List E} (h : SE X c W e e') (hs : SL X c W es es') (hst : starEach (e :: es) X.env = (false, eval e X.env) :: starEach es X.env) : SL X c W (e :: es) (e' :: es') := by
  refine PA.imp (pa_cons h hs hst) ?_
  rintro σ H Q ⟨ι, st, env, rs, re, p⟩
  simp only [evEs] at p
  refine ⟨ι, st, env, rs, re, p.bind.imp ?_⟩
  rintro x H1 ⟨ι1, st1, d1, p1, k1, rs1, rd1, q1⟩
  refine ⟨ι1, st1, env, rs1, re.mono p1 k1, (Post.bind (RA := RVs (FX X c)) q1).imp ?_⟩
  rintro y H2 ⟨ι2, st2, d2, p2, k2, rs2, rd2, q2⟩
  exact q2 ι2 H2 _ (pre_refl _) (Keep.refl _) rs2 (.cons (rd1.mono p2 k2) rd2)
theorem listE {es : List E} {g : List D → Sto → R D} {σ : St} {H : Hp} {Q : VK} {m : Env → Sto → R D} (hm : ∀ env st, m env st = (evEs c es env st).bind g) (h : tE (FX X c) W m σ H Q) :
    tL (FX X c) W (evEs c es) σ H fun xs H1 => ∃ ι1 st1 ds, Rs (FX X c) ι1 st1 H1 ∧ RVs (FX X c) ι1 H1 ds xs ∧ Post (FX X c) (RV (FX X c)) Q (fun c d H' => W c d σ H') ι1 H1 (g ds st1) := by
  obtain ⟨ι, st, env, rs, re, p⟩ := h
  rw [hm] at p
  refine ⟨ι, st, env, rs, re, (Post.bind (RA := RVs (FX X c)) p).imp ?_⟩
  rintro x H1 ⟨ι1, st1, d1, p1, k1, rs1, rd1, q1⟩
  exact ⟨ι1, st1, d1, rs1, rd1, q1⟩
theorem s_lst {z : Bool} {es : List Expr} {es' : List E} {pos : Pos} (h : SL X c W es es') : SE X c W (.List es pos) (.lst z es') := by
  refine PE.imp (PE.fz (pe_lst h)) fun σ H Q q => ?_
  obtain ⟨ι, st, env, rs, re, p⟩ := listE (es := es') (fun env st => by first | (simp only [evE]; done) | (simp only [evE]; rfl)) q
  refine ⟨ι, st, env, rs, re, p.imp ?_⟩
  rintro xs H1 ⟨ι1, st1, ds, rs1, rd, q⟩
  exact ⟨by rw [← rd.length]; exact newL_ok q, fun a ha => q.lst rs1 rd ha⟩
theorem s_rep (C : Cok X c lv W) {z : Bool} {es : List Expr} {es' : List E} {n : Expr} {n' : E} {pos p2 : Pos} (h : SL X c W es es') (hn : SE X c W n n') : SE X c W (.BinOp (.List es p2) .Mult n pos) (.rep z es' n') := by
  refine PE.imp (PE.fz (pe_op op_rep (pe_lst h) hn)) fun σ H Q q => ?_
  obtain ⟨ι, st, env, rs, re, p⟩ := q
  simp only [evE] at p
  refine ⟨ι, st, env, rs, re, (Post.bind (RA := RVs (FX X c)) p).imp ?_⟩
  rintro xs H1 ⟨ι1, st1, ds, p1, k1, rs1, rd, q⟩
  split at q
  · rename_i hz
    refine ⟨by rw [← rd.length]; exact hz, fun a ha => ?_⟩
    have k2 : Keep ι1 ι1 H1 (upd H1 a (.lst xs)) := Keep.side ha
    have hna := rs1.fresh ha
    refine ⟨ι1, st1, env, rs1.tup ha, (re.mono p1 k1).mono (pre_refl _) k2, (Post.bind (RA := RV (FX X c)) (q.mono (pre_refl _) k2)).imp ?_⟩
    rintro y H3 ⟨ι3, st3, b, p3, k3, rs3, rb, q3⟩
    obtain ⟨k, rfl, h1, h2, h3, h4, h5⟩ := rep_run rs3 ((rd.mono (pre_refl _) k2).mono p3 k3) rb q3
    exact ⟨a, k, xs, rfl, rfl, k3.out _ _ hna upd_same, h3, h4, h2, h5⟩
  · exact q.elim
theorem s_rev {z : Bool} {a : Expr} {a' : E} {k : Nat} {p1 p2 p3 pos : Pos} (ha : SE X c W a a') : SE X c W (.Subscript a (.Slice none none (some (.UnaryOp .USub (.Constant (.int 1) k p1) p2)) p3) pos) (.rev z a') := by
  refine PE.imp (PE.fz (pe_revA ha)) fun σ H Q q => ?_
  obtain ⟨ι, st, env, rs, re, p⟩ := thenE (a := a') (fun env st => by first | (simp only [evE]; done) | (simp only [evE]; rfl)) q
  refine ⟨ι, st, env, rs, re, p.imp ?_⟩
  rintro x H1 ⟨ι1, st1, d, rs1, rd, q⟩
  unfold revD at q
  split at q
  · cases rd with
    | tup h1 h2 h3 => exact .inr ⟨_, _, rfl, h1, fun p hp => FzQ.now (q.tupl rs1 h2.reverse (by rw [List.length_reverse]; exact h3) hp)⟩
  · split at q
    · rename_i xs hx
      obtain ⟨b, vs, rfl, l, r, hz⟩ := lst_of rs1 rd hx
      exact .inl ⟨b, vs, rfl, l.sq, fun p hp => q.lst rs1 r.reverse hp⟩
    · exact q.elim
theorem fm_congr {α β : Type} {f g : α → Option β} : ∀ {is : List α}, (∀ k ∈ is, f k = g k) → is.filterMap f = is.filterMap g
  | [], _ => rfl
  | i :: is, h => by rw [List.filterMap_cons, List.filterMap_cons, h i List.mem_cons_self, fm_congr fun k hk => h k (List.mem_cons_of_mem _ hk)]
theorem pick_from0 {α : Type} (xs : List α) : pickS xs none none 2 = each 2 xs := by
  unfold pickS each
  have e : (sliceBounds none none (some 2) xs.length) = (0, (xs.length : Int), 2) := rfl
  rw [e]
  unfold sliceRange
  have e2 : ((if (2 : Int) > 0 then (if (0 : Int) < (xs.length : Int) then ((xs.length : Int) - 0 + 2 - 1) / 2 else 0) else (if (0 : Int) > (xs.length : Int) then ((0 : Int) - (xs.length : Int) - 2 - 1) / (-2) else 0))).toNat = (xs.length + 2 - 1) / 2 := by
    rw [if_pos (by decide)]
    split <;> omega
  dsimp only
  rw [e2, List.filterMap_map]
  congr 1
  funext k
  show xs[(0 + 2 * (k : Int)).toNat]? = xs[k * 2]?
  congr 1
  omega
theorem pick_from1 {α : Type} (xs : List α) : pickS xs (some 1) none 2 = each 2 (xs.drop 1) := by
  unfold pickS each
  have e : (sliceBounds (some 1) none (some 2) xs.length) = (max 0 (min 1 (xs.length : Int)), (xs.length : Int), 2) := rfl
  rw [e]
  unfold sliceRange
  have e2 : ((if (2 : Int) > 0 then (if max 0 (min 1 (xs.length : Int)) < (xs.length : Int) then ((xs.length : Int) - max 0 (min 1 (xs.length : Int)) + 2 - 1) / 2 else 0) else (if max 0 (min 1 (xs.length : Int)) > (xs.length : Int) then (max 0 (min 1 (xs.length : Int)) - (xs.length : Int) - 2 - 1) / (-2) else 0))).toNat = ((xs.drop 1).length + 2 - 1) / 2 := by
    rw [if_pos (by decide), List.length_drop]
    split <;> omega
  dsimp only
  rw [e2, List.filterMap_map]
  refine fm_congr fun k hk => ?_
  have hk := List.mem_range.mp hk
  rw [List.length_drop] at hk
  show xs[(max 0 (min 1 (xs.length : Int)) + 2 * (k : Int)).toNat]? = (xs.drop 1)[k * 2]?
  rw [List.getElem?_drop]
  congr 1
  omega
theorem each_rv {F : Fx} {ι : List Addr} {H : Hp} {ds : List D} {vs : List V} (c : Nat) (r : RVs F ι H ds vs) : RVs F ι H (each c ds) (each c vs) := by
  unfold each
  rw [r.length]
  generalize List.range _ = is
  induction is with
  | nil => exact .nil
  | cons i is ih =>
    rw [List.filterMap_cons, List.filterMap_cons]
    cases e : vs[i * c]? with
    | none =>
      have : ds[i * c]? = none := by rw [List.getElem?_eq_none_iff] at e ⊢; rw [r.length]; exact e
      rw [this]; exact ih
    | some x => obtain ⟨u, hu, ru⟩ := r.get' e; rw [hu]; exact .cons ru ih
theorem each_len {α : Type} (xs : List α) : (each 2 xs).length ≤ xs.length := by
  unfold each
  refine Nat.le_trans (List.length_filterMap_le _ _) ?_
  rw [List.length_range]; omega
theorem s_step2 {z : Bool} {a : Expr} {a' : E} {k : Nat} {p1 p3 pos : Pos} (ha : SE X c W a a') : SE X c W (.Subscript a (.Slice none none (some (.Constant (.int 2) k p1)) p3) pos) (.step2 z a' false) := by
  refine PE.imp (PE.fz (pe_slk (n := 2) ha po_none po_none)) fun σ H Q q => ?_
  obtain ⟨ι, st, env, rs, re, p⟩ := thenE (a := a') (fun env st => by first | (simp only [evE]; done) | (simp only [evE]; rfl)) q
  refine ⟨ι, st, env, rs, re, p.imp ?_⟩
  rintro x H1 ⟨ι1, st1, d, rs1, rd, q⟩
  unfold step2D at q
  split at q
  · rename_i xs hx
    obtain ⟨b, vs, rfl, l, r, hz⟩ := lst_of rs1 rd hx
    refine ⟨b, vs, rfl, l.sq, by decide, fun p hp => ?_⟩
    have : FzQ X Q (.ref p) (upd H1 p (.lst (each 2 vs))) := q.lst rs1 (each_rv 2 r) hp
    show FzQ X Q (.ref p) (upd H1 p (.lst (pickS vs none none 2)))
    rw [pick_from0]
    exact this
  · exact q.elim
theorem s_step2o {z : Bool} {a : Expr} {a' : E} {k k2 : Nat} {p1 p2 p3 pos : Pos} (ha : SE X c W a a') : SE X c W (.Subscript a (.Slice (some (.Constant (.int 1) k2 p2)) none (some (.Constant (.int 2) k p1)) p3) pos) (.step2 z a' true) := by
  refine PE.imp (PE.fz (pe_slk (n := 2) ha (po_some (pe_int (i := 1))) po_none)) fun σ H Q q => ?_
  obtain ⟨ι, st, env, rs, re, p⟩ := thenE (a := a') (fun env st => by first | (simp only [evE]; done) | (simp only [evE]; rfl)) q
  refine ⟨ι, st, env, rs, re, p.imp ?_⟩
  rintro x H1 ⟨ι1, st1, d, rs1, rd, q⟩
  unfold step2D at q
  split at q
  · rename_i xs hx
    obtain ⟨b, vs, rfl, l, r, hz⟩ := lst_of rs1 rd hx
    refine ⟨1, rfl, b, vs, rfl, l.sq, by decide, fun p hp => ?_⟩
    have : FzQ X Q (.ref p) (upd H1 p (.lst (each 2 (vs.drop 1)))) := q.lst rs1 (each_rv 2 (r.drop 1)) hp
    show FzQ X Q (.ref p) (upd H1 p (.lst (pickS vs (some 1) none 2)))
    rw [pick_from1]
    exact this
  · exact q.elim
theorem s_tup {es : List Expr} {es' : List E} {k : Nat} {pos : Pos} (h : SL X c W es es') : SE X c W (.Tuple es k pos) (.tup es') := by
  refine PE.imp (pe_tup h) fun σ H Q q => ?_
  obtain ⟨ι, st, env, rs, re, p⟩ := listE (es := es') (fun env st => by first | (simp only [evE]; done) | (simp only [evE]; rfl)) q
  refine ⟨ι, st, env, rs, re, p.imp ?_⟩
  rintro xs H1 ⟨ι1, st1, ds, rs1, rd, q⟩
  split at q
  · rename_i hl
    exact ⟨by rw [← rd.length]; exact hl, fun a ha => q.tupl rs1 rd hl ha⟩
  · exact q.elim
theorem s_ix (C : Cok X c lv W) {a b : Expr} {a' b' : E} {pos : Pos} (ha : SE X c W a a') (hb : SE X c W b b') (hp : PlainIx b) : SE X c W (.Subscript a b pos) (.ix a' b') := by
  have R : IxR X (fun x y H Q => ∃ W, r2 (FX X c) W ixD x y H Q) := fun value slice pins s σ H x y v u Q I rx ry ⟨W, q⟩ hs => sub_ok (fld := c.fld) C.room.units value slice pins s σ H x y v u Q I rx ry q hs
  exact PE.imp (pe_ix R ha hb hp) fun σ H Q h => two (fun env st => by simp only [evE]) h
/-! slices -/
def tO (F : Fx) (W : L2.WX) (m : Env → Sto → R (Option Int)) : TO := fun σ H Q => ∃ ι st env, Rs F ι st H ∧ Re F ι H env σ ∧ Post F (fun _ _ a b => a = b) Q (fun c d H' => W c d σ H') ι H (m env st)
abbrev SO (X : Cx) (c : Ctx) (W : L2.WX) (e : Option Expr) (e' : Option E) : Prop := PO X e (tO (FX X c) W (evO c e'))
theorem so_none : SO X c W none none := ⟨fun pins s σ H Q I h => po_none.run pins s σ H Q I (by
  obtain ⟨ι, st, env, rs, re, p⟩ := h
  simp only [evO] at p
  exact p ι H _ (pre_refl _) (Keep.refl _) rs rfl)⟩
theorem so_some {e : Expr} {e' : E} (h : SE X c W e e') : SO X c W (some e) (some e') := ⟨fun pins s σ H Q I q => (po_some h).run pins s σ H Q I (by
  obtain ⟨ι, st, env, rs, re, p⟩ := q
  simp only [evO] at p
  refine ⟨ι, st, env, rs, re, p.bind.imp ?_⟩
  rintro x H1 ⟨ι1, st1, d1, p1, k1, rs1, rd1, q1⟩
  split at q1
  · have := rd1.int_inv; subst this
    exact ⟨_, rfl, q1 ι1 H1 _ (pre_refl _) (Keep.refl _) rs1 rfl⟩
  · exact q1.elim)⟩
theorem s_sl {z : Bool} {a : Expr} {lo hi : Option Expr} {a' : E} {lo' hi' : Option E} {pos p2 : Pos} (ha : SE X c W a a') (hl : SO X c W lo lo') (hh : SO X c W hi hi') : SE X c W (.Subscript a (.Slice lo hi none p2) pos) (.sl z a' lo' hi') := by
  have R : SlR X (fun x l h H Q => ∃ W, rS (FX X c) W (slD z) x l h H Q) := fun pins s σ H x v vl vu lo hi sl Q I rx hs pl pu ⟨W, q⟩ => slice_ok (fld := c.fld) pins s σ H x v vl vu lo hi sl Q I rx hs pl pu q
  refine PE.imp (pe_slice R ha hl hh) fun σ H Q h => ?_
  obtain ⟨ι, st, env, rs, re, p⟩ := h
  simp only [evE] at p
  refine ⟨ι, st, env, rs, re, p.bind.imp ?_⟩
  rintro x H1 ⟨ι1, st1, d1, p1, k1, rs1, rd1, q1⟩
  refine ⟨ι1, st1, env, rs1, re.mono p1 k1, (Post.bind (RA := fun _ _ a b => a = b) q1).imp ?_⟩
  rintro l H2 ⟨ι2, st2, d2, p2, k2, rs2, rfl, q2⟩
  refine ⟨ι2, st2, env, rs2, (re.mono p1 k1).mono p2 k2, (Post.bind (RA := fun _ _ a b => a = b) q2).imp ?_⟩
  rintro h H3 ⟨ι3, st3, d3, p3, k3, rs3, rfl, q3⟩
  exact ⟨_, ι3, st3, d1, rs3, rd1.mono (p2.trans p3) (k2.trans k3), q3⟩
theorem rf_no {F : Fx} {ι : List Addr} {H : Hp} {fs : Fs} {vs : List (Str × V)} (h : RF F ι H fs vs) {m : String} (n : ∀ p ∈ fs, p.1 ≠ m) : vs.lookup (Str.ofString m) = none := by
  refine (rf_get h).2 ?_
  unfold getF
  rw [List.find?_eq_none.mpr fun p hp => by simpa using n p hp]
  rfl
theorem s_attr (C : Cok X c lv W) {a : Expr} {a' : E} {f : String} {pos : Pos} (ha : SE X c W a a') (hb : attributeBase a (Str.ofString f) X.env (eval a X.env) = eval a X.env) : SE X c W (.Attribute a (Str.ofString f) pos) (.attr a' f) := by
  refine PE.imp (pe_fld ha hb) fun σ H Q h => ?_
  obtain ⟨ι, st, env, rs, re, p⟩ := thenE (a := a') (fun env st => by first | (simp only [evE]; done) | (simp only [evE]; rfl)) h
  refine ⟨ι, st, env, rs, re, p.imp ?_⟩
  rintro x H1 ⟨ι1, st1, d, rs1, rd, q⟩
  unfold attrD at q
  split at q
  · split at q
    · rename_i cl fs hs
      split at q
      · rename_i e he
        cases rd with
        | ref hn =>
          obtain ⟨C', dx, vs, h0, h1, h2, h3, h4⟩ := rs1.at_ hn hs
          obtain ⟨v, h5, h6⟩ := (rf_get h2).1 e he
          have hf : f ∈ c.fld cl := by
            unfold getF at he
            obtain ⟨pr, hp1, hp2⟩ := Option.map_eq_some_iff.mp he
            have := List.find?_some hp1
            have := h4 pr (List.mem_of_find?_eq_some hp1)
            simp_all
          exact ⟨_, C', dx, vs, v, rfl, h1, h3, C.lib.noat cl C' f h0 hf, h5, q.here rs1 h6⟩
      · exact q.elim
    · exact q.elim
  · exact q.elim
/-! f-strings -/
theorem s_fmt {e : Expr} {e' : E} {pos : Pos} (h : SE X c W e e') : PE X (.FormattedValue e (-1) none pos) (fun σ H Q => tE (FX X c) W (evE c e') σ H fun x H1 => ∃ ι1 st1 d y, Rs (FX X c) ι1 st1 H1 ∧ RV (FX X c) ι1 H1 d x ∧ fmtD d = some y ∧ (StrOk y → Q (.str (tS y)) H1)) := by
  refine PE.imp (pe_fmt h) fun σ H Q q => ?_
  obtain ⟨ι, st, env, rs, re, p⟩ := q
  refine ⟨ι, st, env, rs, re, p.imp ?_⟩
  rintro x H1 ⟨ι1, st1, d, y, rs1, rd, hf, q⟩
  unfold fmtD at hf
  split at hf
  · cases hf
    obtain ⟨rfl, o⟩ := rd.str_inv
    exact .inl ⟨_, rfl, by rw [tS_length]; exact o.1, q o⟩
  · split at hf
    · rename_i hl
      cases hf
      have := rd.int_inv; subst this
      refine .inr ⟨_, rfl, hl, ?_⟩
      rw [txtI_tS]
      exact q (txtI_ok hl)
    · cases hf
  · cases hf
end
end Mi

set_option linter.all false
set_option maxRecDepth 100000
/-! V9: calls. -/
namespace Mi
open PySem PySem.Spec L2
open PyProof.Rows hiding St
section
variable {X : Cx} {c : Ctx} {lv : Nat} {W : L2.WX}
/-! cells that a call leaves behind -/
mutual
theorem RV.clean {F : Fx} {ι : List Addr} {H : Hp} : ∀ {d : D} {v : V}, RV F ι H d v → cleanD ι.length d = true
  | _, _, .non => by unfold cleanD; rfl
  | _, _, .bl b => by unfold cleanD; rfl
  | _, _, .int i => by unfold cleanD; rfl
  | _, _, .str x h => by unfold cleanD; rfl
  | _, _, .tup h hs z => by unfold cleanD; exact RVs.clean hs
  | _, _, .cl h hs z => by unfold cleanD; exact RVs.clean hs
  | .cd kvs, _, .cd (ks := ks) h e hs z => by
    unfold cleanD
    have h2 := RVs.clean hs
    clear hs h z
    induction e with
    | nil => unfold cleanKs; rfl
    | @cons p q l m r t ih =>
      obtain ⟨k, d⟩ := p
      rw [List.map_cons] at h2
      unfold cleanDs at h2
      rw [Bool.and_eq_true] at h2
      unfold cleanKs
      rw [Bool.and_eq_true, Bool.and_eq_true]
      refine ⟨⟨?_, h2.1⟩, ih h2.2⟩
      cases k <;> first | exact r.elim | (unfold cleanD; rfl)
  | _, _, .exn h e => by unfold cleanD cleanFs; rfl
  | _, _, .ref h => by unfold cleanD; exact decide_eq_true (List.getElem?_eq_some_iff.mp h).1
  | _, _, .fn h => by unfold cleanD; rfl
  | _, _, .ty n => by unfold cleanD; rfl
theorem RVs.clean {F : Fx} {ι : List Addr} {H : Hp} : ∀ {ds : List D} {vs : List V}, RVs F ι H ds vs → cleanDs ι.length ds = true
  | _, _, .nil => by unfold cleanDs; rfl
  | _, _, .cons h t => by unfold cleanDs; rw [RV.clean h, RVs.clean t]; rfl
end
theorem pre_back {α : Type} {l l' : List α} {n : Nat} {a : α} (p : l <+: l') (h : l'[n]? = some a) (hn : n < l.length) : l[n]? = some a := by
  obtain ⟨r, rfl⟩ := p
  rw [List.getElem?_append_left hn] at h
  exact h
theorem cleanKs_snd {n : Nat} : ∀ {kvs : List (D × D)}, cleanKs n kvs = true → cleanDs n (kvs.map (·.2)) = true
  | [], _ => by rw [List.map_nil]; unfold cleanDs; rfl
  | (a, b) :: r, h => by
    unfold cleanKs at h
    rw [Bool.and_eq_true, Bool.and_eq_true] at h
    rw [List.map_cons]
    unfold cleanDs
    rw [h.1.2, cleanKs_snd h.2]
    rfl
mutual
theorem RV.cut {F : Fx} {ι ι' : List Addr} {H : Hp} (p : ι <+: ι') : ∀ {d : D} {v : V}, RV F ι' H d v → cleanD ι.length d = true → RV F ι H d v
  | _, _, .non, _ => .non
  | _, _, .bl b, _ => .bl b
  | _, _, .int i, _ => .int i
  | _, _, .str x h, _ => .str x h
  | _, _, .tup h hs z, c => .tup h (RVs.cut p hs (by unfold cleanD at c; exact c)) z
  | _, _, .cl h hs z, c => .cl h (RVs.cut p hs (by unfold cleanD at c; exact c)) z
  | _, _, .cd h e hs z, c => .cd h e (RVs.cut p hs (by unfold cleanD at c; exact cleanKs_snd c)) z
  | _, _, .exn h e, _ => .exn h e
  | _, _, .ref h, c => .ref (pre_back p h (by unfold cleanD at c; exact of_decide_eq_true c))
  | _, _, .fn h, _ => .fn h
  | _, _, .ty n, _ => .ty n
theorem RVs.cut {F : Fx} {ι ι' : List Addr} {H : Hp} (p : ι <+: ι') : ∀ {ds : List D} {vs : List V}, RVs F ι' H ds vs → cleanDs ι.length ds = true → RVs F ι H ds vs
  | _, _, .nil, _ => .nil
  | _, _, .cons h t, c => by
    unfold cleanDs at c
    rw [Bool.and_eq_true] at c
    exact .cons (RV.cut p h c.1) (RVs.cut p t c.2)
end
theorem RK.cut {F : Fx} {ι ι' : List Addr} {H : Hp} (p : ι <+: ι') {kvs : List (D × D)} {ks : List (Key × V)} (r : RK F ι' H kvs ks) : cleanKs ι.length kvs = true → RK F ι H kvs ks := by
  induction r with
  | nil => exact fun _ => .nil
  | @cons q w l m e t ih =>
    obtain ⟨k, d⟩ := q
    intro c
    unfold cleanKs at c
    rw [Bool.and_eq_true, Bool.and_eq_true] at c
    exact .cons ⟨e.1, e.2.cut p c.1.2⟩ (ih c.2)
theorem RF.cut {F : Fx} {ι ι' : List Addr} {H : Hp} (p : ι <+: ι') {fs : Fs} {vs : List (Str × V)} (r : RF F ι' H fs vs) : cleanFs ι.length fs = true → RF F ι H fs vs := by
  induction r with
  | nil => exact fun _ => .nil
  | @cons q w l m e t ih =>
    obtain ⟨k, d⟩ := q
    intro c
    unfold cleanFs at c
    rw [Bool.and_eq_true] at c
    exact .cons ⟨e.1, e.2.cut p c.1⟩ (ih c.2)
theorem RO.cut {F : Fx} {ι ι' : List Addr} {H : Hp} {a : Addr} {o : O} (p : ι <+: ι') (r : RO F ι' H a o) (c : cleanO ι.length o = true) : RO F ι H a o := by
  cases o with
  | lst xs => obtain ⟨vs, h1, h2, h3⟩ := r; exact ⟨vs, h1, h2.cut p c, h3⟩
  | dct xs => obtain ⟨vs, h1, h2, h3⟩ := r; exact ⟨vs, h1, h2.cut p c, h3⟩
  | obj cl fs => obtain ⟨C, dx, vs, h0, h1, h2, h3⟩ := r; exact ⟨C, dx, vs, h0, h1, h2.cut p c, h3⟩
theorem RK.clean {F : Fx} {ι : List Addr} {H : Hp} {kvs : List (D × D)} {ks : List (Key × V)} (r : RK F ι H kvs ks) : cleanKs ι.length kvs = true := by
  induction r with
  | nil => unfold cleanKs; rfl
  | @cons q w l m e t ih =>
    obtain ⟨k, d⟩ := q
    unfold cleanKs
    have h1 : cleanD ι.length k = true := by
      have := e.1
      cases k <;> first | exact this.elim | (unfold cleanD; rfl)
    have h2 : cleanD ι.length d = true := e.2.clean
    rw [h1, h2, ih]
    rfl
theorem RF.clean {F : Fx} {ι : List Addr} {H : Hp} {fs : Fs} {vs : List (Str × V)} (r : RF F ι H fs vs) : cleanFs ι.length fs = true := by
  induction r with
  | nil => unfold cleanFs; rfl
  | @cons q w l m e t ih =>
    obtain ⟨k, d⟩ := q
    unfold cleanFs
    have h2 : cleanD ι.length d = true := e.2.clean
    rw [h2, ih]
    rfl
theorem RO.clean {F : Fx} {ι : List Addr} {H : Hp} {a : Addr} {o : O} (r : RO F ι H a o) : cleanO ι.length o = true := by
  cases o with
  | lst xs => obtain ⟨vs, h1, h2, h3⟩ := r; exact h2.clean
  | dct xs => obtain ⟨vs, h1, h2, h3⟩ := r; exact h2.clean
  | obj cl fs => obtain ⟨C, dx, vs, h0, h1, h2, h3⟩ := r; exact h2.clean
mutual
theorem eqDB_eq : ∀ {a b : D}, eqDB a b = true → a = b
  | .non, b, h => by cases b <;> first | rfl | (simp [eqDB] at h)
  | .bl x, b, h => by cases b <;> first | (simp [eqDB] at h; rw [h]) | (simp [eqDB] at h)
  | .int x, b, h => by cases b <;> first | (simp [eqDB] at h; rw [h]) | (simp [eqDB] at h)
  | .str x, b, h => by cases b <;> first | (simp [eqDB] at h; rw [h]) | (simp [eqDB] at h)
  | .ref x, b, h => by cases b <;> first | (simp [eqDB] at h; rw [h]) | (simp [eqDB] at h)
  | .fn x, b, h => by cases b <;> first | (simp [eqDB] at h; rw [h]) | (simp [eqDB] at h)
  | .ty x, b, h => by cases b <;> first | (simp [eqDB] at h; rw [h]) | (simp [eqDB] at h)
  | .tup x, b, h => by cases b <;> first | (simp only [eqDB] at h; rw [eqDsB_eq h]) | (simp [eqDB] at h)
  | .cl x, b, h => by cases b <;> first | (simp only [eqDB] at h; rw [eqDsB_eq h]) | (simp [eqDB] at h)
  | .cd x, b, h => by cases b <;> first | (simp only [eqDB] at h; rw [eqKsB_eq h]) | (simp [eqDB] at h)
  | .exn c x, b, h => by cases b <;> first | (simp only [eqDB, Bool.and_eq_true, decide_eq_true_eq] at h; rw [eqFsB_eq h.2, h.1]) | (simp [eqDB] at h)
theorem eqDsB_eq : ∀ {a b : List D}, eqDsB a b = true → a = b
  | [], b, h => by cases b <;> first | rfl | (simp [eqDsB] at h)
  | x :: r, b, h => by cases b <;> first | (simp only [eqDsB, Bool.and_eq_true] at h; rw [eqDB_eq h.1, eqDsB_eq h.2]) | (simp [eqDsB] at h)
theorem eqKsB_eq : ∀ {a b : List (D × D)}, eqKsB a b = true → a = b
  | [], b, h => by
    cases b with
    | nil => rfl
    | cons p _ => obtain ⟨p1, p2⟩ := p; simp [eqKsB] at h
  | (x, y) :: r, b, h => by
    cases b with
    | nil => simp [eqKsB] at h
    | cons p s =>
      obtain ⟨p1, p2⟩ := p
      simp only [eqKsB, Bool.and_eq_true] at h
      rw [eqDB_eq h.1.1, eqDB_eq h.1.2, eqKsB_eq h.2]
theorem eqFsB_eq : ∀ {a b : List (String × D)}, eqFsB a b = true → a = b
  | [], b, h => by
    cases b with
    | nil => rfl
    | cons p _ => obtain ⟨p1, p2⟩ := p; simp [eqFsB] at h
  | (x, y) :: r, b, h => by
    cases b with
    | nil => simp [eqFsB] at h
    | cons p s =>
      obtain ⟨p1, p2⟩ := p
      simp only [eqFsB, Bool.and_eq_true, decide_eq_true_eq] at h
      rw [h.1.1, eqDB_eq h.1.2, eqFsB_eq h.2]
end
theorem eqOB_eq {a b : O} (h : eqOB a b = true) : a = b := by
  cases a <;> cases b <;> first | (simp [eqOB] at h; done) | skip
  · rw [eqDsB_eq h]
  · rw [eqKsB_eq h]
  · simp only [eqOB, Bool.and_eq_true, decide_eq_true_eq] at h
    rw [eqFsB_eq h.2, h.1]
theorem kept_at {n : Nat} : ∀ {st st' : Sto}, keptB n st st' = true → st.length ≤ st'.length ∧ ∀ i o, i < st.length → st'[i]? = some o → st[i]? = some o ∨ cleanO n o = true
  | [], st', _ => ⟨Nat.zero_le _, fun i o h => absurd h (Nat.not_lt_zero _)⟩
  | _ :: _, [], h => by cases h
  | x :: r, y :: s, h => by
    simp only [keptB, Bool.and_eq_true, Bool.or_eq_true] at h
    obtain ⟨h1, h2⟩ := kept_at h.2
    refine ⟨Nat.succ_le_succ h1, fun i o hi ho => ?_⟩
    cases i with
    | zero =>
      cases ho
      rcases h.1 with e | e
      · rw [eqOB_eq e]; exact .inl rfl
      · exact .inr e
    | succ i => exact h2 i o (Nat.lt_of_succ_lt_succ hi) ho
theorem Rs.cut {F : Fx} {ι ι' : List Addr} {st st' : Sto} {H H' : Hp} (r : Rs F ι st H) (r' : Rs F ι' st' H') (p : ι <+: ι') (h : keptB st.length st st' = true) : Rs F ι (st'.take st.length) H' := by
  obtain ⟨h1, h2⟩ := kept_at h
  refine ⟨by rw [List.length_take, Nat.min_eq_left h1]; exact r.len, r.nd, fun n o ho => ?_⟩
  rw [List.getElem?_take] at ho
  split at ho
  · rename_i hn
    obtain ⟨a, ha, q⟩ := r'.cell n o ho
    refine ⟨a, pre_back p ha (by rw [r.len]; exact hn), q.cut p ?_⟩
    rw [r.len]
    rcases h2 n o hn ho with e | e
    · obtain ⟨b, _, q2⟩ := r.cell n o e
      have := q2.clean
      rwa [r.len] at this
    · exact e
  · cases ho
theorem Keep.cut {ι ι' : List Addr} {H H' : Hp} (k : Keep ι ι' H H') : Keep ι ι H H' := ⟨k.tup, k.frl, k.frt, k.frd, k.ext, k.xd, k.out, fun _ m n => absurd m n⟩
theorem XF.cut {F : Fx} {ι ι' : List Addr} {H : Hp} {fs : Fs} {dx : Option Addr} (p : ι <+: ι') (h : XF F ι' H fs dx) (c : cleanFs ι.length fs = true) : XF F ι H fs dx := by
  match fs, h with
  | [], h => exact h
  | [(f, d)], h =>
    obtain ⟨b, v, h1, h2, h3⟩ := h
    unfold cleanFs at c
    rw [Bool.and_eq_true] at c
    exact ⟨b, v, h1, h2, h3.cut p c.1⟩
  | _ :: _ :: _, h => exact h.elim
/-- a cell that is fixed and gone -/
theorem cut_fix {F : Fx} {ι ι' : List Addr} {st st' : Sto} {H H' : Hp} {n : Nat} {a : Addr} {u : HO} (rs : Rs F ι st H) (rs' : Rs F ι' st' H') (p : ι <+: ι') (k : Keep ι ι' H H') (hk : keptB st.length st st' = true) (hn : ι'[n]? = some a) (hl : st.length ≤ n) (hu : H' a = some u) (c : Cell u) {v : HO} :
    a ∉ ι ∧ Keep ι ι H (upd H' a v) ∧ Rs F ι (st'.take st.length) (upd H' a v) := by
  have hna : a ∉ ι := fun hm => by
    obtain ⟨j, hj⟩ := List.mem_iff_getElem?.mp hm
    have h1 := (List.getElem?_eq_some_iff.mp (pre_get p hj))
    have h2 := (List.getElem?_eq_some_iff.mp hn)
    have e := (List.getElem_inj rs'.nd).mp (h1.2.trans h2.2.symm)
    have := (List.getElem?_eq_some_iff.mp hj).1
    rw [rs.len] at this
    omega
  have hH : H a = none := k.new a (List.mem_of_getElem? hn) hna
  exact ⟨hna, k.cut.beside' hH hu c, (rs.cut rs' p hk).fixed hna hu c⟩
theorem Post.gc {X : Cx} {F : Fx} {Q : VK} {W : XK} {ι : List Addr} {st : Sto} {H : Hp} {m : Nat} {r : R D} (rs : Rs F ι st H) (h : Post F (RV F) Q W ι H (gcR m st r)) : Post F (RV F) (FzQ X Q) W ι H r := by
  cases m with
  | zero => exact Post.imp h fun _ _ q => FzQ.now q
  | succ m =>
    cases r with
    | no => exact h
    | exc c fs st' =>
      simp only [gcR] at h
      split at h
      · rename_i hk
        intro ι' H' C dx p k rs' hm hx
        exact h ι H' C dx (pre_refl _) k.cut (rs.cut rs' p hk.1) hm (hx.cut p (by rw [rs.len]; exact hk.2))
      · exact h.elim
    | ok d st' =>
      simp only [gcR] at h
      split at h
      · rename_i hk
        split at h
        · rename_i hc
          intro ι' H' v p k rs' rd
          exact FzQ.now (h ι H' v (pre_refl _) k.cut (rs.cut rs' p hk) (rd.cut p (by rw [rs.len]; exact hc)))
        · split at h
          · rename_i n
            intro ι' H' v p k rs' rd
            cases rd with
            | @ref _ a hn =>
              split at h
              · rename_i xs hs
                split at h
                · rename_i hz
                  obtain ⟨vs, h1, h2, h3⟩ := rs'.at_ hn hs
                  intro pins σ s I
                  obtain ⟨o, I2⟩ := Inv.fix I h1 (.inl ⟨_, rfl⟩)
                  obtain ⟨g1, g2, g3⟩ := cut_fix (v := .frz o (.lst vs)) rs rs' p k hk hn hz.1 h1 trivial
                  exact ⟨_, I2, h ι _ _ (pre_refl _) g2 g3 (.cl (.inl ⟨o, upd_same⟩) ((h2.cut p (by rw [rs.len]; exact hz.2)).fixed h1 trivial) h3)⟩
                · exact h.elim
              · rename_i kvs hs
                split at h
                · rename_i hz
                  obtain ⟨ks, h1, h2, h3⟩ := rs'.at_ hn hs
                  intro pins σ s I
                  obtain ⟨o, I2⟩ := Inv.fix I h1 (.inr ⟨_, rfl⟩)
                  obtain ⟨g1, g2, g3⟩ := cut_fix (v := .frz o (.dK ks)) rs rs' p k hk hn hz.1 h1 trivial
                  have h4 : RK F ι (upd H' a (.frz o (.dK ks))) kvs ks := Paired.mapP (RK.cut p h2 (by rw [rs.len]; exact hz.2)) fun _ _ z => ⟨z.1, z.2.monoT (pre_refl _) (upd_keepT h1 trivial)⟩
                  refine ⟨_, I2, h ι _ _ (pre_refl _) g2 g3 (.cd upd_same (Paired.mapP h4 fun _ _ z => z.1) ?_ h3)⟩
                  clear h h3 I2 I hs h2 h1 g2 g3 hz hk
                  generalize upd H' a (.frz o (.dK ks)) = H2 at h4
                  induction h4 with
                  | nil => exact .nil
                  | cons e t ih => exact .cons e.2 ih
                · exact h.elim
              · exact h.elim
          · exact h.elim
      · exact h.elim
/-- a known def runs -/
theorem run_at (C : Cok X c lv W) {run : List D → Sto → R D} {n : Nat} {ks : List String} {pl : List Src} {a : Addr} (ff : FnFact X (FX X c) lv run n ks pl a) {pins : List (Addr × Obj)} {σ : St} {H : Hp} {s : Shared} {Q : VK} {us ws : List Value} {vs zs : List V}
    {ι : List Addr} {st : Sto} {ds es : List D} (I : Inv X pins σ H s) (r : Vals vs us) (rz : Vals zs ws) (rs : Rs (FX X c) ι st H) (rd : RVs (FX X c) ι H ds vs) (re : RVs (FX X c) ι H es zs) (hn : ds.length = n) (hm : es.length = ks.length)
    {m : Nat} (q : Post (FX X c) (RV (FX X c)) Q (fun c d H' => W c d σ H') ι H (gcR m st (run (pl.map (Src.pick ds es)) st))) :
    wpAny (model X.prog X.w) X.A (call (.ref a) us ((ks.map Str.ofString).zip ws)) (EP X pins σ Q) X.xe s := by
  obtain ⟨fd, ps, g, gV, fk, hb, po⟩ := ff.ex
  have q := Post.gc (X := X) rs q
  refine wp_fz ?_
  have arg : spI (FX X c) pl.length run (gV vs zs) H (FzQ X Q) (fun c d H' => W c d σ H') := ⟨ι, st, _, rs, po ι H ds vs es zs rd re hn hm, by simp, q⟩
  have lu : us.length = n := by rw [← r.length, ← rd.length, hn]
  have lw : ws.length = (ks.map Str.ofString).length := by rw [← rz.length, ← re.length, hm, List.length_map]
  refine wpAny_call (codeAny_mono (fk.run X.A X.stack s H ⟨us, (ks.map Str.ofString).zip ws⟩ (g us ws) (gV vs zs) (FzQ X Q) _ (C.room.mono (Nat.le_succ _)) I.env0 (hb.to s us ws I.kIn lu lw) (hb.rel r rz) arg) fun o s' ho => ?_)
  match o, ho with
  | .error e, ho => exact C.takes _ _ (XE.of_call I (fun _ _ _ z => z) ho)
  | .ok (.ret u), ho => exact I.after ho
/-- the arguments, the keywords, then the call -/
theorem args_run {es : List Expr} {es' kes' : List E} {kws : List Keyword} {ks : List String} {pos : Pos} {f : Value} {first : List Value} {K' : List D → List D → Sto → R D}
    (hk : PySem.W.keepIn X.K f = true) (hlen : es.length = es'.length) (ha : SL X c W es es') (hkw : PK X kws (tL (FX X c) W (evEs c kes')))
    (hall : (backToKw pos (keywordEach kws X.env)).all (·.1.isSome) = true) (hks : (backToKw pos (keywordEach kws X.env)).filterMap (·.1) = ks.map Str.ofString)
    (hpl : ((backTo pos (starEach es X.env)).any (·.1) || (backToKw pos (keywordEach kws X.env)).any (·.1.isNone)) = false) (hst : ∀ e r, es = e :: r → starEach (e :: r) X.env = (false, eval e X.env) :: starEach r X.env)
    {pins : List (Addr × Obj)} {σ : St} {H : Hp} {s : Shared} {Q : VK} (I : Inv X pins σ H s) {ι : List Addr} {st : Sto} {env : Env} (rs : Rs (FX X c) ι st H) (re : Re (FX X c) ι H env σ)
    (p : Post (FX X c) (RV (FX X c)) Q (fun c d H' => W c d σ H') ι H ((evEs c es' env st).bind fun xs st => (evEs c kes' env st).bind fun zs st => K' xs zs st))
    (fin : ∀ us ws vs zs ι2 st2 ds qs H2 s2, Inv X pins σ H2 s2 → Vals vs us → Vals zs ws → ι <+: ι2 → Keep ι ι2 H H2 → Rs (FX X c) ι2 st2 H2 → RVs (FX X c) ι2 H2 ds vs → RVs (FX X c) ι2 H2 qs zs →
      Post (FX X c) (RV (FX X c)) Q (fun c d H' => W c d σ H') ι2 H2 (K' ds qs st2) → wpAny (model X.prog X.w) X.A (call f (first ++ us) ((ks.map Str.ofString).zip ws)) (EP X pins σ Q) X.xe s2) :
    wpAny (model X.prog X.w) X.A (callWith pos f first (backTo pos (starEach es X.env)) (backToKw pos (keywordEach kws X.env))) (EP X pins σ Q) X.xe s := by
  cases es with
  | nil =>
    have z : es' = [] := List.length_eq_zero_iff.mp hlen.symm
    subst z
    simp only [evEs, R.bind] at p
    refine PySem.W.callWith_KW0 (h₀ := X.base) I.ok.mod.kin hk hall ?_ hpl
    refine thn (hkw.run pos pins s σ H _ I ⟨ι, st, env, rs, re, Post.bind (RA := RVs (FX X c)) p⟩) ?_
    rintro ws s2 ⟨zs, H2, I2, rz, ι2, st2, qs, p2, k2, rs2, rq, q2⟩
    refine ⟨I2.kIn, ?_⟩
    rw [hks]
    exact fin [] ws [] zs ι2 st2 [] qs H2 s2 I2 .nil rz p2 k2 rs2 .nil rq q2
  | cons e r =>
    refine PySem.W.callWith_KW (h₀ := X.base) I.ok.mod.kin hk hall (thn (ha.run pos pins s σ H _ I ⟨ι, st, env, rs, re, Post.bind (RA := RVs (FX X c)) p⟩) ?_) hpl (hst e r rfl)
    rintro us s1 ⟨vs, H1, I1, r1, ι1, st1, ds, p1, k1, rs1, rd, q1⟩
    refine thn (hkw.run pos pins s1 σ H1 _ I1 ⟨ι1, st1, env, rs1, re.mono p1 k1, Post.bind (RA := RVs (FX X c)) q1⟩) ?_
    rintro ws s2 ⟨zs, H2, I2, rz, ι2, st2, qs, p2, k2, rs2, rq, q2⟩
    refine ⟨I2.kIn, ?_⟩
    rw [hks]
    exact fin us ws vs zs ι2 st2 ds qs H2 s2 I2 r1 rz (p1.trans p2) (k1.trans k2) rs2 (rd.mono p2 k2) rq q2
abbrev SK (X : Cx) (c : Ctx) (W : L2.WX) (kws : List Keyword) (kes' : List E) : Prop := PK X kws (tL (FX X c) W (evEs c kes'))
theorem sk_nil : SK X c W [] [] := ⟨fun pos pins s σ H Q I h => pk_nil.run pos pins s σ H Q I (by
  obtain ⟨ι, st, env, rs, re, p⟩ := h
  simp only [evEs] at p
  exact p ι H _ (pre_refl _) (Keep.refl _) rs .nil)⟩
theorem sk_cons {nm : Option Str} {e : Expr} {kpos : Pos} {kws : List Keyword} {e' : E} {es' : List E} (h : SE X c W e e') (hs : SK X c W kws es') : SK X c W (⟨nm, e, kpos⟩ :: kws) (e' :: es') := ⟨fun pos pins s σ H Q I q => (pk_cons h hs).run pos pins s σ H Q I (by
  obtain ⟨ι, st, env, rs, re, p⟩ := q
  simp only [evEs] at p
  refine ⟨ι, st, env, rs, re, p.bind.imp ?_⟩
  rintro x H1 ⟨ι1, st1, d1, p1, k1, rs1, rd1, q1⟩
  refine ⟨ι1, st1, env, rs1, re.mono p1 k1, (Post.bind (RA := RVs (FX X c)) q1).imp ?_⟩
  rintro y H2 ⟨ι2, st2, d2, p2, k2, rs2, rd2, q2⟩
  exact q2 ι2 H2 _ (pre_refl _) (Keep.refl _) rs2 (.cons (rd1.mono p2 k2) rd2))⟩
/-- how the written arguments lie -/
structure ArgOk (X : Cx) (es : List Expr) (es' : List E) (kws : List Keyword) (ks : List String) (pos : Pos) : Prop where
  len : es.length = es'.length
  all : (backToKw pos (keywordEach kws X.env)).all (·.1.isSome) = true
  ks : (backToKw pos (keywordEach kws X.env)).filterMap (·.1) = ks.map Str.ofString
  pl : ((backTo pos (starEach es X.env)).any (·.1) || (backToKw pos (keywordEach kws X.env)).any (·.1.isNone)) = false
  st : ∀ e r, es = e :: r → starEach (e :: r) X.env = (false, eval e X.env) :: starEach r X.env
theorem s_call (C : Cok X c lv W) {f : String} {es : List Expr} {es' kes' : List E} {kws : List Keyword} {ks : List String} {p pos : Pos} {pl : List Src} (hg : Gl X (Str.ofString f)) (hd : (Str.ofString f == ("__debug__" : Str)) = false)
    (hp : c.plan f es'.length ks = some pl) (ha : SL X c W es es') (hk : SK X c W kws kes') (ao : ArgOk X es es' kws ks pos) : SE X c W (.Call (.Name (Str.ofString f) p) es kws pos) (.call f es' ks kes') := by
  refine ⟨fun pins s σ H Q I h => ?_⟩
  obtain ⟨ι, st, env, rs, re, q⟩ := h
  simp only [evE] at q
  obtain ⟨a, h1, h2, _⟩ := C.lib.fn f _ ks pl hp
  refine wpAny_Call_Name_kw (ld_glob I hg h1 ?_ hd)
  refine args_run (first := []) h2 ao.len ha hk ao.all ao.ks ao.pl ao.st I rs re q ?_
  intro us ws vs zs ι2 st2 ds qs H2 s2 I2 r rz p2 k2 rs2 rd rq q2
  split at q2
  · rename_i pl' hp'
    split at q2
    · rename_i hl
      obtain ⟨a', g1, g2, ff⟩ := C.lib.fn f _ ks pl' hp'
      rw [h1] at g1
      cases g1
      exact run_at C ff I2 r rz rs2 rd rq rfl hl q2
    · exact q2.elim
  · exact q2.elim
/-- a built-in function -/
theorem s_biB {z : Bool} (C : Cok X c lv W) {f : String} {id : String} {e : Expr} {es : List Expr} {e' : E} {es' : List E} {p pos : Pos} (hc : ∀ W', CallR X (.builtin id) (rL (FX X c) W' (biD z f))) (hg : Gl X (Str.ofString f)) (hm : X.mg (Str.ofString f) = none) (hv : bootBuiltins (Str.ofString f) = some (.builtin id))
    (ha : SL X c W (e :: es) (e' :: es')) (hn : Str.ofString f ≠ "__name__") (hdb : (Str.ofString f == ("__debug__" : Str)) = false) (he : starEach (e :: es) X.env = (false, eval e X.env) :: starEach es X.env) (hpl : (backTo pos (starEach es X.env)).any (·.1) = false) :
    SE X c W (.Call (.Name (Str.ofString f) p) (e :: es) [] pos) (.bi z f (e' :: es')) := by
  have R : CallR X (.builtin id) (fun xs H Q => ∃ W', rL (FX X c) W' (biD z f) xs H Q) := fun pins s σ H xs us Q I r ⟨W', q⟩ => hc W' pins s σ H xs us Q I r q
  refine PE.imp (pe_callB R hg hm hv ha hn hdb he hpl) fun σ H Q q => ?_
  obtain ⟨ι, st, env, rs, re, p⟩ := listE (es := e' :: es') (g := fun xs st => biD z f xs st) (fun env st => by simp only [evE]) q
  refine ⟨ι, st, env, rs, re, p.imp ?_⟩
  rintro xs H1 ⟨ι1, st1, ds, rs1, rd, q⟩
  exact ⟨_, ι1, st1, ds, rs1, rd, q⟩
theorem s_biT {z : Bool} (C : Cok X c lv W) {f : String} {id : String} {e : Expr} {es : List Expr} {e' : E} {es' : List E} {p pos : Pos} (hc : ∀ W', CallR X (.type id) (rL (FX X c) W' (biD z f))) (hg : Gl X (Str.ofString f)) (hm : X.mg (Str.ofString f) = none) (hv : bootBuiltins (Str.ofString f) = some (.type id))
    (ha : SL X c W (e :: es) (e' :: es')) (hn : Str.ofString f ≠ "__name__") (hdb : (Str.ofString f == ("__debug__" : Str)) = false) (he : starEach (e :: es) X.env = (false, eval e X.env) :: starEach es X.env) (hpl : (backTo pos (starEach es X.env)).any (·.1) = false) :
    SE X c W (.Call (.Name (Str.ofString f) p) (e :: es) [] pos) (.bi z f (e' :: es')) := by
  have R : CallR X (.type id) (fun xs H Q => ∃ W', rL (FX X c) W' (biD z f) xs H Q) := fun pins s σ H xs us Q I r ⟨W', q⟩ => hc W' pins s σ H xs us Q I r q
  refine PE.imp (pe_callTy R hg hm hv ha hn hdb he hpl) fun σ H Q q => ?_
  obtain ⟨ι, st, env, rs, re, p⟩ := listE (es := e' :: es') (g := fun xs st => biD z f xs st) (fun env st => by simp only [evE]) q
  refine ⟨ι, st, env, rs, re, p.imp ?_⟩
  rintro xs H1 ⟨ι1, st1, ds, rs1, rd, q⟩
  exact ⟨_, ι1, st1, ds, rs1, rd, q⟩
def biNames : List (String × Bool) := [("len", true), ("isinstance", true), ("abs", true), ("max", true), ("min", true), ("all", true), ("any", true), ("sum", true), ("sorted", true), ("int", false), ("str", false), ("list", false), ("tuple", false), ("dict", false)]
theorem bi_boot : ∀ f ∈ biNames, bootBuiltins (Str.ofString f.1) = some (if f.2 = true then .builtin f.1 else .type f.1) ∧ Str.ofString f.1 ≠ "__name__" ∧ (Str.ofString f.1 == ("__debug__" : Str)) = false := by decide +kernel
theorem bi_rule {z : Bool} (C : Cok X c lv W) (W' : XK) : ∀ f ∈ biNames, CallR X (if f.2 = true then .builtin f.1 else .type f.1) (rL (FX X c) W' (biD z f.1)) := by
  intro f hf
  simp only [biNames, List.mem_cons, List.not_mem_nil, or_false] at hf
  rcases hf with rfl | rfl | rfl | rfl | rfl | rfl | rfl | rfl | rfl | rfl | rfl | rfl | rfl | rfl
  · exact len_ok
  · exact isi_ok
  · exact abs_ok
  · exact max_ok C.calm
  · exact min_ok C.calm
  · exact all_ok C.calm
  · exact any_ok C.calm
  · exact sum_ok C.calm
  · exact sorted_ok C.calm
  · exact int_ok
  · exact str_ok
  · exact list_ok C.calm
  · exact tuple_ok
  · exact dict_ok C.calm
theorem s_bi {z : Bool} (C : Cok X c lv W) {f : String} {b : Bool} {e : Expr} {es : List Expr} {e' : E} {es' : List E} {p pos : Pos} (hf : (f, b) ∈ biNames) (hb : c.bi f = true) (hg : Gl X (Str.ofString f))
    (ha : SL X c W (e :: es) (e' :: es')) (he : starEach (e :: es) X.env = (false, eval e X.env) :: starEach es X.env) (hpl : (backTo pos (starEach es X.env)).any (·.1) = false) :
    SE X c W (.Call (.Name (Str.ofString f) p) (e :: es) [] pos) (.bi z f (e' :: es')) := by
  obtain ⟨h1, h2, h3⟩ := bi_boot _ hf
  have hr := fun W' => bi_rule (z := z) C W' _ hf
  cases b with
  | true => exact s_biB C hr hg (C.lib.bi f hb) h1 ha h2 h3 he hpl
  | false => exact s_biT C hr hg (C.lib.bi f hb) h1 ha h2 h3 he hpl
/-- o.m(..) -/
theorem s_meth {z : Bool} (C : Cok X c lv W) {a : Expr} {a' : E} {m : String} {es : List Expr} {es' kes' : List E} {kws : List Keyword} {ks : List String} {apos pos : Pos} (hao : SE X c W a a') (hba : attributeBase a (Str.ofString m) X.env (eval a X.env) = eval a X.env)
    (hline : (apos.endLine == pos.line) = true) (hform : methodCallForm (es.length + kws.length) (backTo pos (starEach es X.env)) (backToKw pos (keywordEach kws X.env)) = true)
    (hkl : kws = [] ↔ kes' = []) (ha : SL X c W es es') (hk : SK X c W kws kes') (ao : ArgOk X es es' kws ks pos) : SE X c W (.Call (.Attribute a (Str.ofString m) apos) es kws pos) (.meth z a' m es' ks kes') := by
  refine ⟨fun pins s σ H Q I h => ?_⟩
  obtain ⟨ι, st, env, rs, re, q⟩ := h
  simp only [evE] at q
  have he := mcall_of (t := fun ov => do
      let (f, first) ← holding [ov] (getMethod ov (Str.ofString m) (plainOf a X.env))
      callWith pos f first (backTo pos (starEach es X.env)) (backToKw pos (keywordEach kws X.env))) hba (fun ov => mcall_line hform hline)
  cases hE : evE c a' env st with
  | no => rw [hE] at q; exact q.elim
  | exc cl fs st1 =>
    rw [hE] at q
    refine PySem.W.methodCall_KW (pl := plainOf a X.env) (thn (hao.run pins s σ H (fun _ _ => False) I ⟨ι, st, env, rs, re, by rw [hE]; exact q⟩) ?_) he
    rintro u s1 ⟨x, H1, I1, rx, z⟩
    exact z.elim
  | ok d st1 =>
    rw [hE] at q
    have q : Post (FX X c) (RV (FX X c)) Q (fun c d H' => W c d σ H') ι H (match kindOf st1 d with
      | .own cl => (match c.mplan cl m (es'.length + 1) ks with
        | some pl => (evEs c es' env st1).bind fun xs st => (evEs c kes' env st).bind fun zs st => if xs.length = es'.length ∧ zs.length = ks.length then gcR (c.mfz cl m) st (c.mrun cl m (pl.map (Src.pick (d :: xs) zs)) st) else .no
        | none => .no)
      | k => if mtOk k m = true ∧ ks = [] ∧ kes' = [] then (evEs c es' env st1).bind fun xs st => methD z k m d xs st else .no) := q
    have recv : ∀ {Z : Sto → Prop}, Z st1 → tE (FX X c) W (evE c a') σ H fun x H1 => ∃ ι1, ι <+: ι1 ∧ Keep ι ι1 H H1 ∧ Rs (FX X c) ι1 st1 H1 ∧ RV (FX X c) ι1 H1 d x ∧ Re (FX X c) ι1 H1 env σ := fun {Z} _ =>
      ⟨ι, st, env, rs, re, by rw [hE]; exact fun ι' H' b p k rs' rd => ⟨ι', p, k, rs', rd, re.mono p k⟩⟩
    have own : ∀ cl, kindOf st1 d = .own cl → wpAny (model X.prog X.w) X.A (eval (.Call (.Attribute a (Str.ofString m) apos) es kws pos) X.env) (EP X pins σ Q) X.xe s := by
      intro cl hK
      rw [hK] at q
      dsimp only at q
      split at q
      · rename_i pl hp
        refine PySem.W.methodCall_KW (pl := plainOf a X.env) (thn (hao.run pins s σ H _ I (recv (Z := fun _ => True) trivial)) ?_) he
        rintro u s1 ⟨x, H1, I1, rx, ι1, p1, k1, rs1, rd, re1⟩
        have hobj : ∃ n fs, d = .ref n ∧ st1[n]? = some (.obj cl fs) := by
          unfold kindOf at hK
          split at hK
          · cases hK
          · cases hK
          · cases hK
          · split at hK
            · cases hK
            · cases hK
            · rename_i n c' fs hs
              cases hK
              exact ⟨_, fs, rfl, hs⟩
            · cases hK
          · cases hK
        obtain ⟨n, fs, rfl, hs⟩ := hobj
        cases rd with
        | @ref _ o hn =>
          obtain ⟨C', dx, vs, h0, h1, h2, h3, h4⟩ := rs1.at_ hn hs
          cases rx
          obtain ⟨C2, g, e1, e2, e3, ff⟩ := C.lib.mt cl m _ ks pl hp
          rw [show X.mg (Str.ofString cl) = _ from h0] at e1
          cases e1
          refine getmeth_ok I1 h1 h3 e2 (rf_no h2 fun pr hp z => e3 (z ▸ h4 pr hp)) ?_
          refine args_run (first := [.ref o]) (K' := fun xs zs st => if xs.length = es'.length ∧ zs.length = ks.length then gcR (c.mfz cl m) st (c.mrun cl m (pl.map (Src.pick (.ref n :: xs) zs)) st) else .no) e2.kp ao.len ha hk ao.all ao.ks ao.pl ao.st I1 rs1 re1 (q.mono p1 k1) ?_
          intro us ws vs' zs ι2 st2 ds qs H2 s2 I2 r rz p2 k2 rs2 rd2 rq q2
          split at q2
          · rename_i hl
            exact run_at C ff (us := .ref o :: us) (vs := .ref o :: vs') I2 (.cons rfl r) rz rs2 (.cons (.ref (pre_get p2 hn)) rd2) rq (by rw [List.length_cons, hl.1]) hl.2 q2
          · exact q2.elim
      · exact q.elim
    have blt : ∀ k, kindOf st1 d = k → (∀ cl, k ≠ .own cl) → wpAny (model X.prog X.w) X.A (eval (.Call (.Attribute a (Str.ofString m) apos) es kws pos) X.env) (EP X pins σ Q) X.xe s := by
      intro k hK hno
      have qq : Post (FX X c) (RV (FX X c)) Q (fun c d H' => W c d σ H') ι H (if mtOk k m = true ∧ ks = [] ∧ kes' = [] then (evEs c es' env st1).bind fun xs st => methD z k m d xs st else .no) := by
        rw [hK] at q
        cases k with
        | own cl => exact absurd rfl (hno cl)
        | _ => exact q
      split at qq
      · rename_i hk3
        obtain ⟨hmt, rfl, hke⟩ := hk3
        have hkw : kws = [] := hkl.mpr hke
        subst hkw
        obtain ⟨hkd, id, t1, t2, t3, t4⟩ := mt_known (X := X) (W := fun c d H' => W c d σ H') (fld := c.fld) (z := z) C.room.units hmt
        refine wpAny_Call_method_late hba (by unfold methodCallForm at hform; exact hform) hline rfl (thn (hao.run pins s σ H _ I (recv (Z := fun _ => True) trivial)) ?_)
        rintro u s1 ⟨x, H1, I1, rx, ι1, p1, k1, rs1, rd, re1⟩
        obtain ⟨y1, y2⟩ := kind_is I1 rx rs1 rd hK hkd
        refine ⟨kdT k, id, t1, t2, t3, y1, y2, ?_⟩
        have pl0 : (backTo pos (starEach es X.env)).any (·.1) = false := (Bool.or_eq_false_iff.mp ao.pl).1
        refine Calls.callWith_builtin pl0 ?_
        cases es with
        | nil =>
          have z : es' = [] := List.length_eq_zero_iff.mp ao.len.symm
          subst z
          simp only [evEs, R.bind] at qq
          exact PySem.evalArgs_none (t4 pins s1 σ H1 x [] u [] Q I1 rx .nil ⟨ι1, st1, d, [], rs1, rd, .nil, qq.mono p1 k1⟩)
        | cons e r =>
          have hA := ha.run pos pins s1 σ H1 _ I1 ⟨ι1, st1, env, rs1, re1, Post.bind (RA := RVs (FX X c)) (qq.mono p1 k1)⟩
          rw [ao.st e r rfl] at hA ⊢
          refine Calls.evalArgs_plain (thn hA ?_)
          rintro us s2 ⟨vs, H2, I2, r2, ι2, st2, ds, p2, k2, rs2, rd2, q2⟩
          exact t4 pins s2 σ H2 x vs u us Q I2 rx r2 ⟨ι2, st2, d, ds, rs2, rd.mono p2 k2, rd2, q2⟩
      · exact qq.elim
    cases hK : kindOf st1 d with
    | own cl => exact own cl hK
    | _ => exact blt _ hK (by intro cl z; cases z)
end
end Mi

set_option linter.all false
set_option maxRecDepth 100000
/-! V10: f-strings, what is walked, comprehensions. -/
namespace Mi
open PySem PySem.Spec L2
open PyProof.Rows hiding St
section
variable {X : Cx} {c : Ctx} {lv : Nat} {W : L2.WX}
/-! ### f-strings -/
def tF (F : Fx) (W : L2.WX) (m : Env → Sto → R D) : TE := fun σ H Q => tE F W m σ H fun x H1 => ∃ ι1 st1 d y, Rs F ι1 st1 H1 ∧ RV F ι1 H1 d x ∧ fmtD d = some y ∧ (StrOk y → Q (.str (tS y)) H1)
abbrev SF (X : Cx) (c : Ctx) (W : L2.WX) (e : Expr) (e' : E) : Prop := PE X e (tF (FX X c) W (evE c e'))
theorem sf_fmt {e : Expr} {e' : E} {pos : Pos} (h : SE X c W e e') : SF X c W (.FormattedValue e (-1) none pos) e' := s_fmt h
theorem sf_str {x : Str} {j pos} (o : StrOk x.cps.toList) : SF X c W (.Constant (.str x) j pos) (.str x.cps.toList) := by
  refine PE.imp pe_str ?_
  rintro σ H Q ⟨ι, st, env, rs, re, p⟩
  simp only [evE] at p
  obtain ⟨ι1, st1, d, y, rs1, rd, hf, q⟩ := p.here rs (.str _ o)
  have e : tS x.cps.toList = x := by cases x; simp [tS]
  have hy : y = x.cps.toList := by
    have : V.str (tS x.cps.toList) = V.str (tS x.cps.toList) := rfl
    cases d <;> first | (simp [fmtD] at hf; done) | skip
    · exact absurd rd (by intro z; cases z)
    · obtain ⟨h1, _⟩ := rd.str_inv
      simp only [fmtD, Option.some.injEq] at hf
      subst hf
      exact (tS_inj (V.str.inj h1)).symm
  subst hy
  rw [e] at q
  exact q o
inductive SFs (X : Cx) (c : Ctx) (W : L2.WX) : List Expr → List E → Prop where
  | nil : SFs X c W [] []
  | cons {e : Expr} {e' : E} {es : List Expr} {es' : List E} : SF X c W e e' → SFs X c W es es' → SFs X c W (e :: es) (e' :: es')
theorem SFs.pj {es : List Expr} {es' : List E} (h : SFs X c W es es') : PJ X es (es'.map fun e' => tF (FX X c) W (evE c e')) := by
  induction h with
  | nil => exact .nil
  | cons a _ ih => exact .cons a ih
theorem fs_run {σ : St} {Q : Str → Hp → Prop} {env : Env} : ∀ {es' : List E} {acc : List Nat} {ι : List Addr} {st : Sto} {H : Hp}, StrOk acc → Rs (FX X c) ι st H → Re (FX X c) ι H env σ →
    Post (FX X c) (RV (FX X c)) (fun x H' => ∀ y, x = .str y → Q y H') (fun c d H' => W c d σ H') ι H (evFs c es' acc env st) →
    tJs (es'.map fun e' => tF (FX X c) W (evE c e')) (tS acc) σ H Q
  | [], acc, ι, st, H, o, rs, re, p => by
    simp only [evFs] at p
    exact p.here rs (.str acc o) _ rfl
  | e :: es, acc, ι, st, H, o, rs, re, p => by
    simp only [evFs] at p
    refine ⟨ι, st, env, rs, re, p.bind.imp ?_⟩
    rintro x H1 ⟨ι1, st1, d, p1, k1, rs1, rd, q1⟩
    split at q1
    · rename_i y hy
      refine ⟨ι1, st1, d, y, rs1, rd, hy, fun oy => ?_⟩
      split at q1
      · rename_i hl
        have o2 : StrOk (acc ++ y) := ⟨hl, fun k hk => by
          rcases List.mem_append.mp hk with hk | hk
          · exact o.2 k hk
          · exact oy.2 k hk⟩
        refine ⟨tS y, rfl, by rw [← tS_append, tS_length]; exact hl, ?_⟩
        rw [← tS_append]
        exact fs_run o2 rs1 (re.mono p1 k1) q1
      · exact q1.elim
    · exact q1.elim
theorem s_fstr {e1 e2 : Expr} {es : List Expr} {es' : List E} {pos : Pos} (h : SFs X c W (e1 :: e2 :: es) es') : SE X c W (.JoinedStr (e1 :: e2 :: es) pos) (.fstr es') := by
  refine PE.imp (pe_joined h.pj) ?_
  rintro σ H Q ⟨ι, st, env, rs, re, p⟩
  simp only [evE] at p
  have o : StrOk [] := ⟨Nat.zero_le _, fun k hk => by cases hk⟩
  exact fs_run (acc := []) o rs re (p.imp fun x H' q y e => e ▸ q)
/-! ### what is walked -/
structure JOk (F : Fx) (ι : List Addr) (H : Hp) (iv : Iv) (J : L2.It) : Prop where
  sm : ∀ ι' st' H' i d, ι <+: ι' → Keep ι ι' H H' → Rs F ι' st' H' → nextI st' i iv = some (some d) → J.go i H' ∧ ∀ x H'', J.yld i H' x H'' → Same H' H'' ∧ RV F ι' H'' d x
  sp : ∀ ι' st' H' i, ι <+: ι' → Keep ι ι' H H' → Rs F ι' st' H' → nextI st' i iv = some none → J.stop i H'
theorem same_keep {ι : List Addr} {H H' : Hp} (h : Same H H') : Keep ι ι H H' := ⟨fun _ _ => h _ _, fun _ _ _ => h _ _, fun _ _ _ => h _ _, fun _ _ _ => h _ _, fun _ _ => h _ _, fun _ _ => h _ _, fun _ _ _ => h _ _, fun _ q n => absurd q n⟩
theorem Rs.same {F : Fx} {ι : List Addr} {st : Sto} {H H' : Hp} (r : Rs F ι st H) (h : Same H H') : Rs F ι st H' :=
  r.side (same_keep h) fun b hb => by
    obtain ⟨n, hn⟩ := List.mem_iff_getElem?.mp hb
    obtain ⟨u, hu, _⟩ := r.has hn
    rw [hu, h _ _ hu]
theorem same_new {H : Hp} {T : Addr} {o : HO} (h : H T = none) : Same H (upd H T o) := fun b u e => by rw [upd_ne (ne_of_none e h)]; exact e
def tIt (F : Fx) (W : L2.WX) (m : Env → Sto → R Iv) : TI := fun σ H R => ∃ ι st env, Rs F ι st H ∧ Re F ι H env σ ∧ Post F (fun ι H iv J => JOk F ι H iv J) R (fun c d H' => W c d σ H') ι H (m env st)
abbrev SI (X : Cx) (c : Ctx) (W : L2.WX) (tg e : Expr) (i' : Mi.It) : Prop := PI X tg e (tIt (FX X c) W (itE c i'))
theorem PI.imp {tg e : Expr} {t t' : TI} (h : PI X tg e t) (f : ∀ σ H R, t' σ H R → t σ H R) : PI X tg e t' := ⟨fun pins s σ H R I q => h.run pins s σ H R I (f _ _ _ q)⟩
theorem PI.or {tg e : Expr} {t t' : TI} (h : PI X tg e t) (h' : PI X tg e t') : PI X tg e (fun σ H R => t σ H R ∨ t' σ H R) := ⟨fun pins s σ H R I q => q.elim (h.run pins s σ H R I) (h'.run pins s σ H R I)⟩
/-- the iterator of a list -/
theorem jok_list {F : Fx} {ι : List Addr} {st : Sto} {H : Hp} {d : D} {v : V} {iv : Iv} (rs : Rs F ι st H) (rd : RV F ι H d v) (h : ivL st d = some iv) : ∃ a xs, v = .ref a ∧ SqL F.K H a xs ∧ JOk F ι H iv (Itl F.K a) ∧ JOk F ι H (.enum iv) (Ite F.K a) := by
  have fin : ∀ {a : Addr} {iv : Iv}, (∀ ι' st' H', ι <+: ι' → Keep ι ι' H H' → Rs F ι' st' H' → (∀ i, nextI st' i iv = none) ∨ ∃ ds vs, SqL F.K H' a vs ∧ RVs F ι' H' ds vs ∧ ∀ i, nextI st' i iv = some ds[i]?) → JOk F ι H iv (Itl F.K a) ∧ JOk F ι H (.enum iv) (Ite F.K a) := by
    intro a iv hh
    refine ⟨⟨fun ι' st' H' i e p k r hn => ?_, fun ι' st' H' i p k r hn => ?_⟩, ⟨fun ι' st' H' i e p k r hn => ?_, fun ι' st' H' i p k r hn => ?_⟩⟩
    · rcases hh ι' st' H' p k r with z | ⟨ds, vs, h1, h3, h4⟩
      · rw [z] at hn; cases hn
      · rw [h4] at hn
        obtain ⟨w, w1, w2⟩ := h3.get (Option.some.inj hn)
        refine ⟨⟨vs, w, h1, w1⟩, ?_⟩
        rintro x H'' ⟨rfl, hx⟩
        have := hx vs h1
        rw [w1] at this
        cases this
        exact ⟨Same.refl _, w2⟩
    · rcases hh ι' st' H' p k r with z | ⟨ds, vs, h1, h3, h4⟩
      · rw [z] at hn; cases hn
      · rw [h4] at hn
        refine ⟨vs, h1, ?_⟩
        rw [← h3.length]
        exact List.getElem?_eq_none_iff.mp (Option.some.inj hn)
    · simp only [nextI] at hn
      split at hn
      · rename_i q hq
        cases hn
        rcases hh ι' st' H' p k r with z | ⟨ds, vs, h1, h3, h4⟩
        · rw [z] at hq; cases hq
        · rw [h4] at hq
          obtain ⟨w, w1, w2⟩ := h3.get (Option.some.inj hq)
          refine ⟨⟨vs, w, h1, w1⟩, ?_⟩
          rintro x H'' ⟨T, y, rfl, hT, rfl, hy⟩
          have := hy vs h1
          rw [w1] at this
          cases this
          have kk := same_keep (ι := ι') (same_new (o := .tup [.int (i : Nat), w]) hT)
          exact ⟨same_new hT, .tup (SqT.of upd_same) (.cons (.int _) (.one (w2.mono (pre_refl _) kk))) (by rw [sizeLine_eq]; simp)⟩
      · cases hn
      · cases hn
    · simp only [nextI] at hn
      split at hn
      · cases hn
      · rename_i hq
        rcases hh ι' st' H' p k r with z | ⟨ds, vs, h1, h3, h4⟩
        · rw [z] at hq; cases hq
        · rw [h4] at hq
          refine ⟨vs, h1, ?_⟩
          rw [← h3.length]
          exact List.getElem?_eq_none_iff.mp (Option.some.inj hq)
      · cases hn
  cases rd with
  | @cl ds vs a h1 h2 h3 =>
    cases h
    refine ⟨a, vs, rfl, h1.sq, fin fun ι' st' H' p k r => .inr ⟨ds, vs, (k.cl h1).sq, h2.mono p k, fun i => rfl⟩⟩
  | @ref n a e =>
    simp only [ivL] at h
    split at h
    · rename_i xs hs
      cases h
      obtain ⟨vs, h1, h2, h3⟩ := rs.at_ e hs
      refine ⟨a, vs, rfl, SqL.of h1, fin fun ι' st' H' p k r => ?_⟩
      cases hc : st'[n]? with
      | none => exact .inl fun i => by simp [nextI, hc]
      | some o =>
        cases o with
        | lst ys =>
          obtain ⟨ws, g1, g2, g3⟩ := r.at_ (pre_get p e) hc
          exact .inr ⟨ys, ws, SqL.of g1, g2, fun i => by simp [nextI, hc]⟩
        | _ => exact .inl fun i => by simp [nextI, hc]
    · cases h
  | _ => cases h
theorem jok_tup {F : Fx} {ι : List Addr} {H : Hp} {ds : List D} {vs : List V} {a : Addr} (t : SqT F.K H a vs) (r : RVs F ι H ds vs) : JOk F ι H (.fix ds) (Itt F.K a) := by
  refine ⟨fun ι' st' H' i e p k rs hn => ?_, fun ι' st' H' i p k rs hn => ?_⟩
  · obtain ⟨w, w1, w2⟩ := (r.mono p k).get (Option.some.inj hn)
    refine ⟨⟨vs, w, k.sqT t, w1⟩, ?_⟩
    rintro x H'' ⟨rfl, hx⟩
    have := hx vs (k.sqT t)
    rw [w1] at this
    cases this
    exact ⟨Same.refl _, w2⟩
  · refine ⟨vs, k.sqT t, ?_⟩
    rw [← r.length]
    exact List.getElem?_eq_none_iff.mp (Option.some.inj hn)
theorem jok_str {F : Fx} {ι : List Addr} {H : Hp} {x : List Nat} (o : StrOk x) : JOk F ι H (.fix (x.map fun c => .str [c])) (Its (tS x)) := by
  have sz : (tS x).cps.size = x.length := by simp [tS]
  refine ⟨fun ι' st' H' i e p k rs hn => ?_, fun ι' st' H' i p k rs hn => ?_⟩
  · have h1 : (x.map fun c => D.str [c])[i]? = some e := Option.some.inj hn
    rw [List.getElem?_map] at h1
    obtain ⟨q, hq, rfl⟩ := Option.map_eq_some_iff.mp h1
    have hi := (List.getElem?_eq_some_iff.mp hq).1
    refine ⟨by show i < _; rw [sz]; exact hi, ?_⟩
    rintro y H'' ⟨rfl, q', hq', rfl⟩
    have e1 : (tS x).cps[i]? = some q := by simpa [tS] using hq
    rw [e1] at hq'
    cases hq'
    exact ⟨Same.refl _, .str [q] ⟨by rw [sizeLine_eq]; simp, fun c hc => by rw [List.mem_singleton.mp hc]; exact o.2 q (List.mem_of_getElem? hq)⟩⟩
  · show _ ≤ i
    rw [sz]
    have h1 : (x.map fun c => D.str [c])[i]? = none := Option.some.inj hn
    simpa using h1
theorem jok_range {F : Fx} {ι : List Addr} {H : Hp} (lo : Int) (n : Nat) : JOk F ι H (.fix (rangeL lo n)) (Itr lo n) := by
  have len : (rangeL lo n).length = n := by simp [rangeL]
  refine ⟨fun ι' st' H' i e p k rs hn => ?_, fun ι' st' H' i p k rs hn => ?_⟩
  · have h1 : (rangeL lo n)[i]? = some e := Option.some.inj hn
    have hi := (List.getElem?_eq_some_iff.mp h1).1
    rw [len] at hi
    refine ⟨hi, ?_⟩
    rintro y H'' ⟨rfl, rfl⟩
    have e1 : (rangeL lo n)[i]? = some (.int (lo + (i : Int))) := by simp [rangeL, hi]
    rw [e1] at h1
    cases h1
    exact ⟨Same.refl _, .int _⟩
  · have h1 : (rangeL lo n)[i]? = none := Option.some.inj hn
    rw [List.getElem?_eq_none_iff, len] at h1
    exact h1
/-- a dict that is fixed -/
theorem jok_dk {F : Fx} {ι : List Addr} {H : Hp} {kvs : List (D × D)} {ks : List (Key × V)} {a : Addr} {o : Obj} (h : H a = some (.frz o (.dK ks))) (r : RK F ι H kvs ks) :
    JOk F ι H (.fix (kvs.map (·.1))) (Itk a o ks) ∧ JOk F ι H (.fix (kvs.map (·.2))) (Itd a o ks) ∧ JOk F ι H (.fix (kvs.map fun p => .tup [p.1, p.2])) (Iti a o ks) := by
  have len : kvs.length = ks.length := Paired.length r
  have at_ : ∀ {i : Nat} {p : D × D}, kvs[i]? = some p → ∃ q, ks[i]? = some q ∧ RKey p.1 q.1 ∧ RV F ι H p.2 q.2 := fun {i p} e => by
    have go : ∀ {kvs : List (D × D)} {ks : List (Key × V)} {i : Nat} {p : D × D}, RK F ι H kvs ks → kvs[i]? = some p → ∃ q, ks[i]? = some q ∧ RKey p.1 q.1 ∧ RV F ι H p.2 q.2 := by
      intro kvs ks i p r
      induction r generalizing i with
      | nil => intro e; simp at e
      | cons e t ih =>
        intro q
        cases i with
        | zero => simp at q; subst q; exact ⟨_, rfl, e⟩
        | succ i => exact ih (by simpa using q)
    exact go r e
  have key : ∀ {d : D} {k : Key}, RKey d k → ∀ {ι' : List Addr} {H' : Hp}, RV F ι' H' d (kV k) := fun {d k} h ι' H' => by
    cases d <;> first | exact h.elim | skip
    · cases h; exact .int _
    · obtain ⟨rfl, o⟩ := h; exact .str _ o
  refine ⟨⟨fun ι' st' H' i d p k rs hn => ?_, fun ι' st' H' i p k rs hn => ?_⟩, ⟨fun ι' st' H' i d p k rs hn => ?_, fun ι' st' H' i p k rs hn => ?_⟩, ⟨fun ι' st' H' i d p k rs hn => ?_, fun ι' st' H' i p k rs hn => ?_⟩⟩
  · have e := Option.some.inj hn
    rw [List.getElem?_map] at e
    obtain ⟨q, e1, rfl⟩ := Option.map_eq_some_iff.mp e
    obtain ⟨⟨k1, v1⟩, e2, e3, e4⟩ := at_ e1
    refine ⟨⟨k.frd _ _ _ h, (List.getElem?_eq_some_iff.mp e2).1⟩, ?_⟩
    rintro x H'' ⟨rfl, k2, v2, e5, rfl⟩
    rw [e2] at e5
    cases e5
    exact ⟨Same.refl _, key e3⟩
  · have e := Option.some.inj hn
    rw [List.getElem?_map, Option.map_eq_none_iff, List.getElem?_eq_none_iff, len] at e
    exact ⟨k.frd _ _ _ h, e⟩
  · have e := Option.some.inj hn
    rw [List.getElem?_map] at e
    obtain ⟨q, e1, rfl⟩ := Option.map_eq_some_iff.mp e
    obtain ⟨⟨k1, v1⟩, e2, e3, e4⟩ := at_ e1
    refine ⟨⟨k.frd _ _ _ h, (List.getElem?_eq_some_iff.mp e2).1⟩, ?_⟩
    rintro x H'' ⟨rfl, k2, e5⟩
    rw [e2] at e5
    cases e5
    exact ⟨Same.refl _, e4.mono p k⟩
  · have e := Option.some.inj hn
    rw [List.getElem?_map, Option.map_eq_none_iff, List.getElem?_eq_none_iff, len] at e
    exact ⟨k.frd _ _ _ h, e⟩
  · have e := Option.some.inj hn
    rw [List.getElem?_map] at e
    obtain ⟨q, e1, rfl⟩ := Option.map_eq_some_iff.mp e
    obtain ⟨⟨k1, v1⟩, e2, e3, e4⟩ := at_ e1
    refine ⟨⟨k.frd _ _ _ h, (List.getElem?_eq_some_iff.mp e2).1⟩, ?_⟩
    rintro x H'' ⟨T, k2, v2, e5, rfl, hT, rfl⟩
    rw [e2] at e5
    cases e5
    have kk := same_keep (ι := ι') (same_new (o := .tup [kV k1, v1]) hT)
    exact ⟨same_new hT, .tup (SqT.of upd_same) (.cons (key e3) (.one ((e4.mono p k).mono (pre_refl _) kk))) (by rw [sizeLine_eq]; simp)⟩
  · have e := Option.some.inj hn
    rw [List.getElem?_map, Option.map_eq_none_iff, List.getElem?_eq_none_iff, len] at e
    exact ⟨k.frd _ _ _ h, e⟩
theorem si_items {e : Expr} {e' : E} {apos cpos tpos : Pos} {elts : List Expr} {kk : Nat} (he : SE X c W e e') (hb : attributeBase e "items" X.env (eval e X.env) = eval e X.env) (hl : (apos.endLine == cpos.line) = true) : SI X c W (.Tuple elts kk tpos) (.Call (.Attribute e "items" apos) [] [] cpos) (.items e') := by
  refine PI.imp (pi_items he hb hl) ?_
  rintro σ H R ⟨ι, st, env, rs, re, p⟩
  simp only [itE] at p
  refine ⟨ι, st, env, rs, re, p.bind.imp ?_⟩
  rintro x H1 ⟨ι1, st1, d, p1, k1, rs1, rd, q1⟩
  split at q1
  · cases rd with
    | cd h1 h2 h3 h4 => exact ⟨_, _, _, rfl, h1, q1 ι1 H1 _ (pre_refl _) (Keep.refl _) rs1 (jok_dk h1 (rk_of h2 h3)).2.2⟩
  · exact q1.elim
theorem si_vals {tg e : Expr} {e' : E} {apos cpos : Pos} (he : SE X c W e e') (hb : attributeBase e "values" X.env (eval e X.env) = eval e X.env) (hl : (apos.endLine == cpos.line) = true) : SI X c W tg (.Call (.Attribute e "values" apos) [] [] cpos) (.vals e') := by
  refine PI.imp (pi_values he hb hl) ?_
  rintro σ H R ⟨ι, st, env, rs, re, p⟩
  simp only [itE] at p
  refine ⟨ι, st, env, rs, re, p.bind.imp ?_⟩
  rintro x H1 ⟨ι1, st1, d, p1, k1, rs1, rd, q1⟩
  split at q1
  · cases rd with
    | cd h1 h2 h3 h4 => exact ⟨_, _, _, rfl, h1, q1 ι1 H1 _ (pre_refl _) (Keep.refl _) rs1 (jok_dk h1 (rk_of h2 h3)).2.1⟩
  · exact q1.elim
theorem si_e {tg e : Expr} {e' : E} (h : SE X c W e e') : SI X c W tg e (.e e') := by
  refine PI.imp (PI.or (pi_list h) (PI.or (pi_tup h) (PI.or (pi_str h) (pi_keys h)))) ?_
  rintro σ H R ⟨ι, st, env, rs, re, p⟩
  simp only [itE] at p
  cases hE : evE c e' env st with
  | no => rw [hE] at p; exact p.elim
  | exc cl fs st1 => rw [hE] at p; exact .inl ⟨ι, st, env, rs, re, by rw [hE]; exact p⟩
  | ok d st1 =>
    rw [hE] at p
    have pp : Post (FX X c) (fun ι H iv J => JOk (FX X c) ι H iv J) R (fun c d H' => W c d σ H') ι H (match ivOf st1 d with | some iv => .ok iv st1 | none => .no) := p
    split at pp
    · rename_i iv hiv
      cases d with
      | tup ds =>
        cases hiv
        refine .inr (.inl ⟨ι, st, env, rs, re, ?_⟩)
        rw [hE]
        intro ι' H' b q k rs' rd
        cases rd with
        | tup t r z => exact ⟨_, rfl, ⟨_, t⟩, pp ι' H' _ q k rs' (jok_tup t r)⟩
      | str x =>
        cases hiv
        refine .inr (.inr (.inl ⟨ι, st, env, rs, re, ?_⟩))
        rw [hE]
        intro ι' H' b q k rs' rd
        obtain ⟨rfl, o⟩ := rd.str_inv
        exact ⟨_, rfl, pp ι' H' _ q k rs' (jok_str o)⟩
      | cl ds =>
        refine .inl ⟨ι, st, env, rs, re, ?_⟩
        rw [hE]
        intro ι' H' b q k rs' rd
        obtain ⟨a, xs, rfl, h1, h2, _⟩ := jok_list (iv := iv) rs' rd (by simpa [ivL, ivOf] using hiv)
        exact ⟨a, rfl, ⟨xs, h1⟩, pp ι' H' _ q k rs' h2⟩
      | ref n =>
        refine .inl ⟨ι, st, env, rs, re, ?_⟩
        rw [hE]
        intro ι' H' b q k rs' rd
        obtain ⟨a, xs, rfl, h1, h2, _⟩ := jok_list (iv := iv) rs' rd (by simpa only [ivL, ivOf] using hiv)
        exact ⟨a, rfl, ⟨xs, h1⟩, pp ι' H' _ q k rs' h2⟩
      | cd ks =>
        cases hiv
        refine .inr (.inr (.inr ⟨ι, st, env, rs, re, ?_⟩))
        rw [hE]
        intro ι' H' b q k rs' rd
        cases rd with
        | cd h1 h2 h3 h4 => exact ⟨_, _, rfl, .inl ⟨_, h1, pp ι' H' _ q k rs' (jok_dk h1 (rk_of h2 h3)).1⟩⟩
      | _ => cases hiv
    · exact pp.elim
theorem si_range1 {tg a : Expr} {a' : E} {q pos : Pos} (hg : Gl X "range") (hm : X.mg "range" = none) (h : SL X c W [a] [a']) (hs : starEach [a] X.env = [(false, eval a X.env)]) : SI X c W tg (.Call (.Name "range" q) [a] [] pos) (.range1 [a']) := by
  refine PI.imp (pi_range1 hg hm h hs) ?_
  rintro σ H R ⟨ι, st, env, rs, re, p⟩
  rw [itE] at p
  refine ⟨ι, st, env, rs, re, (Post.bind (RA := RVs (FX X c)) p).imp ?_⟩
  rintro xs H1 ⟨ι1, st1, ds, p1, k1, rs1, rd, q1⟩
  split at q1
  · obtain ⟨v, rfl, rv⟩ := vs1 rd
    have := rv.int_inv; subst this
    split at q1
    · rename_i hl
      exact ⟨_, rfl, hl.1, hl.2, q1 ι1 H1 _ (pre_refl _) (Keep.refl _) rs1 (jok_range 0 _)⟩
    · exact q1.elim
  · exact q1.elim
theorem si_range2 {tg a b : Expr} {a' b' : E} {q pos : Pos} (hg : Gl X "range") (hm : X.mg "range" = none) (h : SL X c W [a, b] [a', b']) (hs : starEach [a, b] X.env = [(false, eval a X.env), (false, eval b X.env)]) (hs2 : starEach [b] X.env = [(false, eval b X.env)]) :
    SI X c W tg (.Call (.Name "range" q) [a, b] [] pos) (.range2 [a', b']) := by
  refine PI.imp (pi_range2 hg hm h hs hs2) ?_
  rintro σ H R ⟨ι, st, env, rs, re, p⟩
  rw [itE] at p
  refine ⟨ι, st, env, rs, re, (Post.bind (RA := RVs (FX X c)) p).imp ?_⟩
  rintro xs H1 ⟨ι1, st1, ds, p1, k1, rs1, rd, q1⟩
  split at q1
  · obtain ⟨v, w, rfl, rv, rw'⟩ := vs2 rd
    have := rv.int_inv; have := rw'.int_inv; subst_vars
    split at q1
    · rename_i hl
      exact ⟨_, _, rfl, hl, q1 ι1 H1 _ (pre_refl _) (Keep.refl _) rs1 (jok_range _ _)⟩
    · exact q1.elim
  · exact q1.elim
theorem si_enum {a : Expr} {a' : E} {q pos tpos : Pos} {elts : List Expr} {kk : Nat} (hg : Gl X "enumerate") (hm : X.mg "enumerate" = none) (h : SE X c W a a') (hs : starEach [a] X.env = [(false, eval a X.env)]) :
    SI X c W (.Tuple elts kk tpos) (.Call (.Name "enumerate" q) [a] [] pos) (.enum a') := by
  refine PI.imp (pi_enum hg hm (pa_cons h pa_nil hs) hs) ?_
  rintro σ H R ⟨ι, st, env, rs, re, p⟩
  simp only [itE] at p
  refine ⟨ι, st, env, rs, re, p.bind.imp ?_⟩
  rintro x H1 ⟨ι1, st1, d, p1, k1, rs1, rd, q1⟩
  split at q1
  · rename_i iv hiv
    obtain ⟨o, xs, rfl, h1, _, h2⟩ := jok_list rs1 rd hiv
    exact ⟨_, _, rfl, h1, q1 ι1 H1 _ (pre_refl _) (Keep.refl _) rs1 h2⟩
  · exact q1.elim
/-- a list's items at a place -/
theorem ivL_at {F : Fx} {ι : List Addr} {st : Sto} {H : Hp} {d : D} {v : V} {iv : Iv} (rs : Rs F ι st H) (rd : RV F ι H d v) (h : ivL st d = some iv) :
    ∃ a xs, v = .ref a ∧ SqL F.K H a xs ∧ ∀ ι' st' H', ι <+: ι' → Keep ι ι' H H' → Rs F ι' st' H' → (∀ i, nextI st' i iv = none) ∨ ∃ ds vs, SqL F.K H' a vs ∧ RVs F ι' H' ds vs ∧ ∀ i, nextI st' i iv = some ds[i]? := by
  cases rd with
  | @cl ds vs a h1 h2 h3 =>
    cases h
    exact ⟨a, vs, rfl, h1.sq, fun ι' st' H' p k r => .inr ⟨ds, vs, (k.cl h1).sq, h2.mono p k, fun i => rfl⟩⟩
  | @ref n a e =>
    simp only [ivL] at h
    split at h
    · rename_i xs hs
      cases h
      obtain ⟨vs, h1, h2, h3⟩ := rs.at_ e hs
      refine ⟨a, vs, rfl, SqL.of h1, fun ι' st' H' p k r => ?_⟩
      cases hc : st'[n]? with
      | none => exact .inl fun i => by simp [nextI, hc]
      | some o =>
        cases o with
        | lst ys =>
          obtain ⟨ws, g1, g2, g3⟩ := r.at_ (pre_get p e) hc
          exact .inr ⟨ys, ws, SqL.of g1, g2, fun i => by simp [nextI, hc]⟩
        | _ => exact .inl fun i => by simp [nextI, hc]
    · cases h
  | _ => cases h
theorem zip_some {st : Sto} {i : Nat} {a b : Iv} {d : D} (h : nextI st i (.zip a b) = some (some d)) : ∃ x y, nextI st i a = some (some x) ∧ nextI st i b = some (some y) ∧ d = .tup [x, y] := by
  simp only [nextI] at h
  split at h <;> first | (cases h; exact ⟨_, _, by assumption, by assumption, rfl⟩) | cases h
theorem zip_none {st : Sto} {i : Nat} {a b : Iv} (h : nextI st i (.zip a b) = some none) : (nextI st i a = some none ∧ ∃ q, nextI st i b = some q) ∨ ((∃ q, nextI st i a = some q) ∧ nextI st i b = some none) := by
  simp only [nextI] at h
  split at h <;> first | (cases h; done) | (rename_i h1 h2; first | exact .inl ⟨h1, _, h2⟩ | exact .inr ⟨⟨_, h1⟩, h2⟩)
theorem jok_zipL {F : Fx} {ι : List Addr} {st : Sto} {H : Hp} {d e : D} {v w : V} {iv jv : Iv} (rs : Rs F ι st H) (rd : RV F ι H d v) (re : RV F ι H e w) (h1 : ivL st d = some iv) (h2 : ivL st e = some jv) :
    ∃ a b xs ys, v = .ref a ∧ w = .ref b ∧ SqL F.K H a xs ∧ SqL F.K H b ys ∧ JOk F ι H (.zip iv jv) (Itz F.K a b) := by
  obtain ⟨a, xs, rfl, a1, a2⟩ := ivL_at rs rd h1
  obtain ⟨b, ys, rfl, b1, b2⟩ := ivL_at rs re h2
  refine ⟨a, b, xs, ys, rfl, rfl, a1, b1, fun ι' st' H' i e p k r hn => ?_, fun ι' st' H' i p k r hn => ?_⟩
  · obtain ⟨x, y, n1, n2, rfl⟩ := zip_some hn
    rcases a2 ι' st' H' p k r with z | ⟨ds, vs, c1, c2, c3⟩
    · rw [z] at n1; cases n1
    · rcases b2 ι' st' H' p k r with z | ⟨es, ws, g1, g2, g3⟩
      · rw [z] at n2; cases n2
      · rw [c3] at n1
        rw [g3] at n2
        obtain ⟨t, t1, t2⟩ := c2.get (Option.some.inj n1)
        obtain ⟨u, u1, u2⟩ := g2.get (Option.some.inj n2)
        refine ⟨⟨vs, ws, t, u, c1, g1, t1, u1⟩, ?_⟩
        rintro q H'' ⟨T, t', u', rfl, hT, rfl, f1, f2⟩
        have e1 := f1 vs c1
        have e2 := f2 ws g1
        rw [t1] at e1
        rw [u1] at e2
        cases e1
        cases e2
        have kk := same_keep (ι := ι') (same_new (o := .tup [t, u]) hT)
        exact ⟨same_new hT, .tup (SqT.of upd_same) (.cons (t2.mono (pre_refl _) kk) (.one (u2.mono (pre_refl _) kk))) (by rw [sizeLine_eq]; simp)⟩
  · rcases a2 ι' st' H' p k r with z | ⟨ds, vs, c1, c2, c3⟩
    · rcases zip_none hn with ⟨n1, _⟩ | ⟨⟨q, n1⟩, _⟩ <;> (rw [z] at n1; cases n1)
    · rcases b2 ι' st' H' p k r with z | ⟨es, ws, g1, g2, g3⟩
      · rcases zip_none hn with ⟨_, q, n1⟩ | ⟨_, n1⟩ <;> (rw [z] at n1; cases n1)
      · refine ⟨vs, ws, c1, g1, ?_⟩
        rcases zip_none hn with ⟨n1, _⟩ | ⟨_, n1⟩
        · rw [c3] at n1
          exact .inl (by rw [← c2.length]; exact List.getElem?_eq_none_iff.mp (Option.some.inj n1))
        · rw [g3] at n1
          exact .inr (by rw [← g2.length]; exact List.getElem?_eq_none_iff.mp (Option.some.inj n1))
theorem jok_zipT {F : Fx} {ι : List Addr} {H : Hp} {ds es : List D} {vs ws : List V} {a b : Addr} (t : SqT F.K H a vs) (r : RVs F ι H ds vs) (t2 : SqT F.K H b ws) (r2 : RVs F ι H es ws) : JOk F ι H (.zip (.fix ds) (.fix es)) (RZ.ItzT F.K a b) := by
  refine ⟨fun ι' st' H' i e p k rs hn => ?_, fun ι' st' H' i p k rs hn => ?_⟩
  · obtain ⟨x, y, n1, n2, rfl⟩ := zip_some hn
    obtain ⟨q, q1, q2⟩ := (r.mono p k).get (Option.some.inj n1)
    obtain ⟨u, u1, u2⟩ := (r2.mono p k).get (Option.some.inj n2)
    refine ⟨⟨vs, ws, q, u, k.sqT t, k.sqT t2, q1, u1⟩, ?_⟩
    rintro z H'' ⟨T, t', u', rfl, hT, rfl, f1, f2⟩
    have e1 := f1 vs (k.sqT t)
    have e2 := f2 ws (k.sqT t2)
    rw [q1] at e1
    rw [u1] at e2
    cases e1
    cases e2
    have kk := same_keep (ι := ι') (same_new (o := .tup [q, u]) hT)
    exact ⟨same_new hT, .tup (SqT.of upd_same) (.cons (q2.mono (pre_refl _) kk) (.one (u2.mono (pre_refl _) kk))) (by rw [sizeLine_eq]; simp)⟩
  · refine ⟨vs, ws, k.sqT t, k.sqT t2, ?_⟩
    rcases zip_none hn with ⟨n1, _⟩ | ⟨_, n1⟩
    · exact .inl (by rw [← r.length]; exact List.getElem?_eq_none_iff.mp (Option.some.inj n1))
    · exact .inr (by rw [← r2.length]; exact List.getElem?_eq_none_iff.mp (Option.some.inj n1))
theorem si_zip {a b : Expr} {a' b' : E} {q pos tpos : Pos} {elts : List Expr} {kk : Nat} (hg : Gl X "zip") (hm : X.mg "zip" = none) (ha : SE X c W a a') (hb : SE X c W b b') (hs : starEach [a, b] X.env = (false, eval a X.env) :: starEach [b] X.env) (hs2 : starEach [b] X.env = (false, eval b X.env) :: starEach [] X.env) (hpl : (backTo pos (starEach [b] X.env)).any (·.1) = false) :
    SI X c W (.Tuple elts kk tpos) (.Call (.Name "zip" q) [a, b] [] pos) (.zip a' b') := by
  refine PI.imp (RZ.pi_zipA hg hm (pa_cons ha (pa_cons hb pa_nil hs2) hs) hs hpl) ?_
  rintro σ H R ⟨ι, st, env, rs, re, p⟩
  simp only [itE] at p
  refine ⟨ι, st, env, rs, re, p.bind.imp ?_⟩
  rintro x H1 ⟨ι1, st1, d, p1, k1, rs1, rd, q1⟩
  refine ⟨ι1, st1, env, rs1, re.mono p1 k1, q1.bind.imp ?_⟩
  rintro y H2 ⟨ι2, st2, e, p2, k2, rs2, rd2, q2⟩
  have rd := rd.mono p2 k2
  split at q2
  · rename_i iv hiv
    unfold zipOf at hiv
    split at hiv
    · cases hiv
      cases rd with
      | tup t r z => cases rd2 with
        | tup t2 r2 z2 => exact ⟨_, _, _, _, rfl, .inr ⟨t, t2, q2 ι2 H2 _ (pre_refl _) (Keep.refl _) rs2 (jok_zipT t r t2 r2)⟩⟩
    · split at hiv
      · rename_i i j hi hj
        cases hiv
        obtain ⟨o, o2, xs, ys, rfl, rfl, h1, h2, h3⟩ := jok_zipL rs2 rd rd2 hi hj
        exact ⟨_, _, _, _, rfl, .inl ⟨h1, h2, q2 ι2 H2 _ (pre_refl _) (Keep.refl _) rs2 h3⟩⟩
      · cases hiv
  · exact q2.elim
/-! ### comprehensions -/
theorem Post.okEx {α β : Type} {F : Fx} {RA : List Addr → Hp → α → β → Prop} {Q : β → Hp → Prop} {W : XK} {ι : List Addr} {H : Hp} {r : R α} (h : Post F RA Q W ι H r) : r ≠ .no := by
  intro e; rw [e] at h; exact h
/-- a comprehension's target, item by item -/
def tG (F : Fx) (W : L2.WX) (m : D → Env → Sto → R Env) : TG := fun v σ H Q => ∃ ι st env d, Rs F ι st H ∧ Re F ι H env σ ∧ RV F ι H d v ∧
  Post F (fun ι H e σ' => Re F ι H e σ') Q (fun c d H' => W c d σ H') ι H (m d env st)
abbrev W0 : L2.WX := fun _ _ _ _ => False
abbrev SG (X : Cx) (c : Ctx) (W : L2.WX) (tg : Expr) (t : Tg) : Prop := PG X tg (tG (FX X c) W (asT c t))
/-- tests of a clause -/
def tP (F : Fx) (W : L2.WX) (m : Env → Sto → R Bool) : TT := fun σ H Q => ∃ ι st env, Rs F ι st H ∧ Re F ι H env σ ∧ Post F (fun _ _ a b => a = b) Q (fun c d H' => W c d σ H') ι H (m env st)
abbrev SP' (X : Cx) (c : Ctx) (W : L2.WX) (ifs : List Expr) (i' : Option E) : Prop := PTs X ifs (tP (FX X c) W (evI c i'))
theorem PTs.imp {ifs : List Expr} {t t' : TT} (h : PTs X ifs t) (f : ∀ σ H Q, t' σ H Q → t σ H Q) : PTs X ifs t' := ⟨fun pins s σ H Q I q => h.run pins s σ H Q I (f _ _ _ q)⟩
theorem sp_none : SP' X c W [] none := by
  refine PTs.imp pts_nil ?_
  rintro σ H Q ⟨ι, st, env, rs, re, p⟩
  simp only [evI] at p
  exact p ι H _ (pre_refl _) (Keep.refl _) rs rfl
theorem sp_some {e : Expr} {e' : E} (h : ST X c W e e') : SP' X c W [e] (some e') := by
  refine PTs.imp (pts_one h) ?_
  rintro σ H Q ⟨ι, st, env, rs, re, p⟩
  simp only [evI] at p
  refine ⟨ι, st, env, rs, re, p.bind.imp ?_⟩
  rintro x H1 ⟨ι1, st1, d1, p1, k1, rs1, rd1, q1⟩
  split at q1
  · have := rd1.bl_inv; subst this
    exact ⟨_, rfl, q1 ι1 H1 _ (pre_refl _) (Keep.refl _) rs1 rfl⟩
  · exact q1.elim
/-- targets: names alone -/
theorem sg_name {i : Nat} {x : Str} {pos : Pos} (hN : X.N.Nodup) (hi : X.N[i]? = some x) (hx : Loc X.env.scope x) (hf : X.fn x = true ∨ X.env.scope.names.lookup x = some .local) : SG X c W (.Name x pos) (.name i) := by
  refine ⟨fun pins s σ H v u Q I r h => (pg_name hN hi hx hf).run pins s σ H v u Q I r ?_⟩
  obtain ⟨ι, st, env, d, rs, re, rd, p⟩ := h
  simp only [asT] at p
  exact p ι H _ (pre_refl _) (Keep.refl _) rs (re.set i rd)
def tGs (F : Fx) (m : List D → Env → Sto → R Env) : TGs := fun vs σ H Q => ∃ ι st env ds, Rs F ι st H ∧ Re F ι H env σ ∧ RVs F ι H ds vs ∧
  Post F (fun ι H e σ' => Re F ι H e σ') Q (fun _ _ _ => False) ι H (m ds env st)
abbrev SGs (X : Cx) (c : Ctx) (tg : List Expr) (t : List Tg) : Prop := PGs X tg (tGs (FX X c) (asTs c t))
theorem sgs_nil : SGs X c [] [] := by
  refine ⟨fun pins s σ H v u Q I r h => pgs_nil.run pins s σ H v u Q I r ?_⟩
  obtain ⟨ι, st, env, d, rs, re, rd, p⟩ := h
  cases rd with
  | nil =>
    simp only [asTs] at p
    exact ⟨rfl, p ι H _ (pre_refl _) (Keep.refl _) rs re⟩
  | cons a b => simp only [asTs] at p; exact p.elim
theorem sgs_cons {e : Expr} {es : List Expr} {t : Tg} {ts : List Tg} (h1 : SG X c W0 e t) (h2 : SGs X c es ts) (hs : (assignEach (e :: es) X.env).map (·.2) = assign e X.env :: (assignEach es X.env).map (·.2)) : SGs X c (e :: es) (t :: ts) := by
  refine ⟨fun pins s σ H v u Q I r h => (pgs_cons h1 h2 hs).run pins s σ H v u Q I r ?_⟩
  obtain ⟨ι, st, env, d, rs, re, rd, p⟩ := h
  cases rd with
  | nil => simp only [asTs] at p; exact p.elim
  | @cons d ds v vs a b =>
    simp only [asTs] at p
    refine ⟨v, vs, rfl, ι, st, env, d, rs, re, a, (Post.bind (RA := fun ι H e σ' => Re (FX X c) ι H e σ') p).imp ?_⟩
    rintro σ' H1 ⟨ι1, st1, env1, p1, k1, rs1, re1, q1⟩
    exact ⟨ι1, st1, env1, ds, rs1, re1, b.mono p1 k1, q1⟩
theorem sg_tup {es : List Expr} {k : Nat} {pos : Pos} {ts : List Tg} (hc : X.calm = true) (h : SGs X c es ts) (hn : (assignEach es X.env).length = ts.length) (hst : (assignEach es X.env).findIdx? (·.1) = none) : SG X c W (.Tuple es k pos) (.tup ts) := by
  refine ⟨fun pins s σ H v u Q I r q => (pg_tup hc h hn hst).run pins s σ H v u Q I r ?_⟩
  obtain ⟨ι, st, env, d, rs, re, rd, p⟩ := q
  simp only [asT] at p
  split at p
  · cases rd with
    | tup t r' z =>
      split at p
      · rename_i hl
        exact ⟨_, _, rfl, t, by rw [← r'.length]; exact hl, ι, st, env, _, rs, re, r', p.calm⟩
      · exact p.elim
  · exact p.elim
/-! a starred target -/
section
open PySem.W PySem.Calls
variable {prog : Program} {w : World} {A : Around} {E : Value → Shared → Prop} {s : Shared}
theorem unpack_starL {l : Addr} {items : Array Value} {n i : Nat} {Q : List Value → Shared → Prop} (hl : s.heap.IsList l items) (hh : A.handled = none) (hi : i < n) (hn : n ≤ items.size + 1) (hz : items.size ≤ 16384)
    (h : ∀ (h' : Heap) (tk : Nat), (∀ b o, s.heap.get? b = some o → h'.get? b = some o) → Q (starL i n items.toList (.ref h'.objs.size)) { s with heap := h'.push { cls := .type "list", data := .seq (starM i n items.toList).toArray }, toks := tk }) : wpAny (model prog w) A (unpackItems (.ref l) n (some i)) Q E s := by
  have hlt : l ≠ s.heap.objs.size := by obtain ⟨o, ho, _⟩ := hl; exact Nat.ne_of_lt (Heap.lt_size ho)
  have hll : l < s.heap.objs.size := by obtain ⟨o, ho, _⟩ := hl; exact Heap.lt_size ho
  unfold unpackItems
  refine wpAny_bind ?_
  unfold notIterableAtAll
  refine wpAny_bind (wpAny_specialOf hl.typeIs slot_list_iter.lookup ?_)
  refine wpAny_pure ?_
  simp only [Bool.false_eq_true, if_false]
  refine wpAny_bind (wpAny_holding (wpAny_pyIter_list hl ?_))
  refine wpAny_bind (wpAny_holding (kun_draw hlt i 0 _ _ ⟨_, Heap.get?_push_size _ rfl, rfl, rfl⟩ (hl.push _) (by omega) fun h₁ hit₁ hs₁ => ?_))
  have hl₁ : h₁.IsList l items := (hl.push _).extBut hs₁.extBut hlt
  rw [Nat.zero_add] at hit₁
  have hit₁' := hit₁
  obtain ⟨oi, hoi, _⟩ := hit₁'
  have hl₁' := hl₁
  obtain ⟨ol, hol, _⟩ := hl₁'
  rw [List.drop_zero]
  have hfl : (items.toList.take i).length = i := by rw [List.length_take, Array.length_toList]; omega
  rw [if_neg (show ¬ ((items.toList.take i).length < i) by rw [hfl]; omega)]
  refine wpAny_bind (wpAny_holding (kun_collect (s := { s with heap := h₁ }) (T := "list_iterator") (.inr (.inr (.inl rfl))) (Walks.list (A := A.in1) hh s.heap.objs.size l hlt items) (fun j u st => st.1.typeIs) (k := i) (by omega) ⟨hit₁, hl₁⟩ (Heap.lt_size hoi) (Heap.lt_size hol) (fun h₂ tk hk => ?_) (by rw [sizeLine_eq]; omega)))
  have hrl : (items.toList.drop i).length = items.size - i := by rw [List.length_drop, Array.length_toList]
  have hmid : (items.toList.drop i).length - (n - 1 - i) = items.toList.length + 1 - n := by rw [hrl, Array.length_toList]; omega
  show wpAny _ _ (if (items.toList.drop i).length < n - 1 - i then _ else _) _ _ _
  rw [if_neg (by rw [hrl]; omega)]
  show wpAny _ _ (newList ((items.toList.drop i).take ((items.toList.drop i).length - (n - 1 - i))) >>= fun d => pure (items.toList.take i ++ [d] ++ (items.toList.drop i).drop ((items.toList.drop i).length - (n - 1 - i)))) _ _ _
  rw [hmid]
  have he : ∀ b o, s.heap.get? b = some o → h₂.get? b = some o := fun b o e => hk b o (Nat.ne_of_lt (Heap.lt_size e)) (hs₁.extBut b o (Nat.ne_of_lt (Heap.lt_size e)) (Heap.get?_push_of_some _ e))
  exact wpAny_bind (wpAny_newList (wpAny_pure (h h₂ tk he)) (by rw [List.length_take, hrl, sizeLine_eq]; omega))
theorem unpack_starT {l : Addr} {items : Array Value} {n i : Nat} {Q : List Value → Shared → Prop} (hl : IsTup s.heap l items) (hh : A.handled = none) (hi : i < n) (hn : n ≤ items.size + 1) (hz : items.size ≤ 16384)
    (h : ∀ (h' : Heap) (tk : Nat), (∀ b o, s.heap.get? b = some o → h'.get? b = some o) → Q (starL i n items.toList (.ref h'.objs.size)) { s with heap := h'.push { cls := .type "list", data := .seq (starM i n items.toList).toArray }, toks := tk }) : wpAny (model prog w) A (unpackItems (.ref l) n (some i)) Q E s := by
  have hlt : l ≠ s.heap.objs.size := by obtain ⟨o, ho, _⟩ := hl; exact Nat.ne_of_lt (Heap.lt_size ho)
  have hll : l < s.heap.objs.size := by obtain ⟨o, ho, _⟩ := hl; exact Heap.lt_size ho
  unfold unpackItems
  refine wpAny_bind ?_
  unfold notIterableAtAll
  refine wpAny_bind (wpAny_specialOf hl.typeIs slot_tuple_iter.lookup ?_)
  refine wpAny_pure ?_
  simp only [Bool.false_eq_true, if_false]
  refine wpAny_bind (wpAny_holding (iter_tuple hl ?_))
  refine wpAny_bind (wpAny_holding (draw_tuple hlt i 0 _ _ ⟨_, Heap.get?_push_size _ rfl, rfl, rfl⟩ (hl.push _) (by omega) fun h₁ hit₁ hs₁ => ?_))
  have hl₁ : IsTup h₁ l items := (hl.push _).extBut hs₁.extBut hlt
  rw [Nat.zero_add] at hit₁
  have hit₁' := hit₁
  obtain ⟨oi, hoi, _⟩ := hit₁'
  have hl₁' := hl₁
  obtain ⟨ol, hol, _⟩ := hl₁'
  rw [List.drop_zero]
  have hfl : (items.toList.take i).length = i := by rw [List.length_take, Array.length_toList]; omega
  rw [if_neg (show ¬ ((items.toList.take i).length < i) by rw [hfl]; omega)]
  refine wpAny_bind (wpAny_holding (kun_collect (s := { s with heap := h₁ }) (T := "tuple_iterator") (.inr (.inr (.inr rfl))) (Walks.tuple (A := A.in1) hh s.heap.objs.size l hlt items) (fun j u st => st.1.typeIs) (k := i) (by omega) ⟨hit₁, hl₁⟩ (Heap.lt_size hoi) (Heap.lt_size hol) (fun h₂ tk hk => ?_) (by rw [sizeLine_eq]; omega)))
  have hrl : (items.toList.drop i).length = items.size - i := by rw [List.length_drop, Array.length_toList]
  have hmid : (items.toList.drop i).length - (n - 1 - i) = items.toList.length + 1 - n := by rw [hrl, Array.length_toList]; omega
  show wpAny _ _ (if (items.toList.drop i).length < n - 1 - i then _ else _) _ _ _
  rw [if_neg (by rw [hrl]; omega)]
  show wpAny _ _ (newList ((items.toList.drop i).take ((items.toList.drop i).length - (n - 1 - i))) >>= fun d => pure (items.toList.take i ++ [d] ++ (items.toList.drop i).drop ((items.toList.drop i).length - (n - 1 - i)))) _ _ _
  rw [hmid]
  have he : ∀ b o, s.heap.get? b = some o → h₂.get? b = some o := fun b o e => hk b o (Nat.ne_of_lt (Heap.lt_size e)) (hs₁.extBut b o (Nat.ne_of_lt (Heap.lt_size e)) (Heap.get?_push_of_some _ e))
  exact wpAny_bind (wpAny_newList (wpAny_pure (h h₂ tk he)) (by rw [List.length_take, hrl, sizeLine_eq]; omega))
end
/-- the same names are wiped behind a store into some of them -/
theorem wipe_set {σ : St} {i : Nat} {v : Option V} : ∀ {vs : List Nat}, i ∈ vs → L2.wipe (σ.set i v) vs = L2.wipe σ vs
  | [], h => by cases h
  | w :: vs, h => by
    unfold L2.wipe
    by_cases e : w = i
    · subst e
      by_cases hm : w ∈ vs
      · rw [wipe_set hm]
      · have : ∀ {ws : List Nat}, w ∉ ws → L2.wipe (σ.set w v) ws = (L2.wipe σ ws).set w v := by
          intro ws
          induction ws with
          | nil => intro _; rfl
          | cons u us ih =>
            intro hu
            simp only [List.mem_cons, not_or] at hu
            unfold L2.wipe
            rw [ih hu.2, List.set_comm _ _ hu.1]
        rw [this hm, List.set_set]
    · have hm : i ∈ vs := by
        rcases List.mem_cons.mp h with h | h
        · exact absurd h.symm e
        · exact h
      rw [wipe_set hm]
mutual
/-- the names that a target stores -/
def tgIn (own : List Nat) : Tg → Bool
  | .name i => own.contains i
  | .tup ts => tgsIn own ts
  | _ => false
def tgsIn (own : List Nat) : List Tg → Bool
  | [] => true
  | t :: ts => tgIn own t && tgsIn own ts
end
end
theorem valsM {xs : List V} {us : List Value} (p n : Nat) (r : Vals xs us) : Vals (starM p n xs) (starM p n us) := by
  have e := r.length
  unfold Mi.starM
  rw [e]
  exact (r.drop p).take _
theorem valsL {xs : List V} {us : List Value} {x : V} {u : Value} (p n : Nat) (r : Vals xs us) (q : RelV x u) : Vals (starL p n xs x) (starL p n us u) := by
  have e := r.length
  unfold Mi.starL
  rw [e]
  exact Vals.append (Vals.append (r.take p) (.cons q .nil)) ((r.drop p).drop _)
theorem RVs.starM {F : Fx} {ι : List Addr} {H : Hp} {ds : List D} {vs : List V} (p n : Nat) (r : RVs F ι H ds vs) : RVs F ι H (starM p n ds) (starM p n vs) := by
  have e := r.length
  unfold Mi.starM
  rw [e]
  exact (r.drop p).take _
theorem RVs.starL {F : Fx} {ι : List Addr} {H : Hp} {ds : List D} {vs : List V} {d : D} {v : V} (p n : Nat) (r : RVs F ι H ds vs) (q : RV F ι H d v) : RVs F ι H (starL p n ds d) (starL p n vs v) := by
  have e := r.length
  unfold Mi.starL
  rw [e]
  exact ((r.take p).append (.one q)).append ((r.drop p).drop _)
def gStar (K : PySem.W.Frag) (p n : Nat) (t : TGs) : TG := fun v σ H Q => ∃ a xs, v = .ref a ∧ (SqL K H a xs ∨ SqT K H a xs) ∧ p < n ∧ n ≤ xs.length + 1 ∧ xs.length ≤ 16384 ∧
  ∀ b, H b = none → t (starL p n xs (.ref b)) σ (upd H b (.lst (starM p n xs))) Q
theorem pg_star {X : Cx} {pos : Pos} {es : List Expr} {k p : Nat} {t : TGs} {n : Nat} (hc : X.calm = true) (h : PGs X es t)
    (hn : (assignEach es X.env).length = n) (hst : (assignEach es X.env).findIdx? (·.1) = some p) : PG X (.Tuple es k pos) (gStar X.K p n t) := by
  refine ⟨fun pins s σ H v u Q I r hw => ?_⟩
  obtain ⟨a, xs, e1, hq, hp, hl, hz, hw⟩ := hw
  subst e1
  cases r
  have fin : ∀ (its : List Value) (h' : Heap) (tk : Nat), Vals xs its → (∀ b o, s.heap.get? b = some o → h'.get? b = some o) →
      wpAny (model X.prog X.w) X.A (assignInOrder ((assignEach es X.env).map (·.2)) (starL p n its.toArray.toList (.ref h'.objs.size))) (fun _ s' => ∃ σ' H', Inv X pins σ' H' s' ∧ Q σ' H') X.xe { s with heap := h'.push { cls := .type "list", data := .seq (starM p n its.toArray.toList).toArray }, toks := tk } := by
    intro its h' tk rv he
    have I0 : Inv X pins σ H { s with heap := h', toks := tk } := I.kept (t' := tk) he
    have hb : H h'.objs.size = none := I0.hok.fresh (Nat.le_refl _)
    have I1 : Inv X pins σ (upd H h'.objs.size (.lst (starM p n xs))) { s with heap := h'.push { cls := .type "list", data := .seq (starM p n its.toArray.toList).toArray }, toks := tk } :=
      I0.laid (t' := tk) (fun b o e => Heap.get?_push_of_some _ e) (Nat.le_refl _) (show ObjOk X.prog X.w _ _ _ (.lst (starM p n xs)) from ⟨by unfold Mi.starM; rw [List.length_take, List.length_drop, sizeLine_eq]; omega, starM p n its, 0, valsM p n rv, by simpa using Heap.get?_push_size _ rfl⟩)
    exact h.run pins _ σ _ _ _ Q I1 (by simpa using valsL p n rv (show RelV (V.ref h'.objs.size) (Value.ref h'.objs.size) from rfl)) (hw _ hb)
  rw [assign_Tuple]
  refine wpAny_bind (wpAny_standAt ?_)
  unfold unpack
  rw [hn, hst]
  rcases hq with hq | hq
  · obtain ⟨its, rv, ht, hz'⟩ := I.list hq
    exact wpAny_bind (wpAny_holding (unpack_starL ht.isList (I.ok.hd hc) hp (by simpa [← rv.length] using hl) (by simpa [← rv.length] using hz) fun h' tk he => fin its h' tk rv he))
  · obtain ⟨its, rv, ht, hz'⟩ := I.tuple hq
    exact wpAny_bind (wpAny_holding (unpack_starT ht (I.ok.hd hc) hp (by simpa [← rv.length] using hl) (by simpa [← rv.length] using hz) fun h' tk he => fin its h' tk rv he))
section
variable {X : Cx} {c : Ctx} {W : L2.WX} {pos : Pos}
theorem pgs_consS {e e' : Expr} {es : List Expr} {t : TG} {u : TGs} (h1 : PG X e' t) (h2 : PGs X es u)
    (hs : (assignEach (e :: es) X.env).map (·.2) = assign e' X.env :: (assignEach es X.env).map (·.2)) : PGs X (e :: es) (gCons t u) := by
  refine ⟨fun pins s σ H vs us Q I r h => ?_⟩
  obtain ⟨v, vr, e1, h⟩ := h
  subst e1
  cases r with
  | cons r rr =>
    rw [hs]
    refine assignInOrder_cons (thn (h1.run pins s σ H _ _ _ I r h) fun _ s1 ⟨σ1, H1, I1, q1⟩ => ?_)
    exact h2.run pins s1 σ1 H1 _ _ Q I1 rr q1
theorem sgs_consS {e e' : Expr} {es : List Expr} {t : Tg} {ts : List Tg} (h1 : SG X c W0 e' t) (h2 : SGs X c es ts) (hs : (assignEach (e :: es) X.env).map (·.2) = assign e' X.env :: (assignEach es X.env).map (·.2)) : SGs X c (e :: es) (t :: ts) := by
  refine ⟨fun pins s σ H v u Q I r h => (pgs_consS h1 h2 hs).run pins s σ H v u Q I r ?_⟩
  obtain ⟨ι, st, env, d, rs, re, rd, p⟩ := h
  cases rd with
  | nil => simp only [asTs] at p; exact p.elim
  | @cons d ds v vs a b =>
    simp only [asTs] at p
    refine ⟨v, vs, rfl, ι, st, env, d, rs, re, a, (Post.bind (RA := fun ι H e σ' => Re (FX X c) ι H e σ') p).imp ?_⟩
    rintro σ' H1 ⟨ι1, st1, env1, p1, k1, rs1, re1, q1⟩
    exact ⟨ι1, st1, env1, ds, rs1, re1, b.mono p1 k1, q1⟩
theorem sg_star {es : List Expr} {k i : Nat} {ts : List Tg} (hc : X.calm = true) (h : SGs X c es ts) (hn : (assignEach es X.env).length = ts.length) (hst : (assignEach es X.env).findIdx? (·.1) = some i) : SG X c W (.Tuple es k pos) (.star i ts) := by
  refine ⟨fun pins s σ H v u Q I r q => (pg_star hc h hn hst).run pins s σ H v u Q I r ?_⟩
  obtain ⟨ι, st, env, d, rs, re, rd, p⟩ := q
  simp only [asT] at p
  split at p
  · rename_i xs hxs
    split at p
    · rename_i hl
      obtain ⟨a, vs, rfl, hq, r', z⟩ := seq_of rs rd hxs
      have e := r'.length
      refine ⟨a, vs, rfl, hq.imp (fun h => h.sq) id, hl.1, by omega, by omega, fun b hb => ?_⟩
      have kk : Keep ι (ι ++ [b]) H (upd H b (.lst (starM i ts.length vs))) := Keep.cell hb
      have pre := List.prefix_append ι [b]
      have rs1 := rs.new hb (o := .lst (starM i ts.length xs)) ⟨starM i ts.length vs, upd_same, (r'.mono pre kk).starM i ts.length, by unfold Mi.starM; rw [List.length_take, List.length_drop, sizeLine_eq]; omega⟩
      have hr : RV (FX X c) (ι ++ [b]) (upd H b (.lst (Mi.starM i ts.length vs))) (.ref st.length) (.ref b) := .ref (by rw [List.getElem?_append_right (by rw [rs.len]; omega), rs.len]; simp)
      refine ⟨ι ++ [b], _, env, _, rs1, re.mono pre kk, (r'.mono pre kk).starL i ts.length hr, Post.mono p.calm pre kk⟩
    · exact p.elim
  · exact p.elim
end
end Mi

set_option linter.all false
set_option maxRecDepth 100000
/-! V11: comprehensions. -/
namespace Mi
open PySem PySem.Spec L2
open PyProof.Rows hiding St
section
variable {X : Cx} {c : Ctx} {lv : Nat} {W : L2.WX}
/-- a comprehension's target: of the names own alone -/
def tGo (F : Fx) (own : List Nat) (m : D → Env → Sto → R Env) : TG := fun v σ H Q => ∃ ι st env d, Rs F ι st H ∧ Re F ι H env σ ∧ RV F ι H d v ∧
  Post F (fun ι H e σ' => Re F ι H e σ' ∧ L2.wipe σ' own = L2.wipe σ own) Q (fun _ _ _ => False) ι H (m d env st)
def tGso (F : Fx) (own : List Nat) (m : List D → Env → Sto → R Env) : TGs := fun vs σ H Q => ∃ ι st env ds, Rs F ι st H ∧ Re F ι H env σ ∧ RVs F ι H ds vs ∧
  Post F (fun ι H e σ' => Re F ι H e σ' ∧ L2.wipe σ' own = L2.wipe σ own) Q (fun _ _ _ => False) ι H (m ds env st)
abbrev SGo (X : Cx) (c : Ctx) (own : List Nat) (tg : Expr) (t : Tg) : Prop := PG X tg (tGo (FX X c) own (asT c t))
abbrev SGso (X : Cx) (c : Ctx) (own : List Nat) (tg : List Expr) (t : List Tg) : Prop := PGs X tg (tGso (FX X c) own (asTs c t))
theorem sgo_name {own : List Nat} {i : Nat} {x : Str} {pos : Pos} (ho : i ∈ own) (hN : X.N.Nodup) (hi : X.N[i]? = some x) (hx : Loc X.env.scope x) (hf : X.fn x = true ∨ X.env.scope.names.lookup x = some .local) : SGo X c own (.Name x pos) (.name i) := by
  refine ⟨fun pins s σ H v u Q I r h => (pg_name hN hi hx hf).run pins s σ H v u Q I r ?_⟩
  obtain ⟨ι, st, env, d, rs, re, rd, p⟩ := h
  simp only [asT] at p
  exact p ι H _ (pre_refl _) (Keep.refl _) rs ⟨re.set i rd, wipe_set ho⟩
theorem sgso_nil {own : List Nat} : SGso X c own [] [] := by
  refine ⟨fun pins s σ H v u Q I r h => pgs_nil.run pins s σ H v u Q I r ?_⟩
  obtain ⟨ι, st, env, d, rs, re, rd, p⟩ := h
  cases rd with
  | nil =>
    simp only [asTs] at p
    exact ⟨rfl, p ι H _ (pre_refl _) (Keep.refl _) rs ⟨re, rfl⟩⟩
  | cons a b => simp only [asTs] at p; exact p.elim
theorem sgso_cons {own : List Nat} {e : Expr} {es : List Expr} {t : Tg} {ts : List Tg} (h1 : SGo X c own e t) (h2 : SGso X c own es ts) (hs : (assignEach (e :: es) X.env).map (·.2) = assign e X.env :: (assignEach es X.env).map (·.2)) : SGso X c own (e :: es) (t :: ts) := by
  refine ⟨fun pins s σ H v u Q I r h => (pgs_cons h1 h2 hs).run pins s σ H v u Q I r ?_⟩
  obtain ⟨ι, st, env, d, rs, re, rd, p⟩ := h
  cases rd with
  | nil => simp only [asTs] at p; exact p.elim
  | @cons d ds v vs a b =>
    simp only [asTs] at p
    refine ⟨v, vs, rfl, ι, st, env, d, rs, re, a, (Post.bind (RA := fun ι H e σ' => Re (FX X c) ι H e σ' ∧ L2.wipe σ' own = L2.wipe σ own) p).imp ?_⟩
    rintro σ' H1 ⟨ι1, st1, env1, p1, k1, rs1, ⟨re1, w1⟩, q1⟩
    refine ⟨ι1, st1, env1, ds, rs1, re1, b.mono p1 k1, ?_⟩
    rw [w1]
    exact q1
theorem sgo_tup {own : List Nat} {es : List Expr} {k : Nat} {pos : Pos} {ts : List Tg} (hc : X.calm = true) (h : SGso X c own es ts) (hn : (assignEach es X.env).length = ts.length) (hst : (assignEach es X.env).findIdx? (·.1) = none) : SGo X c own (.Tuple es k pos) (.tup ts) := by
  refine ⟨fun pins s σ H v u Q I r q => (pg_tup hc h hn hst).run pins s σ H v u Q I r ?_⟩
  obtain ⟨ι, st, env, d, rs, re, rd, p⟩ := q
  simp only [asT] at p
  split at p
  · cases rd with
    | tup t r' z =>
      split at p
      · rename_i hl
        exact ⟨_, _, rfl, t, by rw [← r'.length]; exact hl, ι, st, env, _, rs, re, r', p.calm⟩
      · exact p.elim
  · exact p.elim
def RVo (F : Fx) (ι : List Addr) (H : Hp) : Option D → Option V → Prop
  | none, none => True
  | some d, some v => RV F ι H d v
  | _, _ => False
/-- one turn of a comprehension's loop -/
theorem turnC {F : Fx} {Q : VK} {W W' : XK} {ι : List Addr} {H : Hp} {item : R (Option D)} {f : Nat} {i : Nat} {acc : List D} {it : D → Sto → R (Option D)} {iv : Iv} {k : List D → Sto → R D} (Z : List Addr → Prop)
    (h : Post F (RV F) Q W ι H ((match item with
      | .ok none s => loopC it iv f (i + 1) acc s
      | .ok (some x) s => if acc.length < sl then loopC it iv f (i + 1) (acc ++ [x]) s else .no
      | .exc c fs s => .no
      | .no => .no).bind k)) :
    Post F (fun ι H o ov => RVo F ι H o ov ∧ Z ι) (fun ov H1 => ∃ ι1 st1, Z ι1 ∧ ι <+: ι1 ∧ Keep ι ι1 H H1 ∧ Rs F ι1 st1 H1 ∧ match ov with
      | none => Post F (RV F) Q W ι H ((loopC it iv f (i + 1) acc st1).bind k)
      | some v => ∃ x, RV F ι1 H1 x v ∧ acc.length < sl ∧ Post F (RV F) Q W ι H ((loopC it iv f (i + 1) (acc ++ [x]) st1).bind k)) W' ι H item := by
  cases item with
  | no => exact h
  | exc c fs s => exact h.elim
  | ok o s =>
    cases o with
    | none =>
      rintro ι' H' b p kp rs ⟨r, z⟩
      cases b with
      | none => exact ⟨ι', s, z, p, kp, rs, h⟩
      | some v => exact r.elim
    | some x =>
      rintro ι' H' b p kp rs ⟨r, z⟩
      cases b with
      | none => exact r.elim
      | some v =>
        have h' : Post F (RV F) Q W ι H ((if acc.length < sl then loopC it iv f (i + 1) (acc ++ [x]) s else .no).bind k) := h
        split at h'
        · rename_i hl
          exact ⟨ι', s, z, p, kp, rs, x, r, hl, h'⟩
        · exact h'.elim
theorem wipe_idem (σ : St) (vs : List Nat) : ∀ ws : List Nat, (∀ w ∈ ws, w ∈ vs) → L2.wipe (L2.wipe σ ws) vs = L2.wipe σ vs
  | [], _ => rfl
  | w :: ws, h => by
    show L2.wipe ((L2.wipe σ ws).set w none) vs = _
    rw [wipe_set (h w List.mem_cons_self)]
    exact wipe_idem σ vs ws fun x hx => h x (List.mem_cons_of_mem _ hx)
/-- a list that stands beside becomes a cell -/
theorem Rs.adopt {F : Fx} {ι : List Addr} {st : Sto} {H : Hp} {a : Addr} {o : O} (r : Rs F ι st H) (hn : a ∉ ι) (h : RO F (ι ++ [a]) H a o) : Rs F (ι ++ [a]) (st ++ [o]) H := by
  refine ⟨by rw [List.length_append, List.length_append, r.len]; rfl, ?_, fun n o' h' => ?_⟩
  · refine List.nodup_append.mpr ⟨r.nd, by simp, fun x hx y hy => ?_⟩
    rw [List.mem_singleton] at hy
    subst hy
    rintro rfl
    exact hn hx
  · by_cases hl : n < st.length
    · rw [List.getElem?_append_left hl] at h'
      obtain ⟨b, hb, q⟩ := r.cell n o' h'
      exact ⟨b, pre_get (List.prefix_append _ _) hb, q.monoT (List.prefix_append _ _) (KeepT.refl H) rfl⟩
    · rw [List.getElem?_append_right (by omega)] at h'
      have hz : n - st.length = 0 := by
        have := (List.getElem?_eq_some_iff.mp h').1
        simp at this
        omega
      rw [hz] at h'
      simp at h'
      subst h'
      refine ⟨a, ?_, h⟩
      rw [List.getElem?_append_right (by rw [r.len]; omega), r.len, hz]
      rfl
/-- a write beside the cells -/
theorem keepT_put {H : Hp} {a : Addr} {o u : HO} (h : H a = some u) (c : Cell u) : KeepT H (upd H a o) := upd_keepT h c
theorem Rs.beside {F : Fx} {ι : List Addr} {st : Sto} {H : Hp} {a : Addr} {o u : HO} (r : Rs F ι st H) (hn : a ∉ ι) (h : H a = some u) (c : Cell u) : Rs F ι st (upd H a o) :=
  ⟨r.len, r.nd, fun n o' h' => by
    obtain ⟨b, hb, q⟩ := r.cell n o' h'
    exact ⟨b, hb, q.monoT (pre_refl _) (keepT_put h c) (upd_ne fun z => hn (z ▸ List.mem_of_getElem? hb))⟩⟩
theorem Keep.beside {ι ι' : List Addr} {H H' : Hp} {a : Addr} {o u : HO} (k : Keep ι ι' H H') (hn : H a = none) (h : H' a = some u) (c : Cell u) : Keep ι ι' H (upd H' a o) := k.beside' hn h c
theorem lc_imp {z : Bool} {it' : Mi.It} {t : Tg} {i' : Option E} {e' : E} {own : List Nat} {σ : St} {H : Hp} {Q : VK} (h : tE (FX X c) W (evE c (.comp z e' t it' i' own)) σ H Q) :
    tLc (tIt (FX X c) W (itE c it')) (tGo (FX X c) own (asT c t)) (tP (FX X c) W0 (evI c i')) (tE (FX X c) W0 (evE c e')) own σ H (FzQ X Q) := by
  obtain ⟨ι, st, env, rs, re, p⟩ := h
  simp only [evE] at p
  refine ⟨ι, st, env, rs, re, (Post.bind (RA := fun ι H iv J => JOk (FX X c) ι H iv J) p).imp ?_⟩
  rintro J H1 ⟨ι1, st1, iv, p1, k1, rs1, jok, q1⟩
  have re1 := re.mono p1 k1
  intro D hD
  have hDι : D ∉ ι1 := rs1.fresh hD
  generalize hitem : (fun d st => (asT c t d (wipeE env own) st).bind fun env1 st => (evI c i' env1 st).bind fun b st => if b = true then (evE c e' env1 st).bind fun y st => .ok (some y) st else .ok none st) = item at q1
  refine ⟨fun i m H => ∃ ι' st' acc vs, ι1 <+: ι' ∧ Keep ι1 ι' H1 H ∧ Rs (FX X c) ι' st' H ∧ D ∉ ι' ∧ H D = some (.lst vs) ∧ RVs (FX X c) ι' H acc vs ∧ acc.length ≤ sizeLine ∧
    Post (FX X c) (RV (FX X c)) Q (fun c d H' => W c d σ H') ι1 H1 ((loopC item iv m i acc st').bind fun xs st => newC z xs st), ⟨_, ι1, st1, [], [], pre_refl _, Keep.side hD, rs1.tup hD, hDι, upd_same, .nil, Nat.zero_le _, q1⟩, ?_⟩
  rintro i m H2 ⟨ι2, st2, acc, vs, p2, k2, rs2, hn2, hD2, rv2, hl2, q2⟩
  cases m with
  | zero => exact q2.elim
  | succ m =>
    have q2' := q2
    unfold loopC at q2'
    cases hx : nextI st2 i iv with
    | none => rw [hx] at q2'; exact q2'.elim
    | some o =>
      rw [hx] at q2'
      cases o with
      | none =>
        left
        refine ⟨jok.sp ι2 st2 H2 i p2 k2 rs2 hx, ?_⟩
        have q3 : Post (FX X c) (RV (FX X c)) Q (fun c d H' => W c d σ H') ι1 H1 (newC z acc st2) := q2'
        unfold newC at q3
        split at q3
        · intro pins σ' s I
          obtain ⟨o, I2⟩ := Inv.fix I hD2 (.inl ⟨_, rfl⟩)
          exact ⟨_, I2, q3 ι2 _ (.ref D) p2 (k2.beside hD hD2 trivial) (rs2.fixed hn2 hD2 trivial) (.cl (.inl ⟨o, upd_same⟩) (rv2.fixed hD2 trivial) hl2)⟩
        · refine FzQ.now (q3 (ι2 ++ [D]) H2 (.ref D) (p2.trans (List.prefix_append _ _)) ⟨k2.tup, k2.frl, k2.frt, k2.frd, k2.ext, k2.xd, k2.out, fun x hx1 hx2 => ?_⟩ (rs2.adopt hn2 ⟨vs, hD2, rv2.monoT (List.prefix_append _ _) (KeepT.refl _), hl2⟩) (.ref (by rw [List.getElem?_append_right (by rw [rs2.len]; omega), rs2.len]; simp)))
          rcases List.mem_append.mp hx1 with hx1 | hx1
          · exact k2.new x hx1 hx2
          · rw [List.mem_singleton.mp hx1]; exact hD
      | some d =>
        right
        obtain ⟨go, yl⟩ := jok.sm ι2 st2 H2 i d p2 k2 rs2 hx
        refine ⟨go, _, fun H' h => ⟨m, Nat.lt_succ_self m, h⟩, fun x H3 hy => ?_⟩
        obtain ⟨sm, rd⟩ := yl x H3 hy
        have k3 : Keep ι2 ι2 H2 H3 := same_keep sm
        have rs3 := rs2.same sm
        have q3 := turnC (W' := fun _ _ _ => False) (k := fun xs st => newC z xs st) (fun ι => D ∉ ι ∧ ι2 <+: ι) q2'
        rw [← hitem] at q3
        have q3 := Post.mono q3 p2 (k2.trans k3)
        refine ⟨ι2, st2, _, d, rs3, ((re1.mono p2 k2).mono (pre_refl _) k3).wipe _, rd, (Post.bind (RA := fun ι H e σ' => Re (FX X c) ι H e σ' ∧ L2.wipe σ' own = L2.wipe (L2.wipe σ own) own) q3).imp ?_⟩
        rintro σ4 H4 ⟨ι4, st4, env4, p4, k4, rs4, ⟨re4, w4⟩, q4⟩
        refine ⟨by rw [w4]; exact wipe_idem _ _ _ fun _ h => h, ι4, st4, env4, rs4, re4, (Post.bind (RA := fun _ _ a b => a = b) q4).imp ?_⟩
        rintro b H5 ⟨ι5, st5, bb, p5, k5, rs5, eb, q5⟩
        subst eb
        have hD3 : H3 D = some (.lst vs) := sm _ _ hD2
        have hD4 := k4.out D _ hn2 hD3
        have hn4 : D ∉ ι4 := fun z => by have := k4.new D z hn2; rw [hD3] at this; cases this
        have hD5 := k5.out D _ hn4 hD4
        have hn5 : D ∉ ι5 := fun z => by have := k5.new D z hn4; rw [hD4] at this; cases this
        have kT5 : KeepT H2 H5 := ((k3.trans k4).trans k5).t
        cases bb with
        | true =>
          rw [if_pos rfl] at q5
          refine iteT ⟨ι5, st5, env4, rs5, re4.mono p5 k5, (Post.bind (RA := RV (FX X c)) q5).imp ?_⟩
          rintro y H6 ⟨ι6, st6, dy, p6, k6, rs6, ry, q6⟩
          have hD6 := k6.out D _ hn5 hD5
          have hn6 : D ∉ ι6 := fun z => by have := k6.new D z hn5; rw [hD5] at this; cases this
          obtain ⟨ι7, st7, ⟨hn7, p27⟩, p7, k7, rs7, x', rx', hl7, rest⟩ := q6 ι6 H6 (some y) (pre_refl _) (Keep.refl _) rs6 ⟨ry, hn6, (p4.trans p5).trans p6⟩
          rw [hitem] at rest
          have kT6 : KeepT H2 H6 := (((k3.trans k4).trans k5).trans k6).t
          have kP : KeepT H6 (upd H6 D (.lst (vs ++ [y]))) := keepT_put hD6 trivial
          have hlen : acc.length + 1 ≤ sizeLine := hl7
          refine ⟨vs, hD6, by rw [← rv2.length]; exact hlen, ι7, st7, acc ++ [x'], vs ++ [y], p7, k7.beside hD hD6 trivial, rs7.beside hn7 hD6 trivial, hn7, upd_same, ?_, by rw [List.length_append]; exact hlen, rest⟩
          exact ((rv2.monoT p27 kT6).append (.one rx')).monoT (pre_refl _) kP
        | false =>
          rw [if_neg Bool.false_ne_true] at q5
          obtain ⟨ι7, st7, ⟨hn7, p27⟩, p7, k7, rs7, rest⟩ := q5 ι5 H5 none (pre_refl _) (Keep.refl _) rs5 ⟨trivial, hn5, p4.trans p5⟩
          rw [hitem] at rest
          exact iteF ⟨ι7, st7, acc, vs, p7, k7, rs7, hn7, hD5, rv2.monoT p27 kT5, hl2, rest⟩
/-- one turn of a dict's -/
theorem turnD {F : Fx} {Q : VK} {W W' : XK} {ι : List Addr} {H : Hp} {item : R (Option (D × D))} {f : Nat} {i : Nat} {acc : List (D × D)} {it : D → Sto → R (Option (D × D))} {iv : Iv} {k : List (D × D) → Sto → R D} (Z : List Addr → Prop)
    (h : Post F (RV F) Q W ι H ((match item with
      | .ok none s => loopD it iv f (i + 1) acc s
      | .ok (some (k, v)) s => if keyOk k = true ∧ acc.length < sl then loopD it iv f (i + 1) (putK acc k v) s else .no
      | .exc c fs s => .no
      | .no => .no).bind k)) :
    Post F (fun ι H o (ov : Option (V × V)) => (match o, ov with | none, none => True | some (x, y), some (u, v) => RV F ι H x u ∧ RV F ι H y v | _, _ => False) ∧ Z ι) (fun ov H1 => ∃ ι1 st1, Z ι1 ∧ ι <+: ι1 ∧ Keep ι ι1 H H1 ∧ Rs F ι1 st1 H1 ∧ match ov with
      | none => Post F (RV F) Q W ι H ((loopD it iv f (i + 1) acc st1).bind k)
      | some (u, v) => ∃ x y, RV F ι1 H1 x u ∧ RV F ι1 H1 y v ∧ keyOk x = true ∧ acc.length < sl ∧ Post F (RV F) Q W ι H ((loopD it iv f (i + 1) (putK acc x y) st1).bind k)) W' ι H item := by
  cases item with
  | no => exact h
  | exc c fs s => exact h.elim
  | ok o s =>
    cases o with
    | none =>
      rintro ι' H' b p kp rs ⟨r, z⟩
      cases b with
      | none => exact ⟨ι', s, z, p, kp, rs, h⟩
      | some v => exact r.elim
    | some x =>
      obtain ⟨x, y⟩ := x
      rintro ι' H' b p kp rs ⟨r, z⟩
      cases b with
      | none => exact r.elim
      | some v =>
        obtain ⟨u, v⟩ := v
        have h' : Post F (RV F) Q W ι H ((if keyOk x = true ∧ acc.length < sl then loopD it iv f (i + 1) (putK acc x y) s else .no).bind k) := h
        split at h'
        · rename_i hl
          exact ⟨ι', s, z, p, kp, rs, x, y, r.1, r.2, hl.1, hl.2, h'⟩
        · exact h'.elim
theorem RK.monoU {F : Fx} {ι ι' : List Addr} {H H' : Hp} {kvs : List (D × D)} {ks : List (Key × V)} (p : ι <+: ι') (k : KeepT H H') (h : RK F ι H kvs ks) : RK F ι' H' kvs ks := Paired.mapP h fun _ _ z => ⟨z.1, z.2.monoT p k⟩
theorem RK.vals {F : Fx} {ι : List Addr} {H : Hp} {kvs : List (D × D)} {ks : List (Key × V)} (h : RK F ι H kvs ks) : RVs F ι H (kvs.map (·.2)) (ks.map (·.2)) := by
  induction h with
  | nil => exact .nil
  | cons e t ih => exact .cons e.2 ih
theorem dc_imp {z : Bool} {it' : Mi.It} {t : Tg} {i' : Option E} {k' v' : E} {own : List Nat} {σ : St} {H : Hp} {Q : VK} (h : tE (FX X c) W (evE c (.dcomp z k' v' t it' i' own)) σ H Q) :
    tDc (tIt (FX X c) W (itE c it')) (tGo (FX X c) own (asT c t)) (tP (FX X c) W0 (evI c i')) (tE (FX X c) W0 (evE c k')) (tE (FX X c) W0 (evE c v')) own σ H (FzQ X Q) := by
  obtain ⟨ι, st, env, rs, re, p⟩ := h
  simp only [evE] at p
  refine ⟨ι, st, env, rs, re, (Post.bind (RA := fun ι H iv J => JOk (FX X c) ι H iv J) p).imp ?_⟩
  rintro J H1 ⟨ι1, st1, iv, p1, k1, rs1, jok, q1⟩
  have re1 := re.mono p1 k1
  intro D hD
  have hDι : D ∉ ι1 := rs1.fresh hD
  generalize hitem : (fun d st => (asT c t d (wipeE env own) st).bind fun env1 st => (evI c i' env1 st).bind fun b st => if b = true then (evE c k' env1 st).bind fun x st => (evE c v' env1 st).bind fun y st => R.ok (some (x, y)) st else R.ok none st) = item at q1
  refine ⟨fun i m H => ∃ ι' st' acc ks, ι1 <+: ι' ∧ Keep ι1 ι' H1 H ∧ Rs (FX X c) ι' st' H ∧ D ∉ ι' ∧ H D = some (.dK ks) ∧ RK (FX X c) ι' H acc ks ∧ acc.length ≤ sizeLine ∧
    Post (FX X c) (RV (FX X c)) Q (fun c d H' => W c d σ H') ι1 H1 ((loopD item iv m i acc st').bind fun xs st => newD z xs st), ⟨_, ι1, st1, [], [], pre_refl _, Keep.side hD, rs1.tup hD, hDι, upd_same, .nil, Nat.zero_le _, q1⟩, ?_⟩
  rintro i m H2 ⟨ι2, st2, acc, ks, p2, k2, rs2, hn2, hD2, rk2, hl2, q2⟩
  cases m with
  | zero => exact q2.elim
  | succ m =>
    have q2' := q2
    unfold loopD at q2'
    cases hx : nextI st2 i iv with
    | none => rw [hx] at q2'; exact q2'.elim
    | some o =>
      rw [hx] at q2'
      cases o with
      | none =>
        left
        refine ⟨jok.sp ι2 st2 H2 i p2 k2 rs2 hx, ?_⟩
        have q3 : Post (FX X c) (RV (FX X c)) Q (fun c d H' => W c d σ H') ι1 H1 (newD z acc st2) := q2'
        unfold newD at q3
        split at q3
        · intro pins σ' s I
          obtain ⟨o, I2⟩ := Inv.fix I hD2 (.inr ⟨_, rfl⟩)
          have rk3 : RK (FX X c) ι2 (upd H2 D (.frz o (.dK ks))) acc ks := rk2.monoU (pre_refl _) (upd_keepT hD2 trivial)
          exact ⟨_, I2, q3 ι2 _ (.ref D) p2 (k2.beside hD hD2 trivial) (rs2.fixed hn2 hD2 trivial) (.cd upd_same (Paired.mapP rk3 fun _ _ z => z.1) rk3.vals hl2)⟩
        · refine FzQ.now (q3 (ι2 ++ [D]) H2 (.ref D) (p2.trans (List.prefix_append _ _)) ⟨k2.tup, k2.frl, k2.frt, k2.frd, k2.ext, k2.xd, k2.out, fun x hx1 hx2 => ?_⟩ (rs2.adopt hn2 ⟨ks, hD2, rk2.monoU (List.prefix_append _ _) (KeepT.refl _), hl2⟩) (.ref (by rw [List.getElem?_append_right (by rw [rs2.len]; omega), rs2.len]; simp)))
          rcases List.mem_append.mp hx1 with hx1 | hx1
          · exact k2.new x hx1 hx2
          · rw [List.mem_singleton.mp hx1]; exact hD
      | some d =>
        right
        obtain ⟨go, yl⟩ := jok.sm ι2 st2 H2 i d p2 k2 rs2 hx
        refine ⟨go, _, fun H' h => ⟨m, Nat.lt_succ_self m, h⟩, fun x H3 hy => ?_⟩
        obtain ⟨sm, rd⟩ := yl x H3 hy
        have k3 : Keep ι2 ι2 H2 H3 := same_keep sm
        have rs3 := rs2.same sm
        have q3 := turnD (W' := fun _ _ _ => False) (k := fun xs st => newD z xs st) (fun ι => D ∉ ι ∧ ι2 <+: ι) q2'
        rw [← hitem] at q3
        have q3 := Post.mono q3 p2 (k2.trans k3)
        refine ⟨ι2, st2, _, d, rs3, ((re1.mono p2 k2).mono (pre_refl _) k3).wipe _, rd, (Post.bind (RA := fun ι H e σ' => Re (FX X c) ι H e σ' ∧ L2.wipe σ' own = L2.wipe (L2.wipe σ own) own) q3).imp ?_⟩
        rintro σ4 H4 ⟨ι4, st4, env4, p4, k4, rs4, ⟨re4, w4⟩, q4⟩
        refine ⟨by rw [w4]; exact wipe_idem _ _ _ fun _ h => h, ι4, st4, env4, rs4, re4, (Post.bind (RA := fun _ _ a b => a = b) q4).imp ?_⟩
        rintro b H5 ⟨ι5, st5, bb, p5, k5, rs5, eb, q5⟩
        subst eb
        have hD3 : H3 D = some (.dK ks) := sm _ _ hD2
        have hD4 := k4.out D _ hn2 hD3
        have hn4 : D ∉ ι4 := fun z => by have := k4.new D z hn2; rw [hD3] at this; cases this
        have hD5 := k5.out D _ hn4 hD4
        have hn5 : D ∉ ι5 := fun z => by have := k5.new D z hn4; rw [hD4] at this; cases this
        have kT5 : KeepT H2 H5 := ((k3.trans k4).trans k5).t
        cases bb with
        | true =>
          rw [if_pos rfl] at q5
          refine iteT ⟨ι5, st5, env4, rs5, re4.mono p5 k5, (Post.bind (RA := RV (FX X c)) q5).imp ?_⟩
          rintro y H6 ⟨ι6, st6, dy, p6, k6, rs6, ry, q6⟩
          have hD6 := k6.out D _ hn5 hD5
          have hn6 : D ∉ ι6 := fun z => by have := k6.new D z hn5; rw [hD5] at this; cases this
          refine ⟨ι6, st6, env4, rs6, (re4.mono p5 k5).mono p6 k6, (Post.bind (RA := RV (FX X c)) q6).imp ?_⟩
          rintro w H7 ⟨ι7, st7, dw, p7, k7, rs7, rw7, q7⟩
          have hD7 := k7.out D _ hn6 hD6
          have hn7 : D ∉ ι7 := fun z => by have := k7.new D z hn6; rw [hD6] at this; cases this
          obtain ⟨ι8, st8, ⟨hn8, p28⟩, p8, k8, rs8, x', y', rx', ry', hk8, hl8, rest⟩ := q7 ι7 H7 (some (y, w)) (pre_refl _) (Keep.refl _) rs7 ⟨⟨ry.mono p7 k7, rw7⟩, hn7, ((p4.trans p5).trans p6).trans p7⟩
          rw [hitem] at rest
          have kT7 : KeepT H2 H7 := ((((k3.trans k4).trans k5).trans k6).trans k7).t
          obtain ⟨key, hk9, rfl⟩ := key_of_rv rx' hk8
          have kP : KeepT H7 (upd H7 D (.dK (L2.putK ks key w))) := keepT_put hD7 trivial
          have hlen : acc.length + 1 ≤ sizeLine := hl8
          refine ⟨ks, key, rfl, hD7, by rw [← Paired.length rk2]; exact hlen, ι8, st8, putK acc x' y', L2.putK ks key w, p8, k8.beside hD hD7 trivial, rs8.beside hn8 hD7 trivial, hn8, upd_same, ?_, Nat.le_trans (putK_len _ _ _) hlen, rest⟩
          exact (rk_puts hk9 ry' (rk2.monoU p28 kT7)).monoU (pre_refl _) kP
        | false =>
          rw [if_neg Bool.false_ne_true] at q5
          obtain ⟨ι7, st7, ⟨hn7, p27⟩, p7, k7, rs7, rest⟩ := q5 ι5 H5 none (pre_refl _) (Keep.refl _) rs5 ⟨trivial, hn5, p4.trans p5⟩
          rw [hitem] at rest
          exact iteF ⟨ι7, st7, acc, ks, p7, k7, rs7, hn7, hD5, rk2.monoU p27 kT5, hl2, rest⟩
theorem s_dcomp {z : Bool} (C : Cok X c lv W) {kx vx tg iter : Expr} {ifs : List Expr} {scope : Scope} {pos : Pos} {own : List (Str × Nat)} {k' v' : E} {t : Tg} {it' : Mi.It} {i' : Option E} (hi : SI X c W tg iter it') (ok : BlkOk X.N X.env.scope scope own)
    (hg : ∀ (s : Shared) (H : Hp) (cc : Addr) (cl : List (Str × Addr)) (fp : List Addr), SGo (X.blk s H scope (compEnvC scope cl cc X.env) fp) c (own.map (·.2)) tg t)
    (ht : ∀ (s : Shared) (H : Hp) (cc : Addr) (cl : List (Str × Addr)) (fp : List Addr), SP' (X.blk s H scope (compEnvC scope cl cc X.env) fp) c W0 ifs i')
    (hk : ∀ (s : Shared) (H : Hp) (cc : Addr) (cl : List (Str × Addr)) (fp : List Addr), SE (X.blk s H scope (compEnvC scope cl cc X.env) fp) c W0 kx k')
    (he : ∀ (s : Shared) (H : Hp) (cc : Addr) (cl : List (Str × Addr)) (fp : List Addr), SE (X.blk s H scope (compEnvC scope cl cc X.env) fp) c W0 vx v') (hs : ∀ x, foldedSetIterable iter X.env x = pure x) :
    SE X c W (.DictComp kx vx [⟨tg, iter, ifs, 0⟩] scope pos) (.dcomp z k' v' t it' i' (own.map (·.2))) :=
  PE.imp (PE.fz <| pe_dc (g := tGo (FX X c) (own.map (·.2)) (asT c t)) (tt := tP (FX X c) W0 (evI c i')) (tk := tE (FX X c) W0 (evE c k')) (tv := tE (FX X c) W0 (evE c v')) C.calm C.nd hi ok hg ht hk he hs) fun σ H Q h => dc_imp h
theorem s_comp {z : Bool} (C : Cok X c lv W) {elt tg iter : Expr} {ifs : List Expr} {scope : Scope} {pos : Pos} {own : List (Str × Nat)} {e' : E} {t : Tg} {it' : Mi.It} {i' : Option E} (hi : SI X c W tg iter it') (ok : BlkOk X.N X.env.scope scope own)
    (hg : ∀ (s : Shared) (H : Hp) (cc : Addr) (cl : List (Str × Addr)) (fp : List Addr), SGo (X.blk s H scope (compEnvC scope cl cc X.env) fp) c (own.map (·.2)) tg t)
    (ht : ∀ (s : Shared) (H : Hp) (cc : Addr) (cl : List (Str × Addr)) (fp : List Addr), SP' (X.blk s H scope (compEnvC scope cl cc X.env) fp) c W0 ifs i')
    (he : ∀ (s : Shared) (H : Hp) (cc : Addr) (cl : List (Str × Addr)) (fp : List Addr), SE (X.blk s H scope (compEnvC scope cl cc X.env) fp) c W0 elt e') (hs : ∀ x, foldedSetIterable iter X.env x = pure x) :
    SE X c W (.ListComp elt [⟨tg, iter, ifs, 0⟩] scope pos) (.comp z e' t it' i' (own.map (·.2))) :=
  PE.imp (PE.fz <| pe_lc (g := tGo (FX X c) (own.map (·.2)) (asT c t)) (tt := tP (FX X c) W0 (evI c i')) (te := tE (FX X c) W0 (evE c e')) C.calm C.nd hi ok hg ht he hs) fun σ H Q h => lc_imp h
/-! dict displays -/
abbrev RPs (F : Fx) : List Addr → Hp → List (D × D) → List (V × V) → Prop := fun ι H => Paired fun p q => RV F ι H p.1 q.1 ∧ RV F ι H p.2 q.2
theorem R.bind_assoc {α β γ : Type} (r : R α) (k : α → Sto → R β) (j : β → Sto → R γ) : (r.bind k).bind j = r.bind fun a st => (k a st).bind j := by cases r <;> rfl
theorem Post.bindB {F : Fx} {α β γ δ : Type} {RA : List Addr → Hp → α → β → Prop} {RB : List Addr → Hp → γ → δ → Prop} {P : δ → Hp → Prop} {W : XK} {ι ι' : List Addr} {H H' : Hp} {r : R α} {k : α → Sto → R γ} (h : Post F RB P W ι H (r.bind k)) (p : ι <+: ι') (kp : Keep ι ι' H H') :
    Post F RA (fun b H1 => ∃ ι1 st1 a, ι' <+: ι1 ∧ Keep ι' ι1 H' H1 ∧ Rs F ι1 st1 H1 ∧ RA ι1 H1 a b ∧ Post F RB P W ι H (k a st1)) W ι' H' r := by
  cases r with
  | ok a st => exact fun i h' b q k' rs ra => ⟨i, st, a, q, k', rs, ra, h⟩
  | exc c fs st => exact fun i h' C dx q k' => h i h' C dx (p.trans q) (kp.trans k')
  | no => exact h
theorem tE.imp {F : Fx} {m : Env → Sto → R D} {σ : St} {H : Hp} {Q Q' : VK} (h : tE F W m σ H Q) (f : ∀ v H, Q v H → Q' v H) : tE F W m σ H Q' := by
  obtain ⟨ι, st, env, rs, re, p⟩ := h
  exact ⟨ι, st, env, rs, re, p.imp f⟩
theorem pairs_imp {σ : St} : ∀ {ps : List (E × E)} {H : Hp} {Q Q' : List (V × V) → Hp → Prop}, tPairs (ps.map fun p => (tE (FX X c) W (evE c p.1), tE (FX X c) W (evE c p.2))) σ H Q → (∀ q H, Q q H → Q' q H) → tPairs (ps.map fun p => (tE (FX X c) W (evE c p.1), tE (FX X c) W (evE c p.2))) σ H Q'
  | [], H, Q, Q', h, f => f _ _ h
  | p :: r, H, Q, Q', h, f => tE.imp h fun x H1 h1 => tE.imp h1 fun y H2 h2 => pairs_imp (ps := r) h2 fun q H3 h3 => f _ _ h3
theorem pairs_run {σ : St} {env : Env} {Q : VK} {ι0 : List Addr} {H0 : Hp} : ∀ {ps : List (E × E)} {ι : List Addr} {st : Sto} {H : Hp} {G : List (D × D) → Sto → R D}, Rs (FX X c) ι st H → Re (FX X c) ι H env σ → ι0 <+: ι → Keep ι0 ι H0 H → Post (FX X c) (RV (FX X c)) Q (fun c d H' => W c d σ H') ι0 H0 ((evPs c ps env st).bind G) →
    tPairs (ps.map fun p => (tE (FX X c) W (evE c p.1), tE (FX X c) W (evE c p.2))) σ H (fun qs H2 => ∃ ι2 st2 xs, ι <+: ι2 ∧ Keep ι ι2 H H2 ∧ Rs (FX X c) ι2 st2 H2 ∧ RPs (FX X c) ι2 H2 xs qs ∧ Post (FX X c) (RV (FX X c)) Q (fun c d H' => W c d σ H') ι0 H0 (G xs st2))
  | [], ι, st, H, G, rs, re, p0, k0, p => by
    simp only [evPs] at p
    exact ⟨ι, st, [], pre_refl _, Keep.refl _, rs, .nil, p⟩
  | (k, v) :: r, ι, st, H, G, rs, re, p0, k0, p => by
    simp only [evPs, R.bind_assoc] at p
    refine ⟨ι, st, env, rs, re, (Post.bindB (RA := RV (FX X c)) p p0 k0).imp ?_⟩
    rintro x H1 ⟨ι1, st1, d1, p1, k1, rs1, rd1, q1⟩
    have re1 := re.mono p1 k1
    refine ⟨ι1, st1, env, rs1, re1, (Post.bindB (RA := RV (FX X c)) q1 (p0.trans p1) (k0.trans k1)).imp ?_⟩
    rintro y H2 ⟨ι2, st2, d2, p2, k2, rs2, rd2, q2⟩
    have go : ∀ {trs : List (TE × TE)} {H : Hp} {Q Q' : List (V × V) → Hp → Prop}, tPairs trs σ H Q → True := fun _ => trivial
    refine pairs_imp (ps := r) (pairs_run (G := fun xs st => G ((d1, d2) :: xs) st) rs2 (re1.mono p2 k2) ((p0.trans p1).trans p2) ((k0.trans k1).trans k2) q2) ?_
    rintro qs H3 ⟨ι3, st3, xs, p3, k3, rs3, rd3, q3⟩
    exact ⟨ι3, st3, (d1, d2) :: xs, (p1.trans p2).trans p3, (k1.trans k2).trans k3, rs3, .cons ⟨(rd1.mono p2 k2).mono p3 k3, rd2.mono p3 k3⟩ rd3, q3⟩
inductive SPairs (X : Cx) (c : Ctx) (W : L2.WX) : List (Option Expr) → List Expr → List (E × E) → Prop where
  | nil : SPairs X c W [] [] []
  | cons {k v : Expr} {k' v' : E} {ks : List (Option Expr)} {vs : List Expr} {ps : List (E × E)} : SE X c W k k' → SE X c W v v' → SPairs X c W ks vs ps → SPairs X c W (some k :: ks) (v :: vs) ((k', v') :: ps)
theorem SPairs.pps {pos : Pos} {ks : List (Option Expr)} {vs : List Expr} {ps : List (E × E)} (h : SPairs X c W ks vs ps) : PPs X pos ks vs (ps.map fun p => (tE (FX X c) W (evE c p.1), tE (FX X c) W (evE c p.2))) ∧ ks.all (·.isSome) = true ∧ ks.length = vs.length ∧ ks.length = ps.length := by
  induction h with
  | nil => exact ⟨pps_nil, rfl, rfl, rfl⟩
  | cons a b _ ih => exact ⟨pps_cons a b ih.1, by simpa using ih.2.1, by simp [ih.2.2.1], by simp [ih.2.2.2]⟩
theorem keys_pairs {F : Fx} {ι : List Addr} {H : Hp} {xs : List (D × D)} {qs : List (V × V)} (r : RPs F ι H xs qs) : keysOk (xs.map (·.1)) = true → ∃ kvs : List (Key × V), qs = kvs.map (fun kv => (kV kv.1, kv.2)) ∧ RK F ι H xs kvs := by
  induction r with
  | nil => exact fun _ => ⟨[], rfl, .nil⟩
  | @cons p q l m e t ih =>
    obtain ⟨d, d2⟩ := p
    obtain ⟨v, v2⟩ := q
    intro h
    rw [List.map_cons] at h
    unfold keysOk at h
    rw [Bool.and_eq_true] at h
    obtain ⟨kvs, rfl, rk⟩ := ih h.2
    obtain ⟨k, h1, h2⟩ := key_of_rv e.1 h.1
    subst h2
    exact ⟨(k, v2) :: kvs, rfl, .cons ⟨h1, e.2⟩ rk⟩
theorem s_dct {z : Bool} {ks : List (Option Expr)} {vs : List Expr} {ps : List (E × E)} {pos : Pos} (h : SPairs X c W ks vs ps) (h15 : ps.length ≤ 15) : SE X c W (.Dict ks vs pos) (.dct z ps) := by
  obtain ⟨h1, h2, h3, h4⟩ := h.pps (pos := pos)
  by_cases h0 : ks = []
  · subst h0
    have : vs = [] := List.length_eq_zero_iff.mp h3.symm
    subst this
    have : ps = [] := List.length_eq_zero_iff.mp h4.symm
    subst this
    refine PE.imp (PE.fz pe_dnewK) fun σ H Q q => ?_
    obtain ⟨ι, st, env, rs, re, p⟩ := q
    simp only [evE, evPs] at p
    exact fun a ha => Post.dct (X := X) (kvs := []) (ks := []) (z := z) (by simpa [R.bind, keysOk] using p) rs .nil (Nat.zero_le _) ha
  · refine PE.imp (PE.fz (pe_disp h1 h2 h3 h0 (by rw [h4]; exact h15))) fun σ H Q q => ?_
    obtain ⟨ι, st, env, rs, re, p⟩ := q
    simp only [evE] at p
    intro a ha
    have k0 : Keep ι ι H (upd H a (.dK [])) := Keep.side ha
    have hna := rs.fresh ha
    refine pairs_imp (pairs_run (rs.tup ha) (re.mono (pre_refl _) k0) (pre_refl _) k0 p) ?_
    rintro qs H2 ⟨ι2, st2, xs, p2, k2, rs2, rx, q2⟩
    have ha2 : H2 a = some (.dK []) := k2.out _ _ hna upd_same
    have hn2 : a ∉ ι2 := fun m => by have := k2.new a m hna; rw [upd_same] at this; cases this
    split at q2
    · rename_i hk
      obtain ⟨kvs, rfl, rk⟩ := keys_pairs rx hk.1
      have hl : kvs.length ≤ 15 := by rw [← Paired.length rk]; exact hk.2
      refine ⟨ha2, kvs, rfl, hl, ?_⟩
      have rk2 := merge_rk (acc := []) (ks := []) rk .nil
      have len : (xs.foldl (fun k p => putK k p.1 p.2) []).length ≤ sizeLine := by
        have := fold_len xs []
        rw [sizeLine_eq]
        simp only [List.length_nil] at this
        omega
      have k3 := k0.trans k2
      unfold newD at q2
      split at q2
      · intro pins σ' s I
        obtain ⟨o, I2⟩ := Inv.fix I (upd_same (o := .dK (mergeK [] kvs))) (.inr ⟨_, rfl⟩)
        rw [upd_upd] at I2
        have rk3 := rk2.monoU (pre_refl _) (upd_keepT (o := .frz o (.dK (mergeK [] kvs))) ha2 trivial)
        exact ⟨_, I2, q2 ι2 _ _ p2 (k3.beside ha ha2 trivial) (rs2.fixed hn2 ha2 trivial) (.cd upd_same (Paired.mapP rk3 fun _ _ z => z.1) rk3.vals len)⟩
      · have kT := upd_keepT (o := .dK (mergeK [] kvs)) ha2 trivial
        have rs3 := (rs2.fixed (v := .dK (mergeK [] kvs)) hn2 ha2 trivial).adopt (o := .dct (xs.foldl (fun k p => putK k p.1 p.2) [])) hn2 ⟨_, upd_same, rk2.monoU (List.prefix_append _ _) kT, len⟩
        have kk := k3.beside (o := .dK (mergeK [] kvs)) ha ha2 trivial
        refine FzQ.now (q2 (ι2 ++ [a]) _ _ (p2.trans (List.prefix_append _ _)) ⟨kk.tup, kk.frl, kk.frt, kk.frd, kk.ext, kk.xd, kk.out, fun x m n => ?_⟩ rs3 (.ref (by rw [List.getElem?_append_right (by rw [rs2.len]; omega), rs2.len]; simp)))
        rcases List.mem_append.mp m with m | m
        · exact kk.new x m n
        · rw [List.mem_singleton.mp m]; exact ha
    · exact q2.elim
end
end Mi

set_option linter.all false
set_option maxRecDepth 100000
/-! V12: statements. -/
namespace Mi
open PySem PySem.Spec L2
open PyProof.Rows hiding St
def PostS (F : Fx) (E : Ends) (W : L2.WX) (ι : List Addr) (H : Hp) : RS → Prop
  | .next e st => ∀ ι' H' σ', ι <+: ι' → Keep ι ι' H H' → Rs F ι' st H' → Re F ι' H' e σ' → E.nx σ' H'
  | .brk e st => ∀ ι' H' σ', ι <+: ι' → Keep ι ι' H H' → Rs F ι' st H' → Re F ι' H' e σ' → E.bk σ' H'
  | .cont e st => ∀ ι' H' σ', ι <+: ι' → Keep ι ι' H H' → Rs F ι' st H' → Re F ι' H' e σ' → E.ct σ' H'
  | .ret d st => ∀ ι' H' v, ι <+: ι' → Keep ι ι' H H' → Rs F ι' st H' → RV F ι' H' d v → E.rt v H'
  | .exc c fs e st => ∀ ι' H' C dx σ', ι <+: ι' → Keep ι ι' H H' → Rs F ι' st H' → Re F ι' H' e σ' → F.mg (Str.ofString c) = some (.ref C) → XF F ι' H' fs dx → W (.ref C) dx σ' H'
  | .no => False
def tSt (F : Fx) (W : L2.WX) (m : Env → Sto → RS) : TS := fun E σ H => ∃ ι st env, Rs F ι st H ∧ Re F ι H env σ ∧ PostS F E W ι H (m env st)
abbrev SS (X : Cx) (c : Ctx) (W : L2.WX) (s : Stmt) (s' : S) : Prop := PS X s (tSt (FX X c) W (exS c s'))
abbrev SSs (X : Cx) (c : Ctx) (W : L2.WX) (s : List Stmt) (s' : List S) : Prop := PSs X s (tSt (FX X c) W (exSs c s'))
section
variable {F : Fx} {E E' : Ends} {W : L2.WX} {ι ι' : List Addr} {H H' : Hp} {r : RS} {σ : St} {env : Env}
theorem PostS.mono (h : PostS F E W ι H r) (p : ι <+: ι') (k : Keep ι ι' H H') : PostS F E W ι' H' r := by
  cases r with
  | next e st => exact fun i h' b q k' => h i h' b (p.trans q) (k.trans k')
  | brk e st => exact fun i h' b q k' => h i h' b (p.trans q) (k.trans k')
  | cont e st => exact fun i h' b q k' => h i h' b (p.trans q) (k.trans k')
  | ret e st => exact fun i h' b q k' => h i h' b (p.trans q) (k.trans k')
  | exc c fs e st => exact fun i h' C dx σ' q k' => h i h' C dx σ' (p.trans q) (k.trans k')
  | no => exact h
/-- behind an expression's part -/
theorem PostS.of {α β : Type} {RA : List Addr → Hp → α → β → Prop} {a : R α} {k : α → Sto → RS} (re : Re F ι H env σ) (h : PostS F E W ι H (a.st env k)) :
    Post F RA (fun b H1 => ∃ ι1 st1 x, ι <+: ι1 ∧ Keep ι ι1 H H1 ∧ Rs F ι1 st1 H1 ∧ RA ι1 H1 x b ∧ PostS F E W ι1 H1 (k x st1)) (fun c d H' => W c d σ H') ι H a := by
  cases a with
  | ok x st => exact fun i h' b q k' rs ra => ⟨i, st, x, q, k', rs, ra, PostS.mono h q k'⟩
  | exc c fs st => exact fun i h' C dx q k' rs hm hx => h i h' C dx σ q k' rs (re.mono q k') hm hx
  | no => exact h
theorem PostS.nx {st : Sto} {e : Env} (h : PostS F E W ι H (.next e st)) (rs : Rs F ι st H) (re : Re F ι H e σ) : E.nx σ H := h ι H σ (pre_refl _) (Keep.refl _) rs re
end
section
variable {X : Cx} {c : Ctx} {lv : Nat} {W : L2.WX}
theorem ss_nil : SSs X c W [] [] := by
  refine PSs.imp pss_nil ?_
  rintro E σ H ⟨ι, st, env, rs, re, p⟩
  simp only [exSs] at p
  exact p.nx rs re
theorem ss_cons {s : Stmt} {r : List Stmt} {s' : S} {r' : List S} (h1 : SS X c W s s') (h2 : SSs X c W r r') : SSs X c W (s :: r) (s' :: r') := by
  refine PSs.imp (pss_cons h1 h2) ?_
  rintro E σ H ⟨ι, st, env, rs, re, p⟩
  simp only [exSs] at p
  refine ⟨ι, st, env, rs, re, ?_⟩
  split at p
  · rename_i e st1 he
    rw [he]
    exact fun i h' b q k rs' re' => ⟨i, st1, e, rs', re', p.mono q k⟩
  · rename_i hn
    cases hx : exS c s' env st with
    | next e st1 => exact absurd hx (hn e st1)
    | _ => rw [hx] at p; exact p
theorem ss_ex {e : Expr} {e' : E} {pos : Pos} (h : SE X c W e e') (hs : swapsWith e none pos.line X.env = pure false) : SS X c W (.Expr e pos) (.ex e') := by
  refine PS.imp (ps_expr h hs) ?_
  rintro E σ H ⟨ι, st, env, rs, re, p⟩
  simp only [exS] at p
  refine ⟨ι, st, env, rs, re, (PostS.of re p).imp ?_⟩
  rintro x H1 ⟨ι1, st1, d, p1, k1, rs1, rd, q⟩
  exact q.nx rs1 (re.mono p1 k1)
theorem ss_doc {x j pos pos'} : SS X c W (.Expr (.Constant (.str x) j pos) pos') .pass := by
  refine PS.imp ps_doc ?_
  rintro E σ H ⟨ι, st, env, rs, re, p⟩
  simp only [exS] at p
  exact p.nx rs re
theorem ss_pass {pos : Pos} : SS X c W (.Pass pos) .pass := by
  refine PS.imp ps_pass ?_
  rintro E σ H ⟨ι, st, env, rs, re, p⟩
  simp only [exS] at p
  exact p.nx rs re
theorem ss_brk {pos : Pos} : SS X c W (.Break pos) .brk := by
  refine PS.imp ps_break ?_
  rintro E σ H ⟨ι, st, env, rs, re, p⟩
  simp only [exS] at p
  exact p ι H σ (pre_refl _) (Keep.refl _) rs re
theorem ss_cont {pos : Pos} : SS X c W (.Continue pos) .cont := by
  refine PS.imp ps_continue ?_
  rintro E σ H ⟨ι, st, env, rs, re, p⟩
  simp only [exS] at p
  exact p ι H σ (pre_refl _) (Keep.refl _) rs re
theorem ss_ret {e : Expr} {e' : E} {pos : Pos} (h : SE X c W e e') : SS X c W (.Return (some e) pos) (.ret e') := by
  refine PS.imp (ps_ret h) ?_
  rintro E σ H ⟨ι, st, env, rs, re, p⟩
  simp only [exS] at p
  refine ⟨ι, st, env, rs, re, (PostS.of re p).imp ?_⟩
  rintro x H1 ⟨ι1, st1, d, p1, k1, rs1, rd, q⟩
  exact q ι1 H1 x (pre_refl _) (Keep.refl _) rs1 rd
theorem ss_retN {pos : Pos} : SS X c W (.Return none pos) .retN := by
  refine PS.imp ps_retN ?_
  rintro E σ H ⟨ι, st, env, rs, re, p⟩
  simp only [exS] at p
  exact p ι H .non (pre_refl _) (Keep.refl _) rs .non
theorem ss_if {t : Expr} {a b : List Stmt} {t' : E} {a' b' : List S} {pos : Pos} (ht : ST X c W t t') (ha : SSs X c W a a') (hb : SSs X c W b b') : SS X c W (.If t a b pos) (.iff t' a' b') := by
  refine PS.imp (ps_if ht ha hb) ?_
  rintro E σ H ⟨ι, st, env, rs, re, p⟩
  simp only [exS] at p
  refine ⟨ι, st, env, rs, re, (PostS.of re p).imp ?_⟩
  rintro x H1 ⟨ι1, st1, d, p1, k1, rs1, rd, q⟩
  split at q
  · have := rd.bl_inv; subst this
    exact ⟨true, rfl, iteT ⟨ι1, st1, env, rs1, re.mono p1 k1, q⟩⟩
  · have := rd.bl_inv; subst this
    exact ⟨false, rfl, iteF ⟨ι1, st1, env, rs1, re.mono p1 k1, q⟩⟩
  · exact q.elim
/-! ### stores -/
theorem ss_asg {tg e : Expr} {t : Tg} {e' : E} {pos : Pos} (he : SE X c W e e') (hg : SG X c W tg t) (hs : swapsWithSole [tg] e pos.line X.env = pure false) (hw : swappedStores [tg] e X.env = pure none) (h1 : (assignEach [tg] X.env).map (·.2) = [assign tg X.env]) :
    SS X c W (.Assign [tg] e pos) (.asg t e') := by
  refine PS.imp (ps_asg he hg hs hw h1) ?_
  rintro E σ H ⟨ι, st, env, rs, re, p⟩
  simp only [exS] at p
  refine ⟨ι, st, env, rs, re, (PostS.of re p).imp ?_⟩
  rintro x H1 ⟨ι1, st1, d, p1, k1, rs1, rd, q⟩
  refine ⟨ι1, st1, env, d, rs1, re.mono p1 k1, rd, (PostS.of (re.mono p1 k1) q).imp ?_⟩
  rintro σ2 H2 ⟨ι2, st2, env2, p2, k2, rs2, re2, q2⟩
  exact q2.nx rs2 re2
theorem ss_set (C : Cok X c lv W) {i : Nat} {x : Str} {e : Expr} {e' : E} {p' pos : Pos} (hi : X.N[i]? = some x) (hx : Loc X.env.scope x) (he : SE X c W e e') (hs : swapsWith e (some (.Name x p')) pos.line X.env = pure false) (hf : X.fn x = true ∨ X.env.scope.names.lookup x = some .local) :
    SS X c W (.Assign [.Name x p'] e pos) (.asg (.name i) e') := by
  refine PS.imp (ps_set C.nd hi hx he hs hf) ?_
  rintro E σ H ⟨ι, st, env, rs, re, p⟩
  simp only [exS, asT] at p
  refine ⟨ι, st, env, rs, re, (PostS.of re p).imp ?_⟩
  rintro x H1 ⟨ι1, st1, d, p1, k1, rs1, rd, q⟩
  have q' : PostS (FX X c) E W ι1 H1 (.next (env.set i (some d)) st1) := q
  exact q'.nx rs1 ((re.mono p1 k1).set i rd)
theorem PS.fz {s : Stmt} {t : TS} (h : PS X s t) : PS X s (fun E σ H => t { E with nx := fun σ' H' => FzQ X (fun σ' H' => E.nx σ' H') σ' H' } σ H) := ⟨fun pins s σ H D I q => wpAny_mono (h.run pins s σ H _ I q) (fun f s' z => by
  cases f with
  | next =>
    obtain ⟨σ', H', J, g⟩ := z
    obtain ⟨H2, J2, g2⟩ := g pins σ' s' J
    exact ⟨σ', H2, J2, g2⟩
  | _ => exact z) fun _ _ e => e⟩
theorem ss_setLc {z : Bool} (C : Cok X c lv W) {i : Nat} {x : Str} {p' spos : Pos} {elt tg iter : Expr} {ifs : List Expr} {scope : Scope} {pos : Pos} {own : List (Str × Nat)} {e' : E} {t : Tg} {it' : Mi.It} {i' : Option E} (hx : X.N[i]? = some x) (hxl : X.env.scope.names.lookup x = some .local)
    (hsw : swapsWith (.ListComp elt [⟨tg, iter, ifs, 0⟩] scope pos) (some (.Name x p')) spos.line X.env = pure true) (hi : SI X c W tg iter it') (ok : BlkOk X.N X.env.scope scope own)
    (hg : ∀ (s : Shared) (H : Hp) (cc : Addr) (cl : List (Str × Addr)) (fp : List Addr), SGo (X.blk s H scope (compEnvC scope cl cc X.env) fp) c (own.map (·.2)) tg t)
    (ht : ∀ (s : Shared) (H : Hp) (cc : Addr) (cl : List (Str × Addr)) (fp : List Addr), SP' (X.blk s H scope (compEnvC scope cl cc X.env) fp) c W0 ifs i')
    (he : ∀ (s : Shared) (H : Hp) (cc : Addr) (cl : List (Str × Addr)) (fp : List Addr), SE (X.blk s H scope (compEnvC scope cl cc X.env) fp) c W0 elt e') (hs : ∀ x, foldedSetIterable iter X.env x = pure x) :
    SS X c W (.Assign [.Name x p'] (.ListComp elt [⟨tg, iter, ifs, 0⟩] scope pos) spos) (.asg (.name i) (.comp z e' t it' i' (own.map (·.2)))) := by
  refine PS.imp (PS.fz <| ps_setLc (g := tGo (FX X c) (own.map (·.2)) (asT c t)) (tt := tP (FX X c) W0 (evI c i')) (te := tE (FX X c) W0 (evE c e')) C.calm C.nd hx hxl hsw hi ok hg ht he hs) ?_
  rintro E σ H ⟨ι, st, env, rs, re, p⟩
  rw [exS] at p
  refine lc_imp (W := W) ⟨ι, st, env, rs, re, (PostS.of re p).imp ?_⟩
  rintro x H1 ⟨ι1, st1, d, p1, k1, rs1, rd, q⟩
  have q' : PostS (FX X c) E W ι1 H1 (.next (env.set i (some d)) st1) := by
    simp only [asT] at q
    exact q
  exact q'.nx rs1 ((re.mono p1 k1).set i rd)
theorem ss_par (C : Cok X c lv W) {i j : Nat} {x y : Str} {a b : Expr} {a' b' : E} {px py pt : Pos} {kt k2 pt2} {pos : Pos} (hi : X.N[i]? = some x) (hj : X.N[j]? = some y) (hij : i ≠ j)
    (hx : X.env.scope.names.lookup x = some .local) (hy : X.env.scope.names.lookup y = some .local) (ha : SL X c W [a, b] [a', b'])
    (hw : swappedStores [.Tuple [.Name x px, .Name y py] kt pt] (.Tuple [a, b] k2 pt2) X.env = pure (some [x, y]))
    (hs : swapsWithSole [.Tuple [.Name x px, .Name y py] kt pt] (.Tuple [a, b] k2 pt2) pos.line X.env = pure false) :
    SS X c W (.Assign [.Tuple [.Name x px, .Name y py] kt pt] (.Tuple [a, b] k2 pt2) pos) (.asg (.tup [.name i, .name j]) (.tup [a', b'])) := by
  refine PS.imp (ps_par C.calm C.nd hi hj hij hx hy ha hw hs) ?_
  rintro E σ H ⟨ι, st, env, rs, re, p⟩
  simp only [exS, evE] at p
  have p' : PostS (FX X c) E W ι H ((evEs c [a', b'] env st).st env fun xs st => (if xs.length ≤ sl then R.ok (D.tup xs) st else R.no).st env fun x st => (asT c (.tup [.name i, .name j]) x env st).st env fun env st => .next env st) := by
    revert p
    generalize evEs c [a', b'] env st = r
    intro p
    cases r <;> exact p
  refine ⟨ι, st, env, rs, re, (PostS.of (RA := RVs (FX X c)) re p').imp ?_⟩
  rintro xs H1 ⟨ι1, st1, ds, p1, k1, rs1, rd, q⟩
  split at q
  · have q : PostS (FX X c) E W ι1 H1 ((asT c (.tup [.name i, .name j]) (.tup ds) env st1).st env fun env st => .next env st) := q
    simp only [asT] at q
    split at q
    · rename_i hl
      cases rd with
      | nil => cases hl
      | cons r1 t1 => cases t1 with
        | nil => cases hl
        | cons r2 t2 => cases t2 with
          | cons _ _ => simp at hl
          | nil =>
            simp only [asTs, asT] at q
            have q' : PostS (FX X c) E W ι1 H1 (.next ((env.set i (some _)).set j (some _)) st1) := q
            exact ⟨_, _, rfl, q'.nx rs1 (((re.mono p1 k1).set i r1).set j r2)⟩
    · exact q.elim
  · exact q.elim
/-- a store at a place, by values -/
theorem rk_put {F : Fx} {ι : List Addr} {H : Hp} {d : D} {k : Key} {e : D} {w : V} (hk : RKey d k) (r : RV F ι H e w) {kvs : List (D × D)} {ks : List (Key × V)} (h : RK F ι H kvs ks) : RK F ι H (putK kvs d e) (L2.putK ks k w) := by
  have any : ∀ {kvs : List (D × D)} {ks : List (Key × V)}, RK F ι H kvs ks → (kvs.any fun p => keyEq p.1 d) = ks.any fun kv => decide (kv.1 = k) := by
    intro kvs ks h
    induction h with
    | nil => rfl
    | cons e t ih => rw [List.any_cons, List.any_cons, ih, e.1.eq hk]
  have repl : ∀ {kvs : List (D × D)} {ks : List (Key × V)}, RK F ι H kvs ks → RK F ι H (kvs.map (fun p => if keyEq p.1 d = true then (p.1, e) else p)) (ks.map fun kv => if kv.1 = k then (kv.1, w) else kv) := by
    intro kvs ks h
    induction h with
    | nil => exact .nil
    | cons q t ih =>
      rw [List.map_cons, List.map_cons]
      refine .cons ?_ ih
      rw [q.1.eq hk]
      split
      · rename_i z
        rw [if_pos (by simpa using z)]
        exact ⟨q.1, r⟩
      · rename_i z
        rw [if_neg (by simpa using z)]
        exact q
  have app : ∀ {kvs : List (D × D)} {ks : List (Key × V)}, RK F ι H kvs ks → RK F ι H (kvs ++ [(d, e)]) (ks ++ [(k, w)]) := by
    intro kvs ks h
    induction h with
    | nil => exact .cons ⟨hk, r⟩ .nil
    | cons q t ih => exact .cons q ih
  unfold putK L2.putK
  rw [any h]
  split
  · exact repl h
  · exact app h
theorem len_putK (kvs : List (D × D)) (k v : D) : (putK kvs k v).length ≤ kvs.length + 1 := by
  unfold putK
  split
  · rw [List.length_map]; omega
  · simp
theorem RK.monoT {F : Fx} {ι ι' : List Addr} {H H' : Hp} {kvs : List (D × D)} {ks : List (Key × V)} (p : ι <+: ι') (k : KeepT H H') (h : RK F ι H kvs ks) : RK F ι' H' kvs ks := Paired.mapP h fun _ _ z => ⟨z.1, z.2.monoT p k⟩
/-- what is wanted behind it -/
def rSet (F : Fx) (W : XK) : V → V → V → Hp → (Hp → Prop) → Prop := fun o i v H Q => ∃ ι st a b d, Rs F ι st H ∧ RV F ι H a o ∧ RV F ι H b i ∧ RV F ι H d v ∧ Post F (fun _ _ _ (_ : Unit) => True) (fun _ H' => Q H') W ι H (setD a b d st)
theorem set_ok {W' : XK} (hu : X.A.units + 64 < cLine) : PSet X (rSet (FX X c) W') := by
  rintro pins s σ H o i v ov iv u Q I ro ri rv ⟨ι, st, a, b, d, rs, ra, rb, rd, p⟩
  unfold setD at p
  split at p
  · rename_i n b
    cases ra with
    | @ref _ l hn =>
      split at p
      · rename_i xs j hs
        obtain ⟨vs, h1, h2, h3⟩ := rs.at_ hn hs
        have := rb.int_inv; subst this
        split at p
        · rename_i k hk
          have k0 := rs.keepSet (u := .lst (vs.set k v)) hn
          refine set_list pins s σ H _ _ v ov iv u Q I ro ri rv ⟨l, vs, j, k, rfl, rfl, h1, by rw [← h2.length]; exact hk, ?_⟩
          exact p ι _ () (pre_refl _) k0 (rs.set hn ⟨_, upd_same, (h2.mono (pre_refl _) k0).set (rd.mono (pre_refl _) k0) k, by rw [List.length_set]; exact h3⟩) trivial
        · exact p.elim
      · rename_i kvs k hs
        split at p
        · rename_i hk
          obtain ⟨ks, h1, h2, h3⟩ := rs.at_ hn hs
          obtain ⟨key, k1, rfl⟩ := key_of_rv rb hk.1
          cases ro
          have hl : ks.length < sizeLine := by rw [← Paired.length h2]; exact hk.2
          have k0 := rs.keepSet (u := .dK (L2.putK ks key v)) hn
          refine d_setItem (by omega) I (DPut.k h1 hl) ri rv fun s' I' => ⟨_, I', ?_⟩
          refine p ι _ () (pre_refl _) k0 (rs.set hn ⟨_, upd_same, RK.monoT (pre_refl _) k0.t (rk_put k1 rd h2), ?_⟩) trivial
          exact Nat.le_trans (len_putK _ _ _) hk.2
        · exact p.elim
      · exact p.elim
  · exact p.elim
theorem sg_sub (C : Cok X c lv W) {o i : Expr} {o' i' : E} {pos : Pos} (ho : SE X c W o o') (hi : SE X c W i i')
    (ha : ∀ v, assign (.Subscript o i pos) X.env v = (do
      let ov ← holding [v] (eval o X.env)
      let iv ← holding [v, ov] (eval i X.env)
      standAt pos
      holding [v, ov, iv] (setItem ov iv v)
      release [v, ov, iv] [])) : SG X c W (.Subscript o i pos) (.sub o' i') := by
  have S : PSet X (fun o i v H Q => ∃ W', rSet (FX X c) W' o i v H Q) := fun pins s σ H o i v ov iv u Q I a b d ⟨W', q⟩ => set_ok C.room.units pins s σ H o i v ov iv u Q I a b d q
  refine ⟨fun pins s σ H v u Q I r h => (pg_sub ho hi S ha).run pins s σ H v u Q I r ?_⟩
  obtain ⟨ι, st, env, d, rs, re, rd, p⟩ := h
  simp only [asT] at p
  refine ⟨ι, st, env, rs, re, (Post.bind (RA := RV (FX X c)) p).imp ?_⟩
  rintro x H1 ⟨ι1, st1, d1, p1, k1, rs1, rd1, q1⟩
  refine ⟨ι1, st1, env, rs1, re.mono p1 k1, (Post.bind (RA := RV (FX X c)) q1).imp ?_⟩
  rintro y H2 ⟨ι2, st2, d2, p2, k2, rs2, rd2, q2⟩
  have k12 := k1.trans k2
  have p12 := p1.trans p2
  refine ⟨_, ι2, st2, d1, d2, d, rs2, rd1.mono p2 k2, rd2, rd.mono p12 k12, (Post.bind (RA := fun _ _ _ (_ : Unit) => True) q2).imp ?_⟩
  rintro _ H3 ⟨ι3, st3, _, p3, k3, rs3, _, q3⟩
  exact q3 ι3 H3 σ (pre_refl _) (Keep.refl _) rs3 (re.mono (p12.trans p3) (k12.trans k3))
theorem ss_fld (C : Cok X c lv W) {o e : Expr} {o' e' : E} {f : String} {p' pos : Pos} (ho : SE X c W o o') (he : SE X c W e e') (hs : swapsWith e (some (.Attribute o (Str.ofString f) p')) pos.line X.env = pure false) : SS X c W (.Assign [.Attribute o (Str.ofString f) p'] e pos) (.asg (.fld o' f) e') := by
  refine PS.imp (L2.ps_fld ho he hs) ?_
  rintro E σ H ⟨ι, st, env, rs, re, p⟩
  simp only [exS, asT] at p
  refine ⟨ι, st, env, rs, re, (PostS.of re p).imp ?_⟩
  rintro y H1 ⟨ι1, st1, d, p1, k1, rs1, rd, q⟩
  have q' : PostS (FX X c) E W ι1 H1 ((evE c o' env st1).st env fun x st => (fldD c.fld x f d st).st env fun _ st => .next env st) := by
    revert q
    generalize evE c o' env st1 = r
    intro q
    cases r with
    | ok x s =>
      have q : PostS (FX X c) E W ι1 H1 (((fldD c.fld x f d s).bind fun _ st => .ok env st).st env fun env st => .next env st) := q
      show PostS (FX X c) E W ι1 H1 ((fldD c.fld x f d s).st env fun _ st => .next env st)
      revert q
      generalize fldD c.fld x f d s = r2
      intro q
      cases r2 <;> exact q
    | exc _ _ _ => exact q
    | no => exact q
  refine ⟨ι1, st1, env, rs1, re.mono p1 k1, (PostS.of (re.mono p1 k1) q').imp ?_⟩
  rintro x H2 ⟨ι2, st2, d2, p2, k2, rs2, rd2, q2⟩
  unfold fldD at q2
  split at q2
  · rename_i n
    split at q2
    · rename_i cl fs hn
      split at q2
      · rename_i hl
        cases rd2 with
        | @ref _ a ha =>
          obtain ⟨C', dx, vs, h0, h1, h2, h3, h4⟩ := rs2.at_ ha hn
          refine ⟨a, C', dx, vs, rfl, h1, h3, C.lib.noat cl C' f h0 hl.2, by rw [← rf_len h2]; exact hl.1, ?_⟩
          have k3 := rs2.keepSet (u := .ins C' dx (L2.putF (Str.ofString f) y vs)) ha
          have q2' : PostS (FX X c) E W ι2 H2 (.next env (st2.set n (.obj cl (putF f d fs)))) := q2
          refine q2' ι2 _ σ (pre_refl _) k3 (rs2.set ha ⟨C', dx, _, h0, upd_same, ?_, h3, ?_⟩) (((re.mono p1 k1).mono p2 k2).mono (pre_refl _) k3)
          · exact Paired.mapP (rf_put (rd.mono p2 k2) h2) fun _ _ z => ⟨z.1, z.2.mono (pre_refl _) k3⟩
          · intro pr hp
            have gen : ∀ {fs : Fs}, pr ∈ putF f d fs → pr.1 = f ∨ ∃ q ∈ fs, q.1 = pr.1 := by
              intro fs
              induction fs with
              | nil => intro h; simp [putF] at h; exact .inl (by rw [h])
              | cons g r ih =>
                intro h
                obtain ⟨g, x⟩ := g
                unfold putF at h
                split at h
                · rcases List.mem_cons.mp h with h | h
                  · exact .inr ⟨(g, x), List.mem_cons_self, by rw [h]⟩
                  · exact .inr ⟨pr, List.mem_cons_of_mem _ h, rfl⟩
                · rcases List.mem_cons.mp h with h | h
                  · exact .inr ⟨(g, x), List.mem_cons_self, by rw [h]⟩
                  · rcases ih h with h | ⟨q, q1, q2⟩
                    · exact .inl h
                    · exact .inr ⟨q, List.mem_cons_of_mem _ q1, q2⟩
            rcases gen hp with h | ⟨q, q1, q2⟩
            · rw [h]; exact hl.2
            · rw [← q2]; exact h4 q q1
      · exact q2.elim
    · exact q2.elim
  · exact q2.elim
/-! ### augmented -/
theorem aug_ok {W' : XK} (op : Operator) : PIp X op (r2 (FX X c) W' (augD op)) := by
  rintro pins s σ H x y v u Q I rx ry ⟨ι, st, a, b, rs, ra, rb, p⟩
  unfold augD at p
  split at p
  · have := ra.int_inv; have := rb.int_inv; subst_vars
    exact iop_add pins s σ H _ _ v u Q I rx ry ⟨_, _, rfl, rfl, Post.here p rs (.int _)⟩
  · have := ra.int_inv; have := rb.int_inv; subst_vars
    exact iop_sub pins s σ H _ _ v u Q I rx ry ⟨_, _, rfl, rfl, Post.here p rs (.int _)⟩
  · have := ra.int_inv; have := rb.int_inv; subst_vars
    split at p
    · rename_i h
      exact iop_mul pins s σ H _ _ v u Q I rx ry ⟨_, _, rfl, rfl, h, Post.here p rs (.int _)⟩
    · exact p.elim
  · have := ra.int_inv; have := rb.int_inv; subst_vars
    split at p
    · rename_i h
      exact iop_fdiv pins s σ H _ _ v u Q I rx ry ⟨_, _, rfl, rfl, h, Post.here p rs (.int _)⟩
    · exact p.elim
  · have := ra.int_inv; have := rb.int_inv; subst_vars
    split at p
    · rename_i h
      exact iop_mod pins s σ H _ _ v u Q I rx ry ⟨_, _, rfl, rfl, h, Post.here p rs (.int _)⟩
    · exact p.elim
  · obtain ⟨rfl, o1⟩ := ra.str_inv
    obtain ⟨rfl, o2⟩ := rb.str_inv
    unfold okS at p
    split at p
    · rename_i hl
      have hl' := hl
      rw [List.length_append] at hl'
      refine iop_add_str pins s σ H _ _ v u Q I rx ry ⟨_, _, rfl, rfl, by rw [tS_length, tS_length]; exact hl', ?_⟩
      rw [← tS_append]
      refine Post.here p rs (.str _ ⟨hl, fun k hk => ?_⟩)
      rcases List.mem_append.mp hk with hk | hk
      · exact o1.2 k hk
      · exact o2.2 k hk
    · exact p.elim
  · exact p.elim
theorem get_ok {W' : XK} (hu : X.A.units + 64 < cLine) : PGet X (r2 (FX X c) W' getD) := by
  rintro pins s σ H o i ov iv Q I ro ri ⟨ι, st, a, b, rs, ra, rb, p⟩
  unfold getD at p
  split at p
  · rename_i n b
    cases ra with
    | @ref _ l hn =>
      cases ro
      split at p
      · rename_i xs j hs
        obtain ⟨vs, h1, h2, h3⟩ := rs.at_ hn hs
        have := rb.int_inv; subst this
        obtain ⟨tk, rfl⟩ := ri
        split at p
        · rename_i d hd
          obtain ⟨w, w1, w2⟩ := atD_get h2 hd
          obtain ⟨its, m, r, e, z⟩ := I.lst h1
          have hl : s.heap.IsList l its.toArray := ⟨_, e, rfl, m, rfl⟩
          unfold atI ixN at w1
          obtain ⟨k, k1, k2⟩ := Option.bind_eq_some_iff.mp w1
          obtain ⟨u, u1, u2⟩ := r.get k2
          have sz : vs.length = its.length := r.length
          have zz : sizeLine = 16777216 := sizeLine_eq
          split at k1
          · split at k1
            · cases k1
              exact wpAny_getItem_list (x := u) hl (by assumption) (by omega) (by simpa using u1) (show EP X pins σ Q u s from ⟨w, H, I, u2, Post.here p rs w2⟩)
            · cases k1
          · split at k1
            · cases k1
              refine wpAny_getItem_list_neg (x := u) hl (by omega) (by simp only [List.size_toArray]; omega) (by omega) ?_ (show EP X pins σ Q u s from ⟨w, H, I, u2, Post.here p rs w2⟩)
              simp only [List.size_toArray, ← sz]
              simpa using u1
            · cases k1
        · exact p.elim
      · rename_i kvs k hs
        split at p
        · rename_i hk
          split at p
          · rename_i d hd
            obtain ⟨ks, h1, h2, h3⟩ := rs.at_ hn hs
            obtain ⟨key, k1, rfl⟩ := key_of_rv rb hk
            obtain ⟨w, k5, k6⟩ := (rk_get k1 h2).1 _ hd
            have g : DGet H l (kV key) (some w) := .inl ⟨ks, key, .inl h1, rfl, k5.symm⟩
            exact d_getItem (by omega) I g ri fun w' s' I' r' => ⟨w, H, I', r', Post.here p rs k6⟩
          · exact p.elim
        · exact p.elim
      · exact p.elim
  · exact p.elim
theorem ss_aug (C : Cok X c lv W) {i : Nat} {x : Str} {e : Expr} {e' : E} {op : Operator} {p' pos : Pos} (hi : X.N[i]? = some x) (hx : Loc X.env.scope x) (he : SE X c W e e') (hf : X.fn x = true ∨ X.env.scope.names.lookup x = some .local) :
    SS X c W (.AugAssign (.Name x p') op e pos) (.aug i op e') := by
  have S : PIp X op (fun x y H Q => ∃ W', r2 (FX X c) W' (augD op) x y H Q) := fun pins s σ H x y v u Q I a b ⟨W', q⟩ => aug_ok op pins s σ H x y v u Q I a b q
  refine PS.imp (ps_aug C.nd hi hx he S hf) ?_
  rintro E σ H ⟨ι, st, env, rs, re, p⟩
  simp only [exS] at p
  split at p
  · rename_i d hd
    obtain ⟨v, h1, h2⟩ := re.slot i d hd
    refine ⟨v, h1, ι, st, env, rs, re, (PostS.of re p).imp ?_⟩
    rintro y H1 ⟨ι1, st1, d1, p1, k1, rs1, rd1, q1⟩
    refine ⟨_, ι1, st1, d, d1, rs1, h2.mono p1 k1, rd1, (PostS.of (re.mono p1 k1) q1).imp ?_⟩
    rintro z H2 ⟨ι2, st2, d2, p2, k2, rs2, rd2, q2⟩
    exact q2.nx rs2 (((re.mono p1 k1).mono p2 k2).set i rd2)
  · exact p.elim
theorem ss_augS (C : Cok X c lv W) {o i e : Expr} {o' i' e' : E} {op : Operator} {tpos pos : Pos} (ho : SE X c W o o') (hi : SE X c W i i') (he : SE X c W e e')
    (ha : ∀ ov iv new, augStore i ov iv new = (do holding [new, ov, iv] (setItem ov iv new); release [new, ov, iv] []; pure .next)) : SS X c W (.AugAssign (.Subscript o i tpos) op e pos) (.augS o' i' op e') := by
  have S : PIp X op (fun x y H Q => ∃ W', r2 (FX X c) W' (augD op) x y H Q) := fun pins s σ H x y v u Q I a b ⟨W', q⟩ => aug_ok op pins s σ H x y v u Q I a b q
  have G : PGet X (fun x y H Q => ∃ W', r2 (FX X c) W' getD x y H Q) := fun pins s σ H x y v u Q I a b ⟨W', q⟩ => get_ok C.room.units pins s σ H x y v u Q I a b q
  have T : PSet X (fun o i v H Q => ∃ W', rSet (FX X c) W' o i v H Q) := fun pins s σ H o i v ov iv u Q I a b d ⟨W', q⟩ => set_ok C.room.units pins s σ H o i v ov iv u Q I a b d q
  refine PS.imp (ps_augS ho hi G he S T ha) ?_
  rintro E σ H ⟨ι, st, env, rs, re, p⟩
  simp only [exS] at p
  refine ⟨ι, st, env, rs, re, (PostS.of re p).imp ?_⟩
  rintro x H1 ⟨ι1, st1, d1, p1, k1, rs1, rd1, q1⟩
  have re1 := re.mono p1 k1
  refine ⟨ι1, st1, env, rs1, re1, (PostS.of re1 q1).imp ?_⟩
  rintro y H2 ⟨ι2, st2, d2, p2, k2, rs2, rd2, q2⟩
  have re2 := re1.mono p2 k2
  refine ⟨_, ι2, st2, d1, d2, rs2, rd1.mono p2 k2, rd2, (PostS.of re2 q2).imp ?_⟩
  rintro z H3 ⟨ι3, st3, d3, p3, k3, rs3, rd3, q3⟩
  have re3 := re2.mono p3 k3
  refine ⟨ι3, st3, env, rs3, re3, (PostS.of re3 q3).imp ?_⟩
  rintro w H4 ⟨ι4, st4, d4, p4, k4, rs4, rd4, q4⟩
  have re4 := re3.mono p4 k4
  refine ⟨_, ι4, st4, d3, d4, rs4, rd3.mono p4 k4, rd4, (PostS.of re4 q4).imp ?_⟩
  rintro r H5 ⟨ι5, st5, d5, p5, k5, rs5, rd5, q5⟩
  have re5 := re4.mono p5 k5
  have p25 := (p3.trans p4).trans p5
  have k25 := (k3.trans k4).trans k5
  refine ⟨_, ι5, st5, d1, d2, d5, rs5, (rd1.mono p2 k2).mono p25 k25, rd2.mono p25 k25, rd5, (PostS.of (RA := fun _ _ _ (_ : Unit) => True) re5 q5).imp ?_⟩
  rintro _ H6 ⟨ι6, st6, _, p6, k6, rs6, _, q6⟩
  exact q6.nx rs6 (re5.mono p6 k6)
/-! ### loops -/
/-- the ends of a loop's body -/
theorem loop_ends {F : Fx} {E : Ends} {ι ι1 : List Addr} {H H1 : Hp} {o : RS} {N : St → Hp → Prop} {k : Env → Sto → RS} (p : ι <+: ι1) (kp : Keep ι ι1 H H1)
    (h : PostS F E W ι H (match o with
      | .next e s => k e s
      | .cont e s => k e s
      | .brk e s => .next e s
      | .ret d s => .ret d s
      | .exc c fs e s => .exc c fs e s
      | .no => .no))
    (hN : ∀ e s ι' H' σ', ι <+: ι' → Keep ι ι' H H' → Rs F ι' s H' → Re F ι' H' e σ' → PostS F E W ι H (k e s) → N σ' H') :
    PostS F { E with nx := N, ct := N, bk := E.nx } W ι1 H1 o := by
  cases o with
  | next e s => exact fun ι' H' σ' q k' rs re => hN e s ι' H' σ' (p.trans q) (kp.trans k') rs re h
  | cont e s => exact fun ι' H' σ' q k' rs re => hN e s ι' H' σ' (p.trans q) (kp.trans k') rs re h
  | brk e s => exact fun ι' H' σ' q k' rs re => h ι' H' σ' (p.trans q) (kp.trans k') rs re
  | ret d s => exact fun ι' H' v q k' rs rd => h ι' H' v (p.trans q) (kp.trans k') rs rd
  | exc c fs e s => exact fun ι' H' C dx σ' q k' => h ι' H' C dx σ' (p.trans q) (kp.trans k')
  | no => exact h
theorem ss_while (hp : PassesOwn (model X.prog X.w) X.A X.env X.xe) {t : Expr} {b : List Stmt} {t' : E} {b' : List S} {pos : Pos} (ht : ST X c W t t') (hb : SSs X c W b b') : SS X c W (.While t b [] pos) (.whil t' b') := by
  refine PS.imp (ps_while hp ht hb) ?_
  rintro E σ H ⟨ι, st, env, rs, re, p⟩
  rw [exS] at p
  generalize 1048576 = f at p
  refine ⟨fun m σ' H' => ∃ ι' st' env', ι <+: ι' ∧ Keep ι ι' H H' ∧ Rs (FX X c) ι' st' H' ∧ Re (FX X c) ι' H' env' σ' ∧ PostS (FX X c) E W ι H (whileS (evE c t') (exSs c b') m env' st'), ⟨f, ι, st, env, pre_refl _, Keep.refl _, rs, re, p⟩, ?_⟩
  rintro m σ1 H1 ⟨ι1, st1, env1, p1, k1, rs1, re1, q1⟩
  cases m with
  | zero => exact q1.elim
  | succ m =>
    refine ⟨ι1, st1, env1, rs1, re1, ?_⟩
    unfold whileS at q1
    cases hE : evE c t' env1 st1 with
    | no => rw [hE] at q1; exact q1.elim
    | exc cl fs s =>
      rw [hE] at q1
      exact fun ι' H' C dx q k' rs' hm hx => q1 ι' H' C dx σ1 (p1.trans q) (k1.trans k') rs' (re1.mono q k') hm hx
    | ok d s =>
      rw [hE] at q1
      rintro ι2 H2 v p2 k2 rs2 rd
      have p12 := p1.trans p2
      have k12 := k1.trans k2
      have re2 := re1.mono p2 k2
      cases d with
      | bl b =>
        have := rd.bl_inv; subst this
        cases b with
        | true =>
          refine ⟨true, rfl, iteT ⟨fun σ' H' => ∃ ι' st' env', ι <+: ι' ∧ Keep ι ι' H H' ∧ Rs (FX X c) ι' st' H' ∧ Re (FX X c) ι' H' env' σ' ∧ PostS (FX X c) E W ι H (whileS (evE c t') (exSs c b') m env' st'), fun σ' H' h => ⟨m, Nat.lt_succ_self m, h⟩, ι2, s, env1, rs2, re2, ?_⟩⟩
          exact loop_ends p12 k12 q1 fun e s' ι' H' σ' q k' rs' re' h => ⟨ι', s', e, q, k', rs', re', h⟩
        | false =>
          exact ⟨false, rfl, iteF (q1 ι2 H2 σ1 p12 k12 rs2 re2)⟩
      | _ => exact q1.elim
theorem ss_for (C : Cok X c lv W) (hp : PassesOwn (model X.prog X.w) X.A X.env X.xe) {tg iter : Expr} {t : Tg} {it' : Mi.It} {b : List Stmt} {b' : List S} {pos : Pos} (hi : SI X c W tg iter it') (hg : SG X c W tg t) (hb : SSs X c W b b') (hs : ∀ x, foldedSetIterable iter X.env x = pure x) :
    SS X c W (.For tg iter b [] pos) (.fr t it' b') := by
  refine PS.imp (ps_for hp C.calm hi hg hb hs) ?_
  rintro E σ H ⟨ι, st, env, rs, re, p⟩
  simp only [exS] at p
  refine ⟨ι, st, env, rs, re, (PostS.of (RA := fun ι H iv J => JOk (FX X c) ι H iv J) re p).imp ?_⟩
  rintro J H1 ⟨ι1, st1, iv, p1, k1, rs1, jok, q1⟩
  generalize hbody : (fun d env st => (asT c t d env st).st env fun env st => exSs c b' env st) = body at q1
  refine ⟨fun i m σ' H' => ∃ ι' st' env', ι1 <+: ι' ∧ Keep ι1 ι' H1 H' ∧ Rs (FX X c) ι' st' H' ∧ Re (FX X c) ι' H' env' σ' ∧ PostS (FX X c) E W ι1 H1 (loopS body iv m i env' st'), ⟨_, ι1, st1, env, pre_refl _, Keep.refl _, rs1, re.mono p1 k1, q1⟩, ?_⟩
  rintro i m σ2 H2 ⟨ι2, st2, env2, p2, k2, rs2, re2, q2⟩
  cases m with
  | zero => exact q2.elim
  | succ m =>
    unfold loopS at q2
    cases hx : nextI st2 i iv with
    | none => rw [hx] at q2; exact q2.elim
    | some o =>
      rw [hx] at q2
      cases o with
      | none => exact .inl ⟨jok.sp ι2 st2 H2 i p2 k2 rs2 hx, q2 ι2 H2 σ2 p2 k2 rs2 re2⟩
      | some d =>
        right
        obtain ⟨go, yl⟩ := jok.sm ι2 st2 H2 i d p2 k2 rs2 hx
        refine ⟨go, fun σ' H' => ∃ ι' st' env', ι1 <+: ι' ∧ Keep ι1 ι' H1 H' ∧ Rs (FX X c) ι' st' H' ∧ Re (FX X c) ι' H' env' σ' ∧ PostS (FX X c) E W ι1 H1 (loopS body iv m (i + 1) env' st'), fun σ' H' h => ⟨m, Nat.lt_succ_self m, h⟩, fun x H3 hy => ?_⟩
        obtain ⟨sm, rd⟩ := yl x H3 hy
        have k3 : Keep ι2 ι2 H2 H3 := same_keep sm
        have rs3 := rs2.same sm
        have re3 := re2.mono (pre_refl _) k3
        have q3 := loop_ends (N := fun σ' H' => ∃ ι' st' env', ι1 <+: ι' ∧ Keep ι1 ι' H1 H' ∧ Rs (FX X c) ι' st' H' ∧ Re (FX X c) ι' H' env' σ' ∧ PostS (FX X c) E W ι1 H1 (loopS body iv m (i + 1) env' st')) p2 (k2.trans k3) q2 fun e s' ι' H' σ' q k' rs' re' h => ⟨ι', s', e, q, k', rs', re', h⟩
        rw [← hbody] at q3
        refine ⟨ι2, st2, env2, d, rs3, re3, rd, (PostS.of re3 q3).imp ?_⟩
        rintro σ4 H4 ⟨ι4, st4, env4, p4, k4, rs4, re4, q4⟩
        rw [← hbody]
        exact ⟨ι4, st4, env4, rs4, re4, q4⟩
end
end Mi

set_option linter.all false
set_option maxRecDepth 100000
/-! V12x: raise, and an exception that is caught and kept. -/
namespace Mi
open PySem PySem.Spec L2
open PyProof.Rows hiding St
/-- the ghost step: an object that nobody changes is tracked -/
theorem Inv.track {X : Cx} {pins : List (Addr × Obj)} {σ : L2.St} {H : Hp} {s : Shared} {a : Addr} {oe : Obj} {vs : Array Value} (I : L2.Inv X pins σ H s) (ha : s.heap.get? a = some oe) (hd : oe.data = .fields vs) (na : H a = none) (nL : a ≠ X.env.locals)
    (h0 : X.s_0.heap.get? a = none) (hp : ∀ p ∈ X.pn ++ pins, p.1 ≠ a) {φ : Heap → Prop} (p1 : φ s.heap) (p2 : ∀ h1 h2 : Heap, φ h1 → (∀ o, h1.get? a = some o → h2.get? a = some o) → φ h2) : L2.Inv X pins σ (upd H a (.ext φ)) s := by
  have ne : ∀ {b : Addr} {u : HO}, H b = some u → b ≠ a := fun e z => by rw [z, na] at e; cases e
  have at_ : ∀ {b : Addr} {u : HO}, H b = some u → upd H a (.ext φ) b = some u := fun e => by rw [upd_ne (ne e)]; exact e
  have B := I.base
  refine ⟨I.ok, I.os, I.bare, ⟨B.keep, B.slot, fun b o e n hx => ?_, B.there, fun b xs e => at_ (B.tups b xs e), fun b o u e => at_ (B.frzs b o u e), fun b ps e => ?_⟩, I.loc, I.cell, ?_, fun x c e => ?_, fun p h => ?_, fun b u e => ?_, I.len⟩
  · rw [upd_ne (fun z => by rw [z, h0] at e; cases e)]
    exact B.free b o e n hx
  · obtain ⟨more, e2⟩ := B.tbls b ps e
    exact ⟨more, at_ e2⟩
  · rw [upd_ne (Ne.symm nL)]
    exact I.free
  · obtain ⟨v, oc, e1, e2⟩ := I.cell x c e
    rw [upd_ne (fun z => by rw [z, ha] at e1; cases e1; rw [hd] at e2; cases e2)]
    exact I.freeC x c e
  · obtain ⟨e1, e2, e3⟩ := I.pin p h
    exact ⟨e1, by rw [upd_ne (hp p h)]; exact e2, e3⟩
  · by_cases hb : b = a
    · subst hb
      rw [upd_same] at e
      cases e
      exact ⟨p1, ⟨oe, ha⟩, p2⟩
    · rw [upd_ne hb] at e
      exact (I.hok b u e).stay (fun c w _ q => q) (fun c q => at_ q) fun c xs q => at_ q
theorem xo_ok {D a : Addr} {oe : Obj} {vs : Array Value} {h : Heap} (ha : h.get? a = some oe) (hz : Zc (.ref D) none oe) (hd : oe.data = .fields vs) : ∃ oc : Obj, h.get? a = some oc ∧ oc.cls = .ref D ∧ oc.dict = none ∧ ∃ vs, oc.data = .fields vs := ⟨oe, ha, hz.1, hz.2, vs, hd⟩
theorem xo_st {D a : Addr} (h1 h2 : Heap) (p : ∃ oc : Obj, h1.get? a = some oc ∧ oc.cls = .ref D ∧ oc.dict = none ∧ ∃ vs, oc.data = .fields vs) (k : ∀ o, h1.get? a = some o → h2.get? a = some o) : ∃ oc : Obj, h2.get? a = some oc ∧ oc.cls = .ref D ∧ oc.dict = none ∧ ∃ vs, oc.data = .fields vs :=
  let ⟨oc, e, r⟩ := p; ⟨oc, k _ e, r⟩
/-- what is wanted of an exception that is kept in slot j -/
def wKeep (K : PySem.W.Frag) (c : Value) (i j : Nat) (E : Ends) : L2.WX := fun cls d σ H => ∃ D : Addr, cls = .ref D ∧ d = none ∧ PySem.W.exmOne K cls c = some true ∧ ∀ a, H a = none → E.nx ((σ.set i none).set j (some (.ref a))) (upd H a (XO D a))
theorem ps_keep {X : Cx} {x n m : Str} {c : Value} {i j : Nat} {body : List Stmt} {np n2 mp ap hp tp : Pos} {tb : L2.WX → TS} (st : X.stack = X.env :: X.outer) (fr : X.env.frame = some X.env.locals) (nd : X.N.Nodup) (hi : X.N[i]? = some n) (hj : X.N[j]? = some m) (ij : i ≠ j)
    (ln : X.env.kindOf n = some .local) (lm : X.env.kindOf m = some .local) (dn : (n == ("__debug__" : Str)) = false ∧ (n == ("__classdict__" : Str)) = false) (hc : Names X x c)
    (hb : ∀ (W : L2.WX) (pn : List (Addr × Obj)) (xe : Value → Shared → Prop), Takes (X.tr pn xe) W → PassesOwn (model X.prog X.w) X.A X.env xe → PSs (X.tr pn xe) body (tb W)) (ex : X.ex = []) :
    PS X (.Try body [.ExceptHandler (some (.Name x np)) (some n) [.Assign [.Name m mp] (.Name n n2) ap] hp] [] [] tp) (fun E σ H => tb (wKeep X.K c i j E) E σ H) := by
  constructor
  intro pins s σ H E I h
  have okX := I.ok
  have frames : X.A.frames = some (X.env :: X.outer) := okX.frames.trans (congrArg some st)
  have sunk : ∀ {f : Flow} {s1 : Shared}, SP (X.tr (X.pn ++ pins) (fun e s1 => wpAny (model X.prog X.w) X.A (noteFrame e X.env) (fun _ s2 => wpAny (model X.prog X.w) X.A (setFlight e none) (fun _ s3 =>
      wpAny (model X.prog X.w) X.A (handleBy e X.env [.ExceptHandler (some (.Name x np)) (some n) [.Assign [.Name m mp] (.Name n n2) ap] hp]) (SP X pins E) X.xe s3) X.xe s2) X.xe s1)) [] E f s1 → SP X pins E f s1 := by
    intro f s1 z
    cases f with
    | next => obtain ⟨σ1, H1, J, q⟩ := z; exact ⟨σ1, H1, J.ofTry okX, q⟩
    | brk => obtain ⟨σ1, H1, J, q⟩ := z; exact ⟨σ1, H1, J.ofTry okX, q⟩
    | cont => obtain ⟨σ1, H1, J, q⟩ := z; exact ⟨σ1, H1, J.ofTry okX, q⟩
    | ret u => obtain ⟨v, σ1, H1, J, r, q⟩ := z; exact ⟨v, σ1, H1, J.ofTry okX, r, q⟩
  refine wpAny_Try_except (wpAny_mono ((hb (wKeep X.K c i j E) _ _ (fun u s1 air => ?_) PassesOwn.looking).run [] s σ H E (I.toTry _) h) (fun f s1 z => ?_) fun _ _ z => z)
  · obtain ⟨a, G, s0, pins1, σ1, H1, cls, d, rfl, J0, under, up, sky, free, os, bare, D, rfl, rfl, mat, want⟩ := air
    have J : L2.Inv X pins σ1 H1 s0 := J0.ofTry okX
    rw [show (X.tr (X.pn ++ pins) _).stack = X.env :: X.outer from st] at sky
    show wpAny (model X.prog X.w) X.A (noteFrame (.ref a) X.env) _ _ _
    refine Sky.land Zc.steady frames fr sky fun g3 fly3 up3 => ?_
    have J3 : L2.Inv X pins σ1 H1 { s1 with heap := g3 } := J.landed under fly3.1 (up.trans up3) os bare
    obtain ⟨o3, v3, at3, z3, d3⟩ := fly3.there
    have off : a ∉ frs (X.env :: X.outer) := fun hm => by
      obtain ⟨_, o', e', no⟩ := fly3.2.2.1.mem hm
      rw [at3] at e'
      cases e'
      exact no _ d3
    have offL : a ≠ X.env.locals := fun z => off (List.mem_filterMap.mpr ⟨X.env, List.mem_cons_self, by rw [fr, z]⟩)
    have offS : a ∉ X.fs := fun hm => let ⟨e, h1, h2⟩ := List.mem_filterMap.mp hm; off (List.mem_filterMap.mpr ⟨e, List.mem_cons_of_mem _ h1, h2⟩)
    have new : ∀ {o : Obj}, s0.heap.get? a = some o → False := fun {o} e => by
      have := under a o e (by rw [show (X.tr (X.pn ++ pins) _).stack = X.env :: X.outer from st]; exact off)
      rw [fly3.2.1] at this
      cases this
    have new0 : X.s_0.heap.get? a = none := by
      cases e : X.s_0.heap.get? a with
      | none => rfl
      | some o => obtain ⟨o', e'⟩ := J.base.there a o e (by rw [ex]; exact fun z => nomatch z); exact (new e').elim
    have newP : ∀ p ∈ X.pn ++ pins, p.1 ≠ a := fun p hp z => by
      have e := (J.pin p hp).1
      rw [z] at e
      exact new e
    have S3 := J3.suite at3 d3 free offL offS
    refine wpAny_handleBy_cons (codeAny_handlers_test ?_) (by intro q; cases q)
    have ty : PySem.W.Looks (model X.prog X.w) g3 (typeOf (.ref a)) (.ref D) := fun A Q E s k q => wpAny_typeOf_ref (k _ _ at3) (by rw [z3.1]; exact q)
    have hit := PySem.W.exm_one (M := model X.prog X.w) J3.kIn ty mat
    have named : ∀ {Q E : Value → Shared → Prop}, Q c { s1 with heap := g3 } → wpAny (model X.prog X.w) (X.A.mark (some (.ref a))) (eval (.Name x np) X.env) Q E { s1 with heap := g3 } := by
      intro Q E q
      obtain ⟨g1, g2, g | ⟨g, g3, g4⟩⟩ := hc
      · exact ld_glob S3 g1 g q g2
      · exact ld_blt S3 g1 g g3 q g4 g2
    refine named (hit.here (codeAny_handlers_suite_as (HandSPX.lands_againZ fly3 fun g4 fly4 up4 => ?_)))
    obtain ⟨o4, v4, at4, z4, d4⟩ := fly4.there
    have S4 := (J.landed under fly4.1 ((up.trans up3).trans up4) os bare : L2.Inv X pins σ1 H1 { s1 with heap := g4 }).suite at4 d4 free offL offS
    refine store_ok (X := X.suite a ((a, o4) :: (X.pn ++ pins))) (v := .ref a) S4 nd hi (.inl ln) rfl (fun s5 S5 => ?_) (.inr ln)
    have il : i < σ1.length := by rw [J.len]; exact (List.getElem?_eq_some_iff.mp hi).1
    have run : PSs (X.suite a ((a, o4) :: (X.pn ++ pins))) [.Assign [.Name m mp] (.Name n n2) ap] _ := pss_cons (ps_set nd hj (.inl lm) (pe_var (X := X.suite a ((a, o4) :: (X.pn ++ pins))) hi (.inl ln) dn.1 dn.2) rfl (.inr lm)) pss_nil
    refine wpAny_mono (run.run [] s5 _ H1 { nx := fun σ' H' => σ' = (σ1.set i (some (.ref a))).set j (some (.ref a)) ∧ H' = H1, bk := fun _ _ => False, ct := fun _ _ => False, rt := fun _ _ => False } S5 ⟨.ref a, List.getElem?_set_self il, rfl, rfl⟩) (fun f s6 z => ?_) fun _ _ z => False.elim z
    cases f with
    | next =>
      obtain ⟨σ6, H6, S6, rfl, rfl⟩ := z
      refine gone_ok (X := X.suite a ((a, o4) :: (X.pn ++ pins))) S6 nd hi ln fun s7 S7 => ?_
      obtain ⟨at7, _, _, _, _⟩ := S7.pin (a, o4) (List.mem_append_left _ List.mem_cons_self)
      have J7 := S7.unsuite okX
      refine ⟨_, _, Inv.track J7 at7 d4 free offL new0 newP (xo_ok at7 z4 d4) (xo_st (D := D)), ?_⟩
      have e : ∀ y : Option V, ((σ1.set i y).set j y).set i none = (σ1.set i none).set j y := fun y => by rw [List.set_comm _ _ ij, List.set_set, List.set_comm _ _ (Ne.symm ij)]
      have w := want a free
      rw [← e] at w
      exact w
    | brk => obtain ⟨_, _, _, z⟩ := z; exact z.elim
    | cont => obtain ⟨_, _, _, z⟩ := z; exact z.elim
    | ret u => obtain ⟨_, _, _, _, _, z⟩ := z; exact z.elim
  · cases f with
    | next => exact wpAny_execs_nil (sunk z)
    | brk => exact sunk z
    | cont => exact sunk z
    | ret u => exact sunk z
end Mi

set_option linter.all false
set_option maxRecDepth 100000
/-! V12y: classes: isinstance, making, raising, keeping. -/
namespace Mi
open PySem PySem.Spec L2
open PyProof.Rows hiding St
section
variable {X : Cx} {c : Ctx} {lv : Nat} {W : L2.WX}
theorem call_isx : CallR X (.builtin "isinstance") (fun xs H Q => ∃ a D v cv b, xs = [.ref a, v] ∧ H a = some (XO D a) ∧ ExcC X.K D ∧ (∀ u, RelV v u → u = cv) ∧ PySem.W.kitOne X.K (.ref D) cv = some b ∧ Q (.bl b) H) := by
  rintro pins s σ H xs us Q I r ⟨a, D, v, cv, b, rfl, ha, C, hv, hk, q⟩
  cases r with
  | cons rx rr => cases rr with
    | cons rt rr =>
      cases rr
      cases rx
      have ec := hv _ rt
      subst ec
      obtain ⟨⟨oc, e1, e2, e3, vs, e4⟩, _⟩ := (I.hok a _ ha : ObjOk X.prog X.w H s.heap a (XO D a))
      have J : PySem.W.InstAt s.heap a oc D none := by
        obtain ⟨o1, o2, o3, o4⟩ := oc
        dsimp only at e2 e3 e4
        subst e2 e3 e4
        exact ⟨e1, rfl, rfl, trivial⟩
      exact PySem.W.kia_one (PySem.W.handS_kitx_exc C.hg C.hk C.hs C.hd C.ha C.hn C.ht C.hm) I.kIn J hk (fun z => nomatch z) fun tk => ⟨.bl b, H, I.kept (t' := tk) fun _ _ z => z, rfl, q⟩
theorem pe_cls {x : Str} {p : Pos} (hg : Gl X x) (hd : (x == ("__debug__" : Str)) = false) : PE X (.Name x p) (fun _ H Q => ∃ v cv, RelV v cv ∧ (X.mg x = some cv ∨ (X.mg x = none ∧ bootBuiltins x = some cv ∧ x ≠ "__name__")) ∧ Q v H) := by
  refine ⟨fun pins s σ H Q I h => ?_⟩
  obtain ⟨v, cv, r, h1 | ⟨h1, h2, h3⟩, q⟩ := h
  · exact (pe_glob hg h1 r hd).run pins s σ H Q I q
  · exact (pe_bltn hg h1 h2 r h3 hd).run pins s σ H Q I q
theorem s_isx (C : Cok X c lv W) {e : Expr} {e' : E} {t : String} {p p2 pos : Pos} (hg : Gl X "isinstance") (hm : X.mg "isinstance" = none) (hgt : Gl X (Str.ofString t)) (hdt : (Str.ofString t == ("__debug__" : Str)) = false) (he : SE X c W e e') (hs : starEach [e, .Name (Str.ofString t) p2] X.env = (false, eval e X.env) :: starEach [.Name (Str.ofString t) p2] X.env) :
    SE X c W (.Call (.Name "isinstance" p) [e, .Name (Str.ofString t) p2] [] pos) (.isx e' t) := by
  refine PE.imp (pe_callB call_isx hg hm (by decide +kernel) (pa_cons he (pa_cons (pe_cls hgt hdt) pa_nil rfl) hs) (by decide) (by decide) hs) ?_
  rintro σ H Q ⟨ι, st, env, rs, re, q⟩
  simp only [evE] at q
  refine ⟨ι, st, env, rs, re, q.bind.imp ?_⟩
  rintro x H1 ⟨ι1, st1, d, p1, k1, rs1, rd, q1⟩
  split at q1
  · rename_i en fs
    cases rd with
    | @exn _ a D h1 h2 =>
      obtain ⟨b, hb, q2⟩ := okOB_here q1 rs1
      obtain ⟨D', v, cv, g1, g2, g3, g4, g5, g6⟩ := C.lib.isx _ _ _ hb
      rw [show X.mg (Str.ofString en) = _ from h1] at g1
      cases g1
      exact ⟨v, cv, g3, g6, a, D, v, cv, b, rfl, h2, g2, g4, g5, q2⟩
  · exact q1.elim
/-! isinstance with a tuple of types -/
theorem kit_tys {K : PySem.W.Frag} {a : String} (ha : a ∈ tyNames) : ∀ {ts : List String}, (∀ t ∈ ts, t ∈ tyNames) → PySem.W.kitAny K (.type a) (ts.map .type) = some (ts.any fun t => decide (a = t) || (decide (a = "bool") && decide (t = "int")))
  | [], _ => rfl
  | t :: ts, h => by
    have h1 := kit_ty (K := K) (kit_all a ha t (h t List.mem_cons_self))
    have h2 := kit_tys (K := K) ha (ts := ts) fun t m => h t (List.mem_cons_of_mem _ m)
    rw [List.map_cons, List.any_cons]
    refine kitAny_cons h1 (fun e => ?_) (fun e => ?_)
    · rw [e, Bool.false_or]; exact h2
    · rw [e, Bool.true_or]
inductive STys (X : Cx) : List Expr → List String → Prop where
  | nil : STys X [] []
  | cons {t : String} {p : Pos} {es : List Expr} {ts : List String} : Gl X (Str.ofString t) → X.mg (Str.ofString t) = none → bootBuiltins (Str.ofString t) = some (.type t) → Str.ofString t ≠ "__name__" → (Str.ofString t == ("__debug__" : Str)) = false → STys X es ts → STys X (.Name (Str.ofString t) p :: es) (t :: ts)
theorem STys.pa {es : List Expr} {ts : List String} (h : STys X es ts) : PA X es (fun _ H Q => Q (ts.map V.ty) H) := by
  induction h with
  | nil => exact PA.imp pa_nil fun _ _ _ q => q
  | cons a b d e f _ ih => exact PA.imp (pa_cons (pe_bltn (v := .ty _) a b d rfl e f) ih rfl) fun _ _ _ q => q
theorem ty_cls : ∀ ts : List String, Paired ClsV (ts.map V.ty) (ts.map Value.type)
  | [] => .nil
  | t :: ts => .cons (.ty t) (ty_cls ts)
theorem s_ist (C : Cok X c lv W) {e : Expr} {e' : E} {es : List Expr} {ts : List String} {k : Nat} {p p2 pos : Pos} (hg : Gl X "isinstance") (hm : X.mg "isinstance" = none) (ht : STys X es ts) (he : SE X c W e e') (hs : starEach [e, .Tuple es k p2] X.env = (false, eval e X.env) :: starEach [.Tuple es k p2] X.env) :
    SE X c W (.Call (.Name "isinstance" p) [e, .Tuple es k p2] [] pos) (.ist e' ts) := by
  refine PE.imp (pe_callB call_isiT hg hm (by decide +kernel) (pa_cons he (pa_cons (pe_tup ht.pa) pa_nil rfl) hs) (by decide) (by decide) hs) ?_
  rintro σ H Q ⟨ι, st, env, rs, re, q⟩
  simp only [evE] at q
  refine ⟨ι, st, env, rs, re, q.bind.imp ?_⟩
  rintro x H1 ⟨ι1, st1, d, p1, k1, rs1, rd, q1⟩
  split at q1
  · rename_i a ha
    split at q1
    · rename_i hc
      have hl : (ts.map V.ty).length ≤ sizeLine := by rw [List.length_map, sizeLine_eq]; have := hc.2.2; omega
      refine ⟨hl, fun a' hn => ?_⟩
      have k2 : Keep ι1 ι1 H1 (upd H1 a' (.tup (ts.map V.ty))) := Keep.side hn
      exact ⟨x, a', ts.map V.ty, .type a, ts.map .type, _, rfl, upd_same, ty_cls ts, tyOf_x (rs1.tup hn) (rd.mono (pre_refl _) k2) ha, kit_tys hc.1 hc.2.1, okB_here (q1.mono (pre_refl _) k2) (rs1.tup hn)⟩
    · exact q1.elim
  · exact q1.elim
/-! ### making an object -/
theorem make_at (C : Cok X c lv W) {cl : String} {run : List D → Sto → R D} {n : Nat} {pl : List Src} {K a : Addr} (M : Mk X.K K a) (hK : X.mg (Str.ofString cl) = some (.ref K)) (hC : Cls X.K K) (ff : FnFact X (FX X c) lv run n [] pl a) {pins : List (Addr × Obj)} {σ : St} {H : Hp} {s : Shared} {Q : VK} {us : List Value} {vs : List V}
    {ι : List Addr} {st : Sto} {ds : List D} (I : L2.Inv X pins σ H s) (r : Vals vs us) (rs : Rs (FX X c) ι st H) (rd : RVs (FX X c) ι H ds vs) (hn : ds.length + 1 = n)
    (q : Post (FX X c) (RV (FX X c)) Q (fun c d H' => W c d σ H') ι H ((run (pl.map (Src.pick (.ref st.length :: ds) [])) (st ++ [.obj cl []])).bind fun d st1 => (match d with | .non => .ok (.ref st.length) st1 | _ => .no))) :
    wpAny (model X.prog X.w) X.A (call (.ref K) us []) (EP X pins σ Q) X.xe s := by
  obtain ⟨fd, ps, g, gV, fk, hb, po⟩ := ff.ex
  have n1 : H (s.heap.objs.size + 1) = none := I.hok.fresh (Nat.le_succ s.heap.objs.size)
  have n0 := I.hok.fresh (Nat.le_refl s.heap.objs.size)
  have ne : s.heap.objs.size + 1 ≠ s.heap.objs.size := Nat.succ_ne_self _
  have I2 := Inv.made (C := K) I
  have k1 : Keep ι ι H (upd H s.heap.objs.size (.own (s.heap.objs.size + 1))) := Keep.side n0
  have rs1 := rs.tup (u := .own (s.heap.objs.size + 1)) n0
  have nx : upd H s.heap.objs.size (.own (s.heap.objs.size + 1)) (s.heap.objs.size + 1) = none := by rw [upd_ne ne]; exact n1
  have k2 : Keep ι (ι ++ [(s.heap.objs.size + 1)]) (upd H s.heap.objs.size (.own (s.heap.objs.size + 1))) (upd (upd H s.heap.objs.size (.own (s.heap.objs.size + 1))) (s.heap.objs.size + 1) (.ins K s.heap.objs.size [])) := Keep.cell nx
  have rs2 := rs1.new (o := .obj cl []) (u := .ins K s.heap.objs.size []) nx ⟨K, s.heap.objs.size, [], hK, upd_same, .nil, hC, fun _ h => by cases h⟩
  have k := k1.trans k2
  have ref : RV (FX X c) (ι ++ [(s.heap.objs.size + 1)]) (upd (upd H s.heap.objs.size (.own (s.heap.objs.size + 1))) (s.heap.objs.size + 1) (.ins K s.heap.objs.size [])) (.ref st.length) (.ref (s.heap.objs.size + 1)) := .ref (by rw [List.getElem?_append_right (by rw [rs.len]; omega), rs.len]; simp)
  have arg : spI (FX X c) pl.length run (gV (.ref (s.heap.objs.size + 1) :: vs) []) (upd (upd H s.heap.objs.size (.own (s.heap.objs.size + 1))) (s.heap.objs.size + 1) (.ins K s.heap.objs.size [])) (fun v H2 => v = .non ∧ Q (.ref (s.heap.objs.size + 1)) H2) (fun c d H' => W c d σ H') := by
    refine ⟨_, _, _, rs2, po _ _ _ _ _ _ (.cons ref (rd.mono (List.prefix_append _ _) k)) .nil (by rw [List.length_cons, hn]) rfl, by simp, ?_⟩
    refine (Post.bind (RA := RV (FX X c)) (q.mono (List.prefix_append _ _) k)).imp ?_
    rintro v H3 ⟨ι3, st3, d, p3, k3, rs3, rd3, q3⟩
    split at q3
    · cases rd3
      exact ⟨rfl, q3.here rs3 (ref.mono p3 k3)⟩
    · exact q3.elim
  have lu : (Value.ref (s.heap.objs.size + 1) :: us).length = n := by rw [List.length_cons, ← r.length, ← rd.length, hn]
  refine wpAny_call (make_map (f := a) I.kIn M.makes M.init (beq_iff_eq.mp M.fn) (codeAny_mono (fk.run _ X.stack _ _ ⟨Value.ref (s.heap.objs.size + 1) :: us, []⟩ (g (Value.ref (s.heap.objs.size + 1) :: us) []) _ _ _ (C.room.make K us []) ?_ ?_ (hb.rel (vs := V.ref (s.heap.objs.size + 1) :: vs) (.cons rfl r) .nil) arg) fun o s' ho => ?_))
  · exact I2.env0.make K us []
  · exact hb.to _ (Value.ref (s.heap.objs.size + 1) :: us) [] I2.kIn lu rfl
  · match o, ho with
    | .error e, ho => exact C.takes _ _ (XE.of_call I2 (fun _ _ _ z => z) ho)
    | .ok (.ret u), ho =>
      obtain ⟨v, H', I3, rv, ev, q3⟩ := I2.after ho
      subst ev
      exact ⟨rv, ⟨V.ref (s.heap.objs.size + 1), H', I3, rfl, q3⟩⟩
theorem s_make (C : Cok X c lv W) {f : String} {es : List Expr} {es' : List E} {p pos : Pos} (hg : Gl X (Str.ofString f)) (hd : (Str.ofString f == ("__debug__" : Str)) = false) (hf : c.makes f = true) {pl : List Src} (hp : c.mplan f "__init__" (es'.length + 1) [] = some pl)
    (ha : SL X c W es es') (ao : ArgOk X es es' [] [] pos) : SE X c W (.Call (.Name (Str.ofString f) p) es [] pos) (.make f es') := by
  refine ⟨fun pins s σ H Q I h => ?_⟩
  obtain ⟨ι, st, env, rs, re, q⟩ := h
  obtain ⟨K, a, h1, h2, h3, h4⟩ := C.lib.make f _ _ hf hp
  refine wpAny_Call_Name_kw (ld_glob I hg h1 ?_ hd)
  have q' : Post (FX X c) (RV (FX X c)) Q (fun c d H' => W c d σ H') ι H ((evEs c es' env st).bind fun xs st => (evEs c [] env st).bind fun _ st => (match c.mplan f "__init__" (xs.length + 1) [] with
      | some pl => (c.mrun f "__init__" (pl.map (Src.pick (.ref st.length :: xs) [])) (st ++ [.obj f []])).bind fun d st1 => (match d with | .non => .ok (.ref st.length) st1 | _ => .no)
      | none => .no)) := by
    simp only [evE, hf, evEs] at q ⊢
    exact q
  refine args_run (first := []) (K' := fun xs _ st => (match c.mplan f "__init__" (xs.length + 1) [] with
      | some pl => (c.mrun f "__init__" (pl.map (Src.pick (.ref st.length :: xs) [])) (st ++ [.obj f []])).bind fun d st1 => (match d with | .non => .ok (.ref st.length) st1 | _ => .no)
      | none => .no)) h3.kp ao.len ha sk_nil ao.all ao.ks ao.pl ao.st I rs re q' ?_
  intro us ws vs zs ι2 st2 ds qs H2 s2 I2 r rz p2 k2 rs2 rd rq q2
  split at q2
  · rename_i pl' hp'
    obtain ⟨K', a', g1, g2, g3, g4⟩ := C.lib.make f _ _ hf hp'
    rw [h1] at g1
    cases g1
    exact make_at C g3 h1 g2 g4 I2 r rs2 rd rfl q2
  · exact q2.elim
end
/-! ### statements -/
section
variable {X : Cx} {c : Ctx} {lv : Nat} {W : L2.WX}
theorem ss_rais (C : Cok X c lv W) {cl : String} {m : Str} {j : Nat} {p p2 p3 pos : Pos} (hg : Gl X (Str.ofString cl)) (hd : (Str.ofString cl == ("__debug__" : Str)) = false) (hr : c.rz cl = true) : SS X c W (.Raise (some (.Call (.Name (Str.ofString cl) p) [.Constant (.str m) j p2] [] p3)) none pos) (.rais cl [.str m.cps.toList]) := by
  obtain ⟨K, h1, h2, h3, h4, h5⟩ := C.lib.rz cl hr
  refine PS.imp (ps_raise C.calm C.takes (pmk_own PySem.F.excBase_ValueError h2 h1 h3 (raises_own h4 h5) hg hd)) ?_
  rintro E σ H ⟨ι, st, env, rs, re, p⟩
  simp only [exS, evEs, evE, R.bind, R.st, hr] at p
  exact p ι H K none σ (pre_refl _) (Keep.refl _) rs re h1 rfl
theorem Re.gone {F : Fx} {ι : List Addr} {H : Hp} {env : Env} {σ : L2.St} (r : Re F ι H env σ) (i : Nat) : Re F ι H (env.set i none) (σ.set i none) := by
  refine ⟨by rw [List.length_set, List.length_set]; exact r.len, fun j d' e => ?_⟩
  by_cases hj : j = i
  · subst hj
    have hl : j < env.length := by
      have := (List.getElem?_eq_some_iff.mp e).1
      rwa [List.length_set] at this
    rw [List.getElem?_set_self hl] at e
    cases e
  · rw [List.getElem?_set_ne (fun z => hj z.symm)] at e
    obtain ⟨w, h1, h2⟩ := r.slot j d' e
    exact ⟨w, by rw [List.getElem?_set_ne (fun z => hj z.symm)]; exact h1, h2⟩
theorem Cok.tr (C : Cok X c lv W) {W' : L2.WX} {pn : List (Addr × Obj)} {xe : Value → Shared → Prop} (tk : Takes (X.tr pn xe) W') : Cok (X.tr pn xe) c lv W' := by
  refine ⟨C.calm, C.room, C.nd, tk, ⟨C.lib.glob, fun f n ks pl h => ?_, fun cl m n ks pl h => ?_, fun cl n pl h1 h2 => ?_, C.lib.rz, C.lib.exm, C.lib.isx, C.lib.noat, C.lib.bi⟩⟩
  · obtain ⟨a, h1, h2, h3⟩ := C.lib.fn f n ks pl h
    exact ⟨a, h1, h2, ⟨h3.ex⟩⟩
  · obtain ⟨a, b, h1, h2, h3, h4⟩ := C.lib.mt cl m n ks pl h
    exact ⟨a, b, h1, h2, h3, ⟨h4.ex⟩⟩
  · obtain ⟨a, b, g1, g2, g3, g4⟩ := C.lib.make cl n pl h1 h2
    exact ⟨a, b, g1, g2, g3, ⟨g4.ex⟩⟩
theorem ss_tryc (C : Cok X c lv W) {cl : String} {n m : Str} {i j : Nat} {body : List Stmt} {b' : List S} {np n2 mp ap hp tp : Pos} (st : X.stack = X.env :: X.outer) (fr : X.env.frame = some X.env.locals) (ex : X.ex = []) (hi : X.N[i]? = some n) (hj : X.N[j]? = some m) (ij : i ≠ j)
    (ln : X.env.kindOf n = some .local) (lm : X.env.kindOf m = some .local) (dn : (n == ("__debug__" : Str)) = false ∧ (n == ("__classdict__" : Str)) = false) (hg : Gl X (Str.ofString cl)) (hd : (Str.ofString cl == ("__debug__" : Str)) = false) {K : Addr} (hK : X.mg (Str.ofString cl) = some (.ref K))
    (hb : ∀ (W : L2.WX) (pn : List (Addr × Obj)) (xe : Value → Shared → Prop), Takes (X.tr pn xe) W → PassesOwn (model X.prog X.w) X.A X.env xe → SSs (X.tr pn xe) c W body b') :
    SS X c W (.Try body [.ExceptHandler (some (.Name (Str.ofString cl) np)) (some n) [.Assign [.Name m mp] (.Name n n2) ap] hp] [] [] tp) (.tryc b' cl i j) := by
  refine PS.imp (ps_keep (c := .ref K) (tb := fun W => tSt (FX X c) W (exSs c b')) st fr C.nd hi hj ij ln lm dn ⟨hg, hd, .inl hK⟩ hb ex) ?_
  rintro E σ H ⟨ι, st, env, rs, re, p⟩
  simp only [exS] at p
  refine ⟨ι, st, env, rs, re, ?_⟩
  split at p
  · rename_i e fs env1 st1 he
    rw [he]
    split at p
    · rename_i hx
      intro ι' H' D dx σ' q k rs' re' hm hf
      cases (show dx = none from hf)
      obtain ⟨D', K', g1, g2, g3⟩ := C.lib.exm e cl true hx
      rw [show X.mg (Str.ofString e) = _ from hm] at g1
      cases g1
      rw [hK] at g2
      cases g2
      refine ⟨D, rfl, rfl, g3, fun a ha => ?_⟩
      have k2 : Keep ι' ι' H' (upd H' a (XO D a)) := Keep.side ha
      exact p ι' _ _ q (k.trans k2) (rs'.tup ha) (((re'.gone i).mono (pre_refl _) k2).set j (.exn hm upd_same))
    · exact p.elim
  · rename_i hn
    cases hx : exSs c b' env st with
    | exc e fs env1 st1 => exact absurd hx (hn e fs env1 st1)
    | _ => rw [hx] at p; exact p
end
end Mi

set_option linter.all false
set_option maxRecDepth 100000
/-! V13: a checker that a written expression is the evaluator's one. -/
namespace Mi
open PySem PySem.Spec L2
open PyProof.Rows hiding St
/-- a scope and the names that may be stored in cells -/
structure Sc where
  scope : Scope
  cells : List Str
def visB (sc : Scope) (x : Str) : Bool := match sc.names.lookup x with | some .local => true | some .cell => true | some .free => true | _ => false
def glB (sc : Scope) (x : Str) : Bool := match sc.names.lookup x with | some .globalImplicit => true | _ => false
def stB (sc : Sc) (x : Str) : Bool := match sc.scope.names.lookup x with | some .local => true | some .cell => sc.cells.contains x | _ => false
def plainN (x : Str) : Bool := (x == ("__debug__" : Str)) == false && (x == ("__classdict__" : Str)) == false
def noStar : Expr → Bool
  | .Starred _ _ => false
  | _ => true
def noSlice : Expr → Bool
  | .Slice _ _ _ _ => false
  | _ => true
def noSuper : Expr → Bool
  | .Call _ _ _ _ => false
  | _ => true
def noSet : Expr → Bool
  | .Set _ _ _ => false
  | _ => true
def all2 {α β : Type} (f : α → β → Bool) : List α → List β → Bool
  | [], [] => true
  | x :: xs, y :: ys => f x y && all2 f xs ys
  | _, _ => false
abbrev Rc := Sc → Expr → E → Bool
def ckO (f : Expr → E → Bool) : Option Expr → Option E → Bool
  | none, none => true
  | some a, some b => f a b
  | _, _ => false
def kwB (f : Expr → E → Bool) : List Keyword → List String → List E → Bool
  | [], [], [] => true
  | ⟨some n, v, _⟩ :: r, k :: ks, e :: es => decide (n = Str.ofString k) && f v e && kwB f r ks es
  | _, _, _ => false
def argB (f : Expr → E → Bool) (a : Expr) (e : E) : Bool := noStar a && f a e
def gnm (sc : Scope) (f : String) (x : Str) : Bool := decide (x = Str.ofString f) && glB sc x && plainN x
def bltGl (P : Prog) (sc : Scope) (f : String) (x : Str) : Bool := gnm sc f x && P.bi.contains f
def ckIt (P : Prog) (sc : Sc) (rec : Rc) (tg iter : Expr) : It → Bool
  | .e e => noSet iter && rec sc iter e
  | .range1 es => (match iter with | .Call (.Name x _) [a] [] _ => bltGl P sc.scope "range" x && all2 (argB (rec sc)) [a] es | _ => false)
  | .range2 es => (match iter with | .Call (.Name x _) [a, b] [] _ => bltGl P sc.scope "range" x && all2 (argB (rec sc)) [a, b] es | _ => false)
  | .enum e => (match tg, iter with | .Tuple _ _ _, .Call (.Name x _) [a] [] _ => bltGl P sc.scope "enumerate" x && argB (rec sc) a e | _, _ => false)
  | .zip a b => (match tg, iter with | .Tuple _ _ _, .Call (.Name x _) [p, q] [] _ => bltGl P sc.scope "zip" x && argB (rec sc) p a && argB (rec sc) q b | _, _ => false)
  | .items e => (match tg, iter with | .Tuple _ _ _, .Call (.Attribute x s ap) [] [] pos => decide (s = Str.ofString "items") && noSuper x && (ap.endLine == pos.line) && rec sc x e | _, _ => false)
  | .vals e => (match iter with | .Call (.Attribute x s ap) [] [] pos => decide (s = Str.ofString "values") && noSuper x && (ap.endLine == pos.line) && rec sc x e | _ => false)
  | _ => false
/-- a comprehension's target, of the places own -/
def ckTo (N : List Str) (sc : Sc) (own : List Nat) : Nat → Expr → Tg → Bool
  | 0, _, _ => false
  | n + 1, e, t => match t, e with
    | .name i, .Name x _ => own.contains i && decide (N[i]? = some x) && stB sc x
    | .tup ts, .Tuple es _ _ => all2 (fun a b => noStar a && ckTo N sc own n a b) es ts
    | _, _ => false
def blkSc (scope : Scope) (sc : Sc) : Sc := ⟨relS scope sc.scope, (scope.names.filter fun p => match p.2 with | .cell => true | _ => false).map (·.1)⟩
def ownP (N : List Str) (own : List Nat) : List (Str × Nat) := own.map fun i => ((N[i]?).getD "", i)
def fpart (f : Expr → E → Bool) (e : Expr) (e' : E) : Bool := match e with
  | .FormattedValue v c none _ => decide (c = -1) && f v e'
  | .Constant (.str s) _ _ => (match e' with | .str x => decide (s.cps.toList = x) && decide (x.length ≤ sizeLine) && x.all (· < 1114112) | _ => false)
  | _ => false
def ifsB (f : Expr → E → Bool) : List Expr → Option E → Bool
  | [], none => true
  | [e], some e' => f e e'
  | _, _ => false
def ckComp (P : Prog) (N : List Str) (sc : Sc) (rec recT : Rc) (elt : Expr) (gs : List Comprehension) (scope : Scope) (e : E) (t : Tg) (it : It) (ifs : Option E) (own : List Nat) : Bool := match gs with
  | [⟨tg, iter, is, a⟩] => decide (a = 0) && ckIt P sc rec tg iter it && noSet iter && blkC N sc.scope scope (ownP N own) && ckTo N (blkSc scope sc) own 4 tg t && ifsB (recT (blkSc scope sc)) is ifs && rec (blkSc scope sc) elt e
  | _ => false
def tysB (P : Prog) (sc : Scope) : List Expr → List String → Bool
  | [], [] => true
  | .Name x _ :: es, t :: ts => bltGl P sc t x && ["int", "str", "list", "tuple", "dict", "bool"].contains t && tysB P sc es ts
  | _, _ => false
def ckDcomp (P : Prog) (N : List Str) (sc : Sc) (rec recT : Rc) (kx vx : Expr) (gs : List Comprehension) (scope : Scope) (k v : E) (t : Tg) (it : It) (ifs : Option E) (own : List Nat) : Bool := match gs with
  | [⟨tg, iter, is, a⟩] => decide (a = 0) && ckIt P sc rec tg iter it && noSet iter && blkC N sc.scope scope (ownP N own) && ckTo N (blkSc scope sc) own 4 tg t && ifsB (recT (blkSc scope sc)) is ifs && rec (blkSc scope sc) kx k && rec (blkSc scope sc) vx v
  | _ => false
def pairsB (f : Expr → E → Bool) : List (Option Expr) → List Expr → List (E × E) → Bool
  | [], [], [] => true
  | some k :: ks, v :: vs, (k', v') :: ps => f k k' && f v v' && pairsB f ks vs ps
  | _, _, _ => false
def tyL : List String := ["int", "str", "list", "tuple", "dict", "bool"]
theorem ty_boot : ∀ n ∈ tyL, bootBuiltins (Str.ofString n) = some (.type n) ∧ Str.ofString n ≠ "__name__" := by decide +kernel
def ck0 (P : Prog) (N : List Str) (rec recT : Rc) (sc : Sc) (e : Expr) : E → Bool
  | .var i => (match e with | .Name x _ => decide (N[i]? = some x) && visB sc.scope x && plainN x | _ => false)
  | .non => (match e with | .Constant .none _ _ => true | _ => false)
  | .bl b => (match e with | .Constant (.bool d) _ _ => b == d | _ => false)
  | .int i => (match e with | .Constant (.int j) _ _ => decide (j = i) | _ => false)
  | .str x => (match e with | .Constant (.str s) _ _ => decide (s.cps.toList = x) && decide (x.length ≤ sizeLine) && x.all (· < 1114112) | _ => false)
  | .glob f => (match e with | .Name x _ => gnm sc.scope f x | _ => false)
  | .ty n => (match e with | .Name x _ => bltGl P sc.scope n x && tyL.contains n | _ => false)
  | .bin _ o a b => (match e with | .BinOp x p y _ => decide (p = o) && rec sc x a && rec sc y b | _ => false)
  | .neg a => (match e with | .UnaryOp .USub x _ => rec sc x a | _ => false)
  | .not a => (match e with | .UnaryOp .Not x _ => rec sc x a | _ => false)
  | .and a b => (match e with
    | .BoolOp .And [x, y] p => rec sc x a && rec sc y b
    | .BoolOp .And (x :: y :: z :: r) p => rec sc x a && rec sc (.BoolOp .And (y :: z :: r) p) b
    | _ => false)
  | .or a b => (match e with
    | .BoolOp .Or [x, y] p => rec sc x a && rec sc y b
    | .BoolOp .Or (x :: y :: z :: r) p => rec sc x a && rec sc (.BoolOp .Or (y :: z :: r) p) b
    | _ => false)
  | .ite t a b => (match e with | .IfExp x y z _ => recT sc x t && rec sc y a && rec sc z b | _ => false)
  | .cmp o a b => (match e with | .Compare x [p] [y] _ => decide (p = o) && rec sc x a && rec sc y b && !behindInMarks p y | _ => false)
  | .cmp2 o q a b d => (match e with | .Compare x [p, r] [y, z] _ => decide (p = o) && decide (r = q) && rec sc x a && rec sc y b && rec sc z d && !lastMarks [p, r] [y, z] | _ => false)
  | .attr a f => (match e with | .Attribute x s _ => decide (s = Str.ofString f) && rec sc x a && noSuper x | _ => false)
  | .ix a b => (match e with | .Subscript x y _ => rec sc x a && rec sc y b && noSlice y | _ => false)
  | .sl _ a lo hi => (match e with | .Subscript x (.Slice l h none _) _ => rec sc x a && ckO (rec sc) l lo && ckO (rec sc) h hi | _ => false)
  | .lst _ es => (match e with | .List xs _ => all2 (argB (rec sc)) xs es | _ => false)
  | .rep _ es n => (match e with | .BinOp (.List xs _) .Mult y _ => all2 (argB (rec sc)) xs es && rec sc y n | _ => false)
  | .rev _ a => (match e with | .Subscript x (.Slice none none (some (.UnaryOp .USub (.Constant (.int 1) _ _) _)) _) _ => rec sc x a | _ => false)
  | .step2 _ a one => (match e with
    | .Subscript x (.Slice none none (some (.Constant (.int 2) _ _)) _) _ => !one && rec sc x a
    | .Subscript x (.Slice (some (.Constant (.int 1) _ _)) none (some (.Constant (.int 2) _ _)) _) _ => one && rec sc x a
    | _ => false)
  | .dct _ ps => (match e with | .Dict ks vs _ => pairsB (rec sc) ks vs ps && decide (ps.length ≤ 15) | _ => false)
  | .dcomp _ k1 v1 t it ifs own => (match e with | .DictComp kx vx gs scope _ => ckDcomp P N sc rec recT kx vx gs scope k1 v1 t it ifs own | _ => false)
  | .ist a ts => (match e with | .Call (.Name x _) [y, .Tuple zs _ _] [] _ => bltGl P sc.scope "isinstance" x && argB (rec sc) y a && tysB P sc.scope zs ts | _ => false)
  | .isx a t => (match e with | .Call (.Name x _) [y, .Name z _] [] _ => bltGl P sc.scope "isinstance" x && gnm sc.scope t z && argB (rec sc) y a | _ => false)
  | .make f es => (match e with | .Call (.Name x _) xs [] _ => gnm sc.scope f x && P.makes.contains f && ((P.mplans.lookup (f, "__init__")).bind fun p => p.lookup (es.length + 1, [])).isSome && all2 (argB (rec sc)) xs es | _ => false)
  | .tup es => (match e with | .Tuple xs _ _ => all2 (argB (rec sc)) xs es | _ => false)
  | .comp _ e1 t it ifs own => (match e with | .ListComp elt gs scope _ => ckComp P N sc rec recT elt gs scope e1 t it ifs own | _ => false)
  | .fstr es => (match e with | .JoinedStr (x :: y :: r) _ => all2 (fpart (rec sc)) (x :: y :: r) es | _ => false)
  | .call f es ks kes => (match e with | .Call (.Name x _) xs kws _ => gnm sc.scope f x && ((P.plans.lookup f).bind fun p => p.lookup (es.length, ks)).isSome && all2 (argB (rec sc)) xs es && kwB (rec sc) kws ks kes | _ => false)
  | .bi _ f es => (match e with | .Call (.Name x _) (y :: ys) [] _ => bltGl P sc.scope f x && (biNames.any fun p => p.1 == f) && all2 (argB (rec sc)) (y :: ys) es | _ => false)
  | .meth _ a m es ks kes => (match e with | .Call (.Attribute x s ap) xs kws pos => decide (s = Str.ofString m) && rec sc x a && noSuper x && (ap.endLine == pos.line) && decide (xs.length + kws.length < 29) && all2 (argB (rec sc)) xs es && kwB (rec sc) kws ks kes | _ => false)
/-- what is a test by its value -/
def plainT : Expr → Bool
  | .UnaryOp .Not _ _ => false
  | .BoolOp _ _ _ => false
  | .IfExp _ _ _ _ => false
  | .Compare _ _ _ _ => false
  | _ => true
/-- and, or as tests -/
def ckW (recT : Rc) (sc : Sc) (op : PySem.BoolOp) : List Expr → E → Bool
  | [], _ => false
  | [x], e => recT sc x e
  | x :: y :: r, .and a b => (match op with | .And => true | _ => false) && recT sc x a && ckW recT sc op (y :: r) b
  | x :: y :: r, .or a b => (match op with | .Or => true | _ => false) && recT sc x a && ckW recT sc op (y :: r) b
  | _, _ => false
def ckT0 (P : Prog) (N : List Str) (rec recT : Rc) (sc : Sc) (e : Expr) (e' : E) : Bool := match e, e' with
  | .UnaryOp .Not x _, .not a => recT sc x a
  | .BoolOp op xs _, a => ckW recT sc op xs a
  | .IfExp x y z _, .ite t a b => recT sc x t && recT sc y a && recT sc z b
  | .Compare x [p] [y] _, .cmp o a b => decide (p = o) && rec sc x a && rec sc y b && !behindInMarks p y
  | .Compare x [p, r] [y, z] _, .cmp2 o q a b d => decide (p = o) && decide (r = q) && rec sc x a && rec sc y b && rec sc z d && !lastMarks [p, r] [y, z]
  | e, e' => plainT e && rec sc e e'
def ckP (P : Prog) (N : List Str) : Nat → Rc × Rc
  | 0 => (fun _ _ _ => false, fun _ _ _ => false)
  | n + 1 => (ck0 P N (ckP P N n).1 (ckP P N n).2, ckT0 P N (ckP P N n).1 (ckP P N n).2)

/-! ### what stands behind it -/
structure CkOk (X : Cx) (P : Prog) (c : Ctx) (lv : Nat) (W : L2.WX) (N : List Str) (sc : Sc) : Prop where
  cok : Cok X c lv W
  ctx : ∃ run mrun, c = P.ctx run mrun
  hsc : X.env.scope = sc.scope
  hN : X.N = N
  cells : ∀ x ∈ sc.cells, X.fn x = true
  kind : sc.scope.kind = .function
section
variable {X : Cx} {P : Prog} {c : Ctx} {lv : Nat} {W : L2.WX} {N : List Str} {sc : Sc}
theorem visB_ok {sc : Scope} {x : Str} (h : visB sc x = true) : Vis sc x := by
  unfold visB at h
  split at h
  · exact .inl (by assumption)
  · exact .inr (.inl (by assumption))
  · exact .inr (.inr (by assumption))
  · cases h
theorem glB_ok (hs : X.env.scope = sc.scope) {x : Str} (h : glB sc.scope x = true) : Gl X x := by
  unfold glB at h
  split at h
  · show X.env.scope.names.lookup x = _
    rw [hs]; assumption
  · cases h
theorem stB_ok (C : CkOk X P c lv W N sc) {x : Str} (h : stB sc x = true) : Loc X.env.scope x ∧ (X.fn x = true ∨ X.env.scope.names.lookup x = some .local) := by
  rw [C.hsc]
  unfold stB at h
  split at h
  · exact ⟨.inl (by assumption), .inr (by assumption)⟩
  · exact ⟨.inr (by assumption), .inl (C.cells _ (by simpa using h))⟩
  · cases h
theorem plainN_ok {x : Str} (h : plainN x = true) : (x == ("__debug__" : Str)) = false ∧ (x == ("__classdict__" : Str)) = false := by
  unfold plainN at h
  simpa using h
theorem star_cons {e : Expr} {es : List Expr} (h : noStar e = true) (env : PySem.Env) : starEach (e :: es) env = (false, eval e env) :: starEach es env := by
  cases e <;> first | rfl | (simp [noStar] at h)
theorem asg_cons {e : Expr} {es : List Expr} (h : noStar e = true) (env : PySem.Env) : assignEach (e :: es) env = (false, assign e env) :: assignEach es env := by
  cases e <;> first | rfl | (simp [noStar] at h)
theorem base_of {e : Expr} (h : noSuper e = true) (s : Str) (env : PySem.Env) (w : Sem Value) : attributeBase e s env w = w := by
  cases e <;> first | rfl | (simp [noSuper] at h)
theorem plainIx_of {e : Expr} (h : noSlice e = true) : PlainIx e := by
  intro o i
  cases e <;> first | rfl | (simp [noSlice] at h)
theorem aug_of {i : Expr} (h : noSlice i = true) (ov iv new : Value) : augStore i ov iv new = (do holding [new, ov, iv] (setItem ov iv new); release [new, ov, iv] []; pure .next) := by
  cases i <;> first | rfl | (simp [noSlice] at h)
theorem asub_of {o i : Expr} {pos : Pos} (h : noSlice i = true) (env : PySem.Env) (v : Value) : assign (.Subscript o i pos) env v = (do
      let ov ← holding [v] (eval o env)
      let iv ← holding [v, ov] (eval i env)
      standAt pos
      holding [v, ov, iv] (setItem ov iv v)
      release [v, ov, iv] []) := by
  cases i <;> first | rfl | (simp [noSlice] at h)
theorem noSet_of {e : Expr} (h : noSet e = true) (env : PySem.Env) (x : Value) : foldedSetIterable e env x = pure x := by
  cases e <;> first | rfl | (simp [noSet] at h)
/-- the arguments -/
theorem sl_of {f : Expr → E → Bool} (hf : ∀ a e, f a e = true → SE X c W a e) : ∀ {xs : List Expr} {es : List E}, all2 (argB f) xs es = true → SL X c W xs es ∧ xs.length = es.length ∧ ∀ x ∈ xs, noStar x = true
  | [], [], _ => ⟨sl_nil, rfl, by simp⟩
  | x :: xs, e :: es, h => by
    simp only [all2, argB, Bool.and_eq_true] at h
    obtain ⟨i1, i2, i3⟩ := sl_of hf h.2
    refine ⟨sl_cons (hf _ _ h.1.2) i1 (star_cons h.1.1 _), by simp [i2], fun y hy => ?_⟩
    rcases List.mem_cons.mp hy with rfl | hy
    · exact h.1.1
    · exact i3 y hy
  | [], _ :: _, h => by cases h
  | _ :: _, [], h => by cases h
theorem star_any (pos : Pos) (env : PySem.Env) : ∀ {xs : List Expr}, (∀ x ∈ xs, noStar x = true) → (backTo pos (starEach xs env)).any (·.1) = false ∧ (backTo pos (starEach xs env)).all (!·.1) = true
  | [], _ => ⟨rfl, rfl⟩
  | x :: xs, h => by
    have ih := star_any pos env (xs := xs) fun y hy => h y (List.mem_cons_of_mem _ hy)
    rw [star_cons (h x List.mem_cons_self)]
    simp only [backTo, List.map_cons, List.any_cons, List.all_cons, Bool.false_or, Bool.not_false, Bool.true_and]
    exact ih
theorem sk_of {f : Expr → E → Bool} (hf : ∀ a e, f a e = true → SE X c W a e) (pos : Pos) (env : PySem.Env) : ∀ {kws : List Keyword} {ks : List String} {es : List E}, kwB f kws ks es = true →
    SK X c W kws es ∧ (backToKw pos (keywordEach kws env)).all (·.1.isSome) = true ∧ (backToKw pos (keywordEach kws env)).filterMap (·.1) = ks.map Str.ofString ∧ (backToKw pos (keywordEach kws env)).any (·.1.isNone) = false ∧ kws.length = es.length
  | [], [], [], _ => ⟨sk_nil, rfl, rfl, rfl, rfl⟩
  | ⟨some n, v, _⟩ :: r, k :: ks, e :: es, h => by
    simp only [kwB, Bool.and_eq_true, decide_eq_true_eq] at h
    obtain ⟨i1, i2, i3, i4, i5⟩ := sk_of hf pos env h.2
    refine ⟨sk_cons (hf _ _ h.1.2) i1, ?_, ?_, ?_, by simp [i5]⟩
    · simpa [backToKw, keywordEach] using i2
    · rw [List.map_cons, ← i3, ← h.1.1]
      rfl
    · simpa [backToKw, keywordEach] using i4
  | ⟨none, _, _⟩ :: _, _, _, h => by simp [kwB] at h
  | [], _ :: _, _, h => by simp [kwB] at h
  | [], [], _ :: _, h => by simp [kwB] at h
  | ⟨some _, _, _⟩ :: _, [], _, h => by simp [kwB] at h
  | ⟨some _, _, _⟩ :: _, _ :: _, [], h => by simp [kwB] at h
theorem ao_of {es : List Expr} {es' : List E} {kws : List Keyword} {ks : List String} {pos : Pos} (hl : es.length = es'.length) (hn : ∀ x ∈ es, noStar x = true)
    (h2 : (backToKw pos (keywordEach kws X.env)).all (·.1.isSome) = true) (h3 : (backToKw pos (keywordEach kws X.env)).filterMap (·.1) = ks.map Str.ofString) (h4 : (backToKw pos (keywordEach kws X.env)).any (·.1.isNone) = false) : ArgOk X es es' kws ks pos :=
  ⟨hl, h2, h3, by rw [(star_any pos X.env hn).1, h4]; rfl, fun e r he => star_cons (hn e (by rw [he]; exact List.mem_cons_self)) _⟩
end
/-- what a pair of checks is worth -/
structure Sound (P : Prog) (N : List Str) (rec recT : Rc) : Prop where
  e : ∀ {X c lv W sc}, CkOk X P c lv W N sc → ∀ a b, rec sc a b = true → SE X c W a b
  t : ∀ {X c lv W sc}, CkOk X P c lv W N sc → ∀ a b, recT sc a b = true → ST X c W a b
section
variable {X : Cx} {P : Prog} {c : Ctx} {lv : Nat} {W : L2.WX} {N : List Str} {sc : Sc} {rec recT : Rc}
theorem gnm_ok (C : CkOk X P c lv W N sc) {f : String} {x : Str} (h : gnm sc.scope f x = true) : x = Str.ofString f ∧ Gl X (Str.ofString f) ∧ (Str.ofString f == ("__debug__" : Str)) = false := by
  unfold gnm at h
  simp only [Bool.and_eq_true, decide_eq_true_eq] at h
  obtain ⟨⟨rfl, h2⟩, h3⟩ := h
  exact ⟨rfl, glB_ok C.hsc h2, (plainN_ok h3).1⟩
theorem bltGl_ok (C : CkOk X P c lv W N sc) {f : String} {x : Str} (h : bltGl P sc.scope f x = true) : x = Str.ofString f ∧ Gl X (Str.ofString f) ∧ (Str.ofString f == ("__debug__" : Str)) = false ∧ c.bi f = true := by
  unfold bltGl at h
  simp only [Bool.and_eq_true] at h
  obtain ⟨h1, h2, h3⟩ := gnm_ok C h.1
  obtain ⟨run, mrun, rfl⟩ := C.ctx
  exact ⟨h1, h2, h3, h.2⟩
/-- the block of a comprehension -/
theorem blk_ok (C : CkOk X P c lv W N sc) {scope : Scope} {own : List (Str × Nat)} (ok : BlkOk X.N X.env.scope scope own) (s : Shared) (H : Hp) (cc : Addr) (cl : List (Str × Addr)) (fp : List Addr) : CkOk (X.blk s H scope (compEnvC scope cl cc X.env) fp) P c lv W0 N (blkSc scope sc) := by
  refine ⟨⟨C.cok.calm, C.cok.room, C.cok.nd, fun u s' ⟨_, _, _, _, _, _, _, _, _, _, _, _, _, _, _, _, w⟩ => w, ?_⟩, C.ctx, ?_, C.hN, ?_, ok.kind⟩
  · refine ⟨C.cok.lib.glob, fun f n ks pl h => ?_, fun cl m n ks pl h => ?_, fun cl n pl h1 h2 => ?_, C.cok.lib.rz, C.cok.lib.exm, C.cok.lib.isx, C.cok.lib.noat, C.cok.lib.bi⟩
    · obtain ⟨a, h1, h2, h3⟩ := C.cok.lib.fn f n ks pl h
      exact ⟨a, h1, h2, ⟨h3.ex⟩⟩
    · obtain ⟨a, b, h1, h2, h3, h4⟩ := C.cok.lib.mt cl m n ks pl h
      exact ⟨a, b, h1, h2, h3, ⟨h4.ex⟩⟩
    · obtain ⟨a, b, g1, g2, g3, g4⟩ := C.cok.lib.make cl n pl h1 h2
      exact ⟨a, b, g1, g2, g3, ⟨g4.ex⟩⟩
  · show relabel scope X.env = relS scope sc.scope
    rw [← C.hsc]
    rfl
  · intro x hx
    show (scope.names.lookup x == some .cell) = true
    simp only [blkSc, List.mem_map, List.mem_filter] at hx
    obtain ⟨⟨y, k⟩, ⟨h1, h2⟩, rfl⟩ := hx
    have := ok.uniq _ h1
    cases k <;> simp at h2
    rw [this]
    rfl
theorem own_map (N : List Str) (own : List Nat) : (ownP N own).map (·.2) = own := by
  unfold ownP
  rw [List.map_map]
  induction own with
  | nil => rfl
  | cons a l ih => rw [List.map_cons, ih]; rfl
theorem so_of {f : Expr → E → Bool} (hf : ∀ a e, f a e = true → SE X c W a e) {l : Option Expr} {l' : Option E} (h : ckO f l l' = true) : SO X c W l l' := by
  cases l with
  | none => cases l' with
    | none => exact so_none
    | some _ => cases h
  | some a => cases l' with
    | none => cases h
    | some b => exact so_some (hf _ _ h)
theorem arg_one {f : Expr → E → Bool} {a : Expr} {e : E} (h : argB f a e = true) : noStar a = true ∧ f a e = true := by
  simpa [argB] using h
theorem it_ok (S : Sound P N rec recT) (C : CkOk X P c lv W N sc) {tg iter : Expr} {i : It} (h : ckIt P sc rec tg iter i = true) : SI X c W tg iter i := by
  have hf := fun a e => S.e C a e
  cases i with
  | e e =>
    simp only [ckIt, Bool.and_eq_true] at h
    exact si_e (S.e C _ _ h.2)
  | range1 es =>
    simp only [ckIt] at h
    split at h
    · rename_i x q a pos
      simp only [Bool.and_eq_true] at h
      obtain ⟨rfl, h2, h3, h4⟩ := bltGl_ok C h.1
      obtain ⟨hl, hn, hs⟩ := sl_of hf h.2
      cases es with
      | nil => simp at hn
      | cons e es => cases es with
        | cons _ _ => simp at hn
        | nil => exact si_range1 h2 (C.cok.lib.bi _ h4) hl (star_cons (hs _ List.mem_cons_self) _)
    · cases h
  | range2 es =>
    simp only [ckIt] at h
    split at h
    · rename_i x q a b pos
      simp only [Bool.and_eq_true] at h
      obtain ⟨rfl, h2, h3, h4⟩ := bltGl_ok C h.1
      obtain ⟨hl, hn, hs⟩ := sl_of hf h.2
      have sb : starEach [b] X.env = [(false, eval b X.env)] := star_cons (hs _ (by simp)) _
      cases es with
      | nil => simp at hn
      | cons e es => cases es with
        | nil => simp at hn
        | cons e2 es => cases es with
          | cons _ _ => simp at hn
          | nil => exact si_range2 h2 (C.cok.lib.bi _ h4) hl (by rw [star_cons (hs _ List.mem_cons_self), sb]) sb
    · cases h
  | enum e =>
    simp only [ckIt] at h
    split at h
    · rename_i x q a pos
      simp only [Bool.and_eq_true] at h
      obtain ⟨rfl, h2, h3, h4⟩ := bltGl_ok C h.1
      obtain ⟨k1, k2⟩ := arg_one h.2
      exact si_enum h2 (C.cok.lib.bi _ h4) (S.e C _ _ k2) (star_cons k1 _)
    · cases h
  | zip a b =>
    simp only [ckIt] at h
    split at h
    · rename_i x q p1 p2 pos
      simp only [Bool.and_eq_true] at h
      obtain ⟨rfl, h2, h3, h4⟩ := bltGl_ok C h.1.1
      obtain ⟨k1, k2⟩ := arg_one h.1.2
      obtain ⟨k3, k4⟩ := arg_one h.2
      exact si_zip h2 (C.cok.lib.bi _ h4) (S.e C _ _ k2) (S.e C _ _ k4) (star_cons k1 _) (star_cons k3 _) (star_any pos X.env (xs := [p2]) (by simpa using k3)).1
    · cases h
  | items e =>
    simp only [ckIt] at h
    split at h
    · rename_i x s ap pos
      simp only [Bool.and_eq_true, decide_eq_true_eq] at h
      obtain ⟨⟨⟨rfl, h2⟩, h3⟩, h4⟩ := h
      exact si_items (S.e C _ _ h4) (base_of h2 _ _ _) h3
    · cases h
  | vals e =>
    simp only [ckIt] at h
    split at h
    · rename_i x s ap pos
      simp only [Bool.and_eq_true, decide_eq_true_eq] at h
      obtain ⟨⟨⟨rfl, h2⟩, h3⟩, h4⟩ := h
      exact si_vals (S.e C _ _ h4) (base_of h2 _ _ _) h3
    · cases h
  | enum1 _ _ => cases h
  | zips _ _ => cases h
  | range3 _ => cases h
theorem to_ok (C : CkOk X P c lv W N sc) {own : List Nat} : ∀ (n : Nat) {e : Expr} {t : Tg}, ckTo N sc own n e t = true → SGo X c own e t
  | 0, _, _, h => by cases h
  | n + 1, e, t, h => by
    unfold ckTo at h
    split at h
    · simp only [Bool.and_eq_true, decide_eq_true_eq] at h
      obtain ⟨s1, s2⟩ := stB_ok C h.2
      exact sgo_name (by simpa using h.1.1) C.cok.nd (by rw [C.hN]; exact h.1.2) s1 s2
    · rename_i ts es _ _
      have go : ∀ {es : List Expr} {ts : List Tg}, all2 (fun a b => noStar a && ckTo N sc own n a b) es ts = true → SGso X c own es ts ∧ (assignEach es X.env).length = ts.length ∧ (assignEach es X.env).findIdx? (·.1) = none := by
        intro es
        induction es with
        | nil =>
          intro ts h
          cases ts with
          | nil => exact ⟨sgso_nil, rfl, rfl⟩
          | cons _ _ => cases h
        | cons e es ih =>
          intro ts h
          cases ts with
          | nil => cases h
          | cons t ts =>
            simp only [all2, Bool.and_eq_true] at h
            obtain ⟨i1, i2, i3⟩ := ih h.2
            have ea := asg_cons (es := es) h.1.1 X.env
            refine ⟨sgso_cons (to_ok C n h.1.2) i1 (by rw [ea]; rfl), by rw [ea]; simp [i2], by rw [ea, List.findIdx?_cons, i3]; rfl⟩
      obtain ⟨g1, g2, g3⟩ := go h
      exact sgo_tup C.cok.calm g1 g2 g3
    · cases h
theorem ifs_ok (S : Sound P N rec recT) (C : CkOk X P c lv W N sc) {is : List Expr} {i : Option E} (h : ifsB (recT sc) is i = true) : SP' X c W is i := by
  unfold ifsB at h
  split at h
  · exact sp_none
  · exact sp_some (S.t C _ _ h)
  · cases h
theorem fs_ok (S : Sound P N rec recT) (C : CkOk X P c lv W N sc) : ∀ {es : List Expr} {es' : List E}, all2 (fpart (rec sc)) es es' = true → SFs X c W es es'
  | [], [], _ => .nil
  | [], _ :: _, h => by cases h
  | _ :: _, [], h => by cases h
  | e :: es, e' :: es', h => by
    simp only [all2, Bool.and_eq_true] at h
    refine .cons ?_ (fs_ok S C h.2)
    have h := h.1
    unfold fpart at h
    split at h
    · simp only [Bool.and_eq_true, decide_eq_true_eq] at h
      obtain ⟨hc, hv⟩ := h
      subst hc
      exact sf_fmt (S.e C _ _ hv)
    · split at h
      · simp only [Bool.and_eq_true, decide_eq_true_eq, List.all_eq_true] at h
        obtain ⟨⟨hx, h2⟩, h3⟩ := h
        subst hx
        exact sf_str ⟨h2, h3⟩
      · cases h
    · cases h
end
end Mi

set_option linter.all false
set_option maxRecDepth 100000
/-! V14: the checker of expressions is sound. -/
namespace Mi
open PySem PySem.Spec L2
open PyProof.Rows hiding St
section
variable {X : Cx} {P : Prog} {c : Ctx} {lv : Nat} {W : L2.WX} {N : List Str} {sc : Sc} {rec recT : Rc}
theorem comp_parts (S : Sound P N rec recT) (C : CkOk X P c lv W N sc) {elt : Expr} {gs : List Comprehension} {scope : Scope} {e : E} {t : Tg} {it : It} {ifs : Option E} {own : List Nat} (h : ckComp P N sc rec recT elt gs scope e t it ifs own = true) :
    ∃ tg iter is, gs = [⟨tg, iter, is, 0⟩] ∧ SI X c W tg iter it ∧ BlkOk X.N X.env.scope scope (ownP N own) ∧
      (∀ (s : Shared) (H : Hp) (cc : Addr) (cl : List (Str × Addr)) (fp : List Addr), SGo (X.blk s H scope (compEnvC scope cl cc X.env) fp) c ((ownP N own).map (·.2)) tg t) ∧
      (∀ (s : Shared) (H : Hp) (cc : Addr) (cl : List (Str × Addr)) (fp : List Addr), SP' (X.blk s H scope (compEnvC scope cl cc X.env) fp) c W0 is ifs) ∧
      (∀ (s : Shared) (H : Hp) (cc : Addr) (cl : List (Str × Addr)) (fp : List Addr), SE (X.blk s H scope (compEnvC scope cl cc X.env) fp) c W0 elt e) ∧ (∀ x, foldedSetIterable iter X.env x = pure x) := by
  unfold ckComp at h
  split at h
  · rename_i tg iter is a
    simp only [Bool.and_eq_true, decide_eq_true_eq] at h
    obtain ⟨⟨⟨⟨⟨⟨ha, h1⟩, h2⟩, h3⟩, h4⟩, h5⟩, h6⟩ := h
    subst ha
    have ok : BlkOk X.N X.env.scope scope (ownP N own) := by
      rw [C.hN, C.hsc]
      exact blkOk_by h3
    refine ⟨tg, iter, is, rfl, it_ok S C h1, ok, fun s H cc cl fp => ?_, fun s H cc cl fp => ifs_ok S (blk_ok C ok s H cc cl fp) h5, fun s H cc cl fp => S.e (blk_ok C ok s H cc cl fp) _ _ h6, fun x => noSet_of h2 _ x⟩
    rw [own_map]
    exact to_ok (blk_ok C ok s H cc cl fp) 4 h4
  · cases h
theorem dcomp_parts (S : Sound P N rec recT) (C : CkOk X P c lv W N sc) {kx vx : Expr} {gs : List Comprehension} {scope : Scope} {k v : E} {t : Tg} {it : It} {ifs : Option E} {own : List Nat} (h : ckDcomp P N sc rec recT kx vx gs scope k v t it ifs own = true) :
    ∃ tg iter is, gs = [⟨tg, iter, is, 0⟩] ∧ SI X c W tg iter it ∧ BlkOk X.N X.env.scope scope (ownP N own) ∧
      (∀ (s : Shared) (H : Hp) (cc : Addr) (cl : List (Str × Addr)) (fp : List Addr), SGo (X.blk s H scope (compEnvC scope cl cc X.env) fp) c ((ownP N own).map (·.2)) tg t) ∧
      (∀ (s : Shared) (H : Hp) (cc : Addr) (cl : List (Str × Addr)) (fp : List Addr), SP' (X.blk s H scope (compEnvC scope cl cc X.env) fp) c W0 is ifs) ∧
      (∀ (s : Shared) (H : Hp) (cc : Addr) (cl : List (Str × Addr)) (fp : List Addr), SE (X.blk s H scope (compEnvC scope cl cc X.env) fp) c W0 kx k) ∧
      (∀ (s : Shared) (H : Hp) (cc : Addr) (cl : List (Str × Addr)) (fp : List Addr), SE (X.blk s H scope (compEnvC scope cl cc X.env) fp) c W0 vx v) ∧ (∀ x, foldedSetIterable iter X.env x = pure x) := by
  unfold ckDcomp at h
  split at h
  · rename_i tg iter is a
    simp only [Bool.and_eq_true, decide_eq_true_eq] at h
    obtain ⟨⟨⟨⟨⟨⟨⟨ha, h1⟩, h2⟩, h3⟩, h4⟩, h5⟩, h6⟩, h7⟩ := h
    subst ha
    have ok : BlkOk X.N X.env.scope scope (ownP N own) := by
      rw [C.hN, C.hsc]
      exact blkOk_by h3
    refine ⟨tg, iter, is, rfl, it_ok S C h1, ok, fun s H cc cl fp => ?_, fun s H cc cl fp => ifs_ok S (blk_ok C ok s H cc cl fp) h5, fun s H cc cl fp => S.e (blk_ok C ok s H cc cl fp) _ _ h6, fun s H cc cl fp => S.e (blk_ok C ok s H cc cl fp) _ _ h7, fun x => noSet_of h2 _ x⟩
    rw [own_map]
    exact to_ok (blk_ok C ok s H cc cl fp) 4 h4
  · cases h
theorem tys_ok (C : CkOk X P c lv W N sc) : ∀ {es : List Expr} {ts : List String}, tysB P sc.scope es ts = true → STys X es ts
  | [], [], _ => .nil
  | [], _ :: _, h => by simp [tysB] at h
  | e :: es, [], h => by cases e <;> simp [tysB] at h
  | e :: es, t :: ts, h => by
    cases e <;> first | (simp [tysB] at h; done) | skip
    rename_i x p
    simp only [tysB, Bool.and_eq_true] at h
    obtain ⟨rfl, g1, g2, g3⟩ := bltGl_ok C h.1.1
    obtain ⟨b1, b2⟩ := ty_boot _ (List.contains_iff_mem.mp h.1.2)
    exact .cons g1 (C.cok.lib.bi _ g3) b1 b2 g2 (tys_ok C h.2)
theorem pairs_of {f : Expr → E → Bool} (hf : ∀ a e, f a e = true → SE X c W a e) : ∀ {ks : List (Option Expr)} {vs : List Expr} {ps : List (E × E)}, pairsB f ks vs ps = true → SPairs X c W ks vs ps
  | [], [], [], _ => .nil
  | some k :: ks, v :: vs, (k', v') :: ps, h => by
    simp only [pairsB, Bool.and_eq_true] at h
    exact .cons (hf _ _ h.1.1) (hf _ _ h.1.2) (pairs_of hf h.2)
  | none :: _, _, _, h => by simp [pairsB] at h
  | [], _ :: _, _, h => by simp [pairsB] at h
  | [], [], _ :: _, h => by simp [pairsB] at h
  | some _ :: _, [], _, h => by simp [pairsB] at h
  | some _ :: _, _ :: _, [], h => by simp [pairsB] at h
theorem ck0_ok (S : Sound P N rec recT) (C : CkOk X P c lv W N sc) {e : Expr} {e' : E} (h : ck0 P N rec recT sc e e' = true) : SE X c W e e' := by
  have hf := fun a e => S.e C a e
  cases e' with
  | var i =>
    simp only [ck0] at h
    split at h
    · simp only [Bool.and_eq_true, decide_eq_true_eq] at h
      obtain ⟨p1, p2⟩ := plainN_ok h.2
      exact s_var (by rw [C.hN]; exact h.1.1) (by rw [C.hsc]; exact visB_ok h.1.2) p1 p2
    · cases h
  | non =>
    simp only [ck0] at h
    split at h
    · exact s_non
    · cases h
  | bl b =>
    simp only [ck0] at h
    split at h
    · have := eq_of_beq h
      subst this
      exact s_bl
    · cases h
  | int i =>
    simp only [ck0] at h
    split at h
    · have := of_decide_eq_true h
      subst this
      exact s_int
    · cases h
  | str x =>
    simp only [ck0] at h
    split at h
    · simp only [Bool.and_eq_true, decide_eq_true_eq, List.all_eq_true] at h
      obtain ⟨⟨hx, h2⟩, h3⟩ := h
      subst hx
      exact s_str ⟨h2, h3⟩
    · cases h
  | glob f =>
    simp only [ck0] at h
    split at h
    · obtain ⟨rfl, h1, h2⟩ := gnm_ok C h
      exact s_glob C.cok h1 h2
    · cases h
  | ty n =>
    simp only [ck0] at h
    split at h
    · simp only [Bool.and_eq_true] at h
      obtain ⟨rfl, h1, h2, h3⟩ := bltGl_ok C h.1
      obtain ⟨b1, b2⟩ := ty_boot _ (List.contains_iff_mem.mp h.2)
      exact s_ty h1 (C.cok.lib.bi _ h3) b1 b2 h2
    · cases h
  | bin z o a b =>
    simp only [ck0] at h
    split at h
    · simp only [Bool.and_eq_true, decide_eq_true_eq] at h
      obtain ⟨⟨ho, h1⟩, h2⟩ := h
      subst ho
      exact s_bin (hf _ _ h1) (hf _ _ h2)
    · cases h
  | neg a =>
    simp only [ck0] at h
    split at h
    · exact s_neg (hf _ _ h)
    · cases h
  | not a =>
    simp only [ck0] at h
    split at h
    · exact s_not (hf _ _ h)
    · cases h
  | and a b =>
    simp only [ck0] at h
    split at h
    · simp only [Bool.and_eq_true] at h
      exact s_and (hf _ _ h.1) (pe_one (hf _ _ h.2))
    · simp only [Bool.and_eq_true] at h
      exact s_and (hf _ _ h.1) (hf _ _ h.2)
    · cases h
  | or a b =>
    simp only [ck0] at h
    split at h
    · simp only [Bool.and_eq_true] at h
      exact s_or (hf _ _ h.1) (pe_one (hf _ _ h.2))
    · simp only [Bool.and_eq_true] at h
      exact s_or (hf _ _ h.1) (hf _ _ h.2)
    · cases h
  | ite t a b =>
    simp only [ck0] at h
    split at h
    · simp only [Bool.and_eq_true] at h
      exact s_ite (S.t C _ _ h.1.1) (hf _ _ h.1.2) (hf _ _ h.2)
    · cases h
  | cmp o a b =>
    simp only [ck0] at h
    split at h
    · simp only [Bool.and_eq_true, decide_eq_true_eq, Bool.not_eq_true'] at h
      obtain ⟨⟨⟨ho, h1⟩, h2⟩, h3⟩ := h
      subst ho
      exact s_cmp C.cok (hf _ _ h1) (hf _ _ h2) h3
    · cases h
  | cmp2 o q a b d =>
    simp only [ck0] at h
    split at h
    · simp only [Bool.and_eq_true, decide_eq_true_eq, Bool.not_eq_true'] at h
      obtain ⟨⟨⟨⟨⟨ho, hq⟩, h1⟩, h2⟩, h3⟩, h4⟩ := h
      subst ho
      subst hq
      exact s_cmp2 C.cok (hf _ _ h1) (hf _ _ h2) (hf _ _ h3) h4
    · cases h
  | attr a f =>
    simp only [ck0] at h
    split at h
    · simp only [Bool.and_eq_true, decide_eq_true_eq] at h
      obtain ⟨⟨hs, h1⟩, h2⟩ := h
      subst hs
      exact s_attr C.cok (hf _ _ h1) (base_of h2 _ _ _)
    · cases h
  | ix a b =>
    simp only [ck0] at h
    split at h
    · simp only [Bool.and_eq_true] at h
      exact s_ix C.cok (hf _ _ h.1.1) (hf _ _ h.1.2) (plainIx_of h.2)
    · cases h
  | sl z a lo hi =>
    simp only [ck0] at h
    split at h
    · simp only [Bool.and_eq_true] at h
      exact s_sl (hf _ _ h.1.1) (so_of hf h.1.2) (so_of hf h.2)
    · cases h
  | lst z es =>
    simp only [ck0] at h
    split at h
    · exact s_lst (sl_of hf h).1
    · cases h
  | rep z es n =>
    simp only [ck0] at h
    split at h
    · simp only [Bool.and_eq_true] at h
      exact s_rep C.cok (sl_of hf h.1).1 (hf _ _ h.2)
    · cases h
  | rev z a =>
    simp only [ck0] at h
    split at h
    · exact s_rev (hf _ _ h)
    · cases h
  | step2 z a one =>
    simp only [ck0] at h
    split at h
    · simp only [Bool.and_eq_true, Bool.not_eq_true'] at h
      obtain ⟨h1, h2⟩ := h
      subst h1
      exact s_step2 (hf _ _ h2)
    · simp only [Bool.and_eq_true] at h
      obtain ⟨h1, h2⟩ := h
      subst h1
      exact s_step2o (hf _ _ h2)
    · cases h
  | dct z ps =>
    simp only [ck0] at h
    split at h
    · simp only [Bool.and_eq_true, decide_eq_true_eq] at h
      exact s_dct (pairs_of hf h.1) h.2
    · cases h
  | dcomp z k1 v1 t it ifs own =>
    simp only [ck0] at h
    split at h
    · obtain ⟨tg, iter, is, rfl, h1, ok, h2, h3, h4, h5, h6⟩ := dcomp_parts S C h
      have q := s_dcomp (z := z) C.cok h1 ok h2 h3 h4 h5 h6 (pos := by assumption)
      rw [own_map] at q
      exact q
    · cases h
  | ist a ts =>
    simp only [ck0] at h
    split at h
    · simp only [Bool.and_eq_true] at h
      obtain ⟨⟨h1, h2⟩, h3⟩ := h
      obtain ⟨rfl, g1, g2, g3⟩ := bltGl_ok C h1
      obtain ⟨k1, k2⟩ := arg_one h2
      exact s_ist C.cok g1 (C.cok.lib.bi _ g3) (tys_ok C h3) (hf _ _ k2) (star_cons k1 _)
    · cases h
  | isx a t =>
    simp only [ck0] at h
    split at h
    · simp only [Bool.and_eq_true] at h
      obtain ⟨⟨h1, h2⟩, h3⟩ := h
      obtain ⟨rfl, g1, g2, g3⟩ := bltGl_ok C h1
      obtain ⟨rfl, g4, g5⟩ := gnm_ok C h2
      obtain ⟨k1, k2⟩ := arg_one h3
      exact s_isx C.cok g1 (C.cok.lib.bi _ g3) g4 g5 (hf _ _ k2) (star_cons k1 _)
    · cases h
  | make f es =>
    simp only [ck0] at h
    split at h
    · simp only [Bool.and_eq_true] at h
      obtain ⟨⟨⟨h1, h2⟩, h3⟩, h4⟩ := h
      obtain ⟨rfl, g1, g2⟩ := gnm_ok C h1
      obtain ⟨pl, hpl⟩ := Option.isSome_iff_exists.mp h3
      obtain ⟨l1, l2, l3⟩ := sl_of hf h4
      obtain ⟨run, mrun, rfl⟩ := C.ctx
      exact s_make C.cok g1 g2 h2 hpl l1 (ao_of l2 l3 rfl rfl rfl)
    · cases h
  | tup es =>
    simp only [ck0] at h
    split at h
    · exact s_tup (sl_of hf h).1
    · cases h
  | comp z e1 t it ifs own =>
    simp only [ck0] at h
    split at h
    · obtain ⟨tg, iter, is, rfl, h1, ok, h2, h3, h4, h5⟩ := comp_parts S C h
      have q := s_comp (z := z) C.cok h1 ok h2 h3 h4 h5 (pos := by assumption)
      rw [own_map] at q
      exact q
    · cases h
  | fstr es =>
    simp only [ck0] at h
    split at h
    · exact s_fstr (fs_ok S C h)
    · cases h
  | call f es ks kes =>
    simp only [ck0] at h
    split at h
    · simp only [Bool.and_eq_true] at h
      obtain ⟨⟨⟨h1, h2⟩, h3⟩, h4⟩ := h
      obtain ⟨rfl, g1, g2⟩ := gnm_ok C h1
      obtain ⟨pl, hpl⟩ := Option.isSome_iff_exists.mp h2
      obtain ⟨l1, l2, l3⟩ := sl_of hf h3
      rename_i p xs kws pos
      obtain ⟨k1, k2, k3, k4, k5⟩ := sk_of hf pos X.env h4
      refine s_call C.cok g1 g2 (pl := pl) ?_ l1 k1 (ao_of l2 l3 k2 k3 k4)
      obtain ⟨run, mrun, rfl⟩ := C.ctx
      exact hpl
    · cases h
  | bi z f es =>
    simp only [ck0] at h
    split at h
    · simp only [Bool.and_eq_true] at h
      obtain ⟨⟨h1, h2⟩, h3⟩ := h
      obtain ⟨rfl, g1, g2, g3⟩ := bltGl_ok C h1
      obtain ⟨⟨f', b⟩, hm, hb⟩ := List.any_eq_true.mp h2
      have : f' = f := eq_of_beq hb
      subst this
      obtain ⟨l1, l2, l3⟩ := sl_of hf h3
      rename_i p y ys pos
      cases es with
      | nil => simp at l2
      | cons e' es' => exact s_bi C.cok hm g3 g1 l1 (star_cons (l3 _ List.mem_cons_self) _) (star_any pos X.env fun x hx => l3 x (List.mem_cons_of_mem _ hx)).1
    · cases h
  | meth z a m es ks kes =>
    simp only [ck0] at h
    split at h
    · simp only [Bool.and_eq_true, decide_eq_true_eq] at h
      obtain ⟨⟨⟨⟨⟨⟨hs, h1⟩, h2⟩, h3⟩, h4⟩, h5⟩, h6⟩ := h
      subst hs
      rename_i x ap xs kws pos
      obtain ⟨l1, l2, l3⟩ := sl_of hf h5
      obtain ⟨k1, k2, k3, k4, k5⟩ := sk_of hf pos X.env h6
      refine s_meth C.cok (hf _ _ h1) (base_of h2 _ _ _) h3 ?_ ?_ l1 k1 (ao_of l2 l3 k2 k3 k4)
      · unfold methodCallForm
        rw [(star_any pos X.env l3).2, k2]
        simp only [Bool.true_and, decide_eq_true_eq]
        split <;> omega
      · constructor
        · rintro rfl
          exact List.length_eq_zero_iff.mp k5.symm
        · rintro rfl
          exact List.length_eq_zero_iff.mp k5
    · cases h
theorem plainT_is {e : Expr} (h : plainT e = true) (env : PySem.Env) (w : Sem Value) : isTrue e env w = (do let v ← w; standAt e.pos; holding [v] (truthy v)) := by
  cases e <;> first | rfl | (simp [plainT] at h; done) | (rename_i op a p; cases op <;> first | rfl | (simp [plainT] at h))
theorem st_of {e : Expr} {e' : E} (h : SE X c W e e') (hp : plainT e = true) : ST X c W e e' := by
  refine PT.imp (pt_val h fun w => plainT_is hp _ w) ?_
  rintro σ H Q ⟨ι, st, env, rs, re, p⟩
  exact ⟨ι, st, env, rs, re, p.imp fun x H1 ⟨b, h1, h2⟩ => ⟨b, h1, h2⟩⟩
theorem ckW_ok (S : Sound P N rec recT) (C : CkOk X P c lv W N sc) {op : PySem.BoolOp} {pos : Pos} : ∀ {xs : List Expr} {e : E}, ckW recT sc op xs e = true → SW X c W (.BoolOp op xs pos) e
  | [], _, h => by cases h
  | [x], e, h => by
    have q := S.t C _ _ (show recT sc x e = true by unfold ckW at h; exact h)
    cases op with
    | And => exact pw_and1 q
    | Or => exact pw_or1 q
  | x :: y :: r, e, h => by
    cases e with
    | and a b =>
      simp only [ckW, Bool.and_eq_true] at h
      cases op with
      | And => exact sw_and (S.t C _ _ h.1.2) (ckW_ok S C h.2)
      | Or => simp at h
    | or a b =>
      simp only [ckW, Bool.and_eq_true] at h
      cases op with
      | Or => exact sw_or (S.t C _ _ h.1.2) (ckW_ok S C h.2)
      | And => simp at h
    | _ => simp [ckW] at h
theorem ckT0_ok (S : Sound P N rec recT) (C : CkOk X P c lv W N sc) {e : Expr} {e' : E} (h : ckT0 P N rec recT sc e e' = true) : ST X c W e e' := by
  have hf := fun a e => S.e C a e
  unfold ckT0 at h
  split at h
  · exact st_not (S.t C _ _ h)
  · exact (ckW_ok S C h).pt
  · simp only [Bool.and_eq_true] at h
    exact st_ite (S.t C _ _ h.1.1) (S.t C _ _ h.1.2) (S.t C _ _ h.2)
  · simp only [Bool.and_eq_true, decide_eq_true_eq, Bool.not_eq_true'] at h
    obtain ⟨⟨⟨ho, h1⟩, h2⟩, h3⟩ := h
    subst ho
    exact st_cmp C.cok (hf _ _ h1) (hf _ _ h2) h3
  · simp only [Bool.and_eq_true, decide_eq_true_eq, Bool.not_eq_true'] at h
    obtain ⟨⟨⟨⟨⟨ho, hq⟩, h1⟩, h2⟩, h3⟩, h4⟩ := h
    subst ho
    subst hq
    exact st_cmp2 C.cok (hf _ _ h1) (hf _ _ h2) (hf _ _ h3) h4
  · simp only [Bool.and_eq_true] at h
    exact st_of (hf _ _ h.2) h.1
theorem ck_sound : ∀ n : Nat, Sound P N (ckP P N n).1 (ckP P N n).2
  | 0 => ⟨fun _ _ _ h => (Bool.false_ne_true h).elim, fun _ _ _ h => (Bool.false_ne_true h).elim⟩
  | n + 1 => ⟨fun C _ _ h => ck0_ok (ck_sound n) C h, fun C _ _ h => ckT0_ok (ck_sound n) C h⟩
end
end Mi

set_option linter.all false
set_option maxRecDepth 100000
/-! V15: the checker of statements. -/
namespace Mi
open PySem PySem.Spec L2
open PyProof.Rows hiding St
def compScope : Expr → Option Scope
  | .ListComp _ _ s _ => some s
  | .SetComp _ _ s _ => some s
  | .DictComp _ _ _ s _ => some s
  | _ => none
/-- whether a comprehension's value goes straight to a name -/
def swapB (sc : Scope) (value : Expr) (x : Str) (tl line : Nat) : Bool := match compScope value with
  | none => false
  | some s => (match sc.names.lookup x with | some .local => true | _ => false) && tl == value.pos.line && !(s.names.any fun (n, k) => n == x && (k == .local || k == .cell))
def noTup : Expr → Bool
  | .Tuple _ _ _ => false
  | .List _ _ => false
  | _ => true
def swpN (sc : Scope) (ts : List Expr) : List Str := ts.filterMap fun
    | .Name id pos => (match sc.names.lookup id with | some .local => if pos.line == (ts.head?.map (·.pos.line)).getD 0 then some id else none | _ => none)
    | _ => none
def swp (sc : Scope) (ts vs : List Expr) : Option (Option (List Str)) :=
  if !(ts.length == 2 || ts.length == 3) || vs.length != ts.length then some none
  else if vs.any (fun | .Starred .. => true | _ => false) then some none
  else if (swpN sc ts).length != ts.length || (swpN sc ts).eraseDups.length != (swpN sc ts).length then some none
  else if vs.all (foldedForSure 8) then some none
  else if vs.all (constantsAlone 8) then none
  else some (some (swpN sc ts))
section
variable {X : Cx} {P : Prog} {c : Ctx} {lv : Nat} {W : L2.WX} {N : List Str} {sc : Sc}
theorem kind_fn (C : CkOk X P c lv W N sc) : X.env.blockKind = .function := by
  unfold PySem.Env.blockKind
  rw [C.hsc, C.kind]
  rfl
theorem sw_none (C : CkOk X P c lv W N sc) {v : Expr} (h : compScope v = none) (t : Option Expr) (line : Nat) : swapsWith v t line X.env = pure false := by
  cases v <;> first | rfl | cases h
theorem sw_name (C : CkOk X P c lv W N sc) {v : Expr} {x : Str} {p : Pos} (line : Nat) : swapsWith v (some (.Name x p)) line X.env = pure (swapB sc.scope v x p.line line) := by
  have key : ∀ s : Scope, (X.env.blockKind == .function && X.env.kindOf x == some .local && p.line == v.pos.line && !(s.names.any fun (n, k) => n == x && (k == .local || k == .cell))) =
      ((match sc.scope.names.lookup x with | some .local => true | _ => false) && p.line == v.pos.line && !(s.names.any fun (n, k) => n == x && (k == .local || k == .cell))) := by
    intro s
    rw [kind_fn C]
    have : X.env.kindOf x = sc.scope.names.lookup x := by unfold PySem.Env.kindOf; rw [C.hsc]
    rw [this]
    cases h : sc.scope.names.lookup x with
    | none => rfl
    | some k => cases k <;> rfl
  cases v <;> first | rfl | (exact congrArg pure (key _))
theorem sw_other {v t : Expr} (h : (match t with | .Name _ _ => false | _ => true) = true) (line : Nat) (env : PySem.Env) : swapsWith v (some t) line env = pure false := by
  cases t <;> first | (simp at h; done) | (cases v <;> rfl)
theorem sole_other {v t : Expr} (h : (match t with | .Name _ _ => false | _ => true) = true) (line : Nat) (env : PySem.Env) : swapsWithSole [t] v line env = pure false := sw_other h line env
theorem swp_no {t v : Expr} (h : noTup t = true ∨ noTup v = true) (env : PySem.Env) : swappedStores [t] v env = pure none := by
  rcases h with h | h
  · cases t <;> first | (simp [noTup] at h; done) | (cases v <;> rfl)
  · cases v <;> first | (simp [noTup] at h; done) | (cases t <;> rfl)
theorem swp_eq (C : CkOk X P c lv W N sc) {ts vs : List Expr} {k k2 : Nat} {p p2 : Pos} {o : Option (List Str)} (h : swp sc.scope ts vs = some o) : swappedStores [.Tuple ts k p] (.Tuple vs k2 p2) X.env = pure o := by
  have kn : ∀ x, X.env.kindOf x = sc.scope.names.lookup x := fun x => by unfold PySem.Env.kindOf; rw [C.hsc]
  have nm : (ts.filterMap fun
    | .Name id pos => if X.env.kindOf id == some .local && pos.line == (ts.head?.map (·.pos.line)).getD 0 then some id else none
    | _ => none) = swpN sc.scope ts := by
    unfold swpN
    congr 1
    funext e
    cases e with
    | Name id pos =>
      simp only [kn]
      cases h : sc.scope.names.lookup id with
      | none => rfl
      | some k => cases k <;> rfl
    | _ => rfl
  have bk := kind_fn C
  have e : swappedStores [.Tuple ts k p] (.Tuple vs k2 p2) X.env = (do
      if !(ts.length == 2 || ts.length == 3) || vs.length != ts.length || X.env.blockKind != .function then return none
      if vs.any fun | .Starred .. => true | _ => false then return none
      if (swpN sc.scope ts).length != ts.length || (swpN sc.scope ts).eraseDups.length != (swpN sc.scope ts).length then return none
      if vs.all (foldedForSure 8) then return none
      if vs.all (constantsAlone 8) then unsupported "assign.tuple-of-constant-expressions:order-of-the-stores"
      return some (swpN sc.scope ts)) := by
    rw [← nm]
    rfl
  rw [e, bk]
  unfold swp at h
  split at h
  · rename_i q
    cases h
    rw [if_pos (by simpa using q)]
  · rename_i q
    rw [if_neg (by simpa using q)]
    split at h
    · rename_i q2
      cases h
      simp only [q2, if_true]
      try rfl
    · rename_i q2
      simp only [q2]
      split at h
      · rename_i q3
        cases h
        simp only [q3, if_true]
        try rfl
      · rename_i q3
        simp only [q3]
        split at h
        · rename_i q4
          cases h
          simp only [q4, if_true]
          try rfl
        · rename_i q4
          simp only [q4]
          split at h
          · cases h
          · rename_i q5
            cases h
            simp only [q5]
            try rfl
end
/-- targets -/
def isStar : Expr → Bool
  | .Starred _ _ => true
  | _ => false
def unStar : Expr → Expr
  | .Starred e _ => e
  | e => e
theorem asgS_cons (e : Expr) (es : List Expr) (env : PySem.Env) : assignEach (e :: es) env = (isStar e, assign (unStar e) env) :: assignEach es env := by
  cases e <;> rfl
def ckTg (P : Prog) (N : List Str) (rec : Rc) (sc : Sc) : Nat → Expr → Tg → Bool
  | 0, _, _ => false
  | n + 1, e, t => match t, e with
    | .name i, .Name x _ => decide (N[i]? = some x) && stB sc x
    | .tup ts, .Tuple es _ _ => all2 (fun a b => noStar a && ckTg P N rec sc n a b) es ts
    | .star p ts, .Tuple es _ _ => decide (es.findIdx? isStar = some p) && all2 (fun a b => ckTg P N rec sc n (unStar a) b) es ts
    | .sub a b, .Subscript o i _ => noSlice i && rec sc o a && rec sc i b
    | _, _ => false
section
variable {X : Cx} {P : Prog} {c : Ctx} {lv : Nat} {W : L2.WX} {N : List Str} {sc : Sc} {rec recT : Rc}
theorem CkOk.w0 (C : CkOk X P c lv W N sc) : CkOk X P c lv W0 N sc :=
  ⟨⟨C.cok.calm, C.cok.room, C.cok.nd, fun u s' ⟨_, _, _, _, _, _, _, _, _, _, _, _, _, _, _, _, w⟩ => w.elim, C.cok.lib⟩, C.ctx, C.hsc, C.hN, C.cells, C.kind⟩
theorem tg_ok (S : Sound P N rec recT) : ∀ (n : Nat) {W : L2.WX} {e : Expr} {t : Tg}, CkOk X P c lv W N sc → ckTg P N rec sc n e t = true → SG X c W e t
  | 0, _, _, _, _, h => by cases h
  | n + 1, W, e, t, C, h => by
    unfold ckTg at h
    split at h
    · simp only [Bool.and_eq_true, decide_eq_true_eq] at h
      obtain ⟨s1, s2⟩ := stB_ok C h.2
      exact sg_name C.cok.nd (by rw [C.hN]; exact h.1) s1 s2
    · have go : ∀ {es : List Expr} {ts : List Tg}, all2 (fun a b => noStar a && ckTg P N rec sc n a b) es ts = true → SGs X c es ts ∧ (assignEach es X.env).length = ts.length ∧ (assignEach es X.env).findIdx? (·.1) = none := by
        intro es
        induction es with
        | nil =>
          intro ts h
          cases ts with
          | nil => exact ⟨sgs_nil, rfl, rfl⟩
          | cons _ _ => cases h
        | cons e es ih =>
          intro ts h
          cases ts with
          | nil => cases h
          | cons t ts =>
            simp only [all2, Bool.and_eq_true] at h
            obtain ⟨i1, i2, i3⟩ := ih h.2
            have ea := asg_cons (es := es) h.1.1 X.env
            refine ⟨sgs_cons (tg_ok S n C.w0 h.1.2) i1 (by rw [ea]; rfl), by rw [ea]; simp [i2], by rw [ea, List.findIdx?_cons, i3]; rfl⟩
      obtain ⟨g1, g2, g3⟩ := go h
      exact sg_tup C.cok.calm g1 g2 g3
    · have go : ∀ {es : List Expr} {ts : List Tg}, all2 (fun a b => ckTg P N rec sc n (unStar a) b) es ts = true → SGs X c es ts ∧ (assignEach es X.env).length = ts.length ∧ (assignEach es X.env).findIdx? (·.1) = es.findIdx? isStar := by
        intro es
        induction es with
        | nil =>
          intro ts h
          cases ts with
          | nil => exact ⟨sgs_nil, rfl, rfl⟩
          | cons _ _ => cases h
        | cons e es ih =>
          intro ts h
          cases ts with
          | nil => cases h
          | cons t ts =>
            simp only [all2, Bool.and_eq_true] at h
            obtain ⟨i1, i2, i3⟩ := ih h.2
            have ea := asgS_cons e es X.env
            refine ⟨sgs_consS (tg_ok S n C.w0 h.1) i1 (by rw [ea]; rfl), by rw [ea]; simp [i2], by rw [ea, List.findIdx?_cons, List.findIdx?_cons, i3]⟩
      simp only [Bool.and_eq_true, decide_eq_true_eq] at h
      obtain ⟨g1, g2, g3⟩ := go h.2
      exact sg_star C.cok.calm g1 g2 (g3.trans h.1)
    · simp only [Bool.and_eq_true] at h
      exact sg_sub C.cok (S.e C _ _ h.1.2) (S.e C _ _ h.2) (asub_of h.1.1 _)
    · cases h
end
def ckAsg (P : Prog) (N : List Str) (rec recT : Rc) (sc : Sc) (tg v : Expr) (line : Nat) (t : Tg) (e : E) : Bool := match t, tg with
  | .name i, .Name x p => decide (N[i]? = some x) && stB sc x && (if swapB sc.scope v x p.line line = true then
      (match v, e with
      | .ListComp elt gs scope _, .comp _ e1 t1 it ifs own => (match sc.scope.names.lookup x with | some .local => true | _ => false) && ckComp P N sc rec recT elt gs scope e1 t1 it ifs own
      | _, _ => false) else rec sc v e)
  | .fld o f, .Attribute a s _ => decide (s = Str.ofString f) && rec sc a o && rec sc v e
  | .sub a b, .Subscript o i _ => ckTg P N rec sc 4 tg t && rec sc v e
  | .tup ts, .Tuple es _ _ => (match v, e with
    | .Tuple vs _ _, .tup es' => (match swp sc.scope es vs with
      | some none => ckTg P N rec sc 4 tg t && rec sc v e
      | some (some _) => (match es, vs, ts, es' with
        | [.Name x _, .Name y _], [a, b], [.name i, .name j], [a', b'] => decide (swp sc.scope es vs = some (some [x, y])) && decide (N[i]? = some x) && decide (N[j]? = some y) && decide (i ≠ j) && (match sc.scope.names.lookup x with | some .local => true | _ => false) && (match sc.scope.names.lookup y with | some .local => true | _ => false) && argB (rec sc) a a' && argB (rec sc) b b'
        | _, _, _, _ => false)
      | none => false)
    | v, e => noTup v && ckTg P N rec sc 4 tg t && rec sc v e)
  | .star p ts, .Tuple es _ _ => noTup v && ckTg P N rec sc 4 tg t && rec sc v e
  | _, _ => false
abbrev RcS := Sc → List Stmt → List S → Bool
def ckS0 (P : Prog) (N : List Str) (rec recT : Rc) (recS : RcS) (sc : Sc) (s : Stmt) : S → Bool
  | .ex e => (match s with | .Expr v _ => (compScope v).isNone && rec sc v e | _ => false)
  | .pass => (match s with | .Pass _ => true | .Expr (.Constant (.str _) _ _) _ => true | _ => false)
  | .brk => (match s with | .Break _ => true | _ => false)
  | .cont => (match s with | .Continue _ => true | _ => false)
  | .ret e => (match s with | .Return (some v) _ => rec sc v e | _ => false)
  | .retN => (match s with | .Return none _ => true | _ => false)
  | .iff t a b => (match s with | .If x p q _ => recT sc x t && recS sc p a && recS sc q b | _ => false)
  | .whil t b => (match s with | .While x p [] _ => recT sc x t && recS sc p b | _ => false)
  | .fr t it b => (match s with | .For tg iter p [] _ => noSet iter && ckIt P sc rec tg iter it && ckTg P N rec sc 4 tg t && recS sc p b | _ => false)
  | .asg t e => (match s with | .Assign [tg] v pos => noStar tg && ckAsg P N rec recT sc tg v pos.line t e | _ => false)
  | .aug i o e => (match s with | .AugAssign (.Name x _) p v _ => decide (p = o) && decide (N[i]? = some x) && stB sc x && rec sc v e | _ => false)
  | .augS a b o e => (match s with | .AugAssign (.Subscript x y _) p v _ => decide (p = o) && noSlice y && rec sc x a && rec sc y b && rec sc v e | _ => false)
  | .rais cl es => (match s, es with | .Raise (some (.Call (.Name x _) [.Constant (.str m) _ _] [] _)) none _, [.str y] => gnm sc.scope cl x && decide (m.cps.toList = y) && P.rz.contains cl | _, _ => false)
  | .tryc b cl i j => (match s with
    | .Try body [.ExceptHandler (some (.Name x _)) (some n) [.Assign [.Name m _] (.Name n' _) _] _] [] [] _ => gnm sc.scope cl x && decide (n' = n) && decide (N[i]? = some n) && decide (N[j]? = some m) && decide (i ≠ j) && (match sc.scope.names.lookup n with | some .local => true | _ => false) && (match sc.scope.names.lookup m with | some .local => true | _ => false) && plainN n && (P.exm.any fun e => e.1.2 == cl) && recS sc body b
    | _ => false)
  | _ => false
def ckSs (P : Prog) (N : List Str) : Nat → RcS
  | 0 => fun _ _ _ => false
  | n + 1 => fun sc => all2 (ckS0 P N (ckP P N 30).1 (ckP P N 30).2 (ckSs P N n) sc)
section
variable {X : Cx} {P : Prog} {c : Ctx} {lv : Nat} {W : L2.WX} {N : List Str} {sc : Sc} {rec recT : Rc} {recS : RcS}
theorem loc_ok {sc : Scope} {x : Str} (h : (match sc.names.lookup x with | some .local => true | _ => false) = true) : sc.names.lookup x = some .local := by
  split at h
  · assumption
  · cases h
theorem ckAsg_ok (S : Sound P N rec recT) (C : CkOk X P c lv W N sc) {tg v : Expr} {pos : Pos} {t : Tg} {e : E} (hs : noStar tg = true) (h : ckAsg P N rec recT sc tg v pos.line t e = true) : SS X c W (.Assign [tg] v pos) (.asg t e) := by
  have a1 : (assignEach [tg] X.env).map (·.2) = [assign tg X.env] := by rw [asg_cons hs]; rfl
  unfold ckAsg at h
  split at h
  · rename_i i x p
    simp only [Bool.and_eq_true, decide_eq_true_eq] at h
    obtain ⟨s1, s2⟩ := stB_ok C h.1.2
    have hi : X.N[i]? = some x := by rw [C.hN]; exact h.1.1
    have h2 := h.2
    split at h2
    · rename_i hsw
      split at h2
      · rename_i elt gs scope cp z e1 t1 it ifs own
        simp only [Bool.and_eq_true] at h2
        obtain ⟨tg, iter, is, rfl, h1, ok, h3, h4, h5, h6⟩ := comp_parts S C h2.2
        have q := ss_setLc (z := z) C.cok hi (by rw [C.hsc]; exact loc_ok h2.1) (by rw [sw_name C, hsw]) h1 ok h3 h4 h5 h6 (p' := p) (spos := pos) (pos := cp)
        rw [own_map] at q
        exact q
      · cases h2
    · rename_i hsw
      exact ss_set C.cok hi s1 (S.e C _ _ h2) (by rw [sw_name C, Bool.eq_false_iff.mpr hsw]) s2
  · simp only [Bool.and_eq_true, decide_eq_true_eq] at h
    obtain ⟨⟨hsn, h1⟩, h2⟩ := h
    subst hsn
    exact ss_fld C.cok (S.e C _ _ h1) (S.e C _ _ h2) (sw_other (by rfl) _ _)
  · simp only [Bool.and_eq_true] at h
    exact ss_asg (S.e C _ _ h.2) (tg_ok S 4 C h.1) (sole_other (by rfl) _ _) (swp_no (.inl rfl) _) a1
  · rename_i ts es k tp
    split at h
    · rename_i vs k2 p2 es'
      split at h
      · rename_i hw
        simp only [Bool.and_eq_true] at h
        exact ss_asg (S.e C _ _ h.2) (tg_ok S 4 C h.1) (sole_other (by rfl) _ _) (swp_eq C hw) a1
      · split at h
        · simp only [Bool.and_eq_true, decide_eq_true_eq] at h
          obtain ⟨⟨⟨⟨⟨⟨⟨h1, h2⟩, h3⟩, h4⟩, h5⟩, h6⟩, h7⟩, h8⟩ := h
          obtain ⟨g1, g2⟩ := arg_one h7
          obtain ⟨g3, g4⟩ := arg_one h8
          exact ss_par C.cok (by rw [C.hN]; exact h2) (by rw [C.hN]; exact h3) h4 (by rw [C.hsc]; exact loc_ok h5) (by rw [C.hsc]; exact loc_ok h6)
            (sl_cons (S.e C _ _ g2) (sl_cons (S.e C _ _ g4) sl_nil (star_cons g3 _)) (star_cons g1 _)) (swp_eq C h1) (sole_other (by rfl) _ _)
        · cases h
      · cases h
    · simp only [Bool.and_eq_true] at h
      exact ss_asg (S.e C _ _ h.2) (tg_ok S 4 C h.1.2) (sole_other (by rfl) _ _) (swp_no (.inr h.1.1) _) a1
  · simp only [Bool.and_eq_true] at h
    exact ss_asg (S.e C _ _ h.2) (tg_ok S 4 C h.1.2) (sole_other (by rfl) _ _) (swp_no (.inr h.1.1) _) a1
  · cases h
/-- what a statement's rule asks of its frame -/
structure Tp (X : Cx) : Prop where
  own : PassesOwn (model X.prog X.w) X.A X.env X.xe
  st : X.stack = X.env :: X.outer
  fr : X.env.frame = some X.env.locals
  ex : X.ex = []
structure SoundS (P : Prog) (N : List Str) (recS : RcS) : Prop where
  s : ∀ {X c lv W sc}, CkOk X P c lv W N sc → Tp X → ∀ a b, recS sc a b = true → SSs X c W a b
theorem ckS0_ok (S : Sound P N rec recT) (R : SoundS P N recS) (C : CkOk X P c lv W N sc) (hp : Tp X) {s : Stmt} {s' : Mi.S} (h : ckS0 P N rec recT recS sc s s' = true) : SS X c W s s' := by
  cases s' with
  | ex e =>
    simp only [ckS0] at h
    split at h
    · simp only [Bool.and_eq_true] at h
      exact ss_ex (S.e C _ _ h.2) (sw_none C (Option.isNone_iff_eq_none.mp h.1) _ _)
    · cases h
  | pass =>
    simp only [ckS0] at h
    split at h
    · exact ss_pass
    · exact ss_doc
    · cases h
  | brk =>
    simp only [ckS0] at h
    split at h
    · exact ss_brk
    · cases h
  | cont =>
    simp only [ckS0] at h
    split at h
    · exact ss_cont
    · cases h
  | ret e =>
    simp only [ckS0] at h
    split at h
    · exact ss_ret (S.e C _ _ h)
    · cases h
  | retN =>
    simp only [ckS0] at h
    split at h
    · exact ss_retN
    · cases h
  | iff t a b =>
    simp only [ckS0] at h
    split at h
    · simp only [Bool.and_eq_true] at h
      exact ss_if (S.t C _ _ h.1.1) (R.s C hp _ _ h.1.2) (R.s C hp _ _ h.2)
    · cases h
  | whil t b =>
    simp only [ckS0] at h
    split at h
    · simp only [Bool.and_eq_true] at h
      exact ss_while hp.own (S.t C _ _ h.1) (R.s C hp _ _ h.2)
    · cases h
  | fr t it b =>
    simp only [ckS0] at h
    split at h
    · simp only [Bool.and_eq_true] at h
      obtain ⟨⟨⟨h1, h2⟩, h3⟩, h4⟩ := h
      exact ss_for C.cok hp.own (it_ok S C h2) (tg_ok S 4 C h3) (R.s C hp _ _ h4) fun x => noSet_of h1 _ x
    · cases h
  | asg t e =>
    simp only [ckS0] at h
    split at h
    · simp only [Bool.and_eq_true] at h
      exact ckAsg_ok S C h.1 h.2
    · cases h
  | aug i o e =>
    simp only [ckS0] at h
    split at h
    · simp only [Bool.and_eq_true, decide_eq_true_eq] at h
      obtain ⟨⟨⟨ho, h1⟩, h2⟩, h3⟩ := h
      subst ho
      obtain ⟨s1, s2⟩ := stB_ok C h2
      exact ss_aug C.cok (by rw [C.hN]; exact h1) s1 (S.e C _ _ h3) s2
    · cases h
  | augS a b o e =>
    simp only [ckS0] at h
    split at h
    · simp only [Bool.and_eq_true, decide_eq_true_eq] at h
      obtain ⟨⟨⟨⟨ho, h1⟩, h2⟩, h3⟩, h4⟩ := h
      subst ho
      exact ss_augS C.cok (S.e C _ _ h2) (S.e C _ _ h3) (S.e C _ _ h4) (aug_of h1)
    · cases h
  | rais cl es =>
    simp only [ckS0] at h
    split at h
    · simp only [Bool.and_eq_true, decide_eq_true_eq] at h
      obtain ⟨⟨h1, h2⟩, h3⟩ := h
      obtain ⟨rfl, g1, g2⟩ := gnm_ok C h1
      obtain ⟨run, mrun, rfl⟩ := C.ctx
      rw [← h2]
      exact ss_rais C.cok g1 g2 h3
    · cases h
  | tryc b cl i j =>
    simp only [ckS0] at h
    split at h
    · simp only [Bool.and_eq_true, decide_eq_true_eq] at h
      obtain ⟨⟨⟨⟨⟨⟨⟨⟨⟨h1, h2⟩, h3⟩, h4⟩, h5⟩, h6⟩, h7⟩, h8⟩, h9⟩, h10⟩ := h
      subst h2
      obtain ⟨rfl, g1, g2⟩ := gnm_ok C h1
      obtain ⟨⟨⟨e, t⟩, b0⟩, hm, he⟩ := List.any_eq_true.mp h9
      have : t = cl := eq_of_beq he
      subst this
      have hx : ∃ e b, c.exm e t = some b := by
        obtain ⟨run, mrun, rfl⟩ := C.ctx
        show ∃ e b, P.exm.lookup (e, t) = some b
        refine ⟨e, ?_⟩
        cases hl : P.exm.lookup (e, t) with
        | some b => exact ⟨b, rfl⟩
        | none =>
          rw [List.lookup_eq_none_iff] at hl
          have := hl _ hm
          simp at this
      obtain ⟨e', b', hx⟩ := hx
      obtain ⟨D, K, _, hK, _⟩ := C.cok.lib.exm e' t b' hx
      have kn : ∀ x, X.env.kindOf x = sc.scope.names.lookup x := fun x => by unfold PySem.Env.kindOf; rw [C.hsc]
      refine ss_tryc C.cok hp.st hp.fr hp.ex (by rw [C.hN]; exact h3) (by rw [C.hN]; exact h4) h5 (by rw [kn]; exact loc_ok h6) (by rw [kn]; exact loc_ok h7) (plainN_ok h8) g1 g2 hK fun W' pn xe tk po => ?_
      exact R.s (X := X.tr pn xe) ⟨C.cok.tr tk, C.ctx, C.hsc, C.hN, C.cells, C.kind⟩ ⟨po, hp.st, hp.fr, hp.ex⟩ _ _ h10
    · cases h
  | _ => cases h
theorem ckSs_ok : ∀ n : Nat, SoundS P N (ckSs P N n)
  | 0 => ⟨fun _ _ _ _ h => (Bool.false_ne_true h).elim⟩
  | n + 1 => ⟨fun {X c lv W sc} C hp a => by
    induction a with
    | nil =>
      intro b h
      cases b with
      | nil => exact ss_nil
      | cons _ _ => cases h
    | cons x xs ih =>
      intro b h
      cases b with
      | nil => cases h
      | cons y ys =>
        have h' : (ckS0 P N (ckP P N 30).1 (ckP P N 30).2 (ckSs P N n) sc x y && all2 (ckS0 P N (ckP P N 30).1 (ckP P N 30).2 (ckSs P N n) sc) xs ys) = true := h
        rw [Bool.and_eq_true] at h'
        exact ss_cons (ckS0_ok (ck_sound 30) (ckSs_ok n) C hp h'.1) (ih ys h'.2)⟩
end
end Mi

set_option linter.all false
set_option maxRecDepth 100000
/-! V16: the module's defs keep the evaluator's promises; a law's end. -/
namespace Mi
open PySem PySem.Spec L2
open PyProof.Rows hiding St
def cellsOf (sc : Scope) : List Str := (sc.names.filter fun p => match p.2 with | .cell => true | _ => false).map (·.1)
structure DefOk (K : PySem.W.Frag) (mg : Str → Option Value) (P : Prog) (fld : String → List String) (fnn : Fn) (p : Plans) (a : Addr) : Prop where
  ex : ∃ (x qual : Str) (params : Arguments) (body : List Stmt) (scope : Scope) (dvs : List V) (kws : List (Str × V)) (fd : FuncData) (N ps : List Str), FunD K x qual params body scope dvs kws a fd ∧ FnScope N ps scope ∧ N.length = fnn.slots ∧
    ckSs P N 30 ⟨scope, cellsOf scope⟩ body fnn.body = true ∧ ∀ n ks pl, p.lookup (n, ks) = some pl → pl.length = ps.length ∧ ∃ g gV, KBn K fd ps n (ks.map Str.ofString) g gV ∧ PlanOk ⟨K, mg, fld⟩ pl n ks.length gV
abbrev Prog.fldf (P : Prog) : String → List String := fun c => (P.fld.lookup c).getD []
structure ModOk (K : PySem.W.Frag) (mg : Str → Option Value) (P : Prog) : Prop where
  glob : ∀ x d, P.g.lookup x = some d → ∃ u v, mg (Str.ofString x) = some u ∧ RelV v u ∧ ∀ ι H, RV ⟨K, mg, P.fldf⟩ ι H d v
  bi : ∀ x, P.bi.contains x = true → mg (Str.ofString x) = none
  fn : ∀ f p, P.plans.lookup f = some p → ∃ fnn a, P.fns.lookup f = some fnn ∧ mg (Str.ofString f) = some (.ref a) ∧ DefOk K mg P P.fldf fnn p a
  mt : ∀ cl m p, P.mplans.lookup (cl, m) = some p → ∃ fnn C a, P.mts.lookup (cl, m) = some fnn ∧ mg (Str.ofString cl) = some (.ref C) ∧ Meth K C (Str.ofString m) a ∧ m ∉ P.fldf cl ∧ DefOk K mg P P.fldf fnn p a
  make : ∀ cl, P.makes.contains cl = true → ∃ C, mg (Str.ofString cl) = some (.ref C) ∧ Cls K C ∧ PySem.W.makesIn K C = true ∧ PySem.W.keepIn K (.ref C) = true
  rz : ∀ cl, P.rz.contains cl = true → ∃ C, mg (Str.ofString cl) = some (.ref C) ∧ PySem.W.excIn K C He.veBase "ValueError.__new__" = true ∧ PySem.W.keepIn K (.ref C) = true ∧ PySem.W.subIn K (.ref C) (.type "BaseException") = some true ∧ PySem.W.typeIn K (.ref C) = some (.type "type")
  exm : ∀ e t b, P.exm.lookup (e, t) = some b → ∃ D C, mg (Str.ofString e) = some (.ref D) ∧ mg (Str.ofString t) = some (.ref C) ∧ PySem.W.exmOne K (.ref D) (.ref C) = some b
  isx : ∀ e t b, P.isx.lookup (e, t) = some b → ∃ D v cv, mg (Str.ofString e) = some (.ref D) ∧ ExcC K D ∧ RelV v cv ∧ (∀ u, RelV v u → u = cv) ∧ PySem.W.kitOne K (.ref D) cv = some b ∧ (mg (Str.ofString t) = some cv ∨ (mg (Str.ofString t) = none ∧ bootBuiltins (Str.ofString t) = some cv ∧ Str.ofString t ≠ "__name__"))
  noat : ∀ cl C f, mg (Str.ofString cl) = some (.ref C) → f ∈ P.fldf cl → NoAttr K C (Str.ofString f)
section
variable {prog : Program} {w : World} {K : PySem.W.Frag} {mg : Str → Option Value} {base : Heap} {P : Prog}
theorem vs_len {F : Fx} {n : Nat} {run : List D → Sto → R D} {vs : List V} {H : Hp} {Q : VK} {E : XK} (h : spI F n run vs H Q E) : vs.length = n := by
  obtain ⟨ι, st, ds, rs, rd, hl, p⟩ := h
  rw [← rd.length, hl]
theorem fn_zero {F : Fx} {k : Nat} {a : Addr} {fd : FuncData} {ps : List Str} {n : Nat} {CX : CXT} {run : List D → Sto → R D} (hn : n = ps.length) (h : ∀ ds st, run ds st = .no) : FnOk prog w K mg base CX k a fd ps (spI F n run) :=
  ⟨fun vs H Q E q => by rw [vs_len q, hn], fun _ _ _ _ _ _ _ _ _ _ _ _ _ q => by
    obtain ⟨ι, st, ds, rs, rd, hl, p⟩ := q
    rw [h] at p
    exact p.elim⟩
theorem re_start {F : Fx} {ι : List Addr} {H : Hp} {ds : List D} {vs : List V} (r : RVs F ι H ds vs) (N : List Str) : Re F ι H (ds.map some ++ List.replicate (N.length - ds.length) none) (L2.start N vs) := by
  have hl := r.length
  refine ⟨by simp [L2.start, hl], fun i d h => ?_⟩
  unfold L2.start
  by_cases hi : i < ds.length
  · rw [List.getElem?_append_left (by rw [List.length_map]; exact hi), List.getElem?_map] at h
    obtain ⟨d', h1, h2⟩ := Option.map_eq_some_iff.mp h
    cases h2
    obtain ⟨v, h3, h4⟩ := r.get h1
    exact ⟨v, by rw [List.getElem?_append_left (by rw [List.length_map, ← hl]; exact hi), List.getElem?_map, h3]; rfl, h4⟩
  · rw [List.getElem?_append_right (by rw [List.length_map]; omega)] at h
    have := List.mem_of_getElem? h
    rw [List.mem_replicate] at this
    cases this.2
/-- one def's body, over what its calls promise -/
theorem body_ok {c : Ctx} {k : Nat} {fnn : Fn} {a : Addr} {x qual : Str} {params : Arguments} {body : List Stmt} {scope : Scope} {dvs : List V} {kws : List (Str × V)} {fd : FuncData} {N ps : List Str} (hc : ∃ run mrun, c = P.ctx run mrun)
    (F : FunD K x qual params body scope dvs kws a fd) (S : FnScope N ps scope) (hN : N.length = fnn.slots) (ck : ckSs P N 30 ⟨scope, cellsOf scope⟩ body fnn.body = true)
    (lib : ∀ X : Cx, X.prog = prog → X.w = w → X.K = K → X.mg = mg → X.base = base → Lib X c k) {n : Nat} (hl : n = ps.length) : FnOk prog w K mg base (L2.CX prog w) (k + 2) a fd ps (spI ⟨K, mg, P.fldf⟩ n (runF c fnn)) := by
  refine F.ok (N := N) (k := k + 1) S (fun vs H Q E h => by rw [vs_len h, hl]) fun cdv A outer s H vs Q E hr h => ?_
  generalize hX : cxOf (L2.CX prog w) prog w K mg base N qual scope a cdv A outer s H E = X
  have tk : Takes X (fun cls d _ H => E cls d H) := by subst hX; exact takes_of rfl rfl rfl rfl
  have C : CkOk X P c k (fun cls d _ H => E cls d H) N ⟨scope, cellsOf scope⟩ := by
    refine ⟨⟨?_, ?_, ?_, tk, ?_⟩, hc, ?_, ?_, ?_, S.kind⟩
    · subst hX; rfl
    · subst hX; exact hr
    · subst hX; exact S.nd
    · exact lib X (by subst hX; rfl) (by subst hX; rfl) (by subst hX; rfl) (by subst hX; rfl) (by subst hX; rfl)
    · subst hX; rfl
    · subst hX; rfl
    · subst hX; exact fun _ _ => rfl
  have hps : Tp X := by subst hX; exact ⟨passes_of rfl, rfl, rfl, rfl⟩
  refine ⟨_, (ckSs_ok 30).s C hps _ _ ck, ?_⟩
  have fx' : FX X c = ⟨K, mg, P.fldf⟩ := by
    obtain ⟨run, mrun, rfl⟩ := hc
    subst hX
    rfl
  rw [fx']
  obtain ⟨ι, st, ds, rs, rd, hl2, q⟩ := h
  refine ⟨ι, st, _, rs, re_start rd N, ?_⟩
  unfold runF at q
  rw [hN]
  generalize exSs c fnn.body _ st = o at q
  cases o with
  | next e s => exact fun ι' H' σ' p k rs' _ => q ι' H' .non p k rs' .non
  | ret d s => exact q
  | brk e s => exact q.elim
  | cont e s => exact q.elim
  | exc cl fs e s => exact fun ι' H' C dx σ' p k rs' _ hm hx => q ι' H' C dx p k rs' hm hx
  | no => exact q.elim
/-- .. of the table -/
theorem def_step {c : Ctx} {k : Nat} {fnn : Fn} {p : Plans} {a : Addr} (hc : ∃ run mrun, c = P.ctx run mrun) (D : DefOk K mg P P.fldf fnn p a)
    (lib : ∀ X : Cx, X.prog = prog → X.w = w → X.K = K → X.mg = mg → X.base = base → Lib X c k) {n : Nat} {ks : List String} {pl : List Src} (hp : p.lookup (n, ks) = some pl) :
    ∃ fd ps g gV, FnOk prog w K mg base (L2.CX prog w) (k + 2) a fd ps (spI ⟨K, mg, P.fldf⟩ pl.length (runF c fnn)) ∧ KBn K fd ps n (ks.map Str.ofString) g gV ∧ PlanOk ⟨K, mg, P.fldf⟩ pl n ks.length gV ∧ PySem.W.keepIn K (.ref a) = true := by
  obtain ⟨x, qual, params, body, scope, dvs, kws, fd, N, ps, F, S, hN, ck, hpl⟩ := D.ex
  obtain ⟨hl, g, gV, kb, po⟩ := hpl n ks pl hp
  exact ⟨fd, ps, g, gV, body_ok hc F S hN ck lib hl, kb, po, F.kp⟩
/-- the library at every depth -/
def stepF (P : Prog) : Nat → Fn → List D → Sto → R D
  | 0, _, _, _ => .no
  | k + 1, fnn, ds, st => runF (P.ctx (callF P k) (callM P k)) fnn ds st
theorem lib_step (M : ModOk K mg P) (k : Nat) (ih : ∀ j, j < k → ∀ (X : Cx), X.prog = prog → X.w = w → X.K = K → X.mg = mg → X.base = base → Lib X (P.ctx (callF P j) (callM P j)) (2 * j)) (X : Cx) (e1 : X.prog = prog) (e2 : X.w = w) (e3 : X.K = K) (e4 : X.mg = mg) (e5 : X.base = base) :
    Lib X (P.ctx (callF P k) (callM P k)) (2 * k) := by
  subst e1 e2 e3 e4 e5
  have fact : ∀ {run : List D → Sto → R D} {fnn : Fn} {p : Plans} {a : Addr}, DefOk X.K X.mg P P.fldf fnn p a → (∀ ds st, run ds st = stepF P k fnn ds st) → ∀ {n ks pl}, p.lookup (n, ks) = some pl →
      FnFact X (fx X P.fldf) (2 * k) run n ks pl a ∧ PySem.W.keepIn X.K (.ref a) = true := by
    intro run fnn p a D hrun n ks pl hp
    cases k with
    | zero =>
      obtain ⟨x, qual, params, body, scope, dvs, kws, fd, N, ps, F, S, hN, ck, hpl⟩ := D.ex
      obtain ⟨hl, g, gV, kb, po⟩ := hpl n ks pl hp
      exact ⟨⟨fd, ps, g, gV, fn_zero hl (fun ds st => hrun ds st), kb, po⟩, F.kp⟩
    | succ k =>
      obtain ⟨fd, ps, g, gV, h1, h2, h3, h4⟩ := def_step (c := P.ctx (callF P k) (callM P k)) (k := 2 * k) (prog := X.prog) (w := X.w) (base := X.base) ⟨_, _, rfl⟩ D (ih k (Nat.lt_succ_self k)) hp
      have er : run = runF (P.ctx (callF P k) (callM P k)) fnn := funext fun ds => funext fun st => hrun ds st
      rw [er]
      exact ⟨⟨fd, ps, g, gV, h1, h2, h3⟩, h4⟩
  refine ⟨M.glob, fun f n ks pl h => ?_, fun cl m n ks pl h => ?_, fun cl n pl hm h => ?_, M.rz, M.exm, M.isx, M.noat, M.bi⟩
  · obtain ⟨p, h1, h2⟩ := Option.bind_eq_some_iff.mp h
    obtain ⟨fnn, a, g1, g2, D⟩ := M.fn f p h1
    have hr : ∀ ds st, callF P k f ds st = stepF P k fnn ds st := fun ds st => by
      cases k with
      | zero => rfl
      | succ k =>
        show callF P (k + 1) f ds st = _
        unfold callF
        rw [g1]
        rfl
    obtain ⟨q1, q2⟩ := fact (run := callF P k f) D hr h2
    exact ⟨a, g2, q2, q1⟩
  · obtain ⟨p, h1, h2⟩ := Option.bind_eq_some_iff.mp h
    obtain ⟨fnn, C, a, g1, g2, g3, g4, D⟩ := M.mt cl m p h1
    have hr : ∀ ds st, callM P k cl m ds st = stepF P k fnn ds st := fun ds st => by
      cases k with
      | zero => rfl
      | succ k =>
        show callM P (k + 1) cl m ds st = _
        unfold callM
        rw [g1]
        rfl
    obtain ⟨q1, q2⟩ := fact (run := callM P k cl m) D hr h2
    exact ⟨C, a, g2, g3, g4, q1⟩
  · obtain ⟨p, h1, h2⟩ := Option.bind_eq_some_iff.mp h
    obtain ⟨fnn, C, a, g1, g2, g3, g4, D⟩ := M.mt cl "__init__" p h1
    obtain ⟨C', e1, e2, e3, e4⟩ := M.make cl hm
    rw [g2] at e1
    cases e1
    have hr : ∀ ds st, callM P k cl "__init__" ds st = stepF P k fnn ds st := fun ds st => by
      cases k with
      | zero => rfl
      | succ j =>
        show callM P (j + 1) cl "__init__" ds st = _
        unfold callM
        rw [g1]
        rfl
    obtain ⟨q1, q2⟩ := fact (run := callM P k cl "__init__") D hr h2
    exact ⟨C, a, g2, e2, ⟨e3, g3.at_, g3.fn, e4⟩, q1⟩
theorem lib_at (M : ModOk K mg P) (k : Nat) : ∀ (X : Cx), X.prog = prog → X.w = w → X.K = K → X.mg = mg → X.base = base → Lib X (P.ctx (callF P k) (callM P k)) (2 * k) := by
  induction k using Nat.strongRecOn with
  | ind k ih => exact fun X a b c d e => lib_step M k ih X a b c d e
/-! ### facts of the top, by one run -/
def dB0 (K : PySem.W.Frag) (rec : D → Value → Bool) : D → Value → Bool
  | .non, .none => true
  | .bl b, .bool c => b == c
  | .int i, .int j _ => decide (i = j)
  | .str x, .str y _ => decide (y.cps.toList = x) && decide (x.length ≤ sizeLine) && x.all (· < 1114112)
  | .tup ds, .ref a => (match K.lookup a with
    | some ⟨.type c, none, .seq its _, _⟩ => decide (c = "tuple") && decide (its.size ≤ sizeLine) && all2 rec ds its.toList
    | _ => false)
  | .cl ds, .ref a => (match K.lookup a with
    | some ⟨.type c, none, .seq its _, _⟩ => decide (c = "list") && decide (its.size ≤ sizeLine) && all2 rec ds its.toList
    | _ => false)
  | .fn x, .ref a => decide (PySem.W.nsIn K mainGlobals (Str.ofString x) = some (some (.ref a)))
  | .ty n, .type m => decide (n = m)
  | _, _ => false
def dB (K : PySem.W.Frag) : Nat → D → Value → Bool
  | 0 => fun _ _ => false
  | n + 1 => dB0 K (dB K n)
theorem dB0_ok {h : Heap} {fld : String → List String} (X : K.In h) (G : h.Ns mainGlobals mg) {rec : D → Value → Bool} (hr : ∀ d u, rec d u = true → ∃ v, RelV v u ∧ ∀ ι H, RV ⟨K, mg, fld⟩ ι H d v) {d : D} {u : Value} (h : dB0 K rec d u = true) : ∃ v, RelV v u ∧ ∀ ι H, RV ⟨K, mg, fld⟩ ι H d v := by
  have many : ∀ {ds : List D} {us : List Value}, all2 rec ds us = true → ∃ vs, Vals vs us ∧ ∀ ι H, RVs ⟨K, mg, fld⟩ ι H ds vs := by
    intro ds
    induction ds with
    | nil =>
      intro us h
      cases us with
      | nil => exact ⟨[], .nil, fun _ _ => .nil⟩
      | cons _ _ => cases h
    | cons d ds ih =>
      intro us h
      cases us with
      | nil => cases h
      | cons u us =>
        simp only [all2, Bool.and_eq_true] at h
        obtain ⟨v, h1, h2⟩ := hr _ _ h.1
        obtain ⟨vs, h3, h4⟩ := ih h.2
        exact ⟨v :: vs, .cons h1 h3, fun ι H => .cons (h2 ι H) (h4 ι H)⟩
  unfold dB0 at h
  split at h
  · exact ⟨.non, rfl, fun _ _ => .non⟩
  · cases eq_of_beq h
    exact ⟨.bl _, rfl, fun _ _ => .bl _⟩
  · cases of_decide_eq_true h
    exact ⟨.int _, ⟨_, rfl⟩, fun _ _ => .int _⟩
  · rename_i x y t
    simp only [Bool.and_eq_true, decide_eq_true_eq, List.all_eq_true] at h
    obtain ⟨⟨hx, h2⟩, h3⟩ := h
    subst hx
    have e : tS y.cps.toList = y := by cases y; simp [tS]
    refine ⟨.str y, ⟨_, rfl⟩, fun ι H => ?_⟩
    have := RV.str (F := ⟨K, mg, fld⟩) (ι := ι) (H := H) y.cps.toList ⟨h2, h3⟩
    rw [e] at this
    exact this
  · rename_i ds a
    split at h
    · rename_i c its m sl hk
      simp only [Bool.and_eq_true, decide_eq_true_eq] at h
      obtain ⟨⟨h1, h2⟩, h3⟩ := h
      subst h1
      obtain ⟨vs, r, q⟩ := many h3
      have hl : ds.length ≤ sizeLine := by
        rw [(q [] fun _ => none).length, r.length]
        simpa using h2
      exact ⟨.ref a, rfl, fun ι H => .tup (.inr ⟨_, its, m, hk, rfl, rfl, h2, r⟩) (q ι H) hl⟩
    · cases h
  · rename_i ds a
    split at h
    · rename_i c its m sl hk
      simp only [Bool.and_eq_true, decide_eq_true_eq] at h
      obtain ⟨⟨h1, h2⟩, h3⟩ := h
      subst h1
      obtain ⟨vs, r, q⟩ := many h3
      have hl : ds.length ≤ sizeLine := by
        rw [(q [] fun _ => none).length, r.length]
        simpa using h2
      exact ⟨.ref a, rfl, fun ι H => .cl (.inr ⟨_, its, m, hk, rfl, rfl, rfl, h2, r⟩) (q ι H) hl⟩
    · cases h
  · rename_i x a
    exact ⟨.ref a, rfl, fun ι H => .fn (PySem.W.mg_of X G (of_decide_eq_true h))⟩
  · have e := of_decide_eq_true h
    subst e
    exact ⟨.ty _, rfl, fun _ _ => .ty _⟩
  · cases h
theorem dB_ok {h : Heap} {fld : String → List String} (X : K.In h) (G : h.Ns mainGlobals mg) : ∀ (n : Nat) (d : D) (u : Value), dB K n d u = true → ∃ v, RelV v u ∧ ∀ ι H, RV ⟨K, mg, fld⟩ ι H d v
  | 0, _, _, h => (Bool.false_ne_true h).elim
  | n + 1, _, _, h => dB0_ok X G (fun d u => dB_ok X G n d u) h
def gB (K : PySem.W.Frag) (p : String × D) : Bool := match PySem.W.nsIn K mainGlobals (Str.ofString p.1) with
  | some (some u) => dB K 8 p.2 u
  | _ => false
theorem gB_ok {h : Heap} {fld : String → List String} (X : K.In h) (G : h.Ns mainGlobals mg) {p : String × D} (c : gB K p = true) : ∃ u v, mg (Str.ofString p.1) = some u ∧ RelV v u ∧ ∀ ι H, RV ⟨K, mg, fld⟩ ι H p.2 v := by
  unfold gB at c
  split at c
  · rename_i u hu
    obtain ⟨v, h1, h2⟩ := dB_ok (fld := fld) X G 8 _ _ c
    exact ⟨u, v, PySem.W.mg_of X G hu, h1, h2⟩
  · cases c
/-- whether an exception of class e is one of t -/
def isxB (K : PySem.W.Frag) (q : (String × String) × Bool) : Bool :=
  let D := He.ga K (Str.ofString q.1.1)
  He.eqO (PySem.W.findIn K (.ref D) "__getattribute__") (some (some (.builtin "BaseException.__getattribute__"))) && He.eqO (PySem.W.findIn K (.ref D) "__getattr__") (some none) && decide (PySem.W.subIn K (.ref D) (.type "BaseException") = some true) && PySem.W.hasDictIn K D &&
  He.eqO (PySem.W.findIn K (.ref D) "__class__") (some (some (.builtin "object.__class__"))) && He.eqO (PySem.W.specialIn K (.builtin "object.__class__") "__get__") (some (some (.builtin "getset_descriptor.__get__"))) && decide (PySem.W.takesIn K (.builtin "object.__class__") = some true) && decide (PySem.W.mroIn K D (.type "object") = some true) &&
  He.eqO (PySem.W.nsIn K mainGlobals (Str.ofString q.1.1)) (some (some (.ref D))) &&
  (match PySem.W.nsIn K mainGlobals (Str.ofString q.1.2) with
    | some (some (.ref C)) => decide (PySem.W.kitOne K (.ref D) (.ref C) = some q.2)
    | some none => decide (q.1.2 = "ValueError") && decide (PySem.W.kitOne K (.ref D) (.type "ValueError") = some q.2)
    | _ => false)
theorem boot_VE : bootBuiltins (Str.ofString "ValueError") = some (.type "ValueError") ∧ Str.ofString "ValueError" ≠ "__name__" := by decide +kernel
theorem isxB_ok {h : Heap} (X : K.In h) (G : h.Ns mainGlobals mg) {e t : String} {b : Bool} (c : isxB K ((e, t), b) = true) :
    ∃ D v cv, mg (Str.ofString e) = some (.ref D) ∧ ExcC K D ∧ RelV v cv ∧ (∀ u, RelV v u → u = cv) ∧ PySem.W.kitOne K (.ref D) cv = some b ∧ (mg (Str.ofString t) = some cv ∨ (mg (Str.ofString t) = none ∧ bootBuiltins (Str.ofString t) = some cv ∧ Str.ofString t ≠ "__name__")) := by
  unfold isxB at c
  simp only [Bool.and_eq_true, decide_eq_true_eq] at c
  obtain ⟨⟨⟨⟨⟨⟨⟨⟨⟨c1, c2⟩, c3⟩, c4⟩, c5⟩, c6⟩, c7⟩, c8⟩, c9⟩, c10⟩ := c
  have E : ExcC K (He.ga K (Str.ofString e)) := ⟨He.eqO_ok c1, He.eqO_ok c2, c3, c4, He.eqO_ok c5, He.eqO_ok c6, c7, c8⟩
  split at c10
  · rename_i C hC
    exact ⟨_, .ref C, .ref C, PySem.W.mg_of X G (He.eqO_ok c9), E, rfl, fun u r => r, of_decide_eq_true c10, .inl (PySem.W.mg_of X G hC)⟩
  · rename_i hC
    simp only [Bool.and_eq_true, decide_eq_true_eq] at c10
    obtain ⟨rfl, c11⟩ := c10
    exact ⟨_, .ty "ValueError", .type "ValueError", PySem.W.mg_of X G (He.eqO_ok c9), E, rfl, fun u r => r, c11, .inr ⟨PySem.W.mg_none_of X G hC, boot_VE.1, boot_VE.2⟩⟩
  · cases c10
def okM (P : Prog) (fa : List He.Fa) (fn : List He.DefD) (K : PySem.W.Frag) : Bool := (P.g.all (gB K)) && (P.isx.all (isxB K)) && (fa.all fun f => f.ok K) && fn.all fun d => d.ok K
abbrev AlM : Type := Bool × List He.FnW
def obsM (P : Prog) (fa : List He.Fa) (fn : List He.DefD) (K : PySem.W.Frag) : AlM := (okM P fa fn K, fn.map fun d => He.fnW K d.at_)
def SaysM (P : Prog) (fa : List He.Fa) (fn : List He.DefD) (K : PySem.W.Frag) : Prop := obsM P fa fn K = (true, fn.map He.DefD.val)
def obsMG (n : Nat) (P : Prog) (fa : List He.Fa) (fn : List He.DefD) (get : Addr → Option Obj) : AlM := obsM P fa fn (He.frG get (He.asD get n))
def hookM (n : Nat) (P : Prog) (fa : List He.Fa) (fn : List He.DefD) : PySem.W.Hook where
  α := AlM
  obs := fun s => obsMG n P fa fn s.heap.get?
  val := fun _ => (true, fn.map He.DefD.val)
  says := fun _ h => ∃ K : PySem.W.Frag, K.In h ∧ SaysM P fa fn K
  of := fun _ _ e => ⟨_, He.frG_in, e⟩
  keeps := fun _ _ _ ⟨K, hK, c⟩ k => ⟨K, PySem.W.Frag.In.keeps hK k, c⟩
theorem obsMG_eq {n : Nat} {P : Prog} {fa : List He.Fa} {fn : List He.DefD} {get : Addr → Option Obj} {s : Shared} (h : ∀ a, get a = s.heap.get? a) : obsMG n P fa fn get = (hookM n P fa fn).obs s := by
  have e : get = s.heap.get? := funext h
  rw [e] <;> rfl
section
variable {P : Prog} {fa : List He.Fa} {fn : List He.DefD}
theorem SaysM.all (c : SaysM P fa fn K) : (∀ p ∈ P.g, gB K p = true) ∧ (∀ p ∈ P.isx, isxB K p = true) ∧ (∀ f ∈ fa, f.ok K = true) ∧ ∀ d ∈ fn, d.ok K = true := by
  have c1 : okM P fa fn K = true := congrArg (fun z : AlM => z.1) c
  unfold okM at c1
  simp only [Bool.and_eq_true, List.all_eq_true] at c1
  exact ⟨c1.1.1.1, c1.1.1.2, c1.1.2, c1.2⟩
theorem SaysM.def_ (c : SaysM P fa fn K) (i : Nat) {d : He.DefD} (h : fn[i]? = some d) : ∃ fd, FunD K d.name d.qual d.params d.body d.scope (d.dvs K) (d.kws K) (He.fAd K d.at_) fd := by
  have e : fn.map (fun d => He.fnW K d.at_) = fn.map He.DefD.val := congrArg (fun z : AlM => z.2) c
  have e2 : (fn.map fun d => He.fnW K d.at_)[i]? = (fn.map He.DefD.val)[i]? := by rw [e]
  rw [List.getElem?_map, List.getElem?_map, h] at e2
  exact He.DefD.funD (Option.some.inj e2) (c.all.2.2.2 d (List.mem_of_getElem? h))
end
def faL (P : Prog) : List (List He.Fa) :=
  [[.glo (Str.ofString "law")], P.plans.map fun p => .glo (Str.ofString p.1), P.bi.map fun x => .free (Str.ofString x), P.fld.map fun p => .glo (Str.ofString p.1), P.fld.map fun p => .cls (Str.ofString p.1), P.fld.flatMap fun p => p.2.map fun f => .noat (Str.ofString p.1) (Str.ofString f),
  P.mplans.map fun p => .meth (Str.ofString p.1.1) (Str.ofString p.1.2), P.makes.map fun x => .mkr (Str.ofString x), P.rz.map fun x => .glo (Str.ofString x), P.rz.map fun x => .exc (Str.ofString x), P.exm.map fun p => .glo (Str.ofString p.1.1), P.exm.map fun p => .glo (Str.ofString p.1.2), P.exm.map fun p => .exm (Str.ofString p.1.1) (Str.ofString p.1.2) p.2]
def faOf (P : Prog) : List He.Fa := (faL P).flatten
theorem fa_at {P : Prog} {f : He.Fa} (k : Nat) {l : List He.Fa} (h : (faL P)[k]? = some l) (m : f ∈ l) : f ∈ faOf P := List.mem_flatten.mpr ⟨l, List.mem_of_getElem? h, m⟩
theorem look_mem {α β : Type} [BEq α] [LawfulBEq α] {k : α} {v : β} : ∀ {l : List (α × β)}, l.lookup k = some v → (k, v) ∈ l
  | [], h => by cases h
  | (a, b) :: l, h => by
    rw [List.lookup_cons] at h
    split at h
    · rename_i e
      cases h
      rw [eq_of_beq e]
      exact List.mem_cons_self
    · exact List.mem_cons_of_mem _ (look_mem h)
/-- the module's facts, from the run's -/
theorem modOk_of {P : Prog} {fn : List He.DefD} {h : Heap} (X : K.In h) (G : h.Ns mainGlobals mg) (c : SaysM P (faOf P) fn K)
    (hf : ∀ p ∈ P.plans, ∃ fnn, P.fns.lookup p.1 = some fnn ∧ DefOk K mg P P.fldf fnn p.2 (He.fAd K (Str.ofString p.1, none)))
    (hm : ∀ p ∈ P.mplans, (P.fld.lookup p.1.1).isSome = true ∧ p.1.2 ∉ P.fldf p.1.1 ∧ ∃ fnn, P.mts.lookup p.1 = some fnn ∧ DefOk K mg P P.fldf fnn p.2 (He.fAd K (Str.ofString p.1.1, some (Str.ofString p.1.2))))
    (hk : ∀ x ∈ P.makes, (P.fld.lookup x).isSome = true) : ModOk K mg P := by
  obtain ⟨c1, c2, c3, _⟩ := c.all
  have cls : ∀ {x : String}, (P.fld.lookup x).isSome = true → mg (Str.ofString x) = some (.ref (He.ga K (Str.ofString x))) ∧ Cls K (He.ga K (Str.ofString x)) := by
    intro x hx
    obtain ⟨fs, hs⟩ := Option.isSome_iff_exists.mp hx
    have m := look_mem hs
    exact ⟨He.glo_ok X G (c3 _ (fa_at 3 rfl (List.mem_map.mpr ⟨_, m, rfl⟩))),
      He.cls_ok (c3 _ (fa_at 4 rfl (List.mem_map.mpr ⟨_, m, rfl⟩)))⟩
  refine ⟨fun x d hx => gB_ok X G (c1 _ (look_mem hx)), fun x hx => ?_, fun f p hp => ?_, fun cl m p hp => ?_, fun cl hcl => ?_, fun cl hcl => ?_, fun e t b hx => ?_, fun e t b hx => isxB_ok X G (c2 _ (look_mem hx)), fun cl C f hC hf => ?_⟩
  · exact He.free_ok X G (c3 _ (fa_at 2 rfl (List.mem_map.mpr ⟨_, List.contains_iff_mem.mp hx, rfl⟩)))
  · have m := look_mem hp
    obtain ⟨fnn, h1, h2⟩ := hf _ m
    exact ⟨fnn, _, h1, He.glo_ok X G (c3 _ (fa_at 1 rfl (List.mem_map.mpr ⟨_, m, rfl⟩))), h2⟩
  · have m := look_mem hp
    obtain ⟨h0, h1, fnn, h2, h3⟩ := hm _ m
    exact ⟨fnn, _, _, h2, (cls h0).1, He.meth_ok (c3 _ (fa_at 6 rfl (List.mem_map.mpr ⟨_, m, rfl⟩))), h1, h3⟩
  · have m := List.contains_iff_mem.mp hcl
    have k := cls (hk _ m)
    have q := He.mkr_ok (c3 (.mkr (Str.ofString cl)) (fa_at 7 rfl (List.mem_map.mpr ⟨_, m, rfl⟩)))
    exact ⟨_, k.1, k.2, q.makes, q.kp⟩
  · have m := List.contains_iff_mem.mp hcl
    obtain ⟨q1, q2, q3, q4⟩ := He.exc_ok (c3 (.exc (Str.ofString cl)) (fa_at 9 rfl (List.mem_map.mpr ⟨_, m, rfl⟩)))
    exact ⟨_, He.glo_ok X G (c3 _ (fa_at 8 rfl (List.mem_map.mpr ⟨_, m, rfl⟩))), q1, q2, q3, q4⟩
  · have m := look_mem hx
    exact ⟨_, _, He.glo_ok X G (c3 _ (fa_at 10 rfl (List.mem_map.mpr ⟨_, m, rfl⟩))), He.glo_ok X G (c3 _ (fa_at 11 rfl (List.mem_map.mpr ⟨_, m, rfl⟩))),
      He.exm_ok (c3 (.exm (Str.ofString e) (Str.ofString t) b) (fa_at 12 rfl (List.mem_map.mpr ⟨_, m, rfl⟩)))⟩
  · cases hl : P.fld.lookup cl with
    | none =>
      have : P.fldf cl = [] := by unfold Prog.fldf; rw [hl]; rfl
      rw [this] at hf
      cases hf
    | some fs =>
      have : P.fldf cl = fs := by unfold Prog.fldf; rw [hl]; rfl
      rw [this] at hf
      have k := cls (x := cl) (by rw [hl]; rfl)
      rw [k.1] at hC
      cases hC
      exact He.noat_ok (c3 _ (fa_at 5 rfl (List.mem_flatMap.mpr ⟨_, look_mem hl, List.mem_map.mpr ⟨f, hf, rfl⟩⟩)))
theorem law_at {P : Prog} {fn : List He.DefD} {h : Heap} (X : K.In h) (G : h.Ns mainGlobals mg) (c : SaysM P (faOf P) fn K) : mg (Str.ofString "law") = some (.ref (He.ga K (Str.ofString "law"))) :=
  He.glo_ok X G (c.all.2.2.1 _ (fa_at 0 rfl List.mem_cons_self))
/-! ### the end -/
theorem cl_of {H : Hp} {a : Addr} {xs : List V} (hO : Only H) (h : SqL K H a xs) : CL K H a xs := by
  rcases h with (h | ⟨o, h⟩) | h
  · rcases hO a with z | ⟨o, ys, z⟩ <;> (rw [h] at z; cases z)
  · exact .inl ⟨o, h⟩
  · exact .inr h
/-- a whole number as a script has it -/
def SmallZ (z : Int) : Prop := Builtin.Int.intBits z ≤ 1048576
theorem law_sp {run : List D → Sto → R D} (hrun : ∀ ns : List Int, ns.length ≤ 63 → (∀ z ∈ ns, SmallZ z) → ∃ st, run [.cl (ns.map .int)] [] = .ok (.bl true) st) {fld : String → List String} (H : Hp) (a : Addr) (ns : List Int) (hl : ns.length ≤ 63) (hz : ∀ z ∈ ns, SmallZ z) (hO : Only H) (hS : SqL K H a (ns.map V.int)) :
    spI ⟨K, mg, fld⟩ 1 run [.ref a] H (fun v _ => v = .bl true) fun _ _ _ => False := by
  have intsR : ∀ ns : List Int, RVs ⟨K, mg, fld⟩ [] H (ns.map D.int) (ns.map V.int) := by
    intro ns
    induction ns with
    | nil => exact .nil
    | cons n ns ih => exact .cons (.int n) ih
  obtain ⟨st, e⟩ := hrun ns hl hz
  refine ⟨[], [], [.cl (ns.map .int)], ⟨rfl, List.nodup_nil, fun n o h => by simp at h⟩, .one (.cl (cl_of hO hS) (intsR ns) (by rw [List.length_map, sizeLine_eq]; omega)), rfl, ?_⟩
  rw [e]
  intro ι' H' b _ _ _ r
  exact r.bl_inv
/-- the goal behind the head: from the law's run by the evaluator -/
theorem walk_M {l : PySem.W.OpenLaw} {k : Nat} {q : Program} {loose : List Str} {xp : (Str → Option Value) → Heap → Prop} {yp : World → Heap → Prop} {d : DefRec} {y : Str} {run : List D → Sto → R D} (hn : l.most = some 63) (hdf : d.params.defaults = []) (hr : Room k callerA)
    (hrun : ∀ ns : List Int, ns.length ≤ 63 → (∀ z ∈ ns, SmallZ z) → ∃ st, run [.cl (ns.map .int)] [] = .ok (.bl true) st)
    (known : ∀ (w : World) (mg : Str → Option Value) (fa : Addr) (h : Heap), yp w h → h.Ns mainGlobals mg → mg d.name = some (.ref fa) →
      ∃ (K : PySem.W.Frag) (fd : FuncData) (fld : String → List String), K.In h ∧ (∀ (s : Shared) (u : Value), BindsTo s fd ⟨[u], []⟩ [(y, u)]) ∧ ∀ base : Heap, FnOk l.prog w K mg base (L2.CX l.prog w) k fa fd [y] (spI ⟨K, mg, fld⟩ 1 run)) :
    PySem.W.WalkO q loose xp yp l.row.toRowW d [] (fun f vs => PySem.call f vs) := by
  refine Att.attach_callB hn hdf fun w _ _ mg _ fa _ _ _ _ a _ ns G Y _ _ _ atLaw obj zs hlen bits gens => ?_
  obtain ⟨K, fd, fld, KX, bd, F⟩ := known w mg fa _ Y G.T.g atLaw
  exact law_call KX G.T.g G.T.b G.T.builtins G.T.nolimit gens obj zs (Nat.le_trans hlen (by rw [sizeLine_eq]; omega)) hr (fun base _ _ => F base) bd (fun H hO hS => law_sp hrun H a ns hlen bits hO hS) fun H e s' x => by
    obtain ⟨_, _, _, _, _, _, _, _, _, _, _, _, z⟩ := x
    exact z
/-- a law's def over calls of depth k -/
theorem law_fn (M : ModOk K mg P) (k : Nat) {fnn : Fn} {a : Addr} {x qual : Str} {params : Arguments} {body : List Stmt} {scope : Scope} {dvs : List V} {kws : List (Str × V)} {fd : FuncData} {N : List Str} {y : Str}
    (F : FunD K x qual params body scope dvs kws a fd) (S : FnScope N [y] scope) (hN : N.length = fnn.slots) (ck : ckSs P N 30 ⟨scope, cellsOf scope⟩ body fnn.body = true) :
    FnOk prog w K mg base (L2.CX prog w) (2 * k + 2) a fd [y] (spI ⟨K, mg, P.fldf⟩ 1 (runF (P.ctx (callF P k) (callM P k)) fnn)) :=
  body_ok ⟨_, _, rfl⟩ F S hN ck (lib_at M k) rfl
theorem no_exc (H : Hp) (s : Shared) (e : Value) (s' : Shared) (h : L2.CX prog w [] H s (fun _ _ _ => False) e s') : False := by
  obtain ⟨_, _, _, _, _, _, _, _, _, _, _, _, z⟩ := h
  exact z
end
end Mi

set_option linter.all false
set_option maxRecDepth 100000
/-! V17: tables of defs and plans. -/
namespace Mi
open PySem PySem.Spec L2
open PyProof.Rows hiding St
def pickV {α : Type} (d : α) (us ws : List α) : Src → α
  | .pos i => us.getD i d
  | .kw i => ws.getD i d
  | .dv _ => d
def noDv : List Src → Bool
  | [] => true
  | .dv _ :: _ => false
  | _ :: r => noDv r
theorem vals_getD {vs : List V} {us : List Value} (r : Vals vs us) (i : Nat) : RelV (vs.getD i .non) (us.getD i .none) := by
  rw [List.getD_eq_getElem?_getD, List.getD_eq_getElem?_getD]
  cases h : vs[i]? with
  | none =>
    have hu : us[i]? = none := by rw [List.getElem?_eq_none_iff] at h ⊢; rw [← r.length]; exact h
    rw [hu]
    exact rfl
  | some v =>
    obtain ⟨u, h1, h2⟩ := Vals.get r h
    rw [h1]
    exact h2
theorem rvs_getD {F : Fx} {ι : List Addr} {H : Hp} {ds : List D} {vs : List V} (r : RVs F ι H ds vs) (i : Nat) : RV F ι H (ds.getD i .non) (vs.getD i .non) := by
  rw [List.getD_eq_getElem?_getD, List.getD_eq_getElem?_getD]
  cases h : ds[i]? with
  | none =>
    have hu : vs[i]? = none := by rw [List.getElem?_eq_none_iff] at h ⊢; rw [← r.length]; exact h
    rw [hu]
    exact .non
  | some v =>
    obtain ⟨u, h1, h2⟩ := r.get h
    rw [h1]
    exact h2
theorem pick_vals {vs zs : List V} {us ws : List Value} (r : Vals vs us) (r2 : Vals zs ws) : ∀ pl : List Src, Vals (pl.map (pickV .non vs zs)) (pl.map (pickV .none us ws))
  | [] => .nil
  | .pos i :: pl => .cons (vals_getD r i) (pick_vals r r2 pl)
  | .kw i :: pl => .cons (vals_getD r2 i) (pick_vals r r2 pl)
  | .dv d :: pl => .cons rfl (pick_vals r r2 pl)
theorem pick_rvs {F : Fx} {ι : List Addr} {H : Hp} {ds es : List D} {vs zs : List V} (r : RVs F ι H ds vs) (r2 : RVs F ι H es zs) : ∀ {pl : List Src}, noDv pl = true → RVs F ι H (pl.map (Src.pick ds es)) (pl.map (pickV .non vs zs))
  | [], _ => .nil
  | .pos i :: pl, h => .cons (rvs_getD r i) (pick_rvs r r2 h)
  | .kw i :: pl, h => .cons (rvs_getD r2 i) (pick_rvs r r2 h)
  | .dv _ :: _, h => by cases h
section
variable {K : PySem.W.Frag} {mg : Str → Option Value} {fld : String → List String}
/-- a plan of a def without defaults -/
theorem plain_plan {x qual : Str} {params : Arguments} {body : List Stmt} {scope : Scope} {kws : List (Str × V)} {a : Addr} {fd : FuncData} {ps : List Str} (F : FunD K x qual params body scope [] kws a fd) {n : Nat} {ks : List String} {pl : List Src} (hd : noDv pl = true)
    (h : ∀ (kV doc pm : Value) (an : Option Addr) (cdv ct : Value) (us ws : List Value), us.length = n → ws.length = ks.length → bindArgs (PySem.W.fnOf x qual params body scope .none kV doc pm an cdv ct) ⟨us, (ks.map Str.ofString).zip ws⟩ = pure (ps.zip (pl.map (pickV .none us ws)))) :
    ∃ g gV, KBn K fd ps n (ks.map Str.ofString) g gV ∧ PlanOk ⟨K, mg, fld⟩ pl n ks.length gV := by
  obtain ⟨oc, od, dV, kV, doc, pm, an, cdv, ct, osl, rfl, lk, hcd, hD, hK⟩ := F.ex
  rcases hD with ⟨_, rfl⟩ | ⟨e, _⟩
  · exact ⟨fun us ws => pl.map (pickV .none us ws), fun vs zs => pl.map (pickV .non vs zs), ⟨fun s us ws _ h1 h2 => .of_eq (h kV doc pm an cdv ct us ws h1 (by rw [h2, List.length_map])), fun r1 r2 => pick_vals r1 r2 pl⟩, fun ι H ds vs es zs rd re _ _ => pick_rvs rd re hd⟩
  · exact absurd rfl e
/-- where a parameter's value stands: a place, a keyword, a default's place -/
inductive Gi where
  | pos (i : Nat) | kw (i : Nat) | df (i : Nat)
def Gi.pick {α : Type} (d : α) (us its ws : List α) : Gi → α
  | .pos i => us.getD i d
  | .kw i => ws.getD i d
  | .df i => its.getD i d
def Gi.src (dfs : List D) : Gi → Src
  | .pos i => .pos i
  | .kw i => .kw i
  | .df i => .dv (dfs.getD i .non)
/-- a constant's value -/
def cV : D → V
  | .bl b => .bl b
  | .int i => .int i
  | .str x => .str (tS x)
  | _ => .non
def cOk : D → Bool
  | .non => true
  | .bl _ => true
  | .int _ => true
  | .str x => decide (x.length ≤ sizeLine) && x.all fun c => decide (c < 1114112)
  | _ => false
theorem cV_rv {F : Fx} {ι : List Addr} {H : Hp} {d : D} (h : cOk d = true) : RV F ι H d (cV d) := by
  cases d with
  | non => exact .non
  | bl b => exact .bl b
  | int i => exact .int i
  | str x =>
    simp only [cOk, Bool.and_eq_true, decide_eq_true_eq, List.all_eq_true] at h
    exact .str _ ⟨h.1, h.2⟩
  | _ => cases h
theorem cV_getD {F : Fx} {ι : List Addr} {H : Hp} {dfs : List D} (h : dfs.all cOk = true) (i : Nat) : RV F ι H (dfs.getD i .non) ((dfs.map cV).getD i .non) := by
  rw [List.getD_eq_getElem?_getD, List.getD_eq_getElem?_getD, List.getElem?_map]
  cases e : dfs[i]? with
  | none => exact .non
  | some d => exact cV_rv (List.all_eq_true.mp h d (List.mem_of_getElem? e))
theorem gi_vals {vs zs ds : List V} {us ws its : List Value} (r : Vals vs us) (r2 : Vals zs ws) (r3 : Vals ds its) : ∀ gi : List Gi, Vals (gi.map (Gi.pick .non vs ds zs)) (gi.map (Gi.pick .none us its ws))
  | [] => .nil
  | .pos i :: gi => .cons (vals_getD r i) (gi_vals r r2 r3 gi)
  | .kw i :: gi => .cons (vals_getD r2 i) (gi_vals r r2 r3 gi)
  | .df i :: gi => .cons (vals_getD r3 i) (gi_vals r r2 r3 gi)
theorem gi_rvs {F : Fx} {ι : List Addr} {H : Hp} {ds es : List D} {vs zs : List V} {dfs : List D} (r : RVs F ι H ds vs) (r2 : RVs F ι H es zs) (h : dfs.all cOk = true) : ∀ gi : List Gi, RVs F ι H ((gi.map (Gi.src dfs)).map (Src.pick ds es)) (gi.map (Gi.pick .non vs (dfs.map cV) zs))
  | [] => .nil
  | .pos i :: gi => .cons (rvs_getD r i) (gi_rvs r r2 h gi)
  | .kw i :: gi => .cons (rvs_getD r2 i) (gi_rvs r r2 h gi)
  | .df i :: gi => .cons (cV_getD h i) (gi_rvs r r2 h gi)
/-- a plan of a def with defaults -/
theorem dfl_plan {x qual : Str} {params : Arguments} {body : List Stmt} {scope : Scope} {dvs : List V} {kws : List (Str × V)} {a : Addr} {fd : FuncData} {ps : List Str} (F : FunD K x qual params body scope dvs kws a fd) {n : Nat} {ks : List String} {pl : List Src} (dfs : List D) (gi : List Gi)
    (hd : dvs = dfs.map cV) (hne : dfs ≠ []) (hc : dfs.all cOk = true) (hpl : pl = gi.map (Gi.src dfs))
    (h : ∀ (T : Addr) (kV doc pm : Value) (an : Option Addr) (cdv ct : Value) (us its ws : List Value), us.length = n → its.length = dfs.length → ws.length = ks.length →
      ∃ k, bindArgs (PySem.W.fnOf x qual params body scope (.ref T) kV doc pm an cdv ct) ⟨us, (ks.map Str.ofString).zip ws⟩ = seqItems? (.ref T) >>= k ∧ k (some its.toArray) = pure (ps.zip (gi.map (Gi.pick .none us its ws)))) :
    ∃ g gV, KBn K fd ps n (ks.map Str.ofString) g gV ∧ PlanOk ⟨K, mg, fld⟩ pl n ks.length gV := by
  obtain ⟨oc, od, dV, kV, doc, pm, an, cdv, ct, osl, rfl, lk, hcd, hD, hK⟩ := F.ex
  subst hd hpl
  rcases hD with ⟨e, _⟩ | ⟨_, T, o, its, m, rfl, lT, oT, rT⟩
  · exact absurd (List.map_eq_nil_iff.mp e) hne
  · refine ⟨fun us ws => gi.map (Gi.pick .none us its ws), fun vs zs => gi.map (Gi.pick .non vs (dfs.map cV) zs), ⟨fun s us ws X l1 l2 => ?_, fun r1 r2 => gi_vals r1 r2 rT gi⟩, fun ι H ds vs es zs rd re _ _ => gi_rvs rd re hc gi⟩
    obtain ⟨k, e1, e2⟩ := h T kV doc pm an cdv ct us its ws l1 (by rw [← rT.length, List.length_map]) (by rw [l2, List.length_map])
    refine BindsTo.of_looks fun M => ?_
    rw [e1]
    exact looks_items X lT oT (.of_pure e2)
/-- .. with keyword-only defaults that lack -/
theorem kwd_plan {x qual : Str} {params : Arguments} {body : List Stmt} {scope : Scope} {kws : List (Str × V)} {a : Addr} {fd : FuncData} {ps : List Str} (F : FunD K x qual params body scope [] kws a fd) {n : Nat} {ks : List String} {pl : List Src} (ms : List (Str × V)) (dfs : List D) (gi : List Gi)
    (hms : ∀ q ∈ ms, q ∈ kws) (hk : kws ≠ []) (hd : ms.map (·.2) = dfs.map cV) (hc : dfs.all cOk = true) (hpl : pl = gi.map (Gi.src dfs))
    (h : ∀ (D : Addr) (doc pm : Value) (an : Option Addr) (cdv ct : Value) (us mv ws : List Value), us.length = n → mv.length = ms.length → ws.length = ks.length →
      KwChain D ((ms.map (·.1)).zip mv) (bindArgs (PySem.W.fnOf x qual params body scope .none (.ref D) doc pm an cdv ct) ⟨us, (ks.map Str.ofString).zip ws⟩) (ps.zip (gi.map (Gi.pick .none us mv ws)))) :
    ∃ g gV, KBn K fd ps n (ks.map Str.ofString) g gV ∧ PlanOk ⟨K, mg, fld⟩ pl n ks.length gV := by
  obtain ⟨oc, od, dV, kV, doc, pm, an, cdv, ct, osl, rfl, lk, hcd, hD, hK⟩ := F.ex
  subst hpl
  rcases hD with ⟨_, rfl⟩ | ⟨e, _⟩
  · rcases hK with e | ⟨D, rfl, hq⟩
    · exact absurd e hk
    · obtain ⟨mv, hl, rk, hks⟩ := kwd_vals (ms := ms) fun q hm => hq q (hms q hm)
      refine ⟨fun us ws => gi.map (Gi.pick .none us mv ws), fun vs zs => gi.map (Gi.pick .non vs (dfs.map cV) zs), ⟨fun s us ws X l1 l2 => ?_, fun r1 r2 => gi_vals r1 r2 (hd ▸ rk) gi⟩, fun ι H ds vs es zs rd re _ _ => gi_rvs rd re hc gi⟩
      exact BindsTo.of_looks fun M => KwChain.looks X hks (h D doc pm an cdv ct us mv ws l1 hl (by rw [l2, List.length_map]))
  · exact absurd rfl e
theorem defOk_of {P : Prog} {fnn : Fn} {p : Plans} {a : Addr} {x qual : Str} {params : Arguments} {body : List Stmt} {scope : Scope} {dvs : List V} {kws : List (Str × V)} {fd : FuncData} {N ps : List Str} (F : FunD K x qual params body scope dvs kws a fd) (S : FnScope N ps scope) (hN : N.length = fnn.slots)
    (ck : ckSs P N 30 ⟨scope, cellsOf scope⟩ body fnn.body = true) (hp : ∀ q ∈ p, q.2.length = ps.length ∧ ∃ g gV, KBn K fd ps q.1.1 (q.1.2.map Str.ofString) g gV ∧ PlanOk ⟨K, mg, fld⟩ q.2 q.1.1 q.1.2.length gV) : DefOk K mg P fld fnn p a :=
  ⟨x, qual, params, body, scope, dvs, kws, fd, N, ps, F, S, hN, ck, fun n ks pl h => hp _ (look_mem h)⟩
end
end Mi

set_option linter.all false
set_option maxRecDepth 100000
/-! V18: plain reasoning about the evaluator. -/
namespace Mi
/-- what the rules leave alone -/
class Hd {α : Sort _} (a : α) : Type where
instance atHd {α : Sort _} (a : α) : Hd a := ⟨⟩
open PySem
abbrev XQ := String → Fs → Sto → Prop
abbrev XT := String → Fs → Env → Sto → Prop
def noX : XQ := fun _ _ _ => False
@[irreducible] def okE {α : Type} (r : R α) (Q : α → Sto → Prop) (X : XQ) [Hd Q] [Hd X] : Prop := match r with
  | .ok a st => Q a st
  | .exc c fs st => X c fs st
  | .no => False
@[irreducible] def okT (r : RS) (N B C : Env → Sto → Prop) (Rt : D → Sto → Prop) (X : XT) [Hd N] [Hd B] [Hd C] [Hd Rt] [Hd X] : Prop := match r with
  | .next e s => N e s
  | .brk e s => B e s
  | .cont e s => C e s
  | .ret d s => Rt d s
  | .exc c fs e s => X c fs e s
  | .no => False
def negD (x : D) (st : Sto) : R D := match x with | .int i => .ok (.int (-i)) st | _ => .no
def notD (x : D) (st : Sto) : R D := match x with | .bl b => .ok (.bl (!b)) st | _ => .no
def someD (x : D) (st : Sto) : R (Option Int) := match x with | .int i => .ok (some i) st | _ => .no
def boolD (x : D) (st : Sto) : R Bool := match x with | .bl b => .ok b st | _ => .no
def nonD (x : D) (st : Sto) : R Unit := match x with | .non => .ok () st | _ => .no
def ivD (x : D) (st : Sto) : R Iv := match ivOf st x with | some iv => .ok iv st | none => .no
def enumD (x : D) (st : Sto) : R Iv := match ivL st x with | some iv => .ok (.enum iv) st | none => .no
def zipD (x y : D) (st : Sto) : R Iv := match zipOf st x y with | some iv => .ok iv st | none => .no
def itemsD (x : D) (st : Sto) : R Iv := match x with | .cd k => .ok (.fix (k.map fun p => .tup [p.1, p.2])) st | _ => .no
def valsD (x : D) (st : Sto) : R Iv := match x with | .cd k => .ok (.fix (k.map (·.2))) st | _ => .no
def varD (x : Option (Option D)) (st : Sto) : R D := match x with | some (some d) => .ok d st | _ => .no
def globD (x : Option D) (st : Sto) : R D := match x with | some d => .ok d st | none => .no
def rng1 (xs : List D) (st : Sto) : R Iv := match xs with
    | [.int j] => if -(2 ^ 62) ≤ j ∧ j < 2 ^ 62 then .ok (.fix (rangeL 0 j.toNat)) st else .no
    | _ => .no
def rng2 (xs : List D) (st : Sto) : R Iv := match xs with
    | [.int i, .int j] => if -(2 ^ 62) ≤ i ∧ i < 2 ^ 62 ∧ -(2 ^ 62) ≤ j ∧ j < 2 ^ 62 then .ok (.fix (rangeL i (j - i).toNat)) st else .no
    | _ => .no
def isxD (f : String → String → Option Bool) (cl : String) (x : D) (st : Sto) : R D := match x with
    | .exn e _ => okOB (f e cl) st
    | _ => .no
def istD (ts : List String) (x : D) (st : Sto) : R D := match tyOf st x with
    | some a => if a ∈ tyNames ∧ (∀ t ∈ ts, t ∈ tyNames) ∧ ts.length ≤ 9 then okB (ts.any fun t => decide (a = t) || (decide (a = "bool") && decide (t = "int"))) st else .no
    | none => .no
def fmtR (acc : List Nat) (x : D) (st : Sto) : R (List Nat) := match fmtD x with
    | some y => if (acc ++ y).length ≤ sl then .ok (acc ++ y) st else .no
    | none => .no
def dctR (z : Bool) (ps : List (D × D)) (st : Sto) : R D := if keysOk (ps.map (·.1)) = true ∧ ps.length ≤ 15 then newD z (ps.foldl (fun k p => putK k p.1 p.2) []) st else .no
def raisT (b : Bool) (cl : String) (xs : List D) (env : Env) (st : Sto) : RS := match xs with | [.str _] => if b = true then .exc cl [] env st else .no | _ => .no
def ifD (x : D) (p q : Prop) [Hd p] [Hd q] : Prop := match x with | .bl true => p | .bl false => q | _ => False
def ifB (b : Bool) (p q : Prop) [Hd p] [Hd q] : Prop := if b = true then p else q
theorem ifB_true (p q : Prop) : ifB true p q = p := by with_unfolding_all rfl
theorem ifB_false (p q : Prop) : ifB false p q = q := by with_unfolding_all rfl
theorem ifB_by {b : Bool} {p q : Prop} (h1 : b = true → p) (h2 : b = false → q) : ifB b p q := by cases b <;> simp_all [ifB]
theorem ifB_t {b : Bool} {p q : Prop} (h : b = true) (h1 : p) : ifB b p q := by subst h; with_unfolding_all exact h1
theorem ifB_f {b : Bool} {p q : Prop} (h : b = false) (h1 : q) : ifB b p q := by subst h; with_unfolding_all exact h1
theorem ifB_dec {a : Prop} [Decidable a] {p q : Prop} (h1 : a → p) (h2 : ¬ a → q) : ifB (decide a) p q := by by_cases h : a <;> simp_all [ifB]
theorem ifB_ndec {a : Prop} [Decidable a] {p q : Prop} (h1 : ¬ a → p) (h2 : a → q) : ifB (!decide a) p q := by by_cases h : a <;> simp_all [ifB]
theorem ifB_vc (b : Bool) (p q : Prop) : ifB b p q = ((b = true → p) ∧ (b = false → q)) := by cases b <;> simp [ifB]
theorem ifD_bl (b : Bool) (p q : Prop) : ifD (.bl b) p q = ifB b p q := by cases b <;> with_unfolding_all rfl
theorem ifD_true (p q : Prop) : ifD (.bl true) p q = p := by with_unfolding_all rfl
theorem ifD_false (p q : Prop) : ifD (.bl false) p q = q := by with_unfolding_all rfl
section
variable {α β : Type} {c : Ctx} {env : Env} {st : Sto} {Q : D → Sto → Prop} {X : XQ} {N B C : Env → Sto → Prop} {Rt : D → Sto → Prop} {XX : XT}
theorem okE_ok (a : α) (st : Sto) (Q : α → Sto → Prop) : okE (.ok a st) Q X = Q a st := by with_unfolding_all rfl
theorem okE_exc (c : String) (fs : Fs) (st : Sto) (Q : α → Sto → Prop) : okE (.exc c fs st) Q X = X c fs st := by with_unfolding_all rfl
theorem okE_bind (r : R α) (k : α → Sto → R β) (Q : β → Sto → Prop) : okE (r.bind k) Q X = okE r (fun a st => okE (k a st) Q X) X := by cases r <;> with_unfolding_all rfl
theorem okE_ext {r : R α} {Q Q' : α → Sto → Prop} (h : ∀ a s, Q a s = Q' a s) : okE r Q X = okE r Q' X := by cases r <;> first | with_unfolding_all exact h _ _ | with_unfolding_all rfl
theorem okE_calm (r : R α) (Q : α → Sto → Prop) : okE r.calm Q X = okE r Q noX := by cases r <;> with_unfolding_all rfl
theorem okE_no (Q : α → Sto → Prop) : okE (.no : R α) Q X = False := by with_unfolding_all rfl
theorem okE_if {p : Prop} [Decidable p] (r : R α) (Q : α → Sto → Prop) : okE (if p then r else .no) Q X = (p ∧ okE r Q X) := by
  by_cases h : p
  · rw [if_pos h]; with_unfolding_all exact propext ⟨fun q => ⟨h, q⟩, fun q => q.2⟩
  · rw [if_neg h]; with_unfolding_all exact propext ⟨fun q => q.elim, fun q => h q.1⟩
theorem okE_mono {r : R α} {Q Q' : α → Sto → Prop} (h : okE r Q X) (f : ∀ a s, Q a s → Q' a s) : okE r Q' X := by
  cases r with
  | ok a s => with_unfolding_all exact f _ _ h
  | _ => with_unfolding_all exact h
theorem okE_monoX {r : R α} {Q Q' : α → Sto → Prop} {X X' : XQ} (h : okE r Q X) (f : ∀ a s, Q a s → Q' a s) (g : ∀ c fs s, X c fs s → X' c fs s) : okE r Q' X' := by
  cases r with
  | ok a s => with_unfolding_all exact f _ _ h
  | exc c fs s => with_unfolding_all exact g _ _ _ h
  | no => with_unfolding_all exact h
theorem okE_itb (b : Bool) (r r' : R α) (Q : α → Sto → Prop) : okE (if b = true then r else r') Q X = ifB b (okE r Q X) (okE r' Q X) := by cases b <;> with_unfolding_all rfl
theorem okT_st (r : R α) (env : Env) (k : α → Sto → RS) : okT (r.st env k) N B C Rt XX = okE r (fun a st => okT (k a st) N B C Rt XX) (fun c fs st => XX c fs env st) := by cases r <;> with_unfolding_all rfl
theorem okT_next (e : Env) (s : Sto) : okT (.next e s) N B C Rt XX = N e s := by with_unfolding_all rfl
theorem okT_ret (d : D) (s : Sto) : okT (.ret d s) N B C Rt XX = Rt d s := by with_unfolding_all rfl
theorem okT_brk (e : Env) (s : Sto) : okT (.brk e s) N B C Rt XX = B e s := by with_unfolding_all rfl
theorem okT_cont (e : Env) (s : Sto) : okT (.cont e s) N B C Rt XX = C e s := by with_unfolding_all rfl
theorem okT_exc (c : String) (fs : Fs) (e : Env) (s : Sto) : okT (.exc c fs e s) N B C Rt XX = XX c fs e s := by with_unfolding_all rfl
theorem okT_nil : okT (exSs c [] env st) N B C Rt XX = N env st := by with_unfolding_all rfl
theorem okT_cons (s : S) (r : List S) : okT (exSs c (s :: r) env st) N B C Rt XX = okT (exS c s env st) (fun env st => okT (exSs c r env st) N B C Rt XX) B C Rt XX := by
  simp only [exSs]
  cases exS c s env st <;> with_unfolding_all rfl
/-! expressions -/
theorem ok_var (i : Nat) : okE (evE c (.var i) env st) Q X = okE (varD env[i]? st) Q X := by simp only [evE]; (repeat (first | with_unfolding_all rfl | rw [okE_bind] | rw [okT_st] | rw [okE_if] | (refine okE_ext fun _ _ => ?_)))
theorem ok_non  : okE (evE c .non env st) Q X = Q .non st := by simp only [evE]; (repeat (first | with_unfolding_all rfl | rw [okE_bind] | rw [okT_st] | rw [okE_if] | (refine okE_ext fun _ _ => ?_)))
theorem ok_bl (b : Bool) : okE (evE c (.bl b) env st) Q X = Q (.bl b) st := by simp only [evE]; (repeat (first | with_unfolding_all rfl | rw [okE_bind] | rw [okT_st] | rw [okE_if] | (refine okE_ext fun _ _ => ?_)))
theorem ok_int (b : Int) : okE (evE c (.int b) env st) Q X = Q (.int b) st := by simp only [evE]; (repeat (first | with_unfolding_all rfl | rw [okE_bind] | rw [okT_st] | rw [okE_if] | (refine okE_ext fun _ _ => ?_)))
theorem ok_str (b : List Nat) : okE (evE c (.str b) env st) Q X = Q (.str b) st := by simp only [evE]; (repeat (first | with_unfolding_all rfl | rw [okE_bind] | rw [okT_st] | rw [okE_if] | (refine okE_ext fun _ _ => ?_)))
theorem ok_ty (b : String) : okE (evE c (.ty b) env st) Q X = Q (.ty b) st := by simp only [evE]; (repeat (first | with_unfolding_all rfl | rw [okE_bind] | rw [okT_st] | rw [okE_if] | (refine okE_ext fun _ _ => ?_)))
theorem ok_glob (x : String) : okE (evE c (.glob x) env st) Q X = okE (globD (c.g x) st) Q X := by simp only [evE]; (repeat (first | with_unfolding_all rfl | rw [okE_bind] | rw [okT_st] | rw [okE_if] | (refine okE_ext fun _ _ => ?_)))
theorem ok_bin (z : Bool) (o : Operator) (a b : E) : okE (evE c (.bin z o a b) env st) Q X = okE (evE c a env st) (fun x st => okE (evE c b env st) (fun y st => okE (binD z o x y st) Q X) X) X := by simp only [evE]; (repeat (first | with_unfolding_all rfl | rw [okE_bind] | rw [okT_st] | rw [okE_if] | (refine okE_ext fun _ _ => ?_)))
theorem ok_neg (a : E) : okE (evE c (.neg a) env st) Q X = okE (evE c a env st) (fun x st => okE (negD x st) Q X) X := by simp only [evE]; (repeat (first | with_unfolding_all rfl | rw [okE_bind] | rw [okT_st] | rw [okE_if] | (refine okE_ext fun _ _ => ?_)))
theorem ok_not (a : E) : okE (evE c (.not a) env st) Q X = okE (evE c a env st) (fun x st => okE (notD x st) Q X) X := by simp only [evE]; (repeat (first | with_unfolding_all rfl | rw [okE_bind] | rw [okT_st] | rw [okE_if] | (refine okE_ext fun _ _ => ?_)))
theorem ok_and (a b : E) : okE (evE c (.and a b) env st) Q X = okE (evE c a env st) (fun x st => ifD x (okE (evE c b env st) Q X) (Q (.bl false) st)) X := by 
  simp only [evE, okE_bind]
  refine okE_ext fun x s => ?_
  cases x with
  | bl b => cases b <;> with_unfolding_all rfl
  | _ => with_unfolding_all rfl
theorem ok_or (a b : E) : okE (evE c (.or a b) env st) Q X = okE (evE c a env st) (fun x st => ifD x (Q (.bl true) st) (okE (evE c b env st) Q X)) X := by 
  simp only [evE, okE_bind]
  refine okE_ext fun x s => ?_
  cases x with
  | bl b => cases b <;> with_unfolding_all rfl
  | _ => with_unfolding_all rfl
theorem ok_ite (t a b : E) : okE (evE c (.ite t a b) env st) Q X = okE (evE c t env st) (fun x st => ifD x (okE (evE c a env st) Q X) (okE (evE c b env st) Q X)) X := by 
  simp only [evE, okE_bind]
  refine okE_ext fun x s => ?_
  cases x with
  | bl b => cases b <;> with_unfolding_all rfl
  | _ => with_unfolding_all rfl
theorem ok_cmp (o : CmpOp) (a b : E) : okE (evE c (.cmp o a b) env st) Q X = okE (evE c a env st) (fun x st => okE (evE c b env st) (fun y st => okE (cmpD o x y st) Q X) X) X := by simp only [evE]; (repeat (first | with_unfolding_all rfl | rw [okE_bind] | rw [okT_st] | rw [okE_if] | (refine okE_ext fun _ _ => ?_)))
theorem ok_cmp2 (o p : CmpOp) (a b d : E) : okE (evE c (.cmp2 o p a b d) env st) Q X = okE (evE c a env st) (fun x st => okE (evE c b env st) (fun y st => okE (cmpD o x y st) (fun r st => ifD r (okE (evE c d env st) (fun z st => okE (cmpD p y z st) Q X) X) (Q (.bl false) st)) X) X) X := by 
  simp only [evE]
  rw [okE_bind]
  refine okE_ext fun x s => ?_
  rw [okE_bind]
  refine okE_ext fun y s => ?_
  rw [okE_bind]
  refine okE_ext fun r s => ?_
  cases r with
  | bl b => cases b <;> first | with_unfolding_all rfl | (rw [okE_bind]; with_unfolding_all rfl)
  | _ => with_unfolding_all rfl
theorem ok_attr (a : E) (f : String) : okE (evE c (.attr a f) env st) Q X = okE (evE c a env st) (fun x st => okE (attrD x f st) Q X) X := by simp only [evE]; (repeat (first | with_unfolding_all rfl | rw [okE_bind] | rw [okT_st] | rw [okE_if] | (refine okE_ext fun _ _ => ?_)))
theorem ok_ix (a b : E) : okE (evE c (.ix a b) env st) Q X = okE (evE c a env st) (fun x st => okE (evE c b env st) (fun y st => okE (ixD x y st) Q X) X) X := by simp only [evE]; (repeat (first | with_unfolding_all rfl | rw [okE_bind] | rw [okT_st] | rw [okE_if] | (refine okE_ext fun _ _ => ?_)))
theorem ok_sl (z : Bool) (a : E) (lo hi : Option E) : okE (evE c (.sl z a lo hi) env st) Q X = okE (evE c a env st) (fun x st => okE (evO c lo env st) (fun l st => okE (evO c hi env st) (fun h st => okE (slD z x l h st) Q X) X) X) X := by simp only [evE]; (repeat (first | with_unfolding_all rfl | rw [okE_bind] | rw [okT_st] | rw [okE_if] | (refine okE_ext fun _ _ => ?_)))
theorem ok_rev (z : Bool) (a : E) : okE (evE c (.rev z a) env st) Q X = okE (evE c a env st) (fun x st => okE (revD z x st) Q X) X := by simp only [evE]; (repeat (first | with_unfolding_all rfl | rw [okE_bind] | rw [okT_st] | rw [okE_if] | (refine okE_ext fun _ _ => ?_)))
theorem ok_lst (z : Bool) (es : List E) : okE (evE c (.lst z es) env st) Q X = okE (evEs c es env st) (fun xs st => okE (newL z xs st) Q X) X := by simp only [evE]; (repeat (first | with_unfolding_all rfl | rw [okE_bind] | rw [okT_st] | rw [okE_if] | (refine okE_ext fun _ _ => ?_)))
theorem ok_rep (z : Bool) (es : List E) (n : E) : okE (evE c (.rep z es n) env st) Q X = okE (evEs c es env st) (fun xs st => xs.length ≤ sl ∧ okE (evE c n env st) (fun y st => okE (repD z xs y st) Q X) X) X := by simp only [evE]; (repeat (first | with_unfolding_all rfl | rw [okE_bind] | rw [okT_st] | rw [okE_if] | (refine okE_ext fun _ _ => ?_)))
theorem ok_tup (es : List E) : okE (evE c (.tup es) env st) Q X = okE (evEs c es env st) (fun xs st => xs.length ≤ sl ∧ Q (.tup xs) st) X := by simp only [evE]; (repeat (first | with_unfolding_all rfl | rw [okE_bind] | rw [okT_st] | rw [okE_if] | (refine okE_ext fun _ _ => ?_)))
theorem ok_dct (z : Bool) (ps : List (E × E)) : okE (evE c (.dct z ps) env st) Q X = okE (evPs c ps env st) (fun ps st => okE (dctR z ps st) Q X) X := by simp only [evE]; (repeat (first | with_unfolding_all rfl | rw [okE_bind] | rw [okT_st] | rw [okE_if] | (refine okE_ext fun _ _ => ?_)))
theorem ok_bi (z : Bool) (f : String) (es : List E) : okE (evE c (.bi z f es) env st) Q X = okE (evEs c es env st) (fun xs st => okE (biD z f xs st) Q X) X := by simp only [evE]; (repeat (first | with_unfolding_all rfl | rw [okE_bind] | rw [okT_st] | rw [okE_if] | (refine okE_ext fun _ _ => ?_)))
theorem ok_isx (a : E) (cl : String) : okE (evE c (.isx a cl) env st) Q X = okE (evE c a env st) (fun x st => okE (isxD c.isx cl x st) Q X) X := by simp only [evE]; (repeat (first | with_unfolding_all rfl | rw [okE_bind] | rw [okT_st] | rw [okE_if] | (refine okE_ext fun _ _ => ?_)))
theorem ok_ist (a : E) (ts : List String) : okE (evE c (.ist a ts) env st) Q X = okE (evE c a env st) (fun x st => okE (istD ts x st) Q X) X := by simp only [evE]; (repeat (first | with_unfolding_all rfl | rw [okE_bind] | rw [okT_st] | rw [okE_if] | (refine okE_ext fun _ _ => ?_)))
theorem ok_fstr (es : List E) : okE (evE c (.fstr es) env st) Q X = okE (evFs c es [] env st) Q X := by simp only [evE]; (repeat (first | with_unfolding_all rfl | rw [okE_bind] | rw [okT_st] | rw [okE_if] | (refine okE_ext fun _ _ => ?_)))
theorem ok_comp (z : Bool) (e : E) (t : Tg) (it : It) (ifs : Option E) (own : List Nat) : okE (evE c (.comp z e t it ifs own) env st) Q X = okE (itE c it env st) (fun iv st => okE ((loopC (fun d st => (asT c t d (wipeE env own) st).bind fun env1 st => (evI c ifs env1 st).bind fun b st => if b = true then (evE c e env1 st).bind fun y st => .ok (some y) st else .ok none st) iv (lenI st iv + 1) 0 [] st)) (fun xs st => okE (newC z xs st) Q X) X) X := by simp only [evE]; (repeat (first | with_unfolding_all rfl | rw [okE_bind] | rw [okT_st] | rw [okE_if] | (refine okE_ext fun _ _ => ?_)))
theorem ok_dcomp (z : Bool) (e v : E) (t : Tg) (it : It) (ifs : Option E) (own : List Nat) : okE (evE c (.dcomp z e v t it ifs own) env st) Q X = okE (itE c it env st) (fun iv st => okE ((loopD (fun d st => (asT c t d (wipeE env own) st).bind fun env1 st => (evI c ifs env1 st).bind fun b st => if b = true then (evE c e env1 st).bind fun x st => (evE c v env1 st).bind fun y st => .ok (some (x, y)) st else .ok none st) iv (lenI st iv + 1) 0 [] st)) (fun xs st => okE (newD z xs st) Q X) X) X := by simp only [evE]; (repeat (first | with_unfolding_all rfl | rw [okE_bind] | rw [okT_st] | rw [okE_if] | (refine okE_ext fun _ _ => ?_)))
def planD (pl : Option (List Src)) (k : List Src → Prop) [Hd k] : Prop := match pl with | some pl => k pl | none => False
theorem ok_call (f : String) (es : List E) (ks : List String) (kes : List E) : okE (evE c (.call f es ks kes) env st) Q X = okE (evEs c es env st) (fun xs st => okE (evEs c kes env st) (fun zs st => planD (c.plan f xs.length ks) fun pl => zs.length = ks.length ∧ okE (gcR (c.fz f) st (c.run f (pl.map (Src.pick xs zs)) st)) Q X) X) X := by 
  simp only [evE]
  rw [okE_bind]
  refine okE_ext fun xs s => ?_
  rw [okE_bind]
  refine okE_ext fun zs s => ?_
  cases c.plan f xs.length ks with
  | none => with_unfolding_all rfl
  | some pl => simp only [okE_if]; with_unfolding_all rfl
theorem ok_make (f : String) (es : List E) : okE (evE c (.make f es) env st) Q X = okE (evEs c es env st) (fun xs st => c.makes f = true ∧ planD (c.mplan f "__init__" (xs.length + 1) []) fun pl => okE (c.mrun f "__init__" (pl.map (Src.pick (.ref st.length :: xs) [])) (st ++ [.obj f []])) (fun d st1 => okE (nonD d st1) (fun _ st1 => Q (.ref st.length) st1) X) X) X := by 
  simp only [evE]
  rw [okE_bind]
  refine okE_ext fun xs s => ?_
  cases c.makes f with
  | false => rw [if_pos rfl]; with_unfolding_all exact propext ⟨fun h => h.elim, fun h => by cases h.1⟩
  | true =>
    rw [if_neg (by decide)]
    cases c.mplan f "__init__" (xs.length + 1) [] with
    | none => with_unfolding_all exact propext ⟨fun h => h.elim, fun h => h.2.elim⟩
    | some pl =>
      dsimp only
      rw [okE_bind]
      refine (propext ⟨fun h => ⟨rfl, ?_⟩, fun h => ?_⟩)
      · refine okE_mono h fun d s q => ?_
        cases d <;> with_unfolding_all exact q
      · refine okE_mono h.2 fun d s q => ?_
        cases d <;> with_unfolding_all exact q
/-- a method: a built-in's, or the class's own -/
def mthD (c : Ctx) (z : Bool) (kd : Kd) (m : String) (es : List E) (ks : List String) (kes : List E) (x : D) (env : Env) (st : Sto) (Q : D → Sto → Prop) (X : XQ) [Hd Q] [Hd X] : Prop := match kd with
  | .own cl => planD (c.mplan cl m (es.length + 1) ks) fun pl => okE (evEs c es env st) (fun xs st => okE (evEs c kes env st) (fun zs st => (xs.length = es.length ∧ zs.length = ks.length) ∧ okE (gcR (c.mfz cl m) st (c.mrun cl m (pl.map (Src.pick (x :: xs) zs)) st)) Q X) X) X
  | k => (mtOk k m = true ∧ ks = [] ∧ kes = []) ∧ okE (evEs c es env st) (fun xs st => okE (methD z k m x xs st) Q X) X
theorem ok_meth (z : Bool) (a : E) (m : String) (es : List E) (ks : List String) (kes : List E) : okE (evE c (.meth z a m es ks kes) env st) Q X = okE (evE c a env st) (fun x st => mthD c z (kindOf st x) m es ks kes x env st Q X) X := by 
  simp only [evE]
  rw [okE_bind]
  refine okE_ext fun x s => ?_
  cases kindOf s x with
  | own cl =>
    unfold mthD
    dsimp only
    cases c.mplan cl m (es.length + 1) ks with
    | none => with_unfolding_all rfl
    | some pl =>
      dsimp only [planD]
      rw [okE_bind]
      refine okE_ext fun xs s => ?_
      rw [okE_bind]
      refine okE_ext fun zs s => ?_
      rw [okE_if]
  | _ =>
    unfold mthD
    dsimp only
    rw [okE_if, okE_bind]
theorem mthD_own (z : Bool) (cl : String) (m : String) (es : List E) (ks : List String) (kes : List E) (x : D) : mthD c z (.own cl) m es ks kes x env st Q X = planD (c.mplan cl m (es.length + 1) ks) fun pl => okE (evEs c es env st) (fun xs st => okE (evEs c kes env st) (fun zs st => (xs.length = es.length ∧ zs.length = ks.length) ∧ okE (gcR (c.mfz cl m) st (c.mrun cl m (pl.map (Src.pick (x :: xs) zs)) st)) Q X) X) X := by with_unfolding_all rfl
theorem mthD_append (z : Bool) (a : E) (x : D) : mthD c z .list "append" [a] [] [] x env st Q X = okE (evE c a env st) (fun y st => okE (appendM x [y] st) Q X) X := by
  show ((mtOk .list "append" = true ∧ ([] : List String) = [] ∧ ([] : List E) = []) ∧ okE (evEs c [a] env st) (fun xs st => okE (appendM x xs st) Q X) X) = _
  have e : mtOk .list "append" = true := by decide
  simp only [e, evEs, true_and, okE_bind]; with_unfolding_all rfl
theorem mthD_extend (z : Bool) (a : E) (x : D) : mthD c z .list "extend" [a] [] [] x env st Q X = okE (evE c a env st) (fun y st => okE (extendM x [y] st) Q X) X := by
  show ((mtOk .list "extend" = true ∧ ([] : List String) = [] ∧ ([] : List E) = []) ∧ okE (evEs c [a] env st) (fun xs st => okE (extendM x xs st) Q X) X) = _
  have e : mtOk .list "extend" = true := by decide
  simp only [e, evEs, true_and, okE_bind]; with_unfolding_all rfl
theorem mthD_insert (z : Bool) (a b : E) (x : D) : mthD c z .list "insert" [a, b] [] [] x env st Q X = okE (evE c a env st) (fun y st => okE (evE c b env st) (fun v st => okE (insertM x [y, v] st) Q X) X) X := by
  show ((mtOk .list "insert" = true ∧ ([] : List String) = [] ∧ ([] : List E) = []) ∧ okE (evEs c [a, b] env st) (fun xs st => okE (insertM x xs st) Q X) X) = _
  have e : mtOk .list "insert" = true := by decide
  simp only [e, evEs, true_and, okE_bind]; refine okE_ext fun y s => ?_; simp only [okE_bind]; with_unfolding_all rfl
theorem mthD_pop (z : Bool) (a : E) (x : D) : mthD c z .list "pop" [a] [] [] x env st Q X = okE (evE c a env st) (fun y st => okE (popM x [y] st) Q X) X := by
  show ((mtOk .list "pop" = true ∧ ([] : List String) = [] ∧ ([] : List E) = []) ∧ okE (evEs c [a] env st) (fun xs st => okE (popM x xs st) Q X) X) = _
  have e : mtOk .list "pop" = true := by decide
  simp only [e, evEs, true_and, okE_bind]; with_unfolding_all rfl
theorem mthD_pop0 (z : Bool) (x : D) : mthD c z .list "pop" [] [] [] x env st Q X = okE (popM x [] st) Q X := by
  show ((mtOk .list "pop" = true ∧ ([] : List String) = [] ∧ ([] : List E) = []) ∧ okE (evEs c [] env st) (fun xs st => okE (popM x xs st) Q X) X) = _
  have e : mtOk .list "pop" = true := by decide
  simp only [e, evEs, true_and]; with_unfolding_all rfl
theorem mthD_reverse (z : Bool) (x : D) : mthD c z .list "reverse" [] [] [] x env st Q X = okE (reverseM x [] st) Q X := by
  show ((mtOk .list "reverse" = true ∧ ([] : List String) = [] ∧ ([] : List E) = []) ∧ okE (evEs c [] env st) (fun xs st => okE (reverseM x xs st) Q X) X) = _
  have e : mtOk .list "reverse" = true := by decide
  simp only [e, evEs, true_and]; with_unfolding_all rfl
theorem mthD_get (z : Bool) (a : E) (x : D) : mthD c z .dict "get" [a] [] [] x env st Q X = okE (evE c a env st) (fun y st => okE (dgetM x [y] st) Q X) X := by
  show ((mtOk .dict "get" = true ∧ ([] : List String) = [] ∧ ([] : List E) = []) ∧ okE (evEs c [a] env st) (fun xs st => okE (dgetM x xs st) Q X) X) = _
  have e : mtOk .dict "get" = true := by decide
  simp only [e, evEs, true_and, okE_bind]; with_unfolding_all rfl
theorem mthD_get2 (z : Bool) (a b : E) (x : D) : mthD c z .dict "get" [a, b] [] [] x env st Q X = okE (evE c a env st) (fun y st => okE (evE c b env st) (fun v st => okE (dgetM x [y, v] st) Q X) X) X := by
  show ((mtOk .dict "get" = true ∧ ([] : List String) = [] ∧ ([] : List E) = []) ∧ okE (evEs c [a, b] env st) (fun xs st => okE (dgetM x xs st) Q X) X) = _
  have e : mtOk .dict "get" = true := by decide
  simp only [e, evEs, true_and, okE_bind]; refine okE_ext fun y s => ?_; simp only [okE_bind]; with_unfolding_all rfl
theorem mthD_join (z : Bool) (a : E) (x : D) : mthD c z .str "join" [a] [] [] x env st Q X = okE (evE c a env st) (fun y st => okE (joinM x [y] st) Q X) X := by
  show ((mtOk .str "join" = true ∧ ([] : List String) = [] ∧ ([] : List E) = []) ∧ okE (evEs c [a] env st) (fun xs st => okE (joinM x xs st) Q X) X) = _
  have e : mtOk .str "join" = true := by decide
  simp only [e, evEs, true_and, okE_bind]; with_unfolding_all rfl
theorem mthD_upper (z : Bool) (x : D) : mthD c z .str "upper" [] [] [] x env st Q X = okE (upperM x [] st) Q X := by
  show ((mtOk .str "upper" = true ∧ ([] : List String) = [] ∧ ([] : List E) = []) ∧ okE (evEs c [] env st) (fun xs st => okE (upperM x xs st) Q X) X) = _
  have e : mtOk .str "upper" = true := by decide
  simp only [e, evEs, true_and]; with_unfolding_all rfl
theorem mthD_index (z : Bool) (a : E) (x : D) : mthD c z .list "index" [a] [] [] x env st Q X = okE (evE c a env st) (fun y st => okE (indexM x [y] st) Q X) X := by
  show ((mtOk .list "index" = true ∧ ([] : List String) = [] ∧ ([] : List E) = []) ∧ okE (evEs c [a] env st) (fun xs st => okE (indexM x xs st) Q X) X) = _
  have e : mtOk .list "index" = true := by decide
  simp only [e, evEs, true_and, okE_bind]; with_unfolding_all rfl
theorem ok_step2 (z one : Bool) (a : E) : okE (evE c (.step2 z a one) env st) Q X = okE (evE c a env st) (fun x st => okE (step2D z one x st) Q X) X := by simp only [evE]; (repeat (first | with_unfolding_all rfl | rw [okE_bind] | rw [okT_st] | rw [okE_if] | (refine okE_ext fun _ _ => ?_)))
theorem ok_es_nil (Q : List D → Sto → Prop) : okE (evEs c [] env st) Q X = Q [] st := by simp only [evEs]; (repeat (first | with_unfolding_all rfl | rw [okE_bind] | rw [okT_st] | rw [okE_if] | (refine okE_ext fun _ _ => ?_)))
theorem ok_es_cons (e : E) (es : List E) (Q : List D → Sto → Prop) : okE (evEs c (e :: es) env st) Q X = okE (evE c e env st) (fun x st => okE (evEs c es env st) (fun xs st => Q (x :: xs) st) X) X := by simp only [evEs]; (repeat (first | with_unfolding_all rfl | rw [okE_bind] | rw [okT_st] | rw [okE_if] | (refine okE_ext fun _ _ => ?_)))
theorem ok_ps_nil (Q : List (D × D) → Sto → Prop) : okE (evPs c [] env st) Q X = Q [] st := by simp only [evPs]; (repeat (first | with_unfolding_all rfl | rw [okE_bind] | rw [okT_st] | rw [okE_if] | (refine okE_ext fun _ _ => ?_)))
theorem ok_ps_cons (k v : E) (es : List (E × E)) (Q : List (D × D) → Sto → Prop) : okE (evPs c ((k, v) :: es) env st) Q X = okE (evE c k env st) (fun x st => okE (evE c v env st) (fun y st => okE (evPs c es env st) (fun xs st => Q ((x, y) :: xs) st) X) X) X := by simp only [evPs]; (repeat (first | with_unfolding_all rfl | rw [okE_bind] | rw [okT_st] | rw [okE_if] | (refine okE_ext fun _ _ => ?_)))
theorem ok_fs_nil (acc : List Nat) : okE (evFs c [] acc env st) Q X = Q (.str acc) st := by simp only [evFs]; (repeat (first | with_unfolding_all rfl | rw [okE_bind] | rw [okT_st] | rw [okE_if] | (refine okE_ext fun _ _ => ?_)))
theorem ok_fs_cons (e : E) (es : List E) (acc : List Nat) : okE (evFs c (e :: es) acc env st) Q X = okE (evE c e env st) (fun x st => okE (fmtR acc x st) (fun acc st => okE (evFs c es acc env st) Q X) X) X := by 
  simp only [evFs]
  rw [okE_bind]
  refine okE_ext fun x s => ?_
  unfold fmtR
  cases fmtD x with
  | none => with_unfolding_all rfl
  | some y =>
    dsimp only
    rw [okE_if, okE_if]
    with_unfolding_all rfl
theorem ok_o_none (Q : Option Int → Sto → Prop) : okE (evO c none env st) Q X = Q none st := by simp only [evO]; (repeat (first | with_unfolding_all rfl | rw [okE_bind] | rw [okT_st] | rw [okE_if] | (refine okE_ext fun _ _ => ?_)))
theorem ok_o_some (e : E) (Q : Option Int → Sto → Prop) : okE (evO c (some e) env st) Q X = okE (evE c e env st) (fun x st => okE (someD x st) Q X) X := by simp only [evO]; (repeat (first | with_unfolding_all rfl | rw [okE_bind] | rw [okT_st] | rw [okE_if] | (refine okE_ext fun _ _ => ?_)))
theorem ok_if_none (Q : Bool → Sto → Prop) : okE (evI c none env st) Q X = Q true st := by simp only [evI]; (repeat (first | with_unfolding_all rfl | rw [okE_bind] | rw [okT_st] | rw [okE_if] | (refine okE_ext fun _ _ => ?_)))
theorem ok_if_some (e : E) (Q : Bool → Sto → Prop) : okE (evI c (some e) env st) Q X = okE (evE c e env st) (fun x st => okE (boolD x st) Q X) X := by simp only [evI, okE_bind]; with_unfolding_all rfl
theorem ok_i_e (e : E) (Q : Iv → Sto → Prop) : okE (itE c (.e e) env st) Q X = okE (evE c e env st) (fun x st => okE (ivD x st) Q X) X := by simp only [itE]; (repeat (first | with_unfolding_all rfl | rw [okE_bind] | rw [okT_st] | rw [okE_if] | (refine okE_ext fun _ _ => ?_)))
theorem ok_i_range1 (es : List E) (Q : Iv → Sto → Prop) : okE (itE c (.range1 es) env st) Q X = okE (evEs c es env st) (fun xs st => okE (rng1 xs st) Q X) X := by rw [itE, okE_bind] <;> with_unfolding_all rfl
theorem ok_i_range2 (es : List E) (Q : Iv → Sto → Prop) : okE (itE c (.range2 es) env st) Q X = okE (evEs c es env st) (fun xs st => okE (rng2 xs st) Q X) X := by rw [itE, okE_bind] <;> with_unfolding_all rfl
theorem ok_i_enum (e : E) (Q : Iv → Sto → Prop) : okE (itE c (.enum e) env st) Q X = okE (evE c e env st) (fun x st => okE (enumD x st) Q X) X := by simp only [itE]; (repeat (first | with_unfolding_all rfl | rw [okE_bind] | rw [okT_st] | rw [okE_if] | (refine okE_ext fun _ _ => ?_)))
theorem ok_i_zip (a b : E) (Q : Iv → Sto → Prop) : okE (itE c (.zip a b) env st) Q X = okE (evE c a env st) (fun x st => okE (evE c b env st) (fun y st => okE (zipD x y st) Q X) X) X := by simp only [itE]; (repeat (first | with_unfolding_all rfl | rw [okE_bind] | rw [okT_st] | rw [okE_if] | (refine okE_ext fun _ _ => ?_)))
theorem ok_i_items (e : E) (Q : Iv → Sto → Prop) : okE (itE c (.items e) env st) Q X = okE (evE c e env st) (fun x st => okE (itemsD x st) Q X) X := by simp only [itE]; (repeat (first | with_unfolding_all rfl | rw [okE_bind] | rw [okT_st] | rw [okE_if] | (refine okE_ext fun _ _ => ?_)))
theorem ok_i_vals (e : E) (Q : Iv → Sto → Prop) : okE (itE c (.vals e) env st) Q X = okE (evE c e env st) (fun x st => okE (valsD x st) Q X) X := by simp only [itE]; (repeat (first | with_unfolding_all rfl | rw [okE_bind] | rw [okT_st] | rw [okE_if] | (refine okE_ext fun _ _ => ?_)))
theorem ok_t_name (i : Nat) (d : D) (Q : Env → Sto → Prop) : okE (asT c (.name i) d env st) Q X = Q (env.set i (some d)) st := by simp only [asT]; (repeat (first | with_unfolding_all rfl | rw [okE_bind] | rw [okT_st] | rw [okE_if] | (refine okE_ext fun _ _ => ?_)))
theorem ok_t_tup (ts : List Tg) (xs : List D) (Q : Env → Sto → Prop) : okE (asT c (.tup ts) (.tup xs) env st) Q X = (xs.length = ts.length ∧ okE (asTs c ts xs env st) Q noX) := by simp only [asT]; rw [okE_if, okE_calm]
theorem ok_t_star_tup (p : Nat) (ts : List Tg) (xs : List D) (Q : Env → Sto → Prop) : okE (asT c (.star p ts) (.tup xs) env st) Q X = ((p < ts.length ∧ ts.length ≤ xs.length + 1 ∧ xs.length ≤ 16384) ∧ okE (asTs c ts (starL p ts.length xs (.ref st.length)) env (st ++ [.lst (starM p ts.length xs)])) Q noX) := by simp only [asT, seqOf]; rw [okE_if, okE_calm]
theorem ok_t_star_cl (p : Nat) (ts : List Tg) (xs : List D) (Q : Env → Sto → Prop) : okE (asT c (.star p ts) (.cl xs) env st) Q X = ((p < ts.length ∧ ts.length ≤ xs.length + 1 ∧ xs.length ≤ 16384) ∧ okE (asTs c ts (starL p ts.length xs (.ref st.length)) env (st ++ [.lst (starM p ts.length xs)])) Q noX) := by simp only [asT, seqOf, lstOf]; rw [okE_if, okE_calm]
theorem ok_t_star_ref {n : Nat} {xs : List D} (h : st[n]? = some (.lst xs)) (p : Nat) (ts : List Tg) (Q : Env → Sto → Prop) : okE (asT c (.star p ts) (.ref n) env st) Q X = ((p < ts.length ∧ ts.length ≤ xs.length + 1 ∧ xs.length ≤ 16384) ∧ okE (asTs c ts (starL p ts.length xs (.ref st.length)) env (st ++ [.lst (starM p ts.length xs)])) Q noX) := by simp only [asT, seqOf, lstOf, h]; rw [okE_if, okE_calm]
theorem ok_t_sub (a b : E) (d : D) (Q : Env → Sto → Prop) : okE (asT c (.sub a b) d env st) Q X = okE (evE c a env st) (fun x st => okE (evE c b env st) (fun y st => okE (setD x y d st) (fun _ st => Q env st) X) X) X := by simp only [asT]; (repeat (first | with_unfolding_all rfl | rw [okE_bind] | rw [okT_st] | rw [okE_if] | (refine okE_ext fun _ _ => ?_)))
theorem ok_t_fld (a : E) (f : String) (d : D) (Q : Env → Sto → Prop) : okE (asT c (.fld a f) d env st) Q X = okE (evE c a env st) (fun x st => okE (fldD c.fld x f d st) (fun _ st => Q env st) X) X := by simp only [asT]; (repeat (first | with_unfolding_all rfl | rw [okE_bind] | rw [okT_st] | rw [okE_if] | (refine okE_ext fun _ _ => ?_)))
theorem ok_ts_nil  (Q : Env → Sto → Prop) : okE (asTs c [] [] env st) Q X = Q env st := by simp only [asTs]; (repeat (first | with_unfolding_all rfl | rw [okE_bind] | rw [okT_st] | rw [okE_if] | (refine okE_ext fun _ _ => ?_)))
theorem ok_ts_cons (t : Tg) (ts : List Tg) (d : D) (ds : List D) (Q : Env → Sto → Prop) : okE (asTs c (t :: ts) (d :: ds) env st) Q X = okE (asT c t d env st) (fun env st => okE (asTs c ts ds env st) Q X) X := by simp only [asTs]; (repeat (first | with_unfolding_all rfl | rw [okE_bind] | rw [okT_st] | rw [okE_if] | (refine okE_ext fun _ _ => ?_)))
/-! statements -/
theorem ok_ex (e : E) : okT (exS c (.ex e) env st) N B C Rt XX = okE (evE c e env st) (fun _ st => N env st) (fun c fs st => XX c fs env st) := by simp only [exS]; (repeat (first | with_unfolding_all rfl | rw [okE_bind] | rw [okT_st] | rw [okE_if] | (refine okE_ext fun _ _ => ?_)))
theorem ok_asg (t : Tg) (e : E) : okT (exS c (.asg t e) env st) N B C Rt XX = okE (evE c e env st) (fun x st => okE (asT c t x env st) (fun env st => N env st) (fun c fs st => XX c fs env st)) (fun c fs st => XX c fs env st) := by simp only [exS]; (repeat (first | with_unfolding_all rfl | rw [okE_bind] | rw [okT_st] | rw [okE_if] | (refine okE_ext fun _ _ => ?_)))
theorem ok_ret (e : E) : okT (exS c (.ret e) env st) N B C Rt XX = okE (evE c e env st) Rt (fun c fs st => XX c fs env st) := by simp only [exS]; (repeat (first | with_unfolding_all rfl | rw [okE_bind] | rw [okT_st] | rw [okE_if] | (refine okE_ext fun _ _ => ?_)))
theorem ok_retN  : okT (exS c .retN env st) N B C Rt XX = Rt .non st := by simp only [exS]; (repeat (first | with_unfolding_all rfl | rw [okE_bind] | rw [okT_st] | rw [okE_if] | (refine okE_ext fun _ _ => ?_)))
theorem ok_pass  : okT (exS c .pass env st) N B C Rt XX = N env st := by simp only [exS]; (repeat (first | with_unfolding_all rfl | rw [okE_bind] | rw [okT_st] | rw [okE_if] | (refine okE_ext fun _ _ => ?_)))
theorem ok_sbrk  : okT (exS c .brk env st) N B C Rt XX = B env st := by simp only [exS]; (repeat (first | with_unfolding_all rfl | rw [okE_bind] | rw [okT_st] | rw [okE_if] | (refine okE_ext fun _ _ => ?_)))
theorem ok_scont  : okT (exS c .cont env st) N B C Rt XX = C env st := by simp only [exS]; (repeat (first | with_unfolding_all rfl | rw [okE_bind] | rw [okT_st] | rw [okE_if] | (refine okE_ext fun _ _ => ?_)))
theorem ok_if (t : E) (a b : List S) : okT (exS c (.iff t a b) env st) N B C Rt XX = okE (evE c t env st) (fun x st => ifD x (okT (exSs c a env st) N B C Rt XX) (okT (exSs c b env st) N B C Rt XX)) (fun c fs st => XX c fs env st) := by 
  simp only [exS, okT_st]
  refine okE_ext fun x s => ?_
  cases x with
  | bl b => cases b <;> with_unfolding_all rfl
  | _ => with_unfolding_all rfl
theorem ok_augS (a b : E) (o : Operator) (e : E) : okT (exS c (.augS a b o e) env st) N B C Rt XX = okE (evE c a env st) (fun x st => okE (evE c b env st) (fun y st => okE (getD x y st) (fun z st => okE (evE c e env st) (fun w st => okE (augD o z w st) (fun r st => okE (setD x y r st) (fun _ st => N env st) (fun c fs st => XX c fs env st)) (fun c fs st => XX c fs env st)) (fun c fs st => XX c fs env st)) (fun c fs st => XX c fs env st)) (fun c fs st => XX c fs env st)) (fun c fs st => XX c fs env st) := by simp only [exS]; (repeat (first | with_unfolding_all rfl | rw [okE_bind] | rw [okT_st] | rw [okE_if] | (refine okE_ext fun _ _ => ?_)))
def augV (x : Option (Option D)) (k : D → Prop) [Hd k] : Prop := match x with | some (some d) => k d | _ => False
theorem augV_some (d : D) (k : D → Prop) : augV (some (some d)) k = k d := by with_unfolding_all rfl
theorem ok_aug (i : Nat) (o : Operator) (e : E) : okT (exS c (.aug i o e) env st) N B C Rt XX = augV env[i]? fun d => okE (evE c e env st) (fun y st => okE (augD o d y st) (fun z st => N (env.set i (some z)) st) (fun c fs st => XX c fs env st)) (fun c fs st => XX c fs env st) := by 
  simp only [exS]
  cases env[i]? with
  | none => with_unfolding_all rfl
  | some q =>
    cases q with
    | none => with_unfolding_all rfl
    | some d =>
      dsimp only [augV]
      (repeat (first | with_unfolding_all rfl | rw [okE_bind] | rw [okT_st] | rw [okE_if] | (refine okE_ext fun _ _ => ?_)))
theorem ok_for (t : Tg) (it : It) (b : List S) : okT (exS c (.fr t it b) env st) N B C Rt XX = okE (itE c it env st) (fun iv st => okT (loopS (fun d env st => (asT c t d env st).st env fun env st => exSs c b env st) iv (lenI st iv + 1) 0 env st) N B C Rt XX) (fun c fs st => XX c fs env st) := by simp only [exS]; (repeat (first | with_unfolding_all rfl | rw [okE_bind] | rw [okT_st] | rw [okE_if] | (refine okE_ext fun _ _ => ?_)))
theorem ok_while (t : E) (b : List S) : okT (exS c (.whil t b) env st) N B C Rt XX = okT (whileS (evE c t) (exSs c b) 1048576 env st) N B C Rt XX := by simp only [exS]; (repeat (first | with_unfolding_all rfl | rw [okE_bind] | rw [okT_st] | rw [okE_if] | (refine okE_ext fun _ _ => ?_)))
theorem ok_rais (cl : String) (es : List E) : okT (exS c (.rais cl es) env st) N B C Rt XX = okE (evEs c es env st) (fun xs st => okT (raisT (c.rz cl) cl xs env st) N B C Rt XX) (fun c fs st => XX c fs env st) := by simp only [exS]; (repeat (first | with_unfolding_all rfl | rw [okE_bind] | rw [okT_st] | rw [okE_if] | (refine okE_ext fun _ _ => ?_)))
def trycX (c : Ctx) (cl : String) (i j : Nat) (N : Env → Sto → Prop) [Hd N] : XT := fun e fs env st => match c.exm e cl, fs with | some true, [] => N ((env.set i none).set j (some (.exn e []))) st | _, _ => False
theorem trycX_at (cl : String) (i j : Nat) (e : String) : trycX c cl i j N e [] env st = (c.exm e cl = some true ∧ N ((env.set i none).set j (some (.exn e []))) st) := by
  show (match c.exm e cl, ([] : Fs) with | some true, [] => N ((env.set i none).set j (some (.exn e []))) st | _, _ => False) = _
  cases c.exm e cl with
  | none => with_unfolding_all exact propext ⟨fun h => h.elim, fun h => by cases h.1⟩
  | some b =>
    cases b with
    | false => with_unfolding_all exact propext ⟨fun h => h.elim, fun h => by cases h.1⟩
    | true => with_unfolding_all exact propext ⟨fun h => ⟨rfl, h⟩, fun h => h.2⟩
theorem ok_tryc (b : List S) (cl : String) (i j : Nat) : okT (exS c (.tryc b cl i j) env st) N B C Rt XX = okT (exSs c b env st) N B C Rt (trycX c cl i j N) := by 
  simp only [exS]
  cases exSs c b env st with
  | exc e fs env s =>
    rw [okT_exc]
    unfold trycX
    cases he : c.exm e cl with
    | none => simp only [he]; with_unfolding_all rfl
    | some b => cases b <;> cases fs <;> (simp only [he]; with_unfolding_all rfl)
  | _ => with_unfolding_all rfl
/-- monotone -/
theorem okT_mono {r : RS} {N' B' C' : Env → Sto → Prop} {Rt' : D → Sto → Prop} {XX' : XT} (h : okT r N B C Rt XX) (f1 : ∀ a s, N a s → N' a s) (f2 : ∀ a s, B a s → B' a s) (f3 : ∀ a s, C a s → C' a s) (f4 : ∀ a s, Rt a s → Rt' a s) (f5 : ∀ c fs e s, XX c fs e s → XX' c fs e s) : okT r N' B' C' Rt' XX' := by
  cases r with
  | next e s => with_unfolding_all exact f1 _ _ h
  | brk e s => with_unfolding_all exact f2 _ _ h
  | cont e s => with_unfolding_all exact f3 _ _ h
  | ret e s => with_unfolding_all exact f4 _ _ h
  | exc c fs e s => with_unfolding_all exact f5 _ _ _ _ h
  | no => with_unfolding_all exact h
theorem okT_step {s : S} {r : List S} (Mid : Env → Sto → Prop) (h1 : okT (exS c s env st) Mid B C Rt XX) (h2 : ∀ env st, Mid env st → okT (exSs c r env st) N B C Rt XX) : okT (exSs c (s :: r) env st) N B C Rt XX := by
  rw [okT_cons]
  with_unfolding_all exact okT_mono h1 h2 (fun _ _ h => h) (fun _ _ h => h) (fun _ _ h => h) (fun _ _ _ _ h => h)
/-! calls -/
theorem ok_run {f : Fn} {ds : List D} (h : okT (exSs c f.body (ds.map some ++ List.replicate (f.slots - ds.length) none) st) (fun _ s => Q .non s) (fun _ _ => False) (fun _ _ => False) Q (fun c fs _ s => X c fs s)) : okE (runF c f ds st) Q X := by
  unfold runF
  revert h
  generalize exSs c f.body _ st = o
  intro h
  cases o <;> first | with_unfolding_all exact h | with_unfolding_all exact h.elim
theorem ok_callF {P : Prog} {k : Nat} {f : String} {fn : Fn} {ds : List D} (hf : P.fns.lookup f = some fn) (h : okT (exSs (P.ctx (callF P k) (callM P k)) fn.body (ds.map some ++ List.replicate (fn.slots - ds.length) none) st) (fun _ s => Q .non s) (fun _ _ => False) (fun _ _ => False) Q (fun c fs _ s => X c fs s)) :
    okE (callF P (k + 1) f ds st) Q X := by
  unfold callF
  rw [hf]
  with_unfolding_all exact ok_run h
theorem ok_callM {P : Prog} {k : Nat} {cl f : String} {fn : Fn} {ds : List D} (hf : P.mts.lookup (cl, f) = some fn) (h : okT (exSs (P.ctx (callF P k) (callM P k)) fn.body (ds.map some ++ List.replicate (fn.slots - ds.length) none) st) (fun _ s => Q .non s) (fun _ _ => False) (fun _ _ => False) Q (fun c fs _ s => X c fs s)) :
    okE (callM P (k + 1) cl f ds st) Q X := by
  unfold callM
  rw [hf]
  with_unfolding_all exact ok_run h
/-- it is just this -/
theorem okE_eq {r : R α} {a : α} {s : Sto} (h : okE r (fun x t => x = a ∧ t = s) noX) : r = .ok a s := by
  cases r with
  | ok x t => rw [okE_ok] at h; obtain ⟨rfl, rfl⟩ := h; rfl
  | exc _ _ _ => with_unfolding_all exact h.elim
  | no => with_unfolding_all exact h.elim
theorem okE_eqX {r : R α} {n : String} {fs : Fs} {s : Sto} (h : okE r (fun x t => False) (fun c gs t => c = n ∧ gs = fs ∧ t = s)) : r = .exc n fs s := by
  cases r with
  | ok x t => with_unfolding_all exact h.elim
  | exc _ _ _ => rw [okE_exc] at h; obtain ⟨rfl, rfl, rfl⟩ := h; rfl
  | no => with_unfolding_all exact h.elim
theorem okE_get {r : R α} {Q : α → Sto → Prop} (h : okE r Q noX) : ∃ a s, r = .ok a s ∧ Q a s := by
  cases r with
  | ok x t => with_unfolding_all exact ⟨x, t, rfl, h⟩
  | exc _ _ _ => with_unfolding_all exact h.elim
  | no => with_unfolding_all exact h.elim
/-! loops -/
theorem ok_loop {body : D → Env → Sto → RS} {iv : Iv} (I : Nat → Env → Sto → Prop) (n : Nat) (hs : ∀ i env st, i < n → I i env st → ∃ d, nextI st i iv = some (some d) ∧ okT (body d env st) (I (i + 1)) N (I (i + 1)) Rt XX)
    (he : ∀ env st, I n env st → nextI st n iv = some none ∧ N env st) : ∀ (j : Nat) (i : Nat) (env : Env) (st : Sto) (f : Nat), i + j = n → j < f → I i env st → okT (loopS body iv f i env st) N B C Rt XX := by
  intro j
  induction j with
  | zero =>
    intro i env st f hj hf h
    obtain ⟨f, rfl⟩ : ∃ g, f = g + 1 := ⟨f - 1, by omega⟩
    obtain rfl : i = n := by omega
    obtain ⟨h1, h2⟩ := he _ _ h
    unfold loopS
    rw [h1]
    with_unfolding_all exact h2
  | succ j ih =>
    intro i env st f hj hf h
    obtain ⟨f, rfl⟩ : ∃ g, f = g + 1 := ⟨f - 1, by omega⟩
    obtain ⟨d, h1, h2⟩ := hs i env st (by omega) h
    unfold loopS
    rw [h1]
    revert h2
    dsimp only
    generalize body d env st = o
    intro h2
    cases o with
    | next e s => with_unfolding_all exact ih (i + 1) e s f (by omega) (by omega) h2
    | cont e s => with_unfolding_all exact ih (i + 1) e s f (by omega) (by omega) h2
    | brk e s => with_unfolding_all exact h2
    | ret d s => with_unfolding_all exact h2
    | exc c fs e s => with_unfolding_all exact h2
    | no => with_unfolding_all exact h2
/-- over fixed items -/
theorem ok_loopF {body : D → Env → Sto → RS} {xs : List D} (I : Nat → Env → Sto → Prop) (h0 : I 0 env st) (hs : ∀ i (h : i < xs.length) env st, I i env st → okT (body xs[i] env st) (I (i + 1)) N (I (i + 1)) Rt XX)
    (he : ∀ env st, I xs.length env st → N env st) : okT (loopS body (.fix xs) (xs.length + 1) 0 env st) N B C Rt XX := by
  refine ok_loop I xs.length (fun i env st hi h => ⟨xs[i], by simp [nextI, hi], hs i hi env st h⟩) (fun env st h => ⟨by simp [nextI], he _ _ h⟩) xs.length 0 env st _ (by omega) (by omega) h0
theorem ok_loopC {item : D → Sto → R (Option D)} {iv : Iv} {Q : List D → Sto → Prop} (I : Nat → List D → Sto → Prop) (n : Nat) (hs : ∀ i acc st, i < n → I i acc st → ∃ d, nextI st i iv = some (some d) ∧ okE (item d st) (fun o st' => match o with
      | none => I (i + 1) acc st'
      | some x => acc.length < sl ∧ I (i + 1) (acc ++ [x]) st') noX)
    (he : ∀ acc st, I n acc st → nextI st n iv = some none ∧ Q acc st) : ∀ (j : Nat) (i : Nat) (acc : List D) (st : Sto) (f : Nat), i + j = n → j < f → I i acc st → okE (loopC item iv f i acc st) Q X := by
  intro j
  induction j with
  | zero =>
    intro i acc st f hj hf h
    obtain ⟨f, rfl⟩ : ∃ g, f = g + 1 := ⟨f - 1, by omega⟩
    obtain rfl : i = n := by omega
    obtain ⟨h1, h2⟩ := he _ _ h
    unfold loopC
    rw [h1]
    with_unfolding_all exact h2
  | succ j ih =>
    intro i acc st f hj hf h
    obtain ⟨f, rfl⟩ : ∃ g, f = g + 1 := ⟨f - 1, by omega⟩
    obtain ⟨d, h1, h2⟩ := hs i acc st (by omega) h
    unfold loopC
    rw [h1]
    revert h2
    dsimp only
    generalize item d st = o
    intro h2
    cases o with
    | ok o s =>
      cases o with
      | none => with_unfolding_all exact ih (i + 1) acc s f (by omega) (by omega) h2
      | some x =>
        obtain ⟨h3, h4⟩ : acc.length < sl ∧ I (i + 1) (acc ++ [x]) s := by with_unfolding_all exact h2
        dsimp only
        rw [if_pos h3]
        with_unfolding_all exact ih (i + 1) (acc ++ [x]) s f (by omega) (by omega) h4
    | exc c fs s => with_unfolding_all exact h2.elim
    | no => with_unfolding_all exact h2
theorem ok_loopD {item : D → Sto → R (Option (D × D))} {iv : Iv} {Q : List (D × D) → Sto → Prop} (I : Nat → List (D × D) → Sto → Prop) (n : Nat) (hs : ∀ i acc st, i < n → I i acc st → ∃ d, nextI st i iv = some (some d) ∧ okE (item d st) (fun o st' => match o with
      | none => I (i + 1) acc st'
      | some x => (keyOk x.1 = true ∧ acc.length < sl) ∧ I (i + 1) (putK acc x.1 x.2) st') noX)
    (he : ∀ acc st, I n acc st → nextI st n iv = some none ∧ Q acc st) : ∀ (j : Nat) (i : Nat) (acc : List (D × D)) (st : Sto) (f : Nat), i + j = n → j < f → I i acc st → okE (loopD item iv f i acc st) Q X := by
  intro j
  induction j with
  | zero =>
    intro i acc st f hj hf h
    obtain ⟨f, rfl⟩ : ∃ g, f = g + 1 := ⟨f - 1, by omega⟩
    obtain rfl : i = n := by omega
    obtain ⟨h1, h2⟩ := he _ _ h
    unfold loopD
    rw [h1]
    with_unfolding_all exact h2
  | succ j ih =>
    intro i acc st f hj hf h
    obtain ⟨f, rfl⟩ : ∃ g, f = g + 1 := ⟨f - 1, by omega⟩
    obtain ⟨d, h1, h2⟩ := hs i acc st (by omega) h
    unfold loopD
    rw [h1]
    revert h2
    dsimp only
    generalize item d st = o
    intro h2
    cases o with
    | ok o s =>
      cases o with
      | none => with_unfolding_all exact ih (i + 1) acc s f (by omega) (by omega) h2
      | some x =>
        obtain ⟨h3, h4⟩ : (keyOk x.1 = true ∧ acc.length < sl) ∧ I (i + 1) (putK acc x.1 x.2) s := by with_unfolding_all exact h2
        dsimp only
        rw [if_pos h3]
        with_unfolding_all exact ih (i + 1) (putK acc x.1 x.2) s f (by omega) (by omega) h4
    | exc c fs s => with_unfolding_all exact h2.elim
    | no => with_unfolding_all exact h2
/-- over items of a kind, each without an effect on the store -/
theorem ok_compM {γ : Type} {item : D → Sto → R (Option D)} {xs : List γ} {enc : γ → D} {g : γ → Option D} {Q : List D → Sto → Prop} (hl : xs.length ≤ sl) (hi : ∀ a ∈ xs, okE (item (enc a) st) (fun o s => o = g a ∧ s = st) noX) (h : Q (xs.filterMap g) st) : okE (loopC item (.fix (xs.map enc)) (xs.length + 1) 0 [] st) Q X := by
  refine ok_loopC (fun i acc s => s = st ∧ acc = (xs.take i).filterMap g) xs.length (fun i acc s hi' ⟨h1, h2⟩ => ?_) (fun acc s ⟨h1, h2⟩ => ?_) xs.length 0 [] st _ (by omega) (by omega) ⟨rfl, rfl⟩
  · subst h1 h2
    refine ⟨enc xs[i], by simp [nextI, hi'], okE_mono (hi _ (List.getElem_mem hi')) ?_⟩
    rintro o s ⟨rfl, rfl⟩
    have e : xs.take (i + 1) = xs.take i ++ [xs[i]] := by rw [List.take_succ_eq_append_getElem hi']
    have len : ((xs.take i).filterMap g).length ≤ i := Nat.le_trans (List.length_filterMap_le _ _) (by rw [List.length_take]; omega)
    cases hg : g xs[i] with
    | none => with_unfolding_all exact ⟨rfl, by rw [e, List.filterMap_append]; simp [hg]⟩
    | some x => with_unfolding_all exact ⟨by omega, rfl, by rw [e, List.filterMap_append]; simp [hg]⟩
  · subst h1 h2
    with_unfolding_all exact ⟨by simp [nextI], by rw [List.take_length]; with_unfolding_all exact h⟩
/-- .. over a cell's -/
theorem ok_compR {γ : Type} {item : D → Sto → R (Option D)} {n : Nat} {xs : List γ} {enc : γ → D} {g : γ → Option D} {Q : List D → Sto → Prop} (hn : st[n]? = some (.lst (xs.map enc))) (hl : xs.length ≤ sl) (hi : ∀ a ∈ xs, okE (item (enc a) st) (fun o s => o = g a ∧ s = st) noX) (h : Q (xs.filterMap g) st) : okE (loopC item (.cell n) (lenI st (.cell n) + 1) 0 [] st) Q X := by
  have le : lenI st (.cell n) = xs.length := by unfold lenI; simp only [hn, List.length_map]
  rw [le]
  refine ok_loopC (fun i acc s => s = st ∧ acc = (xs.take i).filterMap g) xs.length (fun i acc s hi' ⟨h1, h2⟩ => ?_) (fun acc s ⟨h1, h2⟩ => ?_) xs.length 0 [] st _ (by omega) (by omega) ⟨rfl, rfl⟩
  · subst h1 h2
    refine ⟨enc xs[i], by simp [nextI, hn, hi'], okE_mono (hi _ (List.getElem_mem hi')) ?_⟩
    rintro o s ⟨rfl, rfl⟩
    have e : xs.take (i + 1) = xs.take i ++ [xs[i]] := by rw [List.take_succ_eq_append_getElem hi']
    have len : ((xs.take i).filterMap g).length ≤ i := Nat.le_trans (List.length_filterMap_le _ _) (by rw [List.length_take]; omega)
    cases hg : g xs[i] with
    | none => with_unfolding_all exact ⟨rfl, by rw [e, List.filterMap_append]; simp [hg]⟩
    | some x => with_unfolding_all exact ⟨by omega, rfl, by rw [e, List.filterMap_append]; simp [hg]⟩
  · subst h1 h2
    with_unfolding_all exact ⟨by simp [nextI, hn], by rw [List.take_length]; with_unfolding_all exact h⟩
theorem ok_whileT {test : Env → Sto → R D} {body : Env → Sto → RS} (I : Nat → Env → Sto → Prop)
    (hs : ∀ m env st, I m env st → okE (test env st) (fun x s => ∃ b, x = .bl b ∧ (b = true → okT (body env s) (fun e s => ∃ j, j < m ∧ I j e s) N (fun e s => ∃ j, j < m ∧ I j e s) Rt XX) ∧ (b = false → N env s)) noX) :
    ∀ (f m : Nat) (env : Env) (st : Sto), m < f → I m env st → okT (whileS test body f env st) N B C Rt XX := by
  intro f
  induction f with
  | zero => intro m env st h; omega
  | succ f ih =>
    intro m env st hm h
    have q := hs m env st h
    unfold whileS
    revert q
    generalize test env st = r
    intro q
    cases r with
    | no => with_unfolding_all exact q.elim
    | exc _ _ _ => with_unfolding_all exact q.elim
    | ok x s =>
      rw [okE_ok] at q
      obtain ⟨b, rfl, h1, h2⟩ := q
      cases b with
      | false => with_unfolding_all exact h2 rfl
      | true =>
        have z := h1 rfl
        revert z
        dsimp only
        generalize body env s = o
        intro z
        cases o with
        | next e s =>
          obtain ⟨j, hj, hI⟩ : ∃ j, j < m ∧ I j e s := by with_unfolding_all exact z
          with_unfolding_all exact ih j e s (by omega) hI
        | cont e s =>
          obtain ⟨j, hj, hI⟩ : ∃ j, j < m ∧ I j e s := by with_unfolding_all exact z
          with_unfolding_all exact ih j e s (by omega) hI
        | brk e s => with_unfolding_all exact z
        | ret d s => with_unfolding_all exact z
        | exc _ _ _ _ => with_unfolding_all exact z
        | no => with_unfolding_all exact z
end
/-! stores -/
theorem get_app {st : Sto} {o : O} {i : Nat} {x : O} (h : st[i]? = some x) : (st ++ [o])[i]? = some x := by
  rw [List.getElem?_append_left (List.getElem?_eq_some_iff.mp h).1]
  with_unfolding_all exact h
theorem get_new (st : Sto) (o : O) : (st ++ [o])[st.length]? = some o := by simp
end Mi

set_option linter.all false
set_option maxRecDepth 100000
/-! V19: values, by rules for simp. -/
namespace Mi
open PySem
/-! ### the same value -/
mutual
theorem eqDB_refl : ∀ a : D, eqDB a a = true
  | .non => by simp [eqDB]
  | .bl _ => by simp [eqDB]
  | .int _ => by simp [eqDB]
  | .str _ => by simp [eqDB]
  | .ref _ => by simp [eqDB]
  | .fn _ => by simp [eqDB]
  | .ty _ => by simp [eqDB]
  | .tup x => by simp only [eqDB]; exact eqDsB_refl x
  | .cl x => by simp only [eqDB]; exact eqDsB_refl x
  | .cd x => by simp only [eqDB]; exact eqKsB_refl x
  | .exn c x => by simp only [eqDB, decide_true, Bool.true_and]; exact eqFsB_refl x
theorem eqDsB_refl : ∀ a : List D, eqDsB a a = true
  | [] => by simp [eqDsB]
  | x :: r => by simp only [eqDsB, Bool.and_eq_true]; exact ⟨eqDB_refl x, eqDsB_refl r⟩
theorem eqKsB_refl : ∀ a : List (D × D), eqKsB a a = true
  | [] => by simp [eqKsB]
  | (x, y) :: r => by simp only [eqKsB, Bool.and_eq_true]; exact ⟨⟨eqDB_refl x, eqDB_refl y⟩, eqKsB_refl r⟩
theorem eqFsB_refl : ∀ a : List (String × D), eqFsB a a = true
  | [] => by simp [eqFsB]
  | (x, y) :: r => by simp only [eqFsB, Bool.and_eq_true, decide_true, true_and]; exact ⟨eqDB_refl y, eqFsB_refl r⟩
end
theorem eqDB_iff (a b : D) : eqDB a b = true ↔ a = b := ⟨eqDB_eq, fun h => h ▸ eqDB_refl a⟩
instance decD : DecidableEq D := fun a b => decidable_of_iff _ (eqDB_iff a b)
theorem eqOB_refl (o : O) : eqOB o o = true := by
  cases o with
  | lst xs => exact eqDsB_refl xs
  | dct k => exact eqKsB_refl k
  | obj c fs => simp only [eqOB, decide_true, Bool.true_and]; exact eqFsB_refl fs
/-! ### cells behind a call -/
theorem keptB_of : ∀ (n : Nat) (s t : Sto), s.length ≤ t.length → (∀ (i : Nat) (o p : O), s[i]? = some o → t[i]? = some p → o = p ∨ cleanO n p = true) → keptB n s t = true
  | n, [], t, _, _ => by simp [keptB]
  | n, o :: r, [], h, _ => by simp at h
  | n, o :: r, p :: t, h, f => by
    simp only [keptB, Bool.and_eq_true, Bool.or_eq_true]
    refine ⟨?_, keptB_of n r t (by simpa using h) fun i a b ha hb => f (i + 1) a b (by simpa using ha) (by simpa using hb)⟩
    rcases f 0 o p rfl rfl with h | h
    · exact .inl (h ▸ eqOB_refl o)
    · exact .inr h
/-- st1 is st, some cells changed to what knows of no new cell -/
structure Kept (st st1 : Sto) : Prop where
  len : st1.length = st.length
  at_ : ∀ (i : Nat) (o p : O), st[i]? = some o → st1[i]? = some p → o = p ∨ cleanO st.length p = true
theorem Kept.refl (st : Sto) : Kept st st := ⟨rfl, fun i o p h k => .inl (by rw [h] at k; exact Option.some.inj k)⟩
theorem Kept.set {st st1 : Sto} (k : Kept st st1) {u : Nat} {w : O} (h : cleanO st.length w = true) : Kept st (st1.set u w) := by
  refine ⟨by rw [List.length_set]; exact k.len, fun i o p ho hp => ?_⟩
  by_cases e : u = i
  · subst e
    rw [List.getElem?_set_self'] at hp
    cases hq : st1[u]? with
    | none => rw [hq] at hp; cases hp
    | some q => rw [hq] at hp; cases hp; exact .inr h
  · rw [List.getElem?_set_ne e] at hp
    exact k.at_ i o p ho hp
theorem Kept.trans {a b c : Sto} (h : Kept a b) (k : Kept b c) : Kept a c := by
  refine ⟨k.len.trans h.len, fun i o p ho hp => ?_⟩
  have hi : i < b.length := by rw [h.len]; exact (List.getElem?_eq_some_iff.mp ho).1
  have hb : b[i]? = some b[i] := List.getElem?_eq_getElem hi
  rcases k.at_ i _ p hb hp with e | e
  · rw [e] at hb; exact h.at_ i o p ho hb
  · rw [h.len] at e; exact .inr e
theorem Kept.put {st : Sto} {u : Nat} {a b : O} (h : cleanO st.length b = true) : Kept (st.set u a) (st.set u b) := by
  have := (Kept.refl (st.set u a)).set (u := u) (w := b) (by rw [List.length_set]; exact h)
  rw [List.set_set] at this
  exact this
theorem Kept.b {st st1 : Sto} (k : Kept st st1) (t : Sto) : keptB st.length st (st1 ++ t) = true :=
  keptB_of _ _ _ (by rw [List.length_append, k.len]; omega) fun i o p ho hp => by
    have hi := (List.getElem?_eq_some_iff.mp ho).1
    rw [List.getElem?_append_left (by rw [k.len]; exact hi)] at hp
    exact k.at_ i o p ho hp
theorem Kept.take {st st1 : Sto} (k : Kept st st1) (t : Sto) : (st1 ++ t).take st.length = st1 := by rw [← k.len]; simp
/-- a value comes back -/
def gQ (st : Sto) (Q : D → Sto → Prop) (d : D) (s : Sto) : Prop := ∃ st1 t, s = st1 ++ t ∧ Kept st st1 ∧ cleanD st.length d = true ∧ Q d st1
/-- a fresh list, that is fixed then -/
def gL (st : Sto) (Q : D → Sto → Prop) (d : D) (s : Sto) : Prop := ∃ st1 t k xs, s = st1 ++ t ∧ Kept st st1 ∧ d = .ref k ∧ st.length ≤ k ∧ s[k]? = some (.lst xs) ∧ cleanDs st.length xs = true ∧ Q (.cl xs) st1
def gK (st : Sto) (Q : D → Sto → Prop) (d : D) (s : Sto) : Prop := ∃ st1 t k xs, s = st1 ++ t ∧ Kept st st1 ∧ d = .ref k ∧ st.length ≤ k ∧ s[k]? = some (.dct xs) ∧ cleanKs st.length xs = true ∧ Q (.cd xs) st1
def gX (st : Sto) (X : XQ) : XQ := fun c fs s => ∃ st1 t, s = st1 ++ t ∧ Kept st st1 ∧ fs = [] ∧ X c [] st1
theorem gQ_nil {st st1 : Sto} {Q : D → Sto → Prop} {d : D} (k : Kept st st1) (c : cleanD st.length d = true) (h : Q d st1) : gQ st Q d st1 := ⟨st1, [], (List.append_nil _).symm, k, c, h⟩
theorem gQ_app {st st1 : Sto} {Q : D → Sto → Prop} {d : D} (t : Sto) (k : Kept st st1) (c : cleanD st.length d = true) (h : Q d st1) : gQ st Q d (st1 ++ t) := ⟨st1, t, rfl, k, c, h⟩
theorem gX_nil {st st1 : Sto} {X : XQ} {c : String} (k : Kept st st1) (h : X c [] st1) : gX st X c [] st1 := ⟨st1, [], (List.append_nil _).symm, k, rfl, h⟩
theorem gX_app {st st1 : Sto} {X : XQ} {c : String} (t : Sto) (k : Kept st st1) (h : X c [] st1) : gX st X c [] (st1 ++ t) := ⟨st1, t, rfl, k, rfl, h⟩
section
variable {st : Sto} {r : R D} {Q : D → Sto → Prop} {X : XQ} {m : Nat}
theorem ok_gc0 : okE (gcR 0 st r) Q X = okE r Q X := by unfold gcR; rfl
theorem ok_gcv (h : okE r (gQ st Q) (gX st X)) : okE (gcR (m + 1) st r) Q X := by
  cases r with
  | no => rw [okE_no] at h; exact h.elim
  | exc c fs s =>
    rw [okE_exc] at h
    obtain ⟨st1, t, rfl, k, rfl, h⟩ := h
    unfold gcR
    have e : cleanFs st.length ([] : List (String × D)) = true := by unfold cleanFs; rfl
    simp only [k.b, e, and_self, if_true, k.take]
    with_unfolding_all exact h
  | ok d s =>
    rw [okE_ok] at h
    obtain ⟨st1, t, rfl, k, c, h⟩ := h
    unfold gcR
    simp only [k.b, c, if_true, k.take]
    with_unfolding_all exact h
theorem cleanDs_at {n : Nat} : ∀ {xs : List D}, cleanDs n xs = true ↔ ∀ d ∈ xs, cleanD n d = true
  | [] => by simp [cleanDs]
  | x :: r => by simp [cleanDs, cleanDs_at (xs := r)]
theorem ok_gcl (h : okE r (gL st Q) (gX st X)) : okE (gcR 2 st r) Q X := by
  cases r with
  | no => rw [okE_no] at h; exact h.elim
  | exc c fs s =>
    rw [okE_exc] at h
    obtain ⟨st1, t, rfl, k, rfl, h⟩ := h
    unfold gcR
    have e : cleanFs st.length ([] : List (String × D)) = true := by unfold cleanFs; rfl
    simp only [k.b, e, and_self, if_true, k.take]
    with_unfolding_all exact h
  | ok d s =>
    rw [okE_ok] at h
    obtain ⟨st1, t, n, xs, rfl, k, rfl, c, a, q, h⟩ := h
    unfold gcR
    have e : cleanD st.length (.ref n) = false := by unfold cleanD; exact decide_eq_false (by omega)
    simp only [k.b, e, if_true, Bool.false_eq_true, if_false, a, c, q, and_self, k.take]
    with_unfolding_all exact h
theorem ok_gck (h : okE r (gK st Q) (gX st X)) : okE (gcR 2 st r) Q X := by
  cases r with
  | no => rw [okE_no] at h; exact h.elim
  | exc c fs s =>
    rw [okE_exc] at h
    obtain ⟨st1, t, rfl, k, rfl, h⟩ := h
    unfold gcR
    have e : cleanFs st.length ([] : List (String × D)) = true := by unfold cleanFs; rfl
    simp only [k.b, e, and_self, if_true, k.take]
    with_unfolding_all exact h
  | ok d s =>
    rw [okE_ok] at h
    obtain ⟨st1, t, n, xs, rfl, k, rfl, c, a, q, h⟩ := h
    unfold gcR
    have e : cleanD st.length (.ref n) = false := by unfold cleanD; exact decide_eq_false (by omega)
    simp only [k.b, e, if_true, Bool.false_eq_true, if_false, a, c, q, and_self, k.take]
    with_unfolding_all exact h
/-- a value that knows of no cell, the cells as they were -/
theorem gc_ok {d : D} (c : cleanD st.length d = true) : gcR (m + 1) st (.ok d st) = .ok d st := by
  unfold gcR
  have := (Kept.refl st).b []
  rw [List.append_nil] at this
  simp only [this, c, if_true, List.take_length]
theorem gc_exc {c : String} : gcR (m + 1) st (.exc c [] st) = .exc c [] st := by
  unfold gcR
  have := (Kept.refl st).b []
  have e : cleanFs st.length ([] : List (String × D)) = true := by unfold cleanFs; rfl
  rw [List.append_nil] at this
  simp only [this, e, and_self, if_true, List.take_length]
end
theorem pure_gc {st : Sto} {r : R D} {m : Nat} {d : D} (c : cleanD st.length d = true) (h : okE r (fun x t => x = d ∧ t = st) noX) : gcR (m + 1) st r = .ok d st := by
  rw [okE_eq h]; exact gc_ok c
theorem chg_gc {st st1 : Sto} {r : R D} {m : Nat} {d : D} (k : Kept st st1) (c : cleanD st.length d = true) (h : okE r (fun x t => x = d ∧ t = st1) noX) : gcR (m + 1) st r = .ok d st1 := by
  refine okE_eq (ok_gcv (okE_monoX h (fun a s q => ?_) (fun _ _ _ q => q.elim)))
  obtain ⟨rfl, rfl⟩ := q
  exact gQ_nil k c ⟨rfl, rfl⟩
theorem pure_gcX {st : Sto} {r : R D} {m : Nat} {n : String} (h : okE r (fun _ _ => False) (fun c fs t => c = n ∧ fs = [] ∧ t = st)) : gcR (m + 1) st r = .exc n [] st := by
  rw [okE_eqX h]; exact gc_exc
theorem pure_gcj {st : Sto} {r : R D} {m : Nat} {d : D} (c : cleanD st.length d = true) (h : okE r (fun x t => x = d ∧ ∃ tt, t = st ++ tt) noX) : gcR (m + 1) st r = .ok d st := by
  refine okE_eq (ok_gcv (okE_monoX h (fun a s q => ?_) (fun _ _ _ q => q.elim)))
  obtain ⟨rfl, tt, rfl⟩ := q
  exact gQ_app tt (.refl _) c ⟨rfl, rfl⟩
theorem pure_gcl {st : Sto} {r : R D} {xs : List D} (c : cleanDs st.length xs = true) (h : okE r (fun x t => ∃ n tt, x = .ref n ∧ st.length ≤ n ∧ t = st ++ tt ∧ t[n]? = some (.lst xs)) noX) : gcR 2 st r = .ok (.cl xs) st := by
  refine okE_eq (ok_gcl (okE_monoX h (fun a s q => ?_) (fun _ _ _ q => q.elim)))
  obtain ⟨n, tt, rfl, hn, rfl, hx⟩ := q
  exact ⟨st, tt, n, xs, rfl, .refl _, rfl, hn, hx, c, rfl, rfl⟩
theorem clean_non (n : Nat) : cleanD n .non = true := by simp [cleanD]
theorem clean_bl (n : Nat) (b : Bool) : cleanD n (.bl b) = true := by simp [cleanD]
theorem clean_int (n : Nat) (b : Int) : cleanD n (.int b) = true := by simp [cleanD]
theorem clean_str (n : Nat) (b : List Nat) : cleanD n (.str b) = true := by simp [cleanD]
theorem clean_ref (n m : Nat) : cleanD n (.ref m) = decide (m < n) := by simp [cleanD]
theorem clean_tup (n : Nat) (b : List D) : cleanD n (.tup b) = cleanDs n b := by simp [cleanD]
theorem clean_cl (n : Nat) (b : List D) : cleanD n (.cl b) = cleanDs n b := by simp [cleanD]
theorem clean_cd (n : Nat) (b : List (D × D)) : cleanD n (.cd b) = cleanKs n b := by simp [cleanD]
theorem clean_exn (n : Nat) (c : String) : cleanD n (.exn c []) = true := by simp [cleanD, cleanFs]
theorem clean_nil (n : Nat) : cleanDs n [] = true := by simp [cleanDs]
theorem clean_cons (n : Nat) (x : D) (r : List D) : cleanDs n (x :: r) = (cleanD n x && cleanDs n r) := by simp [cleanDs]
theorem clean_app (n : Nat) : ∀ (x r : List D), cleanDs n (x ++ r) = (cleanDs n x && cleanDs n r)
  | [], r => by simp [cleanDs]
  | x :: s, r => by simp [cleanDs, clean_app n s r, Bool.and_assoc]
theorem clean_map {α : Type} {n : Nat} {f : α → D} (h : ∀ a, cleanD n (f a) = true) (l : List α) : cleanDs n (l.map f) = true := by
  rw [cleanDs_at]
  intro d hd
  obtain ⟨a, _, rfl⟩ := List.mem_map.mp hd
  exact h a
theorem clean_strs (n : Nat) (l : List (List Nat)) : cleanDs n (l.map .str) = true := clean_map (clean_str n) l
theorem clean_ints (n : Nat) (l : List Int) : cleanDs n (l.map .int) = true := clean_map (clean_int n) l
theorem clean_kmap {α : Type} {n : Nat} {f : α → D × D} (h : ∀ a, cleanD n (f a).1 = true ∧ cleanD n (f a).2 = true) : ∀ l : List α, cleanKs n (l.map f) = true
  | [] => by simp [cleanKs]
  | x :: r => by
    rw [List.map_cons]
    have e := clean_kmap h r
    obtain ⟨h1, h2⟩ := h x
    revert h1 h2
    cases f x with
    | mk a b => intro h1 h2; simp only [cleanKs, h1, h2, e, Bool.and_self]
theorem cleanO_lst (n : Nat) (xs : List D) : cleanO n (.lst xs) = cleanDs n xs := (rfl)
theorem cleanO_dct (n : Nat) (xs : List (D × D)) : cleanO n (.dct xs) = cleanKs n xs := (rfl)
theorem cleanO_obj (n : Nat) (c : String) (xs : Fs) : cleanO n (.obj c xs) = cleanFs n xs := (rfl)
theorem cleanFs_nil (n : Nat) : cleanFs n [] = true := by simp [cleanFs]
theorem cleanFs_cons (n : Nat) (c : String) (d : D) (r : Fs) : cleanFs n ((c, d) :: r) = (cleanD n d && cleanFs n r) := by simp [cleanFs]
theorem cleanKs_nil (n : Nat) : cleanKs n [] = true := by simp [cleanKs]
theorem cleanKs_cons (n : Nat) (c : D) (d : D) (r : List (D × D)) : cleanKs n ((c, d) :: r) = (cleanD n c && cleanD n d && cleanKs n r) := by simp [cleanKs]
theorem cleanKs_app (n : Nat) : ∀ (x r : List (D × D)), cleanKs n (x ++ r) = (cleanKs n x && cleanKs n r)
  | [], r => by simp [cleanKs]
  | (a, b) :: s, r => by simp [cleanKs, cleanKs_app n s r, Bool.and_assoc]
theorem cleanKs_map (n : Nat) {α : Type} (f g : α → D) (hf : ∀ a, cleanD n (f a) = true) (hg : ∀ a, cleanD n (g a) = true) (l : List α) : cleanKs n (l.map fun a => (f a, g a)) = true := clean_kmap (fun a => ⟨hf a, hg a⟩) l
end Mi

set_option linter.all false
set_option maxRecDepth 100000
/-! V20: values, by rules for simp. -/
namespace Mi
open PySem
/-! ### plain data: no truths, no cells -/
def pl : Nat → D → Bool
  | 0, _ => false
  | _ + 1, .non => true
  | _ + 1, .int _ => true
  | _ + 1, .str _ => true
  | n + 1, .tup xs => xs.all (pl n)
  | n + 1, .cl xs => xs.all (pl n)
  | _ + 1, _ => false
def py : Nat → D → PyData
  | 0, _ => .none
  | _ + 1, .int i => .int i
  | _ + 1, .str x => .str ⟨x.toArray⟩
  | n + 1, .tup xs => .tuple (xs.map (py n))
  | n + 1, .cl xs => .list (xs.map (py n))
  | _ + 1, _ => .none
theorem mapO_of {α β : Type} {f : α → Option β} {g : α → β} : ∀ {xs : List α}, (∀ x ∈ xs, f x = some (g x)) → mapO f xs = some (xs.map g)
  | [], _ => rfl
  | x :: xs, h => by
    unfold mapO
    rw [h x (List.mem_cons_self), mapO_of (fun y hy => h y (List.mem_cons_of_mem _ hy))]
    rfl
theorem toPy_pl (st : Sto) : ∀ (n : Nat) (d : D), pl n d = true → toPy st n d = some (py n d)
  | 0, d, h => by simp [pl] at h
  | n + 1, .non, h => rfl
  | n + 1, .int i, h => rfl
  | n + 1, .str i, h => rfl
  | n + 1, .tup xs, h => by
    simp only [pl, List.all_eq_true] at h
    show (mapO (toPy st n) xs).map PyData.tuple = _
    rw [mapO_of fun x hx => toPy_pl st n x (h x hx)]
    rfl
  | n + 1, .cl xs, h => by
    simp only [pl, List.all_eq_true] at h
    show (mapO (toPy st n) xs).map PyData.list = _
    rw [mapO_of fun x hx => toPy_pl st n x (h x hx)]
    rfl
  | n + 1, .bl b, h => by simp [pl] at h
  | n + 1, .ref b, h => by simp [pl] at h
  | n + 1, .cd b, h => by simp [pl] at h
  | n + 1, .exn _ _, h => by simp [pl] at h
  | n + 1, .fn b, h => by simp [pl] at h
  | n + 1, .ty b, h => by simp [pl] at h
theorem beqS (x y : List Nat) : ((⟨x.toArray⟩ : Str) == ⟨y.toArray⟩) = decide (x = y) := by
  by_cases h : x = y
  · subst h; simp
  · rw [decide_eq_false h, beq_eq_false_iff_ne]
    intro e
    apply h
    have := congrArg (fun s : Str => s.cps.toList) e
    simpa using this
theorem eqvs {n : Nat} (ih : ∀ a b : D, pl n a = true → pl n b = true → PyData.eqv (py n a) (py n b) = decide (a = b)) : ∀ xs ys : List D, (∀ x ∈ xs, pl n x = true) → (∀ x ∈ ys, pl n x = true) → PyData.eqvAll (xs.map (py n)) (ys.map (py n)) = decide (xs = ys)
  | [], [], _, _ => rfl
  | [], _ :: _, _, _ => rfl
  | _ :: _, [], _, _ => rfl
  | x :: xs, y :: ys, h, k => by
    show (PyData.eqv (py n x) (py n y) && PyData.eqvAll (xs.map (py n)) (ys.map (py n))) = _
    rw [ih x y (h x List.mem_cons_self) (k y List.mem_cons_self), eqvs ih xs ys (fun z hz => h z (List.mem_cons_of_mem _ hz)) (fun z hz => k z (List.mem_cons_of_mem _ hz))]
    by_cases e : x = y <;> simp [e]
theorem eqv_pl : ∀ (n : Nat) (a b : D), pl n a = true → pl n b = true → PyData.eqv (py n a) (py n b) = decide (a = b)
  | 0, a, b, h, _ => by simp [pl] at h
  | n + 1, a, b, h, k => by
    cases a <;> cases b <;> first
      | (simp [pl] at h; done)
      | (simp [pl] at k; done)
      | rfl
      | (simp [py, PyData.eqv]; done)
      | (simp only [py, PyData.eqv, beqS, D.str.injEq]; done)
      | (simp only [pl, List.all_eq_true] at h k
         simp only [D.tup.injEq, D.cl.injEq]
         exact eqvs (eqv_pl n) _ _ h k)
      | (simp [py, PyData.eqv, reduceCtorEq]; done)
      | (rename_i i j
         show (i == j) = _
         by_cases e : i = j
         · subst e; simp
         · simp [e])
theorem eqD_pl {st : Sto} {a b : D} (h : pl 60 a = true) (k : pl 60 b = true) : eqD st a b = some (decide (a = b)) := by
  unfold eqD
  rw [toPy_pl st 60 a h, toPy_pl st 60 b k]
  exact congrArg some (eqv_pl 60 a b h k)
theorem inSeq_pl {st : Sto} {a : D} {xs : List D} (h : pl 59 a = true) (k : xs.all (pl 59) = true) : inSeq st a xs = some (decide (a ∈ xs)) := by
  unfold inSeq
  rw [List.all_eq_true] at k
  rw [toPy_pl st 59 a h, mapO_of fun x hx => toPy_pl st 59 x (k x hx)]
  refine congrArg some ?_
  rw [List.any_map]
  induction xs with
  | nil => simp
  | cons x xs ih =>
    rw [List.any_cons, ih fun y hy => k y (List.mem_cons_of_mem _ hy)]
    have e : (fun z => (PyData.eqv z (py 59 a))) (py 59 x) = decide (x = a) := eqv_pl 59 x a (k x List.mem_cons_self) h
    have e : PyData.eqv (py 59 x) (py 59 a) = decide (x = a) := e
    show (PyData.eqv (py 59 x) (py 59 a) || decide (a ∈ xs)) = _
    rw [e]
    by_cases q : x = a
    · subst q; simp
    · have q' : ¬ a = x := fun z => q z.symm
      simp [q, q']
theorem pl_non (n : Nat) : pl (n + 1) .non = true := (rfl)
theorem pl_int (n : Nat) (i : Int) : pl (n + 1) (.int i) = true := (rfl)
theorem pl_str (n : Nat) (i : List Nat) : pl (n + 1) (.str i) = true := (rfl)
theorem pl_tup (n : Nat) (i : List D) : pl (n + 1) (.tup i) = i.all (pl n) := (rfl)
theorem pl_cl (n : Nat) (i : List D) : pl (n + 1) (.cl i) = i.all (pl n) := (rfl)
theorem pl_map {α : Type} {n : Nat} {f : α → D} (h : ∀ a, pl n (f a) = true) (l : List α) : (l.map f).all (pl n) = true := by
  rw [List.all_map, List.all_eq_true]; exact fun a _ => h a
theorem pl_strs (n : Nat) (l : List (List Nat)) : (l.map D.str).all (pl (n + 1)) = true := pl_map (pl_str n) l
theorem pl_ints (n : Nat) (l : List Int) : (l.map D.int).all (pl (n + 1)) = true := pl_map (pl_int n) l
section
variable {α : Type} {st : Sto} {Q : D → Sto → Prop} {X : XQ} {P : Prog} {r : String → List D → Sto → R D} {m : String → String → List D → Sto → R D} {z : Bool}
theorem ctx_run : (P.ctx r m).run = r := (rfl)
theorem ctx_mrun : (P.ctx r m).mrun = m := (rfl)
theorem planD_some (pl : List Src) (k : List Src → Prop) : planD (some pl) k = k pl := (rfl)
theorem varD_some (d : D) (st : Sto) : varD (some (some d)) st = .ok d st := (rfl)
theorem globD_some (d : D) (st : Sto) : globD (some d) st = .ok d st := (rfl)
theorem negD_int (i : Int) : negD (.int i) st = .ok (.int (-i)) st := (rfl)
theorem notD_bl (i : Bool) : notD (.bl i) st = .ok (.bl (!i)) st := (rfl)
theorem someD_int (i : Int) : someD (.int i) st = .ok (some i) st := (rfl)
theorem boolD_bl (b : Bool) : boolD (.bl b) st = .ok b st := (rfl)
theorem nonD_non : nonD .non st = .ok () st := (rfl)
theorem b_addI (i j : Int) : binD z .Add (.int i) (.int j) st = .ok (.int (i + j)) st := (rfl)
theorem b_subI (i j : Int) : binD z .Sub (.int i) (.int j) st = .ok (.int (i - j)) st := (rfl)
theorem b_mulI (i j : Int) : okE (binD z .Mult (.int i) (.int j) st) Q X = (mulOk i j = true ∧ Q (.int (i * j)) st) := by simp only [binD, okE_if, okE_ok]
theorem b_divI (i j : Int) : okE (binD z .FloorDiv (.int i) (.int j) st) Q X = ((0 < j ∧ j.natAbs.log2 < 9000) ∧ Q (.int (i / j)) st) := by simp only [binD, okE_if, okE_ok]
theorem b_modI (i j : Int) : okE (binD z .Mod (.int i) (.int j) st) Q X = (0 < j ∧ Q (.int (i % j)) st) := by simp only [binD, okE_if, okE_ok]
theorem b_powI (i j : Int) : okE (binD z .Pow (.int i) (.int j) st) Q X = (powOk i j = true ∧ Q (.int (i ^ j.toNat)) st) := by simp only [binD, okE_if, okE_ok]
theorem b_addS (x y : List Nat) : okE (binD z .Add (.str x) (.str y) st) Q X = ((x ++ y).length ≤ sl ∧ Q (.str (x ++ y)) st) := by simp only [binD, Mi.okS, okE_if, okE_ok]
theorem b_addT (x y : List D) : okE (binD z .Add (.tup x) (.tup y) st) Q X = (x.length + y.length ≤ sl ∧ Q (.tup (x ++ y)) st) := by simp only [binD, okE_if, okE_ok]
theorem b_addC (x y : List D) : okE (binD z .Add (.cl x) (.cl y) st) Q X = ((x ++ y).length ≤ sl ∧ okE (newC z (x ++ y) st) Q X) := by
  show okE (newL z (x ++ y) st) Q X = _
  simp only [newL, okE_if]
theorem newL_eq (xs : List D) : okE (newL z xs st) Q X = (xs.length ≤ sl ∧ okE (newC z xs st) Q X) := by simp only [newL, okE_if]
theorem newC_true (xs : List D) : newC true xs st = .ok (.cl xs) st := (rfl)
theorem newC_false (xs : List D) : newC false xs st = .ok (.ref st.length) (st ++ [.lst xs]) := (rfl)
theorem newD_true (xs : List (D × D)) : newD true xs st = .ok (.cd xs) st := (rfl)
theorem newD_false (xs : List (D × D)) : newD false xs st = .ok (.ref st.length) (st ++ [.dct xs]) := (rfl)
theorem dctR_nil : dctR z [] st = newD z [] st := (rfl)
theorem repD_int (xs : List D) (k : Int) : okE (repD z xs (.int k) st) Q X = ((xs.length * k.toNat ≤ sl ∧ xs.length ≤ sl ∧ -(2 ^ 63) ≤ k ∧ k < 2 ^ 63) ∧ okE (newL z (List.replicate k.toNat xs).flatten st) Q X) := by simp only [repD, okE_if]
theorem a_addI (i j : Int) : augD .Add (.int i) (.int j) st = .ok (.int (i + j)) st := (rfl)
theorem a_subI (i j : Int) : augD .Sub (.int i) (.int j) st = .ok (.int (i - j)) st := (rfl)
/-! comparisons -/
theorem c_eqI (i j : Int) : cmpD .Eq (.int i) (.int j) st = .ok (.bl (decide (i = j))) st := (rfl)
theorem c_neI (i j : Int) : cmpD .NotEq (.int i) (.int j) st = .ok (.bl (!decide (i = j))) st := (rfl)
theorem c_eq {a b : D} (h : pl 60 a = true) (k : pl 60 b = true) : cmpD .Eq a b st = .ok (.bl (decide (a = b))) st := by
  show okOB (eqD st a b) st = _
  rw [eqD_pl h k]; rfl
theorem c_ne {a b : D} (h : pl 60 a = true) (k : pl 60 b = true) : cmpD .NotEq a b st = .ok (.bl (!decide (a = b))) st := by
  show okOB ((eqD st a b).map (!·)) st = _
  rw [eqD_pl h k]; rfl
theorem c_eqS (x y : List Nat) : cmpD .Eq (.str x) (.str y) st = .ok (.bl (decide (x = y))) st := by
  rw [c_eq rfl rfl]; simp only [D.str.injEq]
theorem c_neS (x y : List Nat) : cmpD .NotEq (.str x) (.str y) st = .ok (.bl (!decide (x = y))) st := by
  rw [c_ne rfl rfl]; simp only [D.str.injEq]
theorem c_eqB (x y : Bool) : cmpD .Eq (.bl x) (.bl y) st = .ok (.bl (decide (x = y))) st := by
  show okOB (some (PyData.eqv (.bool x) (.bool y))) st = _
  cases x <;> cases y <;> rfl
theorem c_neB (x y : Bool) : cmpD .NotEq (.bl x) (.bl y) st = .ok (.bl (!decide (x = y))) st := by
  show okOB (some (!PyData.eqv (.bool x) (.bool y))) st = _
  cases x <;> cases y <;> rfl
theorem c_ltI (i j : Int) : cmpD .Lt (.int i) (.int j) st = .ok (.bl (decide (i < j))) st := (rfl)
theorem c_leI (i j : Int) : cmpD .LtE (.int i) (.int j) st = .ok (.bl (decide (i ≤ j))) st := (rfl)
theorem c_gtI (i j : Int) : cmpD .Gt (.int i) (.int j) st = .ok (.bl (decide (j < i))) st := (rfl)
theorem c_geI (i j : Int) : cmpD .GtE (.int i) (.int j) st = .ok (.bl (decide (j ≤ i))) st := (rfl)
theorem c_is (x : D) : cmpD .Is x .non st = .ok (.bl (isNon x)) st := (rfl)
theorem c_isN (x : D) : cmpD .IsNot x .non st = .ok (.bl (!isNon x)) st := (rfl)
theorem c_isB (x y : Bool) : cmpD .Is (.bl x) (.bl y) st = .ok (.bl (decide (x = y))) st := (rfl)
theorem c_isNB (x y : Bool) : cmpD .IsNot (.bl x) (.bl y) st = .ok (.bl (!decide (x = y))) st := (rfl)
theorem isNon_non : isNon .non = true := (rfl)
theorem isNon_int (i : Int) : isNon (.int i) = false := (rfl)
theorem isNon_str (i : List Nat) : isNon (.str i) = false := (rfl)
theorem isNon_tup (i : List D) : isNon (.tup i) = false := (rfl)
theorem isNon_exn (c : String) (i : Fs) : isNon (.exn c i) = false := (rfl)
theorem isNon_bl (i : Bool) : isNon (.bl i) = false := (rfl)
theorem isNon_ref (i : Nat) : isNon (.ref i) = false := (rfl)
theorem isNon_cd (i : List (D × D)) : isNon (.cd i) = false := (rfl)
theorem isNon_cl (i : List D) : isNon (.cl i) = false := (rfl)
theorem c_inT {a : D} {xs : List D} (h : pl 59 a = true) (k : xs.all (pl 59) = true) : cmpD .In a (.tup xs) st = .ok (.bl (decide (a ∈ xs))) st := by
  show okOB (inSeq st a xs) st = _
  rw [inSeq_pl h k]; rfl
theorem c_ninT {a : D} {xs : List D} (h : pl 59 a = true) (k : xs.all (pl 59) = true) : cmpD .NotIn a (.tup xs) st = .ok (.bl (!decide (a ∈ xs))) st := by
  show okOB ((inSeq st a xs).map (!·)) st = _
  rw [inSeq_pl h k]; rfl
theorem c_inC {a : D} {xs : List D} (h : pl 59 a = true) (k : xs.all (pl 59) = true) : cmpD .In a (.cl xs) st = .ok (.bl (decide (a ∈ xs))) st := by
  show okOB (inSeq st a xs) st = _
  rw [inSeq_pl h k]; rfl
theorem c_ninC {a : D} {xs : List D} (h : pl 59 a = true) (k : xs.all (pl 59) = true) : cmpD .NotIn a (.cl xs) st = .ok (.bl (!decide (a ∈ xs))) st := by
  show okOB ((inSeq st a xs).map (!·)) st = _
  rw [inSeq_pl h k]; rfl
def eqO (ys : List D) (st : Sto) : Option O → R D
  | some (.lst xs) => okOB (eqD st (.cl xs) (.cl ys)) st
  | _ => .no
theorem eqD_cl (a : D) (ys : List D) : eqD st a (.cl ys) = (match toPy st 60 a, toPy st 60 (.cl ys) with | some p, some q => some (PyData.eqv p q) | _, _ => none) := by
  unfold eqD
  have e : dctOf st (.cl ys) = none := rfl
  rw [e]
  cases toPy st 60 a <;> cases toPy st 60 (.cl ys) <;> cases dctOf st a <;> rfl
/-- dicts, the same through and through -/
theorem eqD_dct {a b : D} {k l : List (D × D)} (h1 : dctOf st a = some k) (h2 : dctOf st b = some l) (h : sameK k l = true) : eqD st a b = some true := by
  have e : toPy st 60 a = none := by
    cases a with
    | cd _ => rfl
    | ref n =>
      simp only [dctOf] at h1
      split at h1
      · rename_i hn
        unfold toPy; simp only [hn]
      · cases h1
    | _ => simp [dctOf] at h1
  unfold eqD
  rw [e, h1, h2]
  simp only [h, if_true]
theorem c_eqDct {a b : D} {k l : List (D × D)} (h1 : dctOf st a = some k) (h2 : dctOf st b = some l) (h : sameK k l = true) : cmpD .Eq a b st = .ok (.bl true) st := by
  show okOB (eqD st a b) st = _
  rw [eqD_dct h1 h2 h]; rfl
theorem c_neDct {a b : D} {k l : List (D × D)} (h1 : dctOf st a = some k) (h2 : dctOf st b = some l) (h : sameK k l = true) : cmpD .NotEq a b st = .ok (.bl false) st := by
  show okOB ((eqD st a b).map (!·)) st = _
  rw [eqD_dct h1 h2 h]; rfl
theorem c_eqR (n : Nat) (ys : List D) (h : ys.all (pl 59) = true) : cmpD .Eq (.ref n) (.cl ys) st = eqO ys st st[n]? := by
  have e : toPy st 60 (.cl ys) = some (py 60 (.cl ys)) := toPy_pl st 60 _ h
  show okOB (eqD st (.ref n) (.cl ys)) st = _
  cases hn : st[n]? with
  | none =>
    have : toPy st 60 (.ref n) = none := by unfold toPy; simp only [hn]
    rw [eqD_cl, this]; rfl
  | some o =>
    cases o with
    | lst xs =>
      have : toPy st 60 (.ref n) = toPy st 60 (.cl xs) := by
        show (match st[n]? with | some (.lst xs) => (mapO (toPy st 59) xs).map PyData.list | _ => none) = _
        rw [hn]; rfl
      show _ = okOB (eqD st (.cl xs) (.cl ys)) st
      rw [eqD_cl, eqD_cl, this]
    | dct k =>
      have : toPy st 60 (.ref n) = none := by unfold toPy; simp only [hn]
      rw [eqD_cl, this]; rfl
    | obj c fs =>
      have : toPy st 60 (.ref n) = none := by unfold toPy; simp only [hn]
      rw [eqD_cl, this]; rfl
theorem c_neR (n : Nat) (ys : List D) (h : ys.all (pl 59) = true) {b : Bool} (hb : eqO ys st st[n]? = .ok (.bl b) st) : cmpD .NotEq (.ref n) (.cl ys) st = .ok (.bl (!b)) st := by
  rw [← c_eqR n ys h] at hb
  show okOB ((eqD st (.ref n) (.cl ys)).map (!·)) st = _
  have hb : okOB (eqD st (.ref n) (.cl ys)) st = _ := hb
  cases he : eqD st (.ref n) (.cl ys) with
  | none => rw [he] at hb; cases hb
  | some q => rw [he] at hb; cases hb; rfl
theorem eqO_lst {xs ys : List D} (h : xs.all (pl 59) = true) (k : ys.all (pl 59) = true) : eqO ys st (some (.lst xs)) = .ok (.bl (decide (xs = ys))) st := by
  show okOB (eqD st (.cl xs) (.cl ys)) st = _
  rw [eqD_pl (a := .cl xs) (b := .cl ys) h k]
  simp only [D.cl.injEq]; rfl
theorem c_eqR0 (n : Nat) : cmpD .Eq (.ref n) (.cl []) st = eqO [] st st[n]? := c_eqR n [] rfl
theorem eqO0 {xs : List D} (h : xs.all (pl 59) = true) : eqO [] st (some (.lst xs)) = .ok (.bl (decide (xs = []))) st := eqO_lst h rfl
def neO (st : Sto) : Option O → R D
  | some (.lst xs) => okOB ((eqD st (.cl xs) (.cl [])).map (!·)) st
  | _ => .no
theorem c_neR0 (n : Nat) : cmpD .NotEq (.ref n) (.cl []) st = neO st st[n]? := by
  have e := c_eqR (st := st) n [] rfl
  show okOB ((eqD st (.ref n) (.cl [])).map (!·)) st = _
  have e : okOB (eqD st (.ref n) (.cl [])) st = eqO [] st st[n]? := e
  revert e
  cases st[n]? with
  | none =>
    intro e
    cases he : eqD st (.ref n) (.cl []) with
    | none => rfl
    | some b => rw [he] at e; cases e
  | some o =>
    cases o with
    | lst xs =>
      intro e
      show _ = okOB ((eqD st (.cl xs) (.cl [])).map (!·)) st
      have e : okOB (eqD st (.ref n) (.cl [])) st = okOB (eqD st (.cl xs) (.cl [])) st := e
      revert e
      cases eqD st (.ref n) (.cl []) <;> cases eqD st (.cl xs) (.cl []) <;> intro e <;> first | rfl | (cases e; done) | (cases e; rfl)
    | dct k =>
      intro e
      cases he : eqD st (.ref n) (.cl []) with
      | none => rfl
      | some b => rw [he] at e; cases e
    | obj c fs =>
      intro e
      cases he : eqD st (.ref n) (.cl []) with
      | none => rfl
      | some b => rw [he] at e; cases e
theorem neO0 {xs : List D} (h : xs.all (pl 59) = true) : neO st (some (.lst xs)) = .ok (.bl (!decide (xs = []))) st := by
  show okOB ((eqD st (.cl xs) (.cl [])).map (!·)) st = _
  rw [eqD_pl (a := .cl xs) (b := .cl []) h rfl]
  simp only [D.cl.injEq]; rfl
theorem c_inS (x : Nat) (ys : List Nat) : cmpD .In (.str [x]) (.str ys) st = .ok (.bl (decide (x ∈ ys))) st := (rfl)
def inO (a : D) (st : Sto) : Option O → Option Bool
  | some (.lst xs) => inSeq st a xs
  | some (.dct kvs) => if keyOk a = true then some (getK kvs a).isSome else none
  | _ => none
theorem memD_ref (a : D) (n : Nat) : memD a (.ref n) st = inO a st st[n]? := by
  unfold inO
  cases h : st[n]? with
  | none => simp only [memD, seqOf, lstOf, dctOf, h]
  | some o => cases o <;> simp only [memD, seqOf, lstOf, dctOf, h]
theorem c_inR (a : D) (n : Nat) : cmpD .In a (.ref n) st = okOB (inO a st st[n]?) st := by
  show okOB (memD a (.ref n) st) st = _
  rw [memD_ref]
theorem c_ninR (a : D) (n : Nat) : cmpD .NotIn a (.ref n) st = okOB ((inO a st st[n]?).map (!·)) st := by
  show okOB ((memD a (.ref n) st).map (!·)) st = _
  rw [memD_ref]
theorem inO_dctI (i : Int) (kvs : List (D × D)) : inO (.int i) st (some (.dct kvs)) = some (getK kvs (.int i)).isSome := (rfl)
theorem inO_dctS (i : List Nat) (kvs : List (D × D)) : inO (.str i) st (some (.dct kvs)) = some (getK kvs (.str i)).isSome := (rfl)
theorem inO_lst {a : D} {xs : List D} (h : pl 59 a = true) (k : xs.all (pl 59) = true) : inO a st (some (.lst xs)) = some (decide (a ∈ xs)) := inSeq_pl h k
theorem c_inDS (i : List Nat) (kvs : List (D × D)) : cmpD .In (.str i) (.cd kvs) st = .ok (.bl (getK kvs (.str i)).isSome) st := (rfl)
theorem c_ninDS (i : List Nat) (kvs : List (D × D)) : cmpD .NotIn (.str i) (.cd kvs) st = .ok (.bl (!(getK kvs (.str i)).isSome)) st := (rfl)
theorem c_inDI (i : Int) (kvs : List (D × D)) : cmpD .In (.int i) (.cd kvs) st = .ok (.bl (getK kvs (.int i)).isSome) st := (rfl)
theorem c_ninDI (i : Int) (kvs : List (D × D)) : cmpD .NotIn (.int i) (.cd kvs) st = .ok (.bl (!(getK kvs (.int i)).isSome)) st := (rfl)
theorem okOB_some (b : Bool) : okOB (some b) st = .ok (.bl b) st := (rfl)
theorem get_old {o : O} {i : Nat} (h : i < st.length) : (st ++ [o])[i]? = st[i]? := List.getElem?_append_left h
theorem set_new (o w : O) : (st ++ [o]).set st.length w = st ++ [w] := by simp
theorem getK_nil (k : D) : getK [] k = none := (rfl)
theorem getK_S (a s : List Nat) (v : D) (l : List (D × D)) : getK ((.str a, v) :: l) (.str s) = if a = s then some v else getK l (.str s) := by
  unfold getK
  rw [List.find?_cons]
  show Option.map (fun p : D × D => p.2) (match decide (a = s) with | true => some (D.str a, v) | false => List.find? _ l) = _
  by_cases h : a = s <;> simp [h]
theorem getK_I (a s : Int) (v : D) (l : List (D × D)) : getK ((.int a, v) :: l) (.int s) = if a = s then some v else getK l (.int s) := by
  unfold getK
  rw [List.find?_cons]
  show Option.map (fun p : D × D => p.2) (match decide (a = s) with | true => some (D.int a, v) | false => List.find? _ l) = _
  by_cases h : a = s <;> simp [h]
/-! built-ins -/
theorem i_len (x : List Nat) : biD z "len" [.str x] st = .ok (.int x.length) st := (rfl)
theorem i_lenT (x : List D) : biD z "len" [.tup x] st = .ok (.int x.length) st := (rfl)
theorem i_lenC (x : List D) : biD z "len" [.cl x] st = .ok (.int x.length) st := (rfl)
theorem i_lenK (x : List (D × D)) : biD z "len" [.cd x] st = .ok (.int x.length) st := (rfl)
def lenO (st : Sto) : Option O → R D
  | some (.lst xs) => .ok (.int xs.length) st
  | some (.dct xs) => .ok (.int xs.length) st
  | _ => .no
theorem i_lenR (n : Nat) : biD z "len" [.ref n] st = lenO st st[n]? := by
  show lenB [.ref n] st = _
  unfold lenB lenD seqOf lstOf lenO
  cases h : st[n]? with
  | none => simp only [h]
  | some o => cases o <;> simp only [h]
theorem lenO_lst (xs : List D) : lenO st (some (.lst xs)) = .ok (.int xs.length) st := (rfl)
theorem lenO_dct (xs : List (D × D)) : lenO st (some (.dct xs)) = .ok (.int xs.length) st := (rfl)
theorem i_max (i j : Int) : biD z "max" [.int i, .int j] st = .ok (.int (if j > i then j else i)) st := (rfl)
theorem i_min (i j : Int) : biD z "min" [.int i, .int j] st = .ok (.int (if j < i then j else i)) st := (rfl)
theorem i_intB (b : Bool) : biD z "int" [.bl b] st = .ok (.int (if b = true then 1 else 0)) st := (rfl)
theorem i_isi (x : D) (t a : String) (h : tyOf st x = some a) (ha : a ∈ tyNames) (ht : t ∈ tyNames) : biD z "isinstance" [x, .ty t] st = .ok (.bl (decide (a = t) || (decide (a = "bool") && decide (t = "int")))) st := by
  show isiB [x, .ty t] st = _
  unfold isiB
  simp only [h, ha, ht, and_self, if_true]
  rfl
theorem i_isi_n_int : biD z "isinstance" [.non, .ty "int"] st = .ok (.bl false) st := i_isi _ _ "NoneType" rfl (by decide) (by decide)
theorem i_isi_n_str : biD z "isinstance" [.non, .ty "str"] st = .ok (.bl false) st := i_isi _ _ "NoneType" rfl (by decide) (by decide)
theorem i_isi_n_list : biD z "isinstance" [.non, .ty "list"] st = .ok (.bl false) st := i_isi _ _ "NoneType" rfl (by decide) (by decide)
theorem i_isi_n_tuple : biD z "isinstance" [.non, .ty "tuple"] st = .ok (.bl false) st := i_isi _ _ "NoneType" rfl (by decide) (by decide)
theorem i_isi_n_dict : biD z "isinstance" [.non, .ty "dict"] st = .ok (.bl false) st := i_isi _ _ "NoneType" rfl (by decide) (by decide)
theorem i_isi_n_bool : biD z "isinstance" [.non, .ty "bool"] st = .ok (.bl false) st := i_isi _ _ "NoneType" rfl (by decide) (by decide)
theorem i_isi_b_int (i : Bool) : biD z "isinstance" [.bl i, .ty "int"] st = .ok (.bl true) st := i_isi _ _ "bool" rfl (by decide) (by decide)
theorem i_isi_b_str (i : Bool) : biD z "isinstance" [.bl i, .ty "str"] st = .ok (.bl false) st := i_isi _ _ "bool" rfl (by decide) (by decide)
theorem i_isi_b_list (i : Bool) : biD z "isinstance" [.bl i, .ty "list"] st = .ok (.bl false) st := i_isi _ _ "bool" rfl (by decide) (by decide)
theorem i_isi_b_tuple (i : Bool) : biD z "isinstance" [.bl i, .ty "tuple"] st = .ok (.bl false) st := i_isi _ _ "bool" rfl (by decide) (by decide)
theorem i_isi_b_dict (i : Bool) : biD z "isinstance" [.bl i, .ty "dict"] st = .ok (.bl false) st := i_isi _ _ "bool" rfl (by decide) (by decide)
theorem i_isi_b_bool (i : Bool) : biD z "isinstance" [.bl i, .ty "bool"] st = .ok (.bl true) st := i_isi _ _ "bool" rfl (by decide) (by decide)
theorem i_isi_i_int (i : Int) : biD z "isinstance" [.int i, .ty "int"] st = .ok (.bl true) st := i_isi _ _ "int" rfl (by decide) (by decide)
theorem i_isi_i_str (i : Int) : biD z "isinstance" [.int i, .ty "str"] st = .ok (.bl false) st := i_isi _ _ "int" rfl (by decide) (by decide)
theorem i_isi_i_list (i : Int) : biD z "isinstance" [.int i, .ty "list"] st = .ok (.bl false) st := i_isi _ _ "int" rfl (by decide) (by decide)
theorem i_isi_i_tuple (i : Int) : biD z "isinstance" [.int i, .ty "tuple"] st = .ok (.bl false) st := i_isi _ _ "int" rfl (by decide) (by decide)
theorem i_isi_i_dict (i : Int) : biD z "isinstance" [.int i, .ty "dict"] st = .ok (.bl false) st := i_isi _ _ "int" rfl (by decide) (by decide)
theorem i_isi_i_bool (i : Int) : biD z "isinstance" [.int i, .ty "bool"] st = .ok (.bl false) st := i_isi _ _ "int" rfl (by decide) (by decide)
theorem i_isi_s_int (i : List Nat) : biD z "isinstance" [.str i, .ty "int"] st = .ok (.bl false) st := i_isi _ _ "str" rfl (by decide) (by decide)
theorem i_isi_s_str (i : List Nat) : biD z "isinstance" [.str i, .ty "str"] st = .ok (.bl true) st := i_isi _ _ "str" rfl (by decide) (by decide)
theorem i_isi_s_list (i : List Nat) : biD z "isinstance" [.str i, .ty "list"] st = .ok (.bl false) st := i_isi _ _ "str" rfl (by decide) (by decide)
theorem i_isi_s_tuple (i : List Nat) : biD z "isinstance" [.str i, .ty "tuple"] st = .ok (.bl false) st := i_isi _ _ "str" rfl (by decide) (by decide)
theorem i_isi_s_dict (i : List Nat) : biD z "isinstance" [.str i, .ty "dict"] st = .ok (.bl false) st := i_isi _ _ "str" rfl (by decide) (by decide)
theorem i_isi_s_bool (i : List Nat) : biD z "isinstance" [.str i, .ty "bool"] st = .ok (.bl false) st := i_isi _ _ "str" rfl (by decide) (by decide)
theorem i_isi_t_int (i : List D) : biD z "isinstance" [.tup i, .ty "int"] st = .ok (.bl false) st := i_isi _ _ "tuple" rfl (by decide) (by decide)
theorem i_isi_t_str (i : List D) : biD z "isinstance" [.tup i, .ty "str"] st = .ok (.bl false) st := i_isi _ _ "tuple" rfl (by decide) (by decide)
theorem i_isi_t_list (i : List D) : biD z "isinstance" [.tup i, .ty "list"] st = .ok (.bl false) st := i_isi _ _ "tuple" rfl (by decide) (by decide)
theorem i_isi_t_tuple (i : List D) : biD z "isinstance" [.tup i, .ty "tuple"] st = .ok (.bl true) st := i_isi _ _ "tuple" rfl (by decide) (by decide)
theorem i_isi_t_dict (i : List D) : biD z "isinstance" [.tup i, .ty "dict"] st = .ok (.bl false) st := i_isi _ _ "tuple" rfl (by decide) (by decide)
theorem i_isi_t_bool (i : List D) : biD z "isinstance" [.tup i, .ty "bool"] st = .ok (.bl false) st := i_isi _ _ "tuple" rfl (by decide) (by decide)
theorem i_isi_c_int (i : List D) : biD z "isinstance" [.cl i, .ty "int"] st = .ok (.bl false) st := i_isi _ _ "list" rfl (by decide) (by decide)
theorem i_isi_c_str (i : List D) : biD z "isinstance" [.cl i, .ty "str"] st = .ok (.bl false) st := i_isi _ _ "list" rfl (by decide) (by decide)
theorem i_isi_c_list (i : List D) : biD z "isinstance" [.cl i, .ty "list"] st = .ok (.bl true) st := i_isi _ _ "list" rfl (by decide) (by decide)
theorem i_isi_c_tuple (i : List D) : biD z "isinstance" [.cl i, .ty "tuple"] st = .ok (.bl false) st := i_isi _ _ "list" rfl (by decide) (by decide)
theorem i_isi_c_dict (i : List D) : biD z "isinstance" [.cl i, .ty "dict"] st = .ok (.bl false) st := i_isi _ _ "list" rfl (by decide) (by decide)
theorem i_isi_c_bool (i : List D) : biD z "isinstance" [.cl i, .ty "bool"] st = .ok (.bl false) st := i_isi _ _ "list" rfl (by decide) (by decide)
theorem i_isi_k_int (i : List (D × D)) : biD z "isinstance" [.cd i, .ty "int"] st = .ok (.bl false) st := i_isi _ _ "dict" rfl (by decide) (by decide)
theorem i_isi_k_str (i : List (D × D)) : biD z "isinstance" [.cd i, .ty "str"] st = .ok (.bl false) st := i_isi _ _ "dict" rfl (by decide) (by decide)
theorem i_isi_k_list (i : List (D × D)) : biD z "isinstance" [.cd i, .ty "list"] st = .ok (.bl false) st := i_isi _ _ "dict" rfl (by decide) (by decide)
theorem i_isi_k_tuple (i : List (D × D)) : biD z "isinstance" [.cd i, .ty "tuple"] st = .ok (.bl false) st := i_isi _ _ "dict" rfl (by decide) (by decide)
theorem i_isi_k_dict (i : List (D × D)) : biD z "isinstance" [.cd i, .ty "dict"] st = .ok (.bl true) st := i_isi _ _ "dict" rfl (by decide) (by decide)
theorem i_isi_k_bool (i : List (D × D)) : biD z "isinstance" [.cd i, .ty "bool"] st = .ok (.bl false) st := i_isi _ _ "dict" rfl (by decide) (by decide)
theorem i_ist (x : D) (ts : List String) (a : String) (h : tyOf st x = some a) (ha : a ∈ tyNames) (ht : ∀ t ∈ ts, t ∈ tyNames) (hl : ts.length ≤ 9) : istD ts x st = .ok (.bl (ts.any fun t => decide (a = t) || (decide (a = "bool") && decide (t = "int")))) st := by
  unfold istD
  simp only [h]
  rw [if_pos ⟨ha, ht, hl⟩]
  rfl
theorem i_ist_lt_t (i : List D) : istD ["list", "tuple"] (.tup i) st = .ok (.bl true) st := i_ist _ _ "tuple" rfl (by decide) (by decide) (by decide)
theorem i_ist_lt_c (i : List D) : istD ["list", "tuple"] (.cl i) st = .ok (.bl true) st := i_ist _ _ "list" rfl (by decide) (by decide) (by decide)
theorem i_ist_lt_i (i : Int) : istD ["list", "tuple"] (.int i) st = .ok (.bl false) st := i_ist _ _ "int" rfl (by decide) (by decide) (by decide)
theorem i_ist_lt_s (i : List Nat) : istD ["list", "tuple"] (.str i) st = .ok (.bl false) st := i_ist _ _ "str" rfl (by decide) (by decide) (by decide)
theorem bls_map (bs : List Bool) : blsOf (bs.map .bl) = some bs := by
  induction bs with
  | nil => rfl
  | cons b bs ih => rw [List.map_cons]; unfold blsOf; rw [ih]; rfl
theorem strs_map (bs : List (List Nat)) : strsOf (bs.map .str) = some bs := by
  induction bs with
  | nil => rfl
  | cons b bs ih => rw [List.map_cons]; unfold strsOf; rw [ih]; rfl
theorem ints_map (bs : List Int) : intsOf (bs.map .int) = some bs := by
  induction bs with
  | nil => rfl
  | cons b bs ih => rw [List.map_cons]; unfold intsOf; rw [ih]; rfl
theorem i_all (bs : List Bool) : biD z "all" [.cl (bs.map .bl)] st = .ok (.bl (bs.all id)) st := by
  show allB [.cl (bs.map .bl)] st = _
  unfold allB lstOf
  simp only [bls_map]; rfl
theorem i_any (bs : List Bool) : biD z "any" [.cl (bs.map .bl)] st = .ok (.bl (bs.any id)) st := by
  show anyB [.cl (bs.map .bl)] st = _
  unfold anyB lstOf
  simp only [bls_map]; rfl
theorem i_allM {γ : Type} (l : List γ) (f : γ → Bool) : biD z "all" [.cl (l.map fun a => .bl (f a))] st = .ok (.bl (l.all f)) st := by
  have e : (l.map fun a => D.bl (f a)) = (l.map f).map .bl := by rw [List.map_map]; rfl
  rw [e, i_all, List.all_map]; rfl
theorem i_anyM {γ : Type} (l : List γ) (f : γ → Bool) : biD z "any" [.cl (l.map fun a => .bl (f a))] st = .ok (.bl (l.any f)) st := by
  have e : (l.map fun a => D.bl (f a)) = (l.map f).map .bl := by rw [List.map_map]; rfl
  rw [e, i_any, List.any_map]; rfl
theorem i_tupC (xs : List D) : biD z "tuple" [.cl xs] st = .ok (.tup xs) st := (rfl)
theorem i_listC (xs : List D) : biD z "list" [.cl xs] st = newL z xs st := (rfl)
theorem i_sortC (xs : List (List Nat)) : okE (biD z "sorted" [.cl (xs.map .str)] st) Q X = (xs.length < 64 ∧ okE (newL z ((sortS xs).map .str) st) Q X) := by
  show okE (sortedD z (xs.map .str) st) Q X = _
  unfold sortedD
  simp only [strs_map, okE_if]
theorem i_sortK {γ : Type} (l : List γ) (f : γ → List Nat) (g : γ → D) : okE (biD z "sorted" [.cd (l.map fun a => (.str (f a), g a))] st) Q X = (l.length < 64 ∧ okE (newL z ((sortS (l.map f)).map .str) st) Q X) := by
  show okE (sortedD z ((l.map fun a => (D.str (f a), g a)).map (·.1)) st) Q X = _
  have e : ((l.map fun a => (D.str (f a), g a)).map (·.1)) = (l.map f).map .str := by rw [List.map_map, List.map_map]; rfl
  rw [e]
  unfold sortedD
  simp only [strs_map, okE_if, List.length_map]
/-! places -/
theorem atD_nat {α : Type} (xs : List α) (i : Nat) : atD xs (i : Int) = xs[i]? := by
  unfold atD ixOf
  rw [if_pos (by omega)]
  by_cases h : i < xs.length
  · rw [if_pos (by omega)]; simp
  · rw [if_neg (by omega)]
    simp only [Option.bind_none]
    rw [List.getElem?_eq_none_iff.mpr (by omega)]
theorem atD_m1 {α : Type} (xs : List α) : atD xs (-1) = xs.getLast? := by
  unfold atD ixOf
  rw [if_neg (by omega)]
  cases xs with
  | nil => rfl
  | cons x r =>
    rw [if_pos (by simp; omega), List.getLast?_eq_getElem?]
    have : (-1 + ((x :: r).length : Int)).toNat = (x :: r).length - 1 := by simp; omega
    simp only [Option.bind_some, this]
def okO {α : Type} (o : Option α) (st : Sto) : R α := match o with | some d => .ok d st | none => .no
theorem okO_some {α : Type} (d : α) : okO (some d) st = .ok d st := (rfl)
theorem ix_tup (xs : List D) (i : Int) : ixD (.tup xs) (.int i) st = okO (atD xs i) st := by
  simp only [ixD, seqOf, okO]
  cases atD xs i <;> rfl
theorem ix_cl (xs : List D) (i : Int) : ixD (.cl xs) (.int i) st = okO (atD xs i) st := by
  simp only [ixD, seqOf, lstOf, okO]
  cases atD xs i <;> rfl
theorem ix_cdS (k : List (D × D)) (s : List Nat) : ixD (.cd k) (.str s) st = okO (getK k (.str s)) st := by
  simp only [ixD, seqOf, lstOf, dctOf, okO, keyOk, if_true]
  cases getK k (.str s) <;> rfl
theorem ix_cdI (k : List (D × D)) (s : Int) : ixD (.cd k) (.int s) st = okO (getK k (.int s)) st := by
  simp only [ixD, seqOf, lstOf, dctOf, okO, keyOk, if_true]
  cases getK k (.int s) <;> rfl
def ixO (k : D) (st : Sto) : Option O → R D
  | some (.lst xs) => (match k with | .int i => okO (atD xs i) st | _ => .no)
  | some (.dct kvs) => if keyOk k = true then okO (getK kvs k) st else .no
  | _ => .no
theorem ix_ref (n : Nat) (k : D) : ixD (.ref n) k st = ixO k st st[n]? := by
  unfold ixO
  cases h : st[n]? with
  | none => simp only [ixD, seqOf, lstOf, dctOf, h]
  | some o =>
    cases o with
    | lst xs =>
      cases k with
      | int i => simp only [ixD, seqOf, lstOf, h, okO]; cases atD xs i <;> rfl
      | _ => simp only [ixD, seqOf, lstOf, h]
    | dct kvs =>
      simp only [ixD, seqOf, lstOf, dctOf, h, okO]
      split
      · cases getK kvs k <;> rfl
      · rfl
    | obj c fs => simp only [ixD, seqOf, lstOf, dctOf, h]
theorem ixO_lst (xs : List D) (i : Int) : ixO (.int i) st (some (.lst xs)) = okO (atD xs i) st := (rfl)
theorem ixO_dctS (xs : List (D × D)) (i : List Nat) : ixO (.str i) st (some (.dct xs)) = okO (getK xs (.str i)) st := (rfl)
theorem ixO_dctI (xs : List (D × D)) (i : Int) : ixO (.int i) st (some (.dct xs)) = okO (getK xs (.int i)) st := (rfl)
theorem atD_0 {α : Type} (a : α) (l : List α) : atD (a :: l) 0 = some a := atD_nat (a :: l) 0
theorem atD_1 {α : Type} (a b : α) (l : List α) : atD (a :: b :: l) 1 = some b := atD_nat _ 1
theorem atD_2 {α : Type} (a b c : α) (l : List α) : atD (a :: b :: c :: l) 2 = some c := atD_nat _ 2
theorem atD_3 {α : Type} (a b c d : α) (l : List α) : atD (a :: b :: c :: d :: l) 3 = some d := atD_nat _ 3
theorem atD_4 {α : Type} (a b c d e : α) (l : List α) : atD (a :: b :: c :: d :: e :: l) 4 = some e := atD_nat _ 4
theorem atD_5 {α : Type} (a b c d e f : α) (l : List α) : atD (a :: b :: c :: d :: e :: f :: l) 5 = some f := atD_nat _ 5
theorem atD_6 {α : Type} (a b c d e f g : α) (l : List α) : atD (a :: b :: c :: d :: e :: f :: g :: l) 6 = some g := atD_nat _ 6
theorem atD_7 {α : Type} (a b c d e f g h : α) (l : List α) : atD (a :: b :: c :: d :: e :: f :: g :: h :: l) 7 = some h := atD_nat _ 7
theorem atD_8 {α : Type} (a b c d e f g h i : α) (l : List α) : atD (a :: b :: c :: d :: e :: f :: g :: h :: i :: l) 8 = some i := atD_nat _ 8
theorem atD_h {α : Type} (l : List α) : atD l 0 = l.head? := by
  cases l with
  | nil => rfl
  | cons a l => exact atD_0 a l
theorem getD_ref (n : Nat) (k : D) : getD (.ref n) k st = ixO k st st[n]? := by
  unfold ixO
  cases h : st[n]? with
  | none => simp only [getD, h]
  | some o =>
    cases o with
    | lst xs =>
      cases k with
      | int i => simp only [getD, h, okO]; try (cases atD xs i <;> rfl)
      | _ => simp only [getD, h]
    | dct kvs =>
      simp only [getD, h, okO]
      split
      · cases getK kvs k <;> rfl
      · rfl
    | obj c fs => simp only [getD, h]
def setO (n : Nat) (k v : D) (st : Sto) : Option O → R Unit
  | some (.lst xs) => (match k with | .int i => (match ixOf xs.length i with | some j => .ok () (st.set n (.lst (xs.set j v))) | none => .no) | _ => .no)
  | some (.dct kvs) => if keyOk k = true ∧ kvs.length < sl then .ok () (st.set n (.dct (putK kvs k v))) else .no
  | _ => .no
theorem setD_ref (n : Nat) (k v : D) : setD (.ref n) k v st = setO n k v st st[n]? := by
  unfold setO
  cases h : st[n]? with
  | none => simp only [setD, h]
  | some o =>
    cases o with
    | lst xs =>
      cases k with
      | int i => simp only [setD, h]; try (cases ixOf xs.length i <;> rfl)
      | _ => simp only [setD, h]
    | dct kvs => simp only [setD, h]
    | obj c fs => simp only [setD, h]
theorem setO_dctS {Q : Unit → Sto → Prop} (n : Nat) (k : List Nat) (v : D) (xs : List (D × D)) : okE (setO n (.str k) v st (some (.dct xs))) Q X = (xs.length < sl ∧ Q () (st.set n (.dct (putK xs (.str k) v)))) := by
  have e : keyOk (.str k) = true := rfl
  simp only [setO, e, true_and, okE_if, okE_ok]
theorem setO_dctI {Q : Unit → Sto → Prop} (n : Nat) (k : Int) (v : D) (xs : List (D × D)) : okE (setO n (.int k) v st (some (.dct xs))) Q X = (xs.length < sl ∧ Q () (st.set n (.dct (putK xs (.int k) v)))) := by
  have e : keyOk (.int k) = true := rfl
  simp only [setO, e, true_and, okE_if, okE_ok]
theorem ixOf_nat {n i : Nat} (h : i < n) : ixOf n (i : Int) = some i := by
  unfold ixOf
  rw [if_pos (by omega), if_pos (by omega)]
  simp
theorem setO_l0 (n : Nat) (v a : D) (l : List D) : setO n (.int 0) v st (some (.lst (a :: l))) = .ok () (st.set n (.lst (v :: l))) := by
  have e : ixOf (a :: l).length 0 = some 0 := ixOf_nat (i := 0) (by simp)
  simp only [setO, e, List.set_cons_zero]
theorem setO_l1 (n : Nat) (v a b : D) (l : List D) : setO n (.int 1) v st (some (.lst (a :: b :: l))) = .ok () (st.set n (.lst (a :: v :: l))) := by
  have e : ixOf (a :: b :: l).length 1 = some 1 := ixOf_nat (i := 1) (by simp)
  simp only [setO, e, List.set_cons_succ, List.set_cons_zero]
theorem setO_l2 (n : Nat) (v a b c : D) (l : List D) : setO n (.int 2) v st (some (.lst (a :: b :: c :: l))) = .ok () (st.set n (.lst (a :: b :: v :: l))) := by
  have e : ixOf (a :: b :: c :: l).length 2 = some 2 := ixOf_nat (i := 2) (by simp)
  simp only [setO, e, List.set_cons_succ, List.set_cons_zero]
/-! fields -/
def attrO (f : String) (st : Sto) : Option O → R D
  | some (.obj _ fs) => okO (getF fs f) st
  | _ => .no
theorem attr_ref (n : Nat) (f : String) : attrD (.ref n) f st = attrO f st st[n]? := by
  unfold attrO
  cases h : st[n]? with
  | none => simp only [attrD, h]
  | some o =>
    cases o with
    | obj c fs => simp only [attrD, h, okO]; try (cases getF fs f <;> rfl)
    | _ => simp only [attrD, h]
theorem attrO_obj (c : String) (fs : Fs) (f : String) : attrO f st (some (.obj c fs)) = okO (getF fs f) st := (rfl)
def fldO (fld : String → List String) (n : Nat) (f : String) (v : D) (st : Sto) : Option O → R Unit
  | some (.obj c fs) => if fs.length < 1000 ∧ f ∈ fld c then .ok () (st.set n (.obj c (putF f v fs))) else .no
  | _ => .no
theorem fld_ref (fld : String → List String) (n : Nat) (f : String) (v : D) : fldD fld (.ref n) f v st = fldO fld n f v st st[n]? := by
  unfold fldO
  cases h : st[n]? with
  | none => simp only [fldD, h]
  | some o => cases o <;> simp only [fldD, h]
theorem fldO_obj {Q : Unit → Sto → Prop} (fld : String → List String) (n : Nat) (f : String) (v : D) (c : String) (fs : Fs) : okE (fldO fld n f v st (some (.obj c fs))) Q X = ((fs.length < 1000 ∧ f ∈ fld c) ∧ Q () (st.set n (.obj c (putF f v fs)))) := by
  simp only [fldO, okE_if, okE_ok]
theorem kind_str (s : List Nat) : kindOf st (.str s) = .str := (rfl)
theorem kind_cl (s : List D) : kindOf st (.cl s) = .list := (rfl)
theorem kind_cd (s : List (D × D)) : kindOf st (.cd s) = .dict := (rfl)
def kindO : Option O → Kd
  | some (.lst _) => .list
  | some (.dct _) => .dict
  | some (.obj c _) => .own c
  | none => .no
theorem kind_ref (n : Nat) : kindOf st (.ref n) = kindO st[n]? := by
  unfold kindO
  cases h : st[n]? with
  | none => simp only [kindOf, h]
  | some o => cases o <;> simp only [kindOf, h]
theorem kindO_lst (xs : List D) : kindO (some (.lst xs)) = .list := (rfl)
theorem kindO_dct (xs : List (D × D)) : kindO (some (.dct xs)) = .dict := (rfl)
theorem kindO_obj (c : String) (xs : Fs) : kindO (some (.obj c xs)) = .own c := (rfl)
/-! methods -/
def appO (n : Nat) (v : D) (st : Sto) : Option O → R D
  | some (.lst xs) => if xs.length < sl then .ok .non (st.set n (.lst (xs ++ [v]))) else .no
  | _ => .no
theorem app_ref (n : Nat) (v : D) : appendM (.ref n) [v] st = appO n v st st[n]? := by
  unfold appO
  cases h : st[n]? with
  | none => simp only [appendM, h]
  | some o => cases o <;> simp only [appendM, h]
theorem appO_lst (n : Nat) (v : D) (xs : List D) : okE (appO n v st (some (.lst xs))) Q X = (xs.length < sl ∧ Q .non (st.set n (.lst (xs ++ [v])))) := by simp only [appO, okE_if, okE_ok]
def extO (n : Nat) (ys : List D) (st : Sto) : Option O → R D
  | some (.lst xs) => if xs.length + ys.length ≤ sl then .ok .non (st.set n (.lst (xs ++ ys))) else .no
  | _ => .no
theorem ext_ref (n : Nat) (ys : List D) : extendM (.ref n) [.cl ys] st = extO n ys st st[n]? := by
  unfold extO
  cases h : st[n]? with
  | none => simp only [extendM, h]
  | some o => cases o <;> simp only [extendM, h, lstOf]
theorem extO_lst (n : Nat) (ys xs : List D) : okE (extO n ys st (some (.lst xs))) Q X = (xs.length + ys.length ≤ sl ∧ Q .non (st.set n (.lst (xs ++ ys)))) := by simp only [extO, okE_if, okE_ok]
def insO (n : Nat) (i : Int) (v : D) (st : Sto) : Option O → R D
  | some (.lst xs) => if xs.length < sl ∧ 0 ≤ i ∧ i < 2 ^ 63 then .ok .non (st.set n (.lst (xs.take i.toNat ++ v :: xs.drop i.toNat))) else .no
  | _ => .no
theorem ins_ref (n : Nat) (i : Int) (v : D) : insertM (.ref n) [.int i, v] st = insO n i v st st[n]? := by
  unfold insO
  cases h : st[n]? with
  | none => simp only [insertM, h]
  | some o => cases o <;> simp only [insertM, h]
theorem insO_0 (n : Nat) (v : D) (xs : List D) : okE (insO n 0 v st (some (.lst xs))) Q X = (xs.length < sl ∧ Q .non (st.set n (.lst (v :: xs)))) := by
  simp only [insO, okE_if, okE_ok]
  refine propext ⟨fun h => ⟨h.1.1, h.2⟩, fun h => ⟨⟨h.1, by omega, by omega⟩, h.2⟩⟩
def popO (n : Nat) (i : Int) (st : Sto) : Option O → R D
  | some (.lst xs) => (match ixOf xs.length i with
      | some j => (match xs[j]? with | some d => .ok d (st.set n (.lst (xs.eraseIdx j))) | none => .no)
      | none => .no)
  | _ => .no
theorem pop_ref (n : Nat) (i : Int) : popM (.ref n) [.int i] st = popO n i st st[n]? := by
  unfold popO
  cases h : st[n]? with
  | none => simp only [popM, h]
  | some o =>
    cases o with
    | lst xs =>
      simp only [popM, h]
      try (cases ixOf xs.length i with
      | none => rfl
      | some j => dsimp only; cases xs[j]? <;> rfl)
    | _ => simp only [popM, h]
theorem popO_at (n : Nat) {xs : List D} {i : Nat} (h : i < xs.length) : popO n i st (some (.lst xs)) = .ok xs[i] (st.set n (.lst (xs.eraseIdx i))) := by
  simp only [popO, ixOf_nat h, List.getElem?_eq_getElem h]
theorem put_new (kvs : List (D × D)) (s : List Nat) (v : D) (h : ∀ p ∈ kvs, keyEq p.1 (.str s) = false) : putK kvs (.str s) v = kvs ++ [(.str s, v)] := by
  have e : (kvs.any fun p => keyEq p.1 (.str s)) = false := by rw [List.any_eq_false]; exact fun p hp => by simp [h p hp]
  unfold putK
  rw [if_neg (by rw [e]; decide)]
def revO (n : Nat) (st : Sto) : Option O → R D
  | some (.lst xs) => .ok .non (st.set n (.lst xs.reverse))
  | _ => .no
theorem revM_ref (n : Nat) : reverseM (.ref n) [] st = revO n st st[n]? := by
  unfold revO
  cases h : st[n]? with
  | none => simp only [reverseM, h]
  | some o => cases o <;> simp only [reverseM, h]
theorem revO_lst (n : Nat) (xs : List D) : revO n st (some (.lst xs)) = .ok .non (st.set n (.lst xs.reverse)) := (rfl)
/-! walks -/
theorem ivD_str (x : List Nat) : ivD (.str x) st = .ok (.fix (x.map fun c => .str [c])) st := (rfl)
theorem ivD_tup (x : List D) : ivD (.tup x) st = .ok (.fix x) st := (rfl)
theorem ivD_cl (x : List D) : ivD (.cl x) st = .ok (.fix x) st := (rfl)
theorem ivD_cd (x : List (D × D)) : ivD (.cd x) st = .ok (.fix (x.map (·.1))) st := (rfl)
def ivO (n : Nat) (st : Sto) : Option O → R Iv
  | some (.lst _) => .ok (.cell n) st
  | _ => .no
theorem ivD_ref (n : Nat) : ivD (.ref n) st = ivO n st st[n]? := by
  unfold ivO
  cases h : st[n]? with
  | none => simp only [ivD, ivOf, h]
  | some o => cases o <;> simp only [ivD, ivOf, h]
theorem ivO_lst (n : Nat) (xs : List D) : ivO n st (some (.lst xs)) = .ok (.cell n) st := (rfl)
theorem itemsD_cd (k : List (D × D)) : itemsD (.cd k) st = .ok (.fix (k.map fun p => .tup [p.1, p.2])) st := (rfl)
theorem valsD_cd (k : List (D × D)) : valsD (.cd k) st = .ok (.fix (k.map (·.2))) st := (rfl)
theorem enumD_cl (x : List D) : enumD (.cl x) st = .ok (.enum (.fix x)) st := (rfl)
theorem zipD_tt (x y : List D) : zipD (.tup x) (.tup y) st = .ok (.zip (.fix x) (.fix y)) st := (rfl)
theorem zipD_cc (x y : List D) : zipD (.cl x) (.cl y) st = .ok (.zip (.fix x) (.fix y)) st := (rfl)
theorem lenI_fix (xs : List D) : lenI st (.fix xs) = xs.length := (rfl)
theorem rng1_int (j : Int) {Q : Iv → Sto → Prop} : okE (rng1 [.int j] st) Q X = ((-(2 ^ 62) ≤ j ∧ j < 2 ^ 62) ∧ Q (.fix (rangeL 0 j.toNat)) st) := by simp only [rng1, okE_if, okE_ok]
theorem rng2_int (i j : Int) {Q : Iv → Sto → Prop} : okE (rng2 [.int i, .int j] st) Q X = ((-(2 ^ 62) ≤ i ∧ i < 2 ^ 62 ∧ -(2 ^ 62) ≤ j ∧ j < 2 ^ 62) ∧ Q (.fix (rangeL i (j - i).toNat)) st) := by simp only [rng2, okE_if, okE_ok]
theorem sl_str (x : List Nat) (lo hi : Option Int) : slD z (.str x) lo hi st = .ok (.str (cut x lo hi)) st := (rfl)
theorem sl_tup (x : List D) (lo hi : Option Int) : slD z (.tup x) lo hi st = .ok (.tup (cut x lo hi)) st := (rfl)
theorem sl_cl (x : List D) (lo hi : Option Int) : slD z (.cl x) lo hi st = newL z (cut x lo hi) st := (rfl)
theorem rev_cl (x : List D) : revD z (.cl x) st = newL z x.reverse st := (rfl)
theorem rev_tup (x : List D) : revD z (.tup x) st = .ok (.tup x.reverse) st := (rfl)
theorem step2_cl (one : Bool) (x : List D) : step2D z one (.cl x) st = newL z (each 2 (if one = true then x.drop 1 else x)) st := (rfl)
theorem strB_bl (b : Bool) : biD z "str" [.bl b] st = .ok (.str (if b = true then [84, 114, 117, 101] else [70, 97, 108, 115, 101])) st := (rfl)
theorem strB_non : biD z "str" [.non] st = .ok (.str [78, 111, 110, 101]) st := (rfl)
theorem rev_ref {n : Nat} {x : List D} (h : st[n]? = some (.lst x)) : revD z (.ref n) st = newL z x.reverse st := by
  unfold revD lstOf; simp only [h]
theorem cut_none {α : Type} (x : List α) : cut x none none = x := by unfold cut sIx; simp
theorem cut_to {α : Type} (x : List α) (n : Nat) : cut x none (some (n : Int)) = x.take n := by
  unfold cut sIx
  simp only [List.drop_zero, Nat.sub_zero]
  rw [if_neg (by omega)]
  show x.take (min n x.length) = _
  rw [List.take_eq_take_iff]; omega
theorem cut_m1 {α : Type} (x : List α) : cut x none (some (-1)) = x.dropLast := by
  unfold cut sIx
  simp only [List.drop_zero, Nat.sub_zero]
  rw [if_pos (by omega), List.dropLast_eq_take]
  congr 1
  omega
theorem cut_from {α : Type} (x : List α) (n : Nat) : cut x (some (n : Int)) none = x.drop n := by
  have e : sIx x.length 0 (some (n : Int)) = min n x.length := by unfold sIx; dsimp only; rw [if_neg (by omega)]; rfl
  unfold cut
  rw [e]
  show (x.drop (min n x.length)).take (x.length - min n x.length) = _
  by_cases h : n ≤ x.length
  · rw [Nat.min_eq_left h]; rw [List.take_of_length_le (by simp)]
  · rw [Nat.min_eq_right (by omega)]; simp; omega
theorem isx_at (f : String → String → Option Bool) (cl e : String) (fs : Fs) : isxD f cl (.exn e fs) st = okOB (f e cl) st := (rfl)
theorem raisT_at (b : Bool) (cl : String) (s : List Nat) (env : Env) {N B C : Env → Sto → Prop} {Rt : D → Sto → Prop} {XX : XT} : okT (raisT b cl [.str s] env st) N B C Rt XX = (b = true ∧ XX cl [] env st) := by
  unfold raisT
  dsimp only
  cases b with
  | true => rw [if_pos rfl, okT_exc]; exact propext ⟨fun h => ⟨rfl, h⟩, fun h => h.2⟩
  | false => rw [if_neg (by decide)]; with_unfolding_all exact propext ⟨fun h => h.elim, fun h => by cases h.1⟩
theorem sl_big {n : Nat} (h : n ≤ 16777216) : n ≤ sl := by
  have : sl = 16777216 := sizeLine_eq
  omega
theorem sl_big' {n : Nat} (h : n < 16777216) : n < sl := by
  have : sl = 16777216 := sizeLine_eq
  omega
theorem sl_lit {n : Nat} (h : n ≤ 16777216) : (n ≤ sl) = True := eq_true (sl_big h)
theorem sl_lit' {n : Nat} (h : n ≤ 16777215) : (n < sl) = True := eq_true (sl_big' (by omega))
theorem alloc_ok (o : O) : alloc o st = .ok (.ref st.length) (st ++ [o]) := (rfl)
/-- one of some, at a place that there is -/
theorem pick_ {xs : List D} {i : Int} {Q : D → Sto → Prop} (p : D → Prop) (h0 : 0 ≤ i) (h1 : i < xs.length) (hp : ∀ d ∈ xs, p d) (h : ∀ d, p d → Q d st) : okE (okO (atD xs i) st) Q X := by
  obtain ⟨n, rfl⟩ := Int.eq_ofNat_of_zero_le h0
  rw [atD_nat, List.getElem?_eq_getElem (by omega), okO_some, okE_ok]
  exact h _ (hp _ (List.getElem_mem _))
end
theorem log_lt {x : Int} {k : Nat} (hk : 0 < k) (h : x.natAbs < 2 ^ k) : x.natAbs.log2 < k := by
  by_cases h0 : x.natAbs = 0
  · rw [h0]; simpa using hk
  · exact (Nat.log2_lt h0).mpr h
theorem mul_of {i j : Int} (hi : i.natAbs < 2 ^ 250) (hj : j.natAbs < 2 ^ 250) : mulOk i j = true := by
  have a := log_lt (k := 250) (by decide) hi
  have b := log_lt (k := 250) (by decide) hj
  unfold mulOk
  exact decide_eq_true (by omega)
theorem pow_of {i : Int} {n : Nat} (hi : i.natAbs < 2 ^ 250) (hn : n ≤ 60) : powOk i (n : Int) = true := by
  have a := log_lt (k := 250) (by decide) hi
  unfold powOk
  rw [decide_eq_true (by omega : (0 : Int) ≤ n), Bool.true_and]
  refine decide_eq_true ?_
  have h1 : ((i.natAbs.log2 : Int) + 1) * n ≤ 250 * 60 := Int.mul_le_mul (by omega) (by omega) (by omega) (by omega)
  omega
theorem mem_insS (x y : List Nat) : ∀ l : List (List Nat), x ∈ insS y l ↔ x = y ∨ x ∈ l
  | [] => by simp [insS]
  | a :: r => by
    unfold insS
    by_cases h : ltS a y = true
    · rw [if_pos h, List.mem_cons, mem_insS x y r, List.mem_cons]
      exact ⟨fun h => by rcases h with h | h | h <;> simp [h], fun h => by rcases h with h | h | h <;> simp [h]⟩
    · rw [if_neg h, List.mem_cons]
theorem mem_sortS (x : List Nat) : ∀ l : List (List Nat), x ∈ sortS l ↔ x ∈ l
  | [] => by simp [sortS]
  | a :: r => by unfold sortS; rw [mem_insS, mem_sortS x r, List.mem_cons]
theorem len_insS (y : List Nat) : ∀ l : List (List Nat), (insS y l).length = l.length + 1
  | [] => rfl
  | a :: r => by
    unfold insS
    by_cases h : ltS a y = true
    · rw [if_pos h, List.length_cons, len_insS y r, List.length_cons]
    · rw [if_neg h, List.length_cons, List.length_cons]
theorem len_sortS : ∀ l : List (List Nat), (sortS l).length = l.length
  | [] => rfl
  | a :: r => by unfold sortS; rw [len_insS, len_sortS r, List.length_cons]
theorem fm_if {α β : Type} (p : α → Bool) (e : α → β) : ∀ l : List α, (l.filterMap fun a => if p a = true then some (e a) else none) = (l.filter p).map e
  | [] => rfl
  | a :: l => by
    rw [List.filterMap_cons, List.filter_cons, fm_if p e l]
    by_cases h : p a = true <;> simp [h]
theorem fm_all {α β : Type} (e : α → β) : ∀ l : List α, (l.filterMap fun a => some (e a)) = l.map e
  | [] => rfl
  | a :: l => by rw [List.filterMap_cons, fm_all e l]; rfl
section
variable {γ : Type} {st : Sto} {item : D → Sto → R (Option D)} {xs : List γ} {enc e : γ → D} {p : γ → Bool} {Q : List D → Sto → Prop} {X : XQ}
/-- a comprehension with a test -/
theorem ok_compP (p : γ → Bool) (e : γ → D) (hl : xs.length ≤ sl) (hi : ∀ a ∈ xs, okE (item (enc a) st) (fun o s => o = (if p a = true then some (e a) else none) ∧ s = st) noX) (h : Q ((xs.filter p).map e) st) : okE (loopC item (.fix (xs.map enc)) ((xs.map enc).length + 1) 0 [] st) Q X := by
  rw [List.length_map]
  refine ok_compM hl hi ?_
  rw [fm_if]; exact h
/-- .. with none -/
theorem ok_compA (e : γ → D) (hl : xs.length ≤ sl) (hi : ∀ a ∈ xs, okE (item (enc a) st) (fun o s => o = some (e a) ∧ s = st) noX) (h : Q (xs.map e) st) : okE (loopC item (.fix (xs.map enc)) ((xs.map enc).length + 1) 0 [] st) Q X := by
  rw [List.length_map]
  refine ok_compM hl hi ?_
  rw [fm_all]; exact h
theorem ok_compPR {n : Nat} (p : γ → Bool) (e : γ → D) (hn : st[n]? = some (.lst (xs.map enc))) (hl : xs.length ≤ sl) (hi : ∀ a ∈ xs, okE (item (enc a) st) (fun o s => o = (if p a = true then some (e a) else none) ∧ s = st) noX) (h : Q ((xs.filter p).map e) st) : okE (loopC item (.cell n) (lenI st (.cell n) + 1) 0 [] st) Q X := by
  refine ok_compR hn hl hi ?_
  rw [fm_if]; exact h
theorem ok_compAR {n : Nat} (e : γ → D) (hn : st[n]? = some (.lst (xs.map enc))) (hl : xs.length ≤ sl) (hi : ∀ a ∈ xs, okE (item (enc a) st) (fun o s => o = some (e a) ∧ s = st) noX) (h : Q (xs.map e) st) : okE (loopC item (.cell n) (lenI st (.cell n) + 1) 0 [] st) Q X := by
  refine ok_compR hn hl hi ?_
  rw [fm_all]; exact h
end
section
variable {γ : Type} {st : Sto} {env : Env} {body : D → Env → Sto → RS} {xs : List γ} {enc : γ → D} {N B C : Env → Sto → Prop} {Rt : D → Sto → Prop} {XX : XT}
theorem ok_loopM (I : Nat → Env → Sto → Prop) (h0 : I 0 env st) (hs : ∀ i (h : i < xs.length) env s, I i env s → okT (body (enc xs[i]) env s) (I (i + 1)) N (I (i + 1)) Rt XX)
    (he : ∀ env s, I xs.length env s → N env s) : okT (loopS body (.fix (xs.map enc)) ((xs.map enc).length + 1) 0 env st) N B C Rt XX := by
  rw [List.length_map]
  exact ok_loop I xs.length (fun i env s hi h => ⟨enc xs[i], by simp [nextI, hi], hs i hi env s h⟩) (fun env s h => ⟨by simp [nextI], he _ _ h⟩) xs.length 0 env st _ (by omega) (by omega) h0
theorem ok_loopR {n : Nat} (I : Nat → Env → Sto → Prop) (h0 : I 0 env st) (hc : ∀ i env s, I i env s → s[n]? = some (.lst (xs.map enc))) (hs : ∀ i (h : i < xs.length) env s, I i env s → okT (body (enc xs[i]) env s) (I (i + 1)) N (I (i + 1)) Rt XX)
    (he : ∀ env s, I xs.length env s → N env s) : okT (loopS body (.cell n) (lenI st (.cell n) + 1) 0 env st) N B C Rt XX := by
  have le : lenI st (.cell n) = xs.length := by unfold lenI; simp only [hc 0 env st h0, List.length_map]
  rw [le]
  exact ok_loop I xs.length (fun i env s hi h => ⟨enc xs[i], by simp [nextI, hc i env s h, hi], hs i hi env s h⟩) (fun env s h => ⟨by simp [nextI, hc _ env s h], he _ _ h⟩) xs.length 0 env st _ (by omega) (by omega) h0
end
theorem fs_filter {α β : Type} (p : α → Bool) (f : α → Option β) : ∀ l : List α, (l.filter p).findSome? f = l.findSome? fun a => if p a = true then f a else none
  | [] => rfl
  | a :: l => by
    rw [List.filter_cons, List.findSome?_cons]
    by_cases h : p a = true
    · rw [if_pos h, if_pos h, List.findSome?_cons, fs_filter p f l]
    · rw [if_neg h, if_neg h]; exact fs_filter p f l
/-- a comprehension over pairs -/
theorem ok_compZ {γ : Type} {st : Sto} {item : D → Sto → R (Option D)} {xs : List γ} {e1 e2 : γ → D} (e : γ → D) {Q : List D → Sto → Prop} {X : XQ} (hl : xs.length ≤ sl) (hi : ∀ a ∈ xs, okE (item (.tup [e1 a, e2 a]) st) (fun o s => o = some (e a) ∧ s = st) noX) (h : Q (xs.map e) st) : okE (loopC item (.zip (.fix (xs.map e1)) (.fix (xs.map e2))) (lenI st (.zip (.fix (xs.map e1)) (.fix (xs.map e2))) + 1) 0 [] st) Q X := by
  have le : lenI st (.zip (.fix (xs.map e1)) (.fix (xs.map e2))) = xs.length := by unfold lenI; simp [lenI]
  rw [le]
  refine ok_loopC (fun i acc s => s = st ∧ acc = (xs.take i).map e) xs.length (fun i acc s hi' ⟨h1, h2⟩ => ?_) (fun acc s ⟨h1, h2⟩ => ?_) xs.length 0 [] st _ (by omega) (by omega) ⟨rfl, rfl⟩
  · subst h1 h2
    refine ⟨.tup [e1 xs[i], e2 xs[i]], by simp [nextI, hi'], okE_mono (hi _ (List.getElem_mem hi')) ?_⟩
    rintro o s ⟨rfl, rfl⟩
    have e' : xs.take (i + 1) = xs.take i ++ [xs[i]] := by rw [List.take_succ_eq_append_getElem hi']
    exact ⟨by rw [List.length_map, List.length_take]; omega, rfl, by rw [e', List.map_append]; rfl⟩
  · subst h1 h2
    exact ⟨by simp [nextI], by rw [List.take_length]; exact h⟩
theorem keyEq_S (a b : List Nat) : keyEq (.str a) (.str b) = decide (a = b) := (rfl)
/-- a dict comprehension whose keys are texts, all different -/
theorem ok_dcompS {γ : Type} {st : Sto} {item : D → Sto → R (Option (D × D))} {xs : List γ} {enc : γ → D} (kf : γ → List Nat) (vf : γ → D) {Q : List (D × D) → Sto → Prop} {X : XQ} (hnd : (xs.map kf).Nodup) (hl : xs.length ≤ sl) (hi : ∀ a ∈ xs, okE (item (enc a) st) (fun o s => o = some (.str (kf a), vf a) ∧ s = st) noX) (h : Q (xs.map fun a => (.str (kf a), vf a)) st) : okE (loopD item (.fix (xs.map enc)) ((xs.map enc).length + 1) 0 [] st) Q X := by
  rw [List.length_map]
  refine ok_loopD (fun i acc s => s = st ∧ acc = (xs.take i).map fun a => (.str (kf a), vf a)) xs.length (fun i acc s hi' ⟨h1, h2⟩ => ?_) (fun acc s ⟨h1, h2⟩ => ?_) xs.length 0 [] st _ (by omega) (by omega) ⟨rfl, rfl⟩
  · subst h1 h2
    refine ⟨enc xs[i], by simp [nextI, hi'], okE_mono (hi _ (List.getElem_mem hi')) ?_⟩
    rintro o s ⟨rfl, rfl⟩
    have e' : xs.take (i + 1) = xs.take i ++ [xs[i]] := by rw [List.take_succ_eq_append_getElem hi']
    refine ⟨⟨rfl, by rw [List.length_map, List.length_take]; omega⟩, rfl, ?_⟩
    dsimp only
    rw [e', List.map_append, put_new]
    · rfl
    · intro p hp
      obtain ⟨a, ha, rfl⟩ := List.mem_map.mp hp
      rw [keyEq_S]
      refine decide_eq_false fun e => ?_
      rw [← List.take_append_drop i xs, List.map_append, List.drop_eq_getElem_cons hi', List.map_cons] at hnd
      exact (List.nodup_append.mp hnd).2.2 _ (List.mem_map.mpr ⟨a, ha, rfl⟩) _ List.mem_cons_self e
  · subst h1 h2
    exact ⟨by simp [nextI], by rw [List.take_length]; exact h⟩
theorem fold_put {γ : Type} (kf : γ → List Nat) (vf : γ → D) : ∀ (xs : List γ) (acc : List (D × D)), (xs.map kf).Nodup → (∀ p ∈ acc, ∀ a ∈ xs, keyEq p.1 (.str (kf a)) = false) → (xs.map fun a => ((.str (kf a) : D), vf a)).foldl (fun k p => putK k p.1 p.2) acc = acc ++ xs.map fun a => (.str (kf a), vf a)
  | [], acc, _, _ => by simp
  | a :: xs, acc, hn, ha => by
    rw [List.map_cons, List.foldl_cons]
    dsimp only
    rw [put_new _ _ _ fun p hp => ha p hp a List.mem_cons_self, fold_put kf vf xs]
    · rw [List.append_assoc]; rfl
    · exact (List.nodup_cons.mp hn).2
    · intro p hp b hb
      rcases List.mem_append.mp hp with hp | hp
      · exact ha p hp b (List.mem_cons_of_mem _ hb)
      · rw [List.mem_singleton] at hp
        subst hp
        rw [keyEq_S]
        exact decide_eq_false fun e => (List.nodup_cons.mp hn).1 (List.mem_map.mpr ⟨b, hb, e.symm⟩)
theorem pairs_map {γ : Type} (kf : γ → List Nat) (vf : γ → D) : ∀ xs : List γ, pairsOf (xs.map fun a => .tup [.str (kf a), vf a]) = some (xs.map fun a => (.str (kf a), vf a))
  | [] => rfl
  | a :: xs => by
    rw [List.map_cons, List.map_cons]
    unfold pairsOf
    rw [pairs_map kf vf xs]; rfl
theorem i_dictS {γ : Type} {st : Sto} (kf : γ → List Nat) (vf : γ → D) (xs : List γ) (hn : (xs.map kf).Nodup) (z : Bool) : biD z "dict" [.cl (xs.map fun a => .tup [.str (kf a), vf a])] st = newD z (xs.map fun a => (.str (kf a), vf a)) st := by
  show dictB z [.cl _] st = _
  unfold dictB dctOf lstOf
  simp only [pairs_map]
  rw [fold_put kf vf xs [] hn (by simp)]
  rfl
theorem getK_mapS {γ : Type} (kf : γ → List Nat) (vf : γ → D) : ∀ {xs : List γ}, (xs.map kf).Nodup → ∀ {a : γ}, a ∈ xs → getK (xs.map fun a => (.str (kf a), vf a)) (.str (kf a)) = some (vf a)
  | [], _, a, h => by cases h
  | b :: xs, hn, a, h => by
    rw [List.map_cons, getK_S]
    rw [List.map_cons, List.nodup_cons] at hn
    rcases List.mem_cons.mp h with rfl | h
    · rw [if_pos rfl]
    · rw [if_neg (fun e : kf b = kf a => hn.1 (List.mem_map.mpr ⟨a, h, e.symm⟩))]
      exact getK_mapS kf vf hn.2 h
/-! literal lists -/
def goC (item : D → Sto → R (Option D)) : List D → List D → Sto → R (List D)
  | [], acc, st => .ok acc st
  | d :: r, acc, st => match item d st with
    | .ok none s => goC item r acc s
    | .ok (some x) s => if acc.length < sl then goC item r (acc ++ [x]) s else .no
    | _ => .no
theorem loopC_go (item : D → Sto → R (Option D)) : ∀ (xs pre acc : List D) (st : Sto), loopC item (.fix (pre ++ xs)) (xs.length + 1) pre.length acc st = goC item xs acc st
  | [], pre, acc, st => by
    rw [List.append_nil]
    unfold loopC
    simp only [nextI, List.getElem?_eq_none_iff.mpr (Nat.le_refl pre.length)]
    rfl
  | d :: r, pre, acc, st => by
    have e : (pre ++ d :: r)[pre.length]? = some d := by simp
    have ih := loopC_go item r (pre ++ [d])
    rw [List.append_assoc] at ih
    simp only [List.cons_append, List.nil_append, List.length_append, List.length_cons, List.length_nil, Nat.zero_add] at ih
    rw [List.length_cons]
    unfold loopC
    simp only [nextI, e]
    unfold goC
    cases item d st with
    | ok o s =>
      cases o with
      | none => exact ih acc s
      | some x =>
        dsimp only
        by_cases h : acc.length < sl
        · rw [if_pos h, if_pos h]; exact ih (acc ++ [x]) s
        · rw [if_neg h, if_neg h]
    | exc _ _ _ => rfl
    | no => rfl
def optD {α : Type} (o : Option α) (p : Prop) (k : α → Prop) [Hd p] [Hd k] : Prop := match o with | none => p | some x => k x
theorem optD_none {α : Type} (p : Prop) (k : α → Prop) : optD none p k = p := (rfl)
theorem optD_some {α : Type} (x : α) (p : Prop) (k : α → Prop) : optD (some x) p k = k x := (rfl)
section
variable {item : D → Sto → R (Option D)} {st : Sto} {Q : List D → Sto → Prop} {X : XQ}
theorem ok_lit {xs : List D} {n : Nat} (h : n = xs.length + 1) (q : okE (goC item xs [] st) Q X) : okE (loopC item (.fix xs) n 0 [] st) Q X := by
  subst h
  have := loopC_go item xs [] [] st
  rw [List.nil_append, List.length_nil] at this
  rw [this]; exact q
theorem go_nil (acc : List D) : okE (goC item [] acc st) Q X = Q acc st := by unfold goC; rw [okE_ok]
theorem go_cons (d : D) (r acc : List D) : okE (goC item (d :: r) acc st) Q X = okE (item d st) (fun o s => optD o (okE (goC item r acc s) Q X) (fun x => acc.length < sl ∧ okE (goC item r (acc ++ [x]) s) Q X)) noX := by
  rw [goC]
  cases item d st with
  | ok o s =>
    rw [okE_ok]
    cases o with
    | none => rfl
    | some x =>
      rw [optD_some]
      dsimp only
      rw [okE_if]
  | exc _ _ _ => rw [okE_exc, okE_no]; rfl
  | no => rw [okE_no, okE_no]
end
def goS (body : D → Env → Sto → RS) : List D → Env → Sto → RS
  | [], env, st => .next env st
  | d :: r, env, st => match body d env st with
    | .next e s => goS body r e s
    | .cont e s => goS body r e s
    | .brk e s => .next e s
    | o => o
theorem loopS_go (body : D → Env → Sto → RS) : ∀ (xs pre : List D) (env : Env) (st : Sto), loopS body (.fix (pre ++ xs)) (xs.length + 1) pre.length env st = goS body xs env st
  | [], pre, env, st => by
    rw [List.append_nil]
    unfold loopS
    simp only [nextI, List.getElem?_eq_none_iff.mpr (Nat.le_refl pre.length)]
    rfl
  | d :: r, pre, env, st => by
    have e : (pre ++ d :: r)[pre.length]? = some d := by simp
    have ih := loopS_go body r (pre ++ [d])
    rw [List.append_assoc] at ih
    simp only [List.cons_append, List.nil_append, List.length_append, List.length_cons, List.length_nil, Nat.zero_add] at ih
    rw [List.length_cons]
    unfold loopS
    simp only [nextI, e]
    unfold goS
    cases body d env st <;> first | rfl | exact ih _ _
section
variable {st : Sto} {env : Env} {body : D → Env → Sto → RS} {N B C : Env → Sto → Prop} {Rt : D → Sto → Prop} {XX : XT}
theorem ok_litS {xs : List D} {n : Nat} (h : n = xs.length + 1) (q : okT (goS body xs env st) N B C Rt XX) : okT (loopS body (.fix xs) n 0 env st) N B C Rt XX := by
  subst h
  have := loopS_go body xs [] env st
  rw [List.nil_append, List.length_nil] at this
  rw [this]; exact q
theorem gos_nil : okT (goS body [] env st) N B C Rt XX = N env st := by unfold goS; rw [okT_next]
theorem gos_cons (d : D) (r : List D) : okT (goS body (d :: r) env st) N B C Rt XX = okT (body d env st) (fun e s => okT (goS body r e s) N B C Rt XX) N (fun e s => okT (goS body r e s) N B C Rt XX) Rt XX := by
  rw [goS]
  cases body d env st with
  | next e s => rw [okT_next]
  | cont e s => rw [okT_cont]
  | brk e s => rw [okT_brk, okT_next]
  | ret d s => rw [okT_ret, okT_ret]
  | exc _ _ _ _ => rw [okT_exc, okT_exc]
  | no => with_unfolding_all rfl
end
end Mi

set_option linter.all false
set_option maxRecDepth 100000
/-! V21: the rules together. -/
namespace Mi
open PySem
end Mi

set_option Elab.async false
set_option linter.all false
set_option maxRecDepth 100000
set_option maxHeartbeats 0
namespace K02
open PySem Mi
def b_is_name : List Mi.S := [.ret (.and (.bi true "isinstance" [.var 0, .ty "str"]) (.and (.cmp2 .LtE .LtE (.int 1) (.bi true "len" [.var 0]) (.glob "MOST_LETTERS")) (.bi true "all" [.comp true (.cmp .In (.var 1) (.glob "SMALL")) (.name 1) (.e (.var 0)) none [1]])))]
def f_is_name : Fn := ⟨2, b_is_name⟩
def b_is_whole : List Mi.S := [.ret (.and (.bi true "isinstance" [.var 0, .ty "int"]) (.not (.bi true "isinstance" [.var 0, .ty "bool"])))]
def f_is_whole : Fn := ⟨1, b_is_whole⟩
def b_is_between : List Mi.S := [.ret (.and (.call "is_whole" [.var 0] [] []) (.cmp2 .LtE .LtE (.var 1) (.var 0) (.var 2)))]
def f_is_between : Fn := ⟨3, b_is_between⟩
def b_is_number : List Mi.S := [.ret (.call "is_between" [.var 0, .int 0, .glob "GREATEST"] [] [])]
def f_is_number : Fn := ⟨1, b_is_number⟩
def b_are_moments : List Mi.S := [.ret (.and (.call "is_between" [.var 0, .int 0, .glob "LAST_MOMENT"] [] []) (.and (.call "is_between" [.var 1, .int 0, .glob "LAST_MOMENT"] [] []) (.cmp .Lt (.var 0) (.var 1))))]
def f_are_moments : Fn := ⟨2, b_are_moments⟩
def b_is_under : List Mi.S := [.ret (.or (.cmp .Is (.var 0) (.non)) (.call "is_between" [.var 0, .int 0, .bin true .Sub (.var 1) (.int 1)] [] []))]
def f_is_under : Fn := ⟨2, b_is_under⟩
def b_is_leave : List Mi.S := [.iff (.or (.not (.bi true "isinstance" [.var 0, .ty "tuple"])) (.cmp .NotEq (.bi true "len" [.var 0]) (.int 9))) [.ret (.bl false)] [], .asg (.tup [.name 1, .name 2, .name 3, .name 4, .name 5, .name 6, .name 7, .name 8, .name 9]) (.var 0), .iff (.or (.not (.call "is_number" [.var 1] [] [])) (.or (.not (.bi true "all" [.comp true (.call "is_name" [.var 10] [] []) (.name 10) (.e (.tup [.var 2, .var 4, .var 5])) none [10]])) (.cmp .Eq (.var 4) (.var 5)))) [.ret (.bl false)] [], .iff (.or (.not (.bi true "isinstance" [.var 3, .ty "tuple"])) (.cmp .NotIn (.var 3) (.glob "KINDS_OF_DEEDS"))) [.ret (.bl false)] [], .ret (.and (.call "are_moments" [.var 6, .var 7] [] []) (.and (.call "is_between" [.var 8, .int 0, .glob "MOST_PASSES"] [] []) (.call "is_under" [.var 9, .var 1] [] [])))]
def f_is_leave : Fn := ⟨11, b_is_leave⟩
def b__law_urn : List Mi.S := [.ret (.lst false [.bi false "max" [.int 0, .bin true .Sub (.var 0) (.bin true .Pow (.int 10) (.int 18))], .bin false .Add (.bin true .Mod (.var 0) (.bin true .Add (.bin true .Pow (.int 10) (.int 41)) (.int 63))) (.bin true .Mult (.int 6007) (.var 1)), .int 0])]
def f__law_urn : Fn := ⟨2, b__law_urn⟩
def b__law_lot : List Mi.S := [.iff (.cmp .Gt (.ix (.var 0) (.int 0)) (.int 0)) [.asg (.name 3) (.bin true .Mod (.ix (.var 0) (.int 0)) (.var 1)), .asg (.sub (.var 0) (.int 0)) (.bin true .FloorDiv (.ix (.var 0) (.int 0)) (.var 1)), .ret (.var 3)] [], .augS (.var 0) (.int 2) .Add (.int 1), .asg (.name 2) (.bin true .Mod (.bin true .Pow (.bin true .Add (.ix (.var 0) (.int 1)) (.bin true .Mult (.int 433494437) (.ix (.var 0) (.int 2)))) (.int 5)) (.bin true .Add (.bin true .Pow (.int 10) (.int 38)) (.int 133))), .asg (.name 2) (.bin true .Mod (.bin true .Pow (.bin true .Add (.var 2) (.bin true .Mult (.bin true .Mult (.int 15485863) (.ix (.var 0) (.int 2))) (.ix (.var 0) (.int 2)))) (.int 3)) (.bin true .Add (.bin true .Pow (.int 10) (.int 35)) (.int 69))), .ret (.bin true .Mod (.bin true .FloorDiv (.var 2) (.int 4096)) (.var 1))]
def f__law_lot : Fn := ⟨4, b__law_lot⟩
def b__law_named : List Mi.S := [.asg (.name 1) (.str [97, 98, 99, 100, 101, 102, 103, 104, 105, 106, 107, 108, 109, 110, 111, 112, 113, 114, 115, 116, 117, 118, 119, 120, 121, 122]), .asg (.name 2) (.lst true [.str [97], .str [98], .str [97, 110, 110], .str [104, 97, 108, 108], .str [114, 111, 111, 109], .str [111, 102], .str [104, 111, 108, 100, 115], .str [110, 111, 110, 101], .str [108, 111, 111, 107], .str [115, 101, 116], .str [111, 110], .str [117, 110, 100, 101, 114], .str [122, 122, 122, 122, 122, 122, 122, 122]]), .iff (.cmp .Gt (.call "_law_lot" [.var 0, .int 3] [] []) (.int 0)) [.ret (.ix (.var 2) (.call "_law_lot" [.var 0, .int 13] [] []))] [], .ret (.meth true (.str []) "join" [.comp true (.ix (.var 1) (.call "_law_lot" [.var 0, .int 26] [] [])) (.name 3) (.range1 [.bin true .Add (.int 1) (.call "_law_lot" [.var 0, .int 8] [] [])]) none [3]] [] [])]
def f__law_named : Fn := ⟨4, b__law_named⟩
def b__law_leaf : List Mi.S := [.asg (.name 1) (.ix (.lst true [.int 0, .int 1, .call "_law_lot" [.var 0, .int 60] [] [], .int 999999999, .call "_law_lot" [.var 0, .bin true .Pow (.int 10) (.int 9)] [] []]) (.call "_law_lot" [.var 0, .int 5] [] [])), .asg (.name 2) (.ite (.cmp .Gt (.var 1) (.int 0)) (.ix (.lst true [.non, .bin true .Sub (.var 1) (.int 1), .call "_law_lot" [.var 0, .var 1] [] []]) (.call "_law_lot" [.var 0, .int 3] [] [])) (.non)), .asg (.name 3) (.call "_law_named" [.var 0] [] []), .asg (.name 4) (.call "_law_named" [.var 0] [] []), .iff (.cmp .Eq (.var 4) (.var 3)) [.asg (.name 4) (.ix (.lst true [.str [98, 111, 98], .str [99, 97, 114, 108]]) (.bi true "int" [.cmp .Eq (.var 3) (.str [98, 111, 98])]))] [], .asg (.name 5) (.ix (.lst true [.int 0, .call "_law_lot" [.var 0, .int 6] [] [], .call "_law_lot" [.var 0, .int 2000] [] [], .int 999999, .call "_law_lot" [.var 0, .bin true .Pow (.int 10) (.int 6)] [] []]) (.call "_law_lot" [.var 0, .int 5] [] [])), .asg (.name 6) (.ix (.lst true [.bin true .Add (.var 5) (.int 1), .bin true .Pow (.int 10) (.int 6), .bin true .Add (.bin true .Add (.var 5) (.int 1)) (.call "_law_lot" [.var 0, .bin true .Sub (.bin true .Pow (.int 10) (.int 6)) (.var 5)] [] [])]) (.call "_law_lot" [.var 0, .int 3] [] [])), .asg (.name 7) (.ix (.lst true [.tup [.str [108, 111, 111, 107]], .tup [.str [115, 101, 116]], .tup [.str [108, 111, 111, 107], .str [115, 101, 116]]]) (.call "_law_lot" [.var 0, .int 3] [] [])), .ret (.tup [.var 1, .call "_law_named" [.var 0] [] [], .var 7, .var 3, .var 4, .var 5, .var 6, .call "_law_lot" [.var 0, .int 7] [] [], .var 2])]
def f__law_leaf : Fn := ⟨8, b__law_leaf⟩
def b__law_odd : List Mi.S := [.asg (.name 1) (.lst true [.non, .bl true, .bl false, .int 0, .int 1, .neg (.int 1), .int 7, .int 1000001, .str [], .str [97], .str [65], .str [110, 105, 110, 101, 99, 104, 97, 114, 115], .str [97, 32, 98], .tup [.str [108, 111, 111, 107]], .lst true [.str [108, 111, 111, 107]], .tup [], .lst true []]), .ret (.ix (.bin true .Add (.var 1) (.lst true [.dct true []])) (.call "_law_lot" [.var 0, .int 18] [] []))]
def f__law_odd : Fn := ⟨2, b__law_odd⟩
def b__law_is_name : List Mi.S := [.iff (.or (.not (.bi true "isinstance" [.var 0, .ty "str"])) (.or (.cmp .Lt (.bi true "len" [.var 0]) (.int 1)) (.cmp .Gt (.bi true "len" [.var 0]) (.int 8)))) [.ret (.bl false)] [], .ret (.cmp .Eq (.comp true (.var 1) (.name 1) (.e (.var 0)) (some (.or (.cmp .Lt (.var 1) (.str [97])) (.cmp .Gt (.var 1) (.str [122])))) [1]) (.lst true []))]
def f__law_is_name : Fn := ⟨2, b__law_is_name⟩
def b__law_whole : List Mi.S := [.ret (.and (.bi true "isinstance" [.var 0, .ty "int"]) (.and (.not (.bi true "isinstance" [.var 0, .ty "bool"])) (.and (.cmp .LtE (.var 1) (.var 0)) (.cmp .LtE (.var 0) (.var 2)))))]
def f__law_whole : Fn := ⟨3, b__law_whole⟩
def b__law_is_leaf : List Mi.S := [.iff (.or (.not (.bi true "isinstance" [.var 0, .ty "tuple"])) (.cmp .NotEq (.bi true "len" [.var 0]) (.int 9))) [.ret (.bl false)] [], .iff (.or (.not (.call "_law_whole" [.ix (.var 0) (.int 0), .int 0, .int 999999999] [] [])) (.not (.bi true "all" [.comp true (.call "_law_is_name" [.ix (.var 0) (.var 1)] [] []) (.name 1) (.e (.lst true [.int 1, .int 3, .int 4])) none [1]]))) [.ret (.bl false)] [], .iff (.or (.not (.bi true "isinstance" [.ix (.var 0) (.int 2), .ty "tuple"])) (.or (.cmp .NotIn (.ix (.var 0) (.int 2)) (.lst true [.tup [.str [108, 111, 111, 107]], .tup [.str [115, 101, 116]], .tup [.str [108, 111, 111, 107], .str [115, 101, 116]]])) (.cmp .Eq (.ix (.var 0) (.int 3)) (.ix (.var 0) (.int 4))))) [.ret (.bl false)] [], .iff (.or (.not (.call "_law_whole" [.ix (.var 0) (.int 5), .int 0, .bin true .Pow (.int 10) (.int 6)] [] [])) (.or (.not (.call "_law_whole" [.ix (.var 0) (.int 6), .int 0, .bin true .Pow (.int 10) (.int 6)] [] [])) (.cmp .GtE (.ix (.var 0) (.int 5)) (.ix (.var 0) (.int 6))))) [.ret (.bl false)] [], .ret (.and (.call "_law_whole" [.ix (.var 0) (.int 7), .int 0, .int 6] [] []) (.or (.cmp .Is (.ix (.var 0) (.int 8)) (.non)) (.call "_law_whole" [.ix (.var 0) (.int 8), .int 0, .bin true .Sub (.ix (.var 0) (.int 0)) (.int 1)] [] [])))]
def f__law_is_leaf : Fn := ⟨2, b__law_is_leaf⟩
def b__law_part : List Mi.S := [.asg (.tup [.name 5, .name 6, .name 7, .name 8, .name 9]) (.sl true (.var 1) none (some (.int 5))), .asg (.tup [.name 10, .name 11, .name 12, .name 13]) (.sl true (.var 1) (some (.int 5)) none), .iff (.cmp .In (.var 2) (.lst true [.int 1, .int 3, .int 4])) [.ret (.ix (.lst true [.var 8, .var 9, .bin true .Add (.var 6) (.str [65]), .str [], .str [97, 98, 99, 100, 101, 102, 103, 104, 105], .meth true (.var 6) "upper" [] [] [], .str [122, 122, 122, 122, 122, 122, 122, 122], .call "_law_odd" [.var 0] [] []]) (.call "_law_lot" [.var 0, .int 8] [] []))] [], .iff (.cmp .Eq (.var 2) (.int 2)) [.asg (.name 14) (.lst true [.tup [.str [108, 111, 111, 107]], .tup [.str [115, 101, 116]], .tup [.str [108, 111, 111, 107], .str [115, 101, 116]], .tup [.str [115, 101, 116], .str [108, 111, 111, 107]], .tup [.str [108, 111, 111, 107], .str [108, 111, 111, 107]], .tup [], .bi true "list" [.var 7], .str [108, 111, 111, 107]]), .ret (.ix (.bin true .Add (.var 14) (.lst true [.tup [.str [103, 105, 118, 101]], .bin true .Add (.var 7) (.tup [.str [116, 97, 107, 101]])])) (.call "_law_lot" [.var 0, .int 10] [] []))] [], .asg (.name 3) (.lst true [.lst true [.int 0, .neg (.int 1), .bin true .FloorDiv (.var 5) (.int 2), .bl true], .lst true [.var 11, .bin true .Sub (.var 11) (.int 1), .bin true .Add (.var 11) (.int 1), .neg (.int 1)], .lst true [.var 10, .bin true .Add (.var 10) (.int 1), .bin true .Pow (.int 10) (.int 6), .bin true .Add (.bin true .Pow (.int 10) (.int 6)) (.int 1)]]), .asg (.name 3) (.bin true .Add (.var 3) (.lst true [.lst true [.int 0, .int 6, .int 7, .neg (.int 1)], .lst true [.var 5, .bin true .Sub (.var 5) (.int 1), .int 0, .non]])), .asg (.name 4) (.ix (.ix (.var 3) (.meth true (.lst true [.int 0, .int 5, .int 6, .int 7, .int 8]) "index" [.var 2] [] [])) (.call "_law_lot" [.var 0, .int 4] [] [])), .ret (.ix (.lst true [.var 4, .var 4, .var 4, .bi true "str" [.var 4], .call "_law_odd" [.var 0] [] []]) (.call "_law_lot" [.var 0, .int 5] [] []))]
def f__law_part : Fn := ⟨15, b__law_part⟩
def b__law_bent : List Mi.S := [.asg (.name 2) (.call "_law_lot" [.var 0, .int 8] [] []), .asg (.name 3) (.call "_law_lot" [.var 0, .int 9] [] []), .iff (.cmp .Eq (.var 2) (.int 0)) [.ret (.bin true .Add (.sl true (.var 1) none (some (.var 3))) (.sl true (.var 1) (some (.bin true .Add (.var 3) (.int 1))) none))] [], .iff (.cmp .Eq (.var 2) (.int 1)) [.ret (.bin true .Add (.bin true .Add (.sl true (.var 1) none (some (.var 3))) (.sl true (.var 1) (some (.var 3)) (some (.bin true .Add (.var 3) (.int 1))))) (.sl true (.var 1) (some (.var 3)) none))] [], .iff (.cmp .Eq (.var 2) (.int 2)) [.ret (.ix (.lst true [.bi true "list" [.var 1], .rev true (.var 1), .tup [.var 1], .call "_law_odd" [.var 0] [] []]) (.call "_law_lot" [.var 0, .int 4] [] []))] [], .ret (.bin true .Add (.bin true .Add (.sl true (.var 1) none (some (.var 3))) (.tup [.call "_law_part" [.var 0, .var 1, .var 3] [] []])) (.sl true (.var 1) (some (.bin true .Add (.var 3) (.int 1))) none))]
def f__law_bent : Fn := ⟨4, b__law_bent⟩
def b__law_right : List Mi.S := [.asg (.name 1) (.call "_law_leaf" [.var 0] [] []), .asg (.name 2) (.call "_law_lot" [.var 0, .int 7] [] []), .iff (.cmp .Gt (.var 2) (.int 1)) [.asg (.name 1) (.call "_law_bent" [.var 0, .var 1] [] [])] [], .iff (.and (.cmp .Gt (.var 2) (.int 5)) (.call "_law_is_leaf" [.var 1] [] [])) [.asg (.name 1) (.call "_law_bent" [.var 0, .var 1] [] [])] [], .asg (.name 3) (.call "_law_is_leaf" [.var 1] [] []), .fr (.name 4) (.e (.lst true [.call "is_leave" [.var 1] [] [], .call "is_leave" [] ["thing"] [.var 1]])) [.iff (.or (.not (.bi true "isinstance" [.var 4, .ty "bool"])) (.cmp .NotEq (.var 4) (.var 3))) [.ret (.bl false)] []], .ret (.bl true)]
def f__law_right : Fn := ⟨5, b__law_right⟩
def b_law : List Mi.S := [.fr (.tup [.name 1, .name 2]) (.enum (.sl true (.bin true .Add (.var 0) (.lst true [.int 0])) none (some (.bi true "max" [.int 1, .bi true "min" [.bi true "len" [.var 0], .int 24]])))) [.iff (.not (.call "_law_right" [.call "_law_urn" [.var 2, .var 1] [] []] [] [])) [.ret (.bl false)] []], .ret (.bl true)]
def f_law : Fn := ⟨3, b_law⟩
def plans : List (String × Plans) := [("is_name", [((1, []), [.pos 0])]), ("is_whole", [((1, []), [.pos 0])]), ("is_between", [((3, []), [.pos 0, .pos 1, .pos 2])]), ("is_number", [((1, []), [.pos 0])]), ("are_moments", [((2, []), [.pos 0, .pos 1])]), ("is_under", [((2, []), [.pos 0, .pos 1])]), ("is_leave", [((1, []), [.pos 0]), ((0, ["thing"]), [.kw 0])]), ("_law_urn", [((2, []), [.pos 0, .pos 1])]), ("_law_lot", [((2, []), [.pos 0, .pos 1])]), ("_law_named", [((1, []), [.pos 0])]), ("_law_leaf", [((1, []), [.pos 0])]), ("_law_odd", [((1, []), [.pos 0])]), ("_law_is_name", [((1, []), [.pos 0])]), ("_law_whole", [((3, []), [.pos 0, .pos 1, .pos 2])]), ("_law_is_leaf", [((1, []), [.pos 0])]), ("_law_part", [((3, []), [.pos 0, .pos 1, .pos 2])]), ("_law_bent", [((2, []), [.pos 0, .pos 1])]), ("_law_right", [((1, []), [.pos 0])])]
def mplans : List ((String × String) × Plans) := []
def gs : List (String × D) := [("MOST_LETTERS", .int 8), ("GREATEST", .int 999999999), ("LAST_MOMENT", .int 1000000), ("MOST_PASSES", .int 6), ("SMALL", .str [97, 98, 99, 100, 101, 102, 103, 104, 105, 106, 107, 108, 109, 110, 111, 112, 113, 114, 115, 116, 117, 118, 119, 120, 121, 122]), ("KINDS_OF_DEEDS", .tup [.tup [.str [108, 111, 111, 107]], .tup [.str [115, 101, 116]], .tup [.str [108, 111, 111, 107], .str [115, 101, 116]]])]
def bis : List String := ["all", "bool", "enumerate", "int", "isinstance", "len", "list", "max", "min", "range", "str", "tuple"]
def flds : List (String × List String) := []
def P : Prog := ⟨[("is_name", f_is_name), ("is_whole", f_is_whole), ("is_between", f_is_between), ("is_number", f_is_number), ("are_moments", f_are_moments), ("is_under", f_is_under), ("is_leave", f_is_leave), ("_law_urn", f__law_urn), ("_law_lot", f__law_lot), ("_law_named", f__law_named), ("_law_leaf", f__law_leaf), ("_law_odd", f__law_odd), ("_law_is_name", f__law_is_name), ("_law_whole", f__law_whole), ("_law_is_leaf", f__law_is_leaf), ("_law_part", f__law_part), ("_law_bent", f__law_bent), ("_law_right", f__law_right)],
  [],
  plans, mplans, gs, flds, bis, [("is_name", 2), ("is_whole", 2), ("is_between", 2), ("is_number", 2), ("are_moments", 2), ("is_under", 2), ("is_leave", 2), ("_law_urn", 0), ("_law_lot", 2), ("_law_named", 2), ("_law_leaf", 2), ("_law_odd", 2), ("_law_is_name", 2), ("_law_whole", 2), ("_law_is_leaf", 2), ("_law_part", 2), ("_law_bent", 2), ("_law_right", 2)], [], [], [], [], []⟩
end K02

set_option Elab.async false
set_option linter.all false
set_option maxRecDepth 100000
set_option maxHeartbeats 0

namespace K02
open PySem PySem.Spec PyProof.Rows L2 Mi
def top (i : Nat) : Stmt := PySem.Challenge.pw_leavechain_k02_which_are_leaves.main.body.getD i (.Pass ⟨0, 0, 0, 0⟩)
def mtop (i j : Nat) : Stmt := match top i with | .ClassDef _ _ _ b _ _ _ _ _ _ _ => b.getD j (.Pass ⟨0, 0, 0, 0⟩) | _ => .Pass ⟨0, 0, 0, 0⟩
def n_is_name : List Str := [Str.ofString "thing", Str.ofString "sign"]
theorem ck_is_name : ckSs P n_is_name 30 ⟨defScope (top 7), cellsOf (defScope (top 7))⟩ (defBody (top 7)) f_is_name.body = true := by kernel_rfl
theorem sc_is_name : FnScope n_is_name [Str.ofString "thing"] (defScope (top 7)) := ⟨rfl, rfl, rfl, by decide +kernel, rfl, by decide +kernel, by decide +kernel⟩
def n_is_whole : List Str := [Str.ofString "thing"]
theorem ck_is_whole : ckSs P n_is_whole 30 ⟨defScope (top 8), cellsOf (defScope (top 8))⟩ (defBody (top 8)) f_is_whole.body = true := by kernel_rfl
theorem sc_is_whole : FnScope n_is_whole [Str.ofString "thing"] (defScope (top 8)) := ⟨rfl, rfl, rfl, by decide +kernel, rfl, by decide +kernel, by decide +kernel⟩
def n_is_between : List Str := [Str.ofString "thing", Str.ofString "low", Str.ofString "high"]
theorem ck_is_between : ckSs P n_is_between 30 ⟨defScope (top 9), cellsOf (defScope (top 9))⟩ (defBody (top 9)) f_is_between.body = true := by kernel_rfl
theorem sc_is_between : FnScope n_is_between [Str.ofString "thing", Str.ofString "low", Str.ofString "high"] (defScope (top 9)) := ⟨rfl, rfl, rfl, by decide +kernel, rfl, by decide +kernel, by decide +kernel⟩
def n_is_number : List Str := [Str.ofString "thing"]
theorem ck_is_number : ckSs P n_is_number 30 ⟨defScope (top 10), cellsOf (defScope (top 10))⟩ (defBody (top 10)) f_is_number.body = true := by kernel_rfl
theorem sc_is_number : FnScope n_is_number [Str.ofString "thing"] (defScope (top 10)) := ⟨rfl, rfl, rfl, by decide +kernel, rfl, by decide +kernel, by decide +kernel⟩
def n_are_moments : List Str := [Str.ofString "since", Str.ofString "until"]
theorem ck_are_moments : ckSs P n_are_moments 30 ⟨defScope (top 11), cellsOf (defScope (top 11))⟩ (defBody (top 11)) f_are_moments.body = true := by kernel_rfl
theorem sc_are_moments : FnScope n_are_moments [Str.ofString "since", Str.ofString "until"] (defScope (top 11)) := ⟨rfl, rfl, rfl, by decide +kernel, rfl, by decide +kernel, by decide +kernel⟩
def n_is_under : List Str := [Str.ofString "under", Str.ofString "number"]
theorem ck_is_under : ckSs P n_is_under 30 ⟨defScope (top 12), cellsOf (defScope (top 12))⟩ (defBody (top 12)) f_is_under.body = true := by kernel_rfl
theorem sc_is_under : FnScope n_is_under [Str.ofString "under", Str.ofString "number"] (defScope (top 12)) := ⟨rfl, rfl, rfl, by decide +kernel, rfl, by decide +kernel, by decide +kernel⟩
def n_is_leave : List Str := [Str.ofString "thing", Str.ofString "number", Str.ofString "room", Str.ofString "deeds", Str.ofString "giver", Str.ofString "holder", Str.ofString "since", Str.ofString "until", Str.ofString "passes", Str.ofString "under", Str.ofString "name"]
theorem ck_is_leave : ckSs P n_is_leave 30 ⟨defScope (top 13), cellsOf (defScope (top 13))⟩ (defBody (top 13)) f_is_leave.body = true := by kernel_rfl
theorem sc_is_leave : FnScope n_is_leave [Str.ofString "thing"] (defScope (top 13)) := ⟨rfl, rfl, rfl, by decide +kernel, rfl, by decide +kernel, by decide +kernel⟩
def n__law_urn : List Str := [Str.ofString "cell", Str.ofString "k"]
theorem ck__law_urn : ckSs P n__law_urn 30 ⟨defScope (top 15), cellsOf (defScope (top 15))⟩ (defBody (top 15)) f__law_urn.body = true := by kernel_rfl
theorem sc__law_urn : FnScope n__law_urn [Str.ofString "cell", Str.ofString "k"] (defScope (top 15)) := ⟨rfl, rfl, rfl, by decide +kernel, rfl, by decide +kernel, by decide +kernel⟩
def n__law_lot : List Str := [Str.ofString "urn", Str.ofString "many", Str.ofString "spun", Str.ofString "found"]
theorem ck__law_lot : ckSs P n__law_lot 30 ⟨defScope (top 16), cellsOf (defScope (top 16))⟩ (defBody (top 16)) f__law_lot.body = true := by kernel_rfl
theorem sc__law_lot : FnScope n__law_lot [Str.ofString "urn", Str.ofString "many"] (defScope (top 16)) := ⟨rfl, rfl, rfl, by decide +kernel, rfl, by decide +kernel, by decide +kernel⟩
def n__law_named : List Str := [Str.ofString "urn", Str.ofString "letters", Str.ofString "some", Str.ofString "k"]
theorem ck__law_named : ckSs P n__law_named 30 ⟨defScope (top 17), cellsOf (defScope (top 17))⟩ (defBody (top 17)) f__law_named.body = true := by kernel_rfl
theorem sc__law_named : FnScope n__law_named [Str.ofString "urn"] (defScope (top 17)) := ⟨rfl, rfl, rfl, by decide +kernel, rfl, by decide +kernel, by decide +kernel⟩
def n__law_leaf : List Str := [Str.ofString "urn", Str.ofString "number", Str.ofString "above", Str.ofString "giver", Str.ofString "holder", Str.ofString "since", Str.ofString "until", Str.ofString "deeds"]
theorem ck__law_leaf : ckSs P n__law_leaf 30 ⟨defScope (top 18), cellsOf (defScope (top 18))⟩ (defBody (top 18)) f__law_leaf.body = true := by kernel_rfl
theorem sc__law_leaf : FnScope n__law_leaf [Str.ofString "urn"] (defScope (top 18)) := ⟨rfl, rfl, rfl, by decide +kernel, rfl, by decide +kernel, by decide +kernel⟩
def n__law_odd : List Str := [Str.ofString "urn", Str.ofString "some"]
theorem ck__law_odd : ckSs P n__law_odd 30 ⟨defScope (top 19), cellsOf (defScope (top 19))⟩ (defBody (top 19)) f__law_odd.body = true := by kernel_rfl
theorem sc__law_odd : FnScope n__law_odd [Str.ofString "urn"] (defScope (top 19)) := ⟨rfl, rfl, rfl, by decide +kernel, rfl, by decide +kernel, by decide +kernel⟩
def n__law_is_name : List Str := [Str.ofString "what", Str.ofString "sign"]
theorem ck__law_is_name : ckSs P n__law_is_name 30 ⟨defScope (top 20), cellsOf (defScope (top 20))⟩ (defBody (top 20)) f__law_is_name.body = true := by kernel_rfl
theorem sc__law_is_name : FnScope n__law_is_name [Str.ofString "what"] (defScope (top 20)) := ⟨rfl, rfl, rfl, by decide +kernel, rfl, by decide +kernel, by decide +kernel⟩
def n__law_whole : List Str := [Str.ofString "what", Str.ofString "low", Str.ofString "high"]
theorem ck__law_whole : ckSs P n__law_whole 30 ⟨defScope (top 21), cellsOf (defScope (top 21))⟩ (defBody (top 21)) f__law_whole.body = true := by kernel_rfl
theorem sc__law_whole : FnScope n__law_whole [Str.ofString "what", Str.ofString "low", Str.ofString "high"] (defScope (top 21)) := ⟨rfl, rfl, rfl, by decide +kernel, rfl, by decide +kernel, by decide +kernel⟩
def n__law_is_leaf : List Str := [Str.ofString "what", Str.ofString "k"]
theorem ck__law_is_leaf : ckSs P n__law_is_leaf 30 ⟨defScope (top 22), cellsOf (defScope (top 22))⟩ (defBody (top 22)) f__law_is_leaf.body = true := by kernel_rfl
theorem sc__law_is_leaf : FnScope n__law_is_leaf [Str.ofString "what"] (defScope (top 22)) := ⟨rfl, rfl, rfl, by decide +kernel, rfl, by decide +kernel, by decide +kernel⟩
def n__law_part : List Str := [Str.ofString "urn", Str.ofString "leaf", Str.ofString "at", Str.ofString "far", Str.ofString "found", Str.ofString "number", Str.ofString "room", Str.ofString "deeds", Str.ofString "giver", Str.ofString "holder", Str.ofString "since", Str.ofString "until", Str.ofString "passes", Str.ofString "above", Str.ofString "some"]
theorem ck__law_part : ckSs P n__law_part 30 ⟨defScope (top 23), cellsOf (defScope (top 23))⟩ (defBody (top 23)) f__law_part.body = true := by kernel_rfl
theorem sc__law_part : FnScope n__law_part [Str.ofString "urn", Str.ofString "leaf", Str.ofString "at"] (defScope (top 23)) := ⟨rfl, rfl, rfl, by decide +kernel, rfl, by decide +kernel, by decide +kernel⟩
def n__law_bent : List Str := [Str.ofString "urn", Str.ofString "leaf", Str.ofString "way", Str.ofString "at"]
theorem ck__law_bent : ckSs P n__law_bent 30 ⟨defScope (top 24), cellsOf (defScope (top 24))⟩ (defBody (top 24)) f__law_bent.body = true := by kernel_rfl
theorem sc__law_bent : FnScope n__law_bent [Str.ofString "urn", Str.ofString "leaf"] (defScope (top 24)) := ⟨rfl, rfl, rfl, by decide +kernel, rfl, by decide +kernel, by decide +kernel⟩
def n__law_right : List Str := [Str.ofString "urn", Str.ofString "what", Str.ofString "way", Str.ofString "due", Str.ofString "found"]
theorem ck__law_right : ckSs P n__law_right 30 ⟨defScope (top 25), cellsOf (defScope (top 25))⟩ (defBody (top 25)) f__law_right.body = true := by kernel_rfl
theorem sc__law_right : FnScope n__law_right [Str.ofString "urn"] (defScope (top 25)) := ⟨rfl, rfl, rfl, by decide +kernel, rfl, by decide +kernel, by decide +kernel⟩
def n_law : List Str := [Str.ofString "script", Str.ofString "k", Str.ofString "cell"]
theorem ck_law : ckSs P n_law 30 ⟨defScope (top 26), cellsOf (defScope (top 26))⟩ (defBody (top 26)) f_law.body = true := by kernel_rfl
theorem sc_law : FnScope n_law [Str.ofString "script"] (defScope (top 26)) := ⟨rfl, rfl, rfl, by decide +kernel, rfl, by decide +kernel, by decide +kernel⟩
def fn : List He.DefD := [⟨(Str.ofString "is_name", none), Str.ofString "is_name", Str.ofString "is_name", defArgs (top 7), defBody (top 7), defScope (top 7), [], []⟩, ⟨(Str.ofString "is_whole", none), Str.ofString "is_whole", Str.ofString "is_whole", defArgs (top 8), defBody (top 8), defScope (top 8), [], []⟩, ⟨(Str.ofString "is_between", none), Str.ofString "is_between", Str.ofString "is_between", defArgs (top 9), defBody (top 9), defScope (top 9), [], []⟩, ⟨(Str.ofString "is_number", none), Str.ofString "is_number", Str.ofString "is_number", defArgs (top 10), defBody (top 10), defScope (top 10), [], []⟩, ⟨(Str.ofString "are_moments", none), Str.ofString "are_moments", Str.ofString "are_moments", defArgs (top 11), defBody (top 11), defScope (top 11), [], []⟩, ⟨(Str.ofString "is_under", none), Str.ofString "is_under", Str.ofString "is_under", defArgs (top 12), defBody (top 12), defScope (top 12), [], []⟩, ⟨(Str.ofString "is_leave", none), Str.ofString "is_leave", Str.ofString "is_leave", defArgs (top 13), defBody (top 13), defScope (top 13), [], []⟩, ⟨(Str.ofString "_law_urn", none), Str.ofString "_law_urn", Str.ofString "_law_urn", defArgs (top 15), defBody (top 15), defScope (top 15), [], []⟩, ⟨(Str.ofString "_law_lot", none), Str.ofString "_law_lot", Str.ofString "_law_lot", defArgs (top 16), defBody (top 16), defScope (top 16), [], []⟩, ⟨(Str.ofString "_law_named", none), Str.ofString "_law_named", Str.ofString "_law_named", defArgs (top 17), defBody (top 17), defScope (top 17), [], []⟩, ⟨(Str.ofString "_law_leaf", none), Str.ofString "_law_leaf", Str.ofString "_law_leaf", defArgs (top 18), defBody (top 18), defScope (top 18), [], []⟩, ⟨(Str.ofString "_law_odd", none), Str.ofString "_law_odd", Str.ofString "_law_odd", defArgs (top 19), defBody (top 19), defScope (top 19), [], []⟩, ⟨(Str.ofString "_law_is_name", none), Str.ofString "_law_is_name", Str.ofString "_law_is_name", defArgs (top 20), defBody (top 20), defScope (top 20), [], []⟩, ⟨(Str.ofString "_law_whole", none), Str.ofString "_law_whole", Str.ofString "_law_whole", defArgs (top 21), defBody (top 21), defScope (top 21), [], []⟩, ⟨(Str.ofString "_law_is_leaf", none), Str.ofString "_law_is_leaf", Str.ofString "_law_is_leaf", defArgs (top 22), defBody (top 22), defScope (top 22), [], []⟩, ⟨(Str.ofString "_law_part", none), Str.ofString "_law_part", Str.ofString "_law_part", defArgs (top 23), defBody (top 23), defScope (top 23), [], []⟩, ⟨(Str.ofString "_law_bent", none), Str.ofString "_law_bent", Str.ofString "_law_bent", defArgs (top 24), defBody (top 24), defScope (top 24), [], []⟩, ⟨(Str.ofString "_law_right", none), Str.ofString "_law_right", Str.ofString "_law_right", defArgs (top 25), defBody (top 25), defScope (top 25), [], []⟩, ⟨(Str.ofString "law", none), Str.ofString "law", Str.ofString "law", defArgs (top 26), defBody (top 26), defScope (top 26), [], []⟩]
abbrev rwR : PySem.W.OpenRow := PySem.W.OpenLaw.row PySem.Challenge.rw_leavechain_k02_which_are_leaves
abbrev hk : PySem.W.Hook := hookM 5 P (faOf P) fn
def ob (s : PySem.W.SharedT) : AlM := obsMG 5 P (faOf P) fn (HandSHeadRun.getT s)
theorem ob_eq (s : PySem.W.SharedT) : ob s = hk.obs s.abs := obsMG_eq (HandSHeadRun.getT_eq s)
def loose : List Str := [Str.ofString "MOST_LETTERS", Str.ofString "GREATEST", Str.ofString "LAST_MOMENT", Str.ofString "MOST_PASSES", Str.ofString "SMALL", Str.ofString "KINDS_OF_DEEDS", Str.ofString "is_name", Str.ofString "is_whole", Str.ofString "is_between", Str.ofString "is_number", Str.ofString "are_moments", Str.ofString "is_under", Str.ofString "is_leave", Str.ofString "_law_urn", Str.ofString "_law_lot", Str.ofString "_law_named", Str.ofString "_law_leaf", Str.ofString "_law_odd", Str.ofString "_law_is_name", Str.ofString "_law_whole", Str.ofString "_law_is_leaf", Str.ofString "_law_part", Str.ofString "_law_bent", Str.ofString "_law_right"]
theorem run (w : World) : HandSHeadRun.RunEq rwR (PySem.W.view rwR.prog [26]) hk ob 4000 loose w := by
  intro os
  kernel_rfl
section
variable {K : PySem.W.Frag} {h : Heap} {mg : Str → Option Value}
theorem ok_is_name (c : SaysM P (faOf P) fn K) : DefOk K mg P P.fldf f_is_name [((1, []), [.pos 0])] (He.fAd K (Str.ofString "is_name", none)) := by
  obtain ⟨fd, F⟩ := c.def_ 0 rfl
  refine defOk_of F sc_is_name rfl ck_is_name ?_
  intro q hq
  rw [List.mem_singleton] at hq
  subst hq
  exact ⟨rfl, plain_plan F rfl fun _ _ _ _ _ _ us ws h1 h2 => match us, ws, h1, h2 with | [_], [], _, _ => rfl⟩
theorem ok_is_whole (c : SaysM P (faOf P) fn K) : DefOk K mg P P.fldf f_is_whole [((1, []), [.pos 0])] (He.fAd K (Str.ofString "is_whole", none)) := by
  obtain ⟨fd, F⟩ := c.def_ 1 rfl
  refine defOk_of F sc_is_whole rfl ck_is_whole ?_
  intro q hq
  rw [List.mem_singleton] at hq
  subst hq
  exact ⟨rfl, plain_plan F rfl fun _ _ _ _ _ _ us ws h1 h2 => match us, ws, h1, h2 with | [_], [], _, _ => rfl⟩
theorem ok_is_between (c : SaysM P (faOf P) fn K) : DefOk K mg P P.fldf f_is_between [((3, []), [.pos 0, .pos 1, .pos 2])] (He.fAd K (Str.ofString "is_between", none)) := by
  obtain ⟨fd, F⟩ := c.def_ 2 rfl
  refine defOk_of F sc_is_between rfl ck_is_between ?_
  intro q hq
  rw [List.mem_singleton] at hq
  subst hq
  exact ⟨rfl, plain_plan F rfl fun _ _ _ _ _ _ us ws h1 h2 => match us, ws, h1, h2 with | [_, _, _], [], _, _ => rfl⟩
theorem ok_is_number (c : SaysM P (faOf P) fn K) : DefOk K mg P P.fldf f_is_number [((1, []), [.pos 0])] (He.fAd K (Str.ofString "is_number", none)) := by
  obtain ⟨fd, F⟩ := c.def_ 3 rfl
  refine defOk_of F sc_is_number rfl ck_is_number ?_
  intro q hq
  rw [List.mem_singleton] at hq
  subst hq
  exact ⟨rfl, plain_plan F rfl fun _ _ _ _ _ _ us ws h1 h2 => match us, ws, h1, h2 with | [_], [], _, _ => rfl⟩
theorem ok_are_moments (c : SaysM P (faOf P) fn K) : DefOk K mg P P.fldf f_are_moments [((2, []), [.pos 0, .pos 1])] (He.fAd K (Str.ofString "are_moments", none)) := by
  obtain ⟨fd, F⟩ := c.def_ 4 rfl
  refine defOk_of F sc_are_moments rfl ck_are_moments ?_
  intro q hq
  rw [List.mem_singleton] at hq
  subst hq
  exact ⟨rfl, plain_plan F rfl fun _ _ _ _ _ _ us ws h1 h2 => match us, ws, h1, h2 with | [_, _], [], _, _ => rfl⟩
theorem ok_is_under (c : SaysM P (faOf P) fn K) : DefOk K mg P P.fldf f_is_under [((2, []), [.pos 0, .pos 1])] (He.fAd K (Str.ofString "is_under", none)) := by
  obtain ⟨fd, F⟩ := c.def_ 5 rfl
  refine defOk_of F sc_is_under rfl ck_is_under ?_
  intro q hq
  rw [List.mem_singleton] at hq
  subst hq
  exact ⟨rfl, plain_plan F rfl fun _ _ _ _ _ _ us ws h1 h2 => match us, ws, h1, h2 with | [_, _], [], _, _ => rfl⟩
theorem ok_is_leave (c : SaysM P (faOf P) fn K) : DefOk K mg P P.fldf f_is_leave [((1, []), [.pos 0]), ((0, ["thing"]), [.kw 0])] (He.fAd K (Str.ofString "is_leave", none)) := by
  obtain ⟨fd, F⟩ := c.def_ 6 rfl
  refine defOk_of F sc_is_leave rfl ck_is_leave ?_
  intro q hq
  simp only [List.mem_cons, List.not_mem_nil, or_false] at hq
  rcases hq with rfl | rfl
  · exact ⟨rfl, plain_plan F rfl fun _ _ _ _ _ _ us ws h1 h2 => match us, ws, h1, h2 with | [_], [], _, _ => rfl⟩
  · exact ⟨rfl, plain_plan F rfl fun _ _ _ _ _ _ us ws h1 h2 => match us, ws, h1, h2 with | [], [_], _, _ => rfl⟩
theorem ok__law_urn (c : SaysM P (faOf P) fn K) : DefOk K mg P P.fldf f__law_urn [((2, []), [.pos 0, .pos 1])] (He.fAd K (Str.ofString "_law_urn", none)) := by
  obtain ⟨fd, F⟩ := c.def_ 7 rfl
  refine defOk_of F sc__law_urn rfl ck__law_urn ?_
  intro q hq
  rw [List.mem_singleton] at hq
  subst hq
  exact ⟨rfl, plain_plan F rfl fun _ _ _ _ _ _ us ws h1 h2 => match us, ws, h1, h2 with | [_, _], [], _, _ => rfl⟩
theorem ok__law_lot (c : SaysM P (faOf P) fn K) : DefOk K mg P P.fldf f__law_lot [((2, []), [.pos 0, .pos 1])] (He.fAd K (Str.ofString "_law_lot", none)) := by
  obtain ⟨fd, F⟩ := c.def_ 8 rfl
  refine defOk_of F sc__law_lot rfl ck__law_lot ?_
  intro q hq
  rw [List.mem_singleton] at hq
  subst hq
  exact ⟨rfl, plain_plan F rfl fun _ _ _ _ _ _ us ws h1 h2 => match us, ws, h1, h2 with | [_, _], [], _, _ => rfl⟩
theorem ok__law_named (c : SaysM P (faOf P) fn K) : DefOk K mg P P.fldf f__law_named [((1, []), [.pos 0])] (He.fAd K (Str.ofString "_law_named", none)) := by
  obtain ⟨fd, F⟩ := c.def_ 9 rfl
  refine defOk_of F sc__law_named rfl ck__law_named ?_
  intro q hq
  rw [List.mem_singleton] at hq
  subst hq
  exact ⟨rfl, plain_plan F rfl fun _ _ _ _ _ _ us ws h1 h2 => match us, ws, h1, h2 with | [_], [], _, _ => rfl⟩
theorem ok__law_leaf (c : SaysM P (faOf P) fn K) : DefOk K mg P P.fldf f__law_leaf [((1, []), [.pos 0])] (He.fAd K (Str.ofString "_law_leaf", none)) := by
  obtain ⟨fd, F⟩ := c.def_ 10 rfl
  refine defOk_of F sc__law_leaf rfl ck__law_leaf ?_
  intro q hq
  rw [List.mem_singleton] at hq
  subst hq
  exact ⟨rfl, plain_plan F rfl fun _ _ _ _ _ _ us ws h1 h2 => match us, ws, h1, h2 with | [_], [], _, _ => rfl⟩
theorem ok__law_odd (c : SaysM P (faOf P) fn K) : DefOk K mg P P.fldf f__law_odd [((1, []), [.pos 0])] (He.fAd K (Str.ofString "_law_odd", none)) := by
  obtain ⟨fd, F⟩ := c.def_ 11 rfl
  refine defOk_of F sc__law_odd rfl ck__law_odd ?_
  intro q hq
  rw [List.mem_singleton] at hq
  subst hq
  exact ⟨rfl, plain_plan F rfl fun _ _ _ _ _ _ us ws h1 h2 => match us, ws, h1, h2 with | [_], [], _, _ => rfl⟩
theorem ok__law_is_name (c : SaysM P (faOf P) fn K) : DefOk K mg P P.fldf f__law_is_name [((1, []), [.pos 0])] (He.fAd K (Str.ofString "_law_is_name", none)) := by
  obtain ⟨fd, F⟩ := c.def_ 12 rfl
  refine defOk_of F sc__law_is_name rfl ck__law_is_name ?_
  intro q hq
  rw [List.mem_singleton] at hq
  subst hq
  exact ⟨rfl, plain_plan F rfl fun _ _ _ _ _ _ us ws h1 h2 => match us, ws, h1, h2 with | [_], [], _, _ => rfl⟩
theorem ok__law_whole (c : SaysM P (faOf P) fn K) : DefOk K mg P P.fldf f__law_whole [((3, []), [.pos 0, .pos 1, .pos 2])] (He.fAd K (Str.ofString "_law_whole", none)) := by
  obtain ⟨fd, F⟩ := c.def_ 13 rfl
  refine defOk_of F sc__law_whole rfl ck__law_whole ?_
  intro q hq
  rw [List.mem_singleton] at hq
  subst hq
  exact ⟨rfl, plain_plan F rfl fun _ _ _ _ _ _ us ws h1 h2 => match us, ws, h1, h2 with | [_, _, _], [], _, _ => rfl⟩
theorem ok__law_is_leaf (c : SaysM P (faOf P) fn K) : DefOk K mg P P.fldf f__law_is_leaf [((1, []), [.pos 0])] (He.fAd K (Str.ofString "_law_is_leaf", none)) := by
  obtain ⟨fd, F⟩ := c.def_ 14 rfl
  refine defOk_of F sc__law_is_leaf rfl ck__law_is_leaf ?_
  intro q hq
  rw [List.mem_singleton] at hq
  subst hq
  exact ⟨rfl, plain_plan F rfl fun _ _ _ _ _ _ us ws h1 h2 => match us, ws, h1, h2 with | [_], [], _, _ => rfl⟩
theorem ok__law_part (c : SaysM P (faOf P) fn K) : DefOk K mg P P.fldf f__law_part [((3, []), [.pos 0, .pos 1, .pos 2])] (He.fAd K (Str.ofString "_law_part", none)) := by
  obtain ⟨fd, F⟩ := c.def_ 15 rfl
  refine defOk_of F sc__law_part rfl ck__law_part ?_
  intro q hq
  rw [List.mem_singleton] at hq
  subst hq
  exact ⟨rfl, plain_plan F rfl fun _ _ _ _ _ _ us ws h1 h2 => match us, ws, h1, h2 with | [_, _, _], [], _, _ => rfl⟩
theorem ok__law_bent (c : SaysM P (faOf P) fn K) : DefOk K mg P P.fldf f__law_bent [((2, []), [.pos 0, .pos 1])] (He.fAd K (Str.ofString "_law_bent", none)) := by
  obtain ⟨fd, F⟩ := c.def_ 16 rfl
  refine defOk_of F sc__law_bent rfl ck__law_bent ?_
  intro q hq
  rw [List.mem_singleton] at hq
  subst hq
  exact ⟨rfl, plain_plan F rfl fun _ _ _ _ _ _ us ws h1 h2 => match us, ws, h1, h2 with | [_, _], [], _, _ => rfl⟩
theorem ok__law_right (c : SaysM P (faOf P) fn K) : DefOk K mg P P.fldf f__law_right [((1, []), [.pos 0])] (He.fAd K (Str.ofString "_law_right", none)) := by
  obtain ⟨fd, F⟩ := c.def_ 17 rfl
  refine defOk_of F sc__law_right rfl ck__law_right ?_
  intro q hq
  rw [List.mem_singleton] at hq
  subst hq
  exact ⟨rfl, plain_plan F rfl fun _ _ _ _ _ _ us ws h1 h2 => match us, ws, h1, h2 with | [_], [], _, _ => rfl⟩
theorem modOk (X : K.In h) (G : h.Ns mainGlobals mg) (c : SaysM P (faOf P) fn K) : ModOk K mg P := by
  refine modOk_of X G c (fun p hp => ?_) (fun p hp => ?_) (by decide +kernel)
  · simp only [P, plans, List.mem_cons, List.not_mem_nil, or_false] at hp
    rcases hp with rfl | rfl | rfl | rfl | rfl | rfl | rfl | rfl | rfl | rfl | rfl | rfl | rfl | rfl | rfl | rfl | rfl | rfl
    · exact ⟨_, by kernel_rfl, ok_is_name c⟩
    · exact ⟨_, by kernel_rfl, ok_is_whole c⟩
    · exact ⟨_, by kernel_rfl, ok_is_between c⟩
    · exact ⟨_, by kernel_rfl, ok_is_number c⟩
    · exact ⟨_, by kernel_rfl, ok_are_moments c⟩
    · exact ⟨_, by kernel_rfl, ok_is_under c⟩
    · exact ⟨_, by kernel_rfl, ok_is_leave c⟩
    · exact ⟨_, by kernel_rfl, ok__law_urn c⟩
    · exact ⟨_, by kernel_rfl, ok__law_lot c⟩
    · exact ⟨_, by kernel_rfl, ok__law_named c⟩
    · exact ⟨_, by kernel_rfl, ok__law_leaf c⟩
    · exact ⟨_, by kernel_rfl, ok__law_odd c⟩
    · exact ⟨_, by kernel_rfl, ok__law_is_name c⟩
    · exact ⟨_, by kernel_rfl, ok__law_whole c⟩
    · exact ⟨_, by kernel_rfl, ok__law_is_leaf c⟩
    · exact ⟨_, by kernel_rfl, ok__law_part c⟩
    · exact ⟨_, by kernel_rfl, ok__law_bent c⟩
    · exact ⟨_, by kernel_rfl, ok__law_right c⟩
  · cases hp
theorem facts {prog : Program} {w : World} {f : Addr} (k : Nat) (X : K.In h) (G : h.Ns mainGlobals mg) (hfa : mg (Str.ofString "law") = some (.ref f)) (c : SaysM P (faOf P) fn K) :
    ∃ fd : FuncData, (∀ (s : Shared) (v : Value), BindsTo s fd ⟨[v], []⟩ [("script", v)]) ∧ ∀ base : Heap, FnOk prog w K mg base (L2.CX prog w) (2 * k + 2) f fd ["script"] (spI ⟨K, mg, P.fldf⟩ 1 (runF (P.ctx (callF P k) (callM P k)) f_law)) := by
  obtain ⟨fd, F⟩ := c.def_ 18 rfl
  have e := hfa.symm.trans (law_at X G c)
  cases e
  have b := FunD.bindsA (ps := ["script"]) F fun _ _ _ _ _ _ us hl => match us, hl with | [_], _ => rfl
  exact ⟨fd, fun s v => b s [v] rfl, fun base => law_fn (modOk X G c) k F sc_law rfl ck_law⟩
end
end K02

set_option Elab.async false
set_option linter.all false
set_option maxRecDepth 100000
set_option maxHeartbeats 0

namespace K02
open PySem Mi
section
variable {r : String → List D → Sto → Mi.R D} {m : String → String → List D → Sto → Mi.R D}
theorem l_is_name : P.fns.lookup "is_name" = some f_is_name := by kernel_rfl
theorem p0_is_name : (P.ctx r m).plan "is_name" 1 [] = some [.pos 0] := by kernel_rfl
theorem z_is_name : (P.ctx r m).fz "is_name" = 2 := by kernel_rfl
theorem l_is_whole : P.fns.lookup "is_whole" = some f_is_whole := by kernel_rfl
theorem p0_is_whole : (P.ctx r m).plan "is_whole" 1 [] = some [.pos 0] := by kernel_rfl
theorem z_is_whole : (P.ctx r m).fz "is_whole" = 2 := by kernel_rfl
theorem l_is_between : P.fns.lookup "is_between" = some f_is_between := by kernel_rfl
theorem p0_is_between : (P.ctx r m).plan "is_between" 3 [] = some [.pos 0, .pos 1, .pos 2] := by kernel_rfl
theorem z_is_between : (P.ctx r m).fz "is_between" = 2 := by kernel_rfl
theorem l_is_number : P.fns.lookup "is_number" = some f_is_number := by kernel_rfl
theorem p0_is_number : (P.ctx r m).plan "is_number" 1 [] = some [.pos 0] := by kernel_rfl
theorem z_is_number : (P.ctx r m).fz "is_number" = 2 := by kernel_rfl
theorem l_are_moments : P.fns.lookup "are_moments" = some f_are_moments := by kernel_rfl
theorem p0_are_moments : (P.ctx r m).plan "are_moments" 2 [] = some [.pos 0, .pos 1] := by kernel_rfl
theorem z_are_moments : (P.ctx r m).fz "are_moments" = 2 := by kernel_rfl
theorem l_is_under : P.fns.lookup "is_under" = some f_is_under := by kernel_rfl
theorem p0_is_under : (P.ctx r m).plan "is_under" 2 [] = some [.pos 0, .pos 1] := by kernel_rfl
theorem z_is_under : (P.ctx r m).fz "is_under" = 2 := by kernel_rfl
theorem l_is_leave : P.fns.lookup "is_leave" = some f_is_leave := by kernel_rfl
theorem p0_is_leave : (P.ctx r m).plan "is_leave" 1 [] = some [.pos 0] := by kernel_rfl
theorem p1_is_leave : (P.ctx r m).plan "is_leave" 0 ["thing"] = some [.kw 0] := by kernel_rfl
theorem z_is_leave : (P.ctx r m).fz "is_leave" = 2 := by kernel_rfl
theorem l__law_urn : P.fns.lookup "_law_urn" = some f__law_urn := by kernel_rfl
theorem p0__law_urn : (P.ctx r m).plan "_law_urn" 2 [] = some [.pos 0, .pos 1] := by kernel_rfl
theorem z__law_urn : (P.ctx r m).fz "_law_urn" = 0 := by kernel_rfl
theorem l__law_lot : P.fns.lookup "_law_lot" = some f__law_lot := by kernel_rfl
theorem p0__law_lot : (P.ctx r m).plan "_law_lot" 2 [] = some [.pos 0, .pos 1] := by kernel_rfl
theorem z__law_lot : (P.ctx r m).fz "_law_lot" = 2 := by kernel_rfl
theorem l__law_named : P.fns.lookup "_law_named" = some f__law_named := by kernel_rfl
theorem p0__law_named : (P.ctx r m).plan "_law_named" 1 [] = some [.pos 0] := by kernel_rfl
theorem z__law_named : (P.ctx r m).fz "_law_named" = 2 := by kernel_rfl
theorem l__law_leaf : P.fns.lookup "_law_leaf" = some f__law_leaf := by kernel_rfl
theorem p0__law_leaf : (P.ctx r m).plan "_law_leaf" 1 [] = some [.pos 0] := by kernel_rfl
theorem z__law_leaf : (P.ctx r m).fz "_law_leaf" = 2 := by kernel_rfl
theorem l__law_odd : P.fns.lookup "_law_odd" = some f__law_odd := by kernel_rfl
theorem p0__law_odd : (P.ctx r m).plan "_law_odd" 1 [] = some [.pos 0] := by kernel_rfl
theorem z__law_odd : (P.ctx r m).fz "_law_odd" = 2 := by kernel_rfl
theorem l__law_is_name : P.fns.lookup "_law_is_name" = some f__law_is_name := by kernel_rfl
theorem p0__law_is_name : (P.ctx r m).plan "_law_is_name" 1 [] = some [.pos 0] := by kernel_rfl
theorem z__law_is_name : (P.ctx r m).fz "_law_is_name" = 2 := by kernel_rfl
theorem l__law_whole : P.fns.lookup "_law_whole" = some f__law_whole := by kernel_rfl
theorem p0__law_whole : (P.ctx r m).plan "_law_whole" 3 [] = some [.pos 0, .pos 1, .pos 2] := by kernel_rfl
theorem z__law_whole : (P.ctx r m).fz "_law_whole" = 2 := by kernel_rfl
theorem l__law_is_leaf : P.fns.lookup "_law_is_leaf" = some f__law_is_leaf := by kernel_rfl
theorem p0__law_is_leaf : (P.ctx r m).plan "_law_is_leaf" 1 [] = some [.pos 0] := by kernel_rfl
theorem z__law_is_leaf : (P.ctx r m).fz "_law_is_leaf" = 2 := by kernel_rfl
theorem l__law_part : P.fns.lookup "_law_part" = some f__law_part := by kernel_rfl
theorem p0__law_part : (P.ctx r m).plan "_law_part" 3 [] = some [.pos 0, .pos 1, .pos 2] := by kernel_rfl
theorem z__law_part : (P.ctx r m).fz "_law_part" = 2 := by kernel_rfl
theorem l__law_bent : P.fns.lookup "_law_bent" = some f__law_bent := by kernel_rfl
theorem p0__law_bent : (P.ctx r m).plan "_law_bent" 2 [] = some [.pos 0, .pos 1] := by kernel_rfl
theorem z__law_bent : (P.ctx r m).fz "_law_bent" = 2 := by kernel_rfl
theorem l__law_right : P.fns.lookup "_law_right" = some f__law_right := by kernel_rfl
theorem p0__law_right : (P.ctx r m).plan "_law_right" 1 [] = some [.pos 0] := by kernel_rfl
theorem z__law_right : (P.ctx r m).fz "_law_right" = 2 := by kernel_rfl
theorem g_MOST_LETTERS : (P.ctx r m).g "MOST_LETTERS" = some (.int 8) := by kernel_rfl
theorem g_GREATEST : (P.ctx r m).g "GREATEST" = some (.int 999999999) := by kernel_rfl
theorem g_LAST_MOMENT : (P.ctx r m).g "LAST_MOMENT" = some (.int 1000000) := by kernel_rfl
theorem g_MOST_PASSES : (P.ctx r m).g "MOST_PASSES" = some (.int 6) := by kernel_rfl
theorem g_SMALL : (P.ctx r m).g "SMALL" = some (.str [97, 98, 99, 100, 101, 102, 103, 104, 105, 106, 107, 108, 109, 110, 111, 112, 113, 114, 115, 116, 117, 118, 119, 120, 121, 122]) := by kernel_rfl
theorem g_KINDS_OF_DEEDS : (P.ctx r m).g "KINDS_OF_DEEDS" = some (.tup [.tup [.str [108, 111, 111, 107]], .tup [.str [115, 101, 116]], .tup [.str [108, 111, 111, 107], .str [115, 101, 116]]]) := by kernel_rfl
end
end K02

set_option Elab.async false
set_option linter.all false
set_option maxRecDepth 100000
set_option maxHeartbeats 4000000
namespace K02
open PySem Mi
local macro_rules | `(tactic| simp! [$ls,*]) => `(tactic| simp -dsimp only [↓ifB_true, ↓ifB_false, ↓ifD_bl, ↓okE_ok, ↓okE_exc, ↓okE_bind, ↓okE_itb, ↓okT_st, ↓okT_next, ↓okT_ret, ↓okT_brk, ↓okT_cont, ↓okT_exc, ↓okT_nil, ↓ok_var, ↓ok_non, ↓ok_bl, ↓ok_int, ↓ok_str, ↓ok_ty, ↓ok_glob, ↓ok_bin, ↓ok_neg, ↓ok_not, ↓ok_and, ↓ok_or, ↓ok_ite, ↓ok_cmp, ↓ok_cmp2, ↓ok_attr, ↓ok_ix, ↓ok_sl, ↓ok_rev, ↓ok_lst, ↓ok_rep, ↓ok_tup, ↓ok_dct, ↓ok_bi, ↓ok_isx, ↓ok_ist, ↓ok_fstr, ↓ok_comp, ↓ok_dcomp, ↓ok_call, ↓ok_make, ↓ok_meth, ↓mthD_own, ↓mthD_append, ↓mthD_extend, ↓mthD_insert, ↓mthD_pop, ↓mthD_pop0, ↓mthD_reverse, ↓mthD_get, ↓mthD_get2, ↓mthD_join, ↓mthD_upper, ↓mthD_index, ↓ok_step2, ↓ok_es_nil, ↓ok_es_cons, ↓ok_ps_nil, ↓ok_ps_cons, ↓ok_fs_nil, ↓ok_fs_cons, ↓ok_o_none, ↓ok_o_some, ↓ok_if_none, ↓ok_if_some, ↓ok_i_e, ↓ok_i_range1, ↓ok_i_range2, ↓ok_i_enum, ↓ok_i_zip, ↓ok_i_items, ↓ok_i_vals, ↓ok_t_name, ↓ok_t_tup, ↓ok_t_star_tup, ↓ok_t_star_cl, ↓ok_t_sub, ↓ok_t_fld, ↓ok_ts_nil, ↓ok_ts_cons, ↓ok_ex, ↓ok_asg, ↓ok_ret, ↓ok_retN, ↓ok_pass, ↓ok_sbrk, ↓ok_scont, ↓ok_if, ↓ok_augS, ↓augV_some, ↓ok_aug, ↓ok_for, ↓ok_while, ↓ok_rais, ↓trycX_at, ↓ok_tryc, ↓ok_gc0, ↓planD_some, ↓b_mulI, ↓b_divI, ↓b_modI, ↓b_powI, ↓b_addS, ↓b_addT, ↓b_addC, ↓newL_eq, ↓repD_int, ↓i_sortC, ↓i_sortK, ↓setO_dctS, ↓setO_dctI, ↓fldO_obj, ↓appO_lst, ↓extO_lst, ↓insO_0, ↓rng1_int, ↓rng2_int, ↓raisT_at, ↓optD_none, ↓optD_some, ↓go_nil, ↓go_cons, ↓gos_nil, ↓gos_cons, get_new, pl_non, pl_int, pl_str, pl_tup, pl_cl, pl_strs, pl_ints, ctx_run, ctx_mrun, varD_some, globD_some, negD_int, notD_bl, someD_int, boolD_bl, nonD_non, b_addI, b_subI, newC_true, newC_false, newD_true, newD_false, dctR_nil, a_addI, a_subI, c_eqI, c_neI, c_eq, c_ne, c_eqS, c_neS, c_eqB, c_neB, c_ltI, c_leI, c_gtI, c_geI, c_is, c_isN, c_isB, c_isNB, isNon_non, isNon_int, isNon_str, isNon_tup, isNon_exn, isNon_bl, isNon_ref, isNon_cd, isNon_cl, c_inT, c_ninT, c_inC, c_ninC, c_eqR0, eqO0, c_neR0, neO0, c_inS, c_inR, c_ninR, inO_dctI, inO_dctS, inO_lst, c_inDS, c_ninDS, c_inDI, c_ninDI, okOB_some, set_new, getK_nil, i_len, i_lenT, i_lenC, i_lenK, i_lenR, lenO_lst, lenO_dct, i_max, i_min, i_intB, i_isi_n_int, i_isi_n_str, i_isi_n_list, i_isi_n_tuple, i_isi_n_dict, i_isi_n_bool, i_isi_b_int, i_isi_b_str, i_isi_b_list, i_isi_b_tuple, i_isi_b_dict, i_isi_b_bool, i_isi_i_int, i_isi_i_str, i_isi_i_list, i_isi_i_tuple, i_isi_i_dict, i_isi_i_bool, i_isi_s_int, i_isi_s_str, i_isi_s_list, i_isi_s_tuple, i_isi_s_dict, i_isi_s_bool, i_isi_t_int, i_isi_t_str, i_isi_t_list, i_isi_t_tuple, i_isi_t_dict, i_isi_t_bool, i_isi_c_int, i_isi_c_str, i_isi_c_list, i_isi_c_tuple, i_isi_c_dict, i_isi_c_bool, i_isi_k_int, i_isi_k_str, i_isi_k_list, i_isi_k_tuple, i_isi_k_dict, i_isi_k_bool, i_ist_lt_t, i_ist_lt_c, i_ist_lt_i, i_ist_lt_s, i_allM, i_anyM, i_tupC, i_listC, atD_nat, atD_m1, okO_some, ix_tup, ix_cl, ix_cdS, ix_cdI, ix_ref, ixO_lst, ixO_dctS, ixO_dctI, atD_0, atD_1, atD_2, atD_3, atD_4, atD_5, atD_6, atD_7, atD_8, getD_ref, setD_ref, setO_l0, setO_l1, setO_l2, attr_ref, attrO_obj, fld_ref, kind_str, kind_cl, kind_cd, kind_ref, kindO_lst, kindO_dct, kindO_obj, app_ref, ext_ref, ins_ref, pop_ref, revM_ref, revO_lst, ivD_str, ivD_tup, ivD_cl, ivD_cd, ivD_ref, ivO_lst, itemsD_cd, valsD_cd, enumD_cl, zipD_tt, zipD_cc, lenI_fix, sl_str, sl_tup, sl_cl, rev_cl, rev_tup, step2_cl, strB_bl, strB_non, cut_none, cut_m1, isx_at, sl_lit, sl_lit', alloc_ok, p0_is_name, z_is_name, p0_is_whole, z_is_whole, p0_is_between, z_is_between, p0_is_number, z_is_number, p0_are_moments, z_are_moments, p0_is_under, z_is_under, p0_is_leave, p1_is_leave, z_is_leave, p0__law_urn, z__law_urn, p0__law_lot, z__law_lot, p0__law_named, z__law_named, p0__law_leaf, z__law_leaf, p0__law_odd, z__law_odd, p0__law_is_name, z__law_is_name, p0__law_whole, z__law_whole, p0__law_is_leaf, z__law_is_leaf, p0__law_part, z__law_part, p0__law_bent, z__law_bent, p0__law_right, z__law_right, g_MOST_LETTERS, g_GREATEST, g_LAST_MOMENT, g_MOST_PASSES, g_SMALL, g_KINDS_OF_DEEDS, List.foldl_append, List.foldl_cons, List.foldl_nil, List.map_append, List.filter_append, List.all_append, List.any_append, List.length_append, List.sum_append, List.forall_mem_append, List.forall_mem_singleton, ifB_true, ifB_false, ifD_bl, okE_ok, okE_exc, okE_bind, okE_itb, okT_st, okT_next, okT_ret, okT_brk, okT_cont, okT_exc, okT_nil, ok_var, ok_non, ok_bl, ok_int, ok_str, ok_ty, ok_glob, ok_bin, ok_neg, ok_not, ok_and, ok_or, ok_ite, ok_cmp, ok_cmp2, ok_attr, ok_ix, ok_sl, ok_rev, ok_lst, ok_rep, ok_tup, ok_dct, ok_bi, ok_isx, ok_ist, ok_fstr, ok_comp, ok_dcomp, ok_call, ok_make, ok_meth, mthD_own, mthD_append, mthD_extend, mthD_insert, mthD_pop, mthD_pop0, mthD_reverse, mthD_get, mthD_get2, mthD_join, mthD_upper, mthD_index, ok_step2, ok_es_nil, ok_es_cons, ok_ps_nil, ok_ps_cons, ok_fs_nil, ok_fs_cons, ok_o_none, ok_o_some, ok_if_none, ok_if_some, ok_i_e, ok_i_range1, ok_i_range2, ok_i_enum, ok_i_zip, ok_i_items, ok_i_vals, ok_t_name, ok_t_tup, ok_t_star_tup, ok_t_star_cl, ok_t_sub, ok_t_fld, ok_ts_nil, ok_ts_cons, ok_ex, ok_asg, ok_ret, ok_retN, ok_pass, ok_sbrk, ok_scont, ok_if, ok_augS, augV_some, ok_aug, ok_for, ok_while, ok_rais, trycX_at, ok_tryc, ok_gc0, planD_some, b_mulI, b_divI, b_modI, b_powI, b_addS, b_addT, b_addC, newL_eq, repD_int, i_sortC, i_sortK, setO_dctS, setO_dctI, fldO_obj, appO_lst, extO_lst, insO_0, rng1_int, rng2_int, raisT_at, optD_none, optD_some, go_nil, go_cons, gos_nil, gos_cons, ↓okT_cons, okT_cons, Bool.and_true, Bool.decide_eq_true, Bool.false_eq_true, Bool.not_false, Bool.not_true, Bool.true_and, Bool.true_eq_false, D.bl.injEq, D.cl.injEq, D.int.injEq, D.str.injEq, D.tup.injEq, Int.cast_ofNat_Int, Int.reduceEq, Int.reduceLE, Int.reduceLT, Int.reduceNeg, List.all_cons, List.all_nil, List.append_nil, List.cons_append, List.getD_cons_succ, List.getD_cons_zero, List.getElem?_cons_succ, List.getElem?_cons_zero, List.getElem?_map, List.length_cons, List.length_nil, List.map_cons, List.map_nil, List.nil_append, List.replicate, List.set_cons_succ, List.set_cons_zero, Nat.reduceAdd, Nat.reduceEqDiff, Nat.reduceLeDiff, Nat.zero_add, Option.map_some, Src.pick, and_true, decide_false, decide_true, if_false, if_true, not_false_eq_true, not_true_eq_false, true_and, wipeE, $ls,*])
variable {k : Nat} {st : Sto} {Q : D → Sto → Prop} {X : XQ}
/-- an urn of the draws -/
structure Jr where
  a : Int
  b : Int
  c : Int
def Jr.o (J : Jr) : O := .lst [.int J.a, .int J.b, .int J.c]
structure Jr.ok (J : Jr) (n : Nat) : Prop where
  b0 : 0 ≤ J.b
  b1 : J.b < 10 ^ 60
  c0 : 0 ≤ J.c
  c1 : J.c ≤ n
theorem Jr.clean (J : Jr) (n : Nat) : cleanO n J.o = true := by simp [Jr.o, cleanO, cleanDs, cleanD]
theorem set_at {u : Nat} (h : u < st.length) (o : O) : (st.set u o)[u]? = some o := by simp [h]
theorem pow3 {i : Int} (h : i.natAbs < 2 ^ 420) : powOk i 3 = true := by
  have a := log_lt (k := 420) (by decide) h
  unfold powOk
  rw [decide_eq_true (by omega : (0 : Int) ≤ 3), Bool.true_and]
  exact decide_eq_true (by omega)
theorem pow5 {i : Int} (h : i.natAbs < 2 ^ 420) : powOk i 5 = true := by
  have a := log_lt (k := 420) (by decide) h
  unfold powOk
  rw [decide_eq_true (by omega : (0 : Int) ≤ 5), Bool.true_and]
  exact decide_eq_true (by omega)
theorem s_lot {j n : Nat} {J : Jr} {m : Int} (hj : j < st.length) (hJ : J.ok n) (hn : n < 10 ^ 9) (h0 : 0 < m) (h1 : m ≤ 10 ^ 18) (h : ∀ (i : Int) (J' : Jr), 0 ≤ i → i < m → J'.ok (n + 1) → Q (.int i) (st.set j J'.o)) :
    okE (gcR 2 (st.set j J.o) (callF P (k + 1) "_law_lot" [.ref j, .int m] (st.set j J.o))) Q X := by
  refine ok_gcv (m := 1) ?_
  refine ok_callF l__law_lot ?_
  simp -dsimp only [f__law_lot, b__law_lot]
  have e : (st.set j J.o)[j]? = some (.lst [.int J.a, .int J.b, .int J.c]) := set_at hj _
  have lm : m.natAbs.log2 < 9000 := Nat.lt_trans (log_lt (k := 80) (by decide) (by omega)) (by decide)
  have t3 : Int.toNat 3 = 3 := rfl
  have t5 : Int.toNat 5 = 5 := rfl
  simp! [e, List.set_set, set_at hj]
  refine ifB_dec (fun ha => ?_) (fun ha => ?_)
  · simp! [e, List.set_set, set_at hj]
    exact ⟨h0, ⟨h0, lm⟩, gQ_nil (Kept.put (Jr.clean ⟨J.a / m, J.b, J.c⟩ _)) (clean_int _ _) (h _ ⟨J.a / m, J.b, J.c⟩ (Int.emod_nonneg _ (by omega)) (Int.emod_lt_of_pos _ h0) ⟨hJ.b0, hJ.b1, hJ.c0, by have := hJ.c1; show J.c ≤ _; omega⟩)⟩
  · have b0 := hJ.b0
    have b1 := hJ.b1
    have c0 := hJ.c0
    have c1 := hJ.c1
    simp! [e, List.set_set, set_at hj, t3, t5]
    have q0 : 0 ≤ (J.b + 433494437 * (J.c + 1)) ^ 5 % (10 ^ Int.toNat 38 + 133) := Int.emod_nonneg _ (by decide)
    have q1 : (J.b + 433494437 * (J.c + 1)) ^ 5 % (10 ^ Int.toNat 38 + 133) < 10 ^ 39 := Int.lt_trans (Int.emod_lt_of_pos _ (by decide)) (by decide)
    have p5 : powOk (J.b + 433494437 * (J.c + 1)) 5 = true := pow5 (by omega)
    have m1 : mulOk 433494437 (J.c + 1) = true := mul_of (by decide) (by omega)
    have m2 : mulOk 15485863 (J.c + 1) = true := mul_of (by decide) (by omega)
    have m3 : mulOk (15485863 * (J.c + 1)) (J.c + 1) = true := mul_of (by omega) (by omega)
    have c2 : 15485863 * (J.c + 1) * (J.c + 1) ≤ 15485863 * 10 ^ 9 * 10 ^ 9 := Int.mul_le_mul (by omega) (by omega) (by omega) (by omega)
    have c3 : 0 ≤ 15485863 * (J.c + 1) * (J.c + 1) := Int.mul_nonneg (by omega) (by omega)
    refine ⟨m1, p5, by decide, by decide, m2, m3, ?_, by decide, by decide, by decide, h0, ?_⟩
    · revert q0 q1 c2 c3
      generalize (J.b + 433494437 * (J.c + 1)) ^ 5 % (10 ^ Int.toNat 38 + 133) = x
      generalize 15485863 * (J.c + 1) * (J.c + 1) = y
      intro q0 q1 c2 c3
      exact pow3 (by omega)
    · exact gQ_nil (Kept.put (Jr.clean ⟨J.a, J.b, J.c + 1⟩ _)) (clean_int _ _) (h _ ⟨J.a, J.b, J.c + 1⟩ (Int.emod_nonneg _ (by omega)) (Int.emod_lt_of_pos _ h0) ⟨b0, b1, by show 0 ≤ J.c + 1; omega, by show J.c + 1 ≤ _; omega⟩)
theorem s_urn {c x : Int} (h0 : 0 ≤ x) (h1 : x < 100) (h : ∀ J : Jr, J.ok 0 → Q (.ref st.length) (st ++ [J.o])) : okE (callF P (k + 1) "_law_urn" [.int c, .int x] st) Q X := by
  refine ok_callF l__law_urn ?_
  simp -dsimp only [f__law_urn, b__law_urn]
  simp! [ctx_run]
  have q0 : 0 ≤ c % (10 ^ Int.toNat 41 + 63) := Int.emod_nonneg _ (by decide)
  have q1 : c % (10 ^ Int.toNat 41 + 63) < 10 ^ 42 := Int.lt_trans (Int.emod_lt_of_pos _ (by decide)) (by decide)
  refine ⟨by decide, by decide, by decide, mul_of (by decide) (by omega), h ⟨_, c % (10 ^ Int.toNat 41 + 63) + 6007 * x, 0⟩ ⟨by show 0 ≤ c % (10 ^ Int.toNat 41 + 63) + 6007 * x; omega, by show c % (10 ^ Int.toNat 41 + 63) + 6007 * x < 10 ^ 60; omega, by show (0 : Int) ≤ 0; omega, by show (0 : Int) ≤ _; omega⟩⟩
theorem Jr.ok.mono {J : Jr} {n m : Nat} (h : J.ok n) (k : n ≤ m) : J.ok m := ⟨h.b0, h.b1, h.c0, by have := h.c1; omega⟩
end K02

set_option Elab.async false
set_option linter.all false
set_option maxRecDepth 100000
set_option maxHeartbeats 4000000
namespace K02
open PySem Mi
variable {k : Nat} {st : Sto} {Q : D → Sto → Prop} {X : XQ}
abbrev Tx := List Nat
/-- a leave -/
structure Lf where
  number : Nat
  room : Tx
  deeds : List Tx
  giver : Tx
  holder : Tx
  since : Int
  until_ : Int
  passes : Int
  above : Option Nat
  deriving Inhabited, DecidableEq
def opD : Option Nat → D
  | none => .non
  | some n => .int n
def Lf.d (l : Lf) : D := .tup [.int l.number, .str l.room, .tup (l.deeds.map .str), .str l.giver, .str l.holder, .int l.since, .int l.until_, .int l.passes, opD l.above]
section
variable (l : Lf) (st : Sto)
theorem lf_0 : ixD l.d (.int 0) st = .ok (.int l.number) st := (rfl)
theorem lf_1 : ixD l.d (.int 1) st = .ok (.str l.room) st := (rfl)
theorem lf_2 : ixD l.d (.int 2) st = .ok (.tup (l.deeds.map .str)) st := (rfl)
theorem lf_3 : ixD l.d (.int 3) st = .ok (.str l.giver) st := (rfl)
theorem lf_4 : ixD l.d (.int 4) st = .ok (.str l.holder) st := (rfl)
theorem lf_5 : ixD l.d (.int 5) st = .ok (.int l.since) st := (rfl)
theorem lf_6 : ixD l.d (.int 6) st = .ok (.int l.until_) st := (rfl)
theorem lf_7 : ixD l.d (.int 7) st = .ok (.int l.passes) st := (rfl)
theorem lf_8 : ixD l.d (.int 8) st = .ok (opD l.above) st := (rfl)
end
/-- a ledger -/
structure Led where
  own : List (Tx × Tx)
  now : Int
  rows : List Lf
  gone : List (Nat × Int)
def ownK (o : List (Tx × Tx)) : List (D × D) := o.map fun p => (.str p.1, .str p.2)
def goneK (o : List (Nat × Int)) : List (D × D) := o.map fun p => (.int p.1, .int p.2)
def above (rows : List Lf) (i : Nat) : Option Nat := (rows[i]?).bind (·.above)
def line (rows : List Lf) (i : Nat) : List Nat := match above rows i with
  | some a => if h : a < i then line rows a ++ [i] else [i]
  | none => [i]
termination_by i
/-- a name -/
def small : Tx := [97, 98, 99, 100, 101, 102, 103, 104, 105, 106, 107, 108, 109, 110, 111, 112, 113, 114, 115, 116, 117, 118, 119, 120, 121, 122]
def nameOk (x : Tx) : Bool := decide (1 ≤ x.length) && (decide (x.length ≤ 8) && x.all fun c => decide (c ∈ small))
/-- all in order -/
structure WF (L : Led) : Prop where
  num : ∀ (i : Nat) (l : Lf), L.rows[i]? = some l → l.number = i
  up : ∀ (i : Nat) (l : Lf) (a : Nat), L.rows[i]? = some l → l.above = some a → a < i
  room : ∀ (i : Nat) (l : Lf), L.rows[i]? = some l → (L.own.lookup l.room).isSome = true
  names : ∀ p ∈ L.own, nameOk p.1 = true ∧ nameOk p.2 = true
  hold : ∀ (i : Nat) (l : Lf), L.rows[i]? = some l → nameOk l.holder = true ∧ l.deeds.length ≤ 100
  few : L.rows.length ≤ 1000
  less : L.gone.length ≤ 1000
  owns : L.own.length ≤ 10
theorem line_none {rows : List Lf} {i : Nat} (h : above rows i = none) : line rows i = [i] := by rw [line]; simp only [h]
theorem line_some {rows : List Lf} {i a : Nat} (h : above rows i = some a) (ha : a < i) : line rows i = line rows a ++ [i] := by rw [line]; simp only [h, dif_pos ha]
theorem opD_n : opD none = .non := (rfl)
theorem opD_s (n : Nat) : opD (some n) = .int n := (rfl)
theorem isNon_op (o : Option Nat) : isNon (opD o) = o.isNone := by cases o <;> rfl
theorem pl_op (n : Nat) (o : Option Nat) : pl (n + 1) (opD o) = true := by cases o <;> rfl
theorem pl_lf (n : Nat) (l : Lf) : pl (n + 3) l.d = true := by
  simp only [Lf.d, pl_tup, List.all_cons, pl_int, pl_str, pl_strs, pl_op, List.all_nil, Bool.and_self]
theorem pl_rows (n : Nat) (l : List Lf) : (l.map Lf.d).all (pl (n + 3)) = true := pl_map (pl_lf n) l
theorem clean_op (n : Nat) (o : Option Nat) : cleanD n (opD o) = true := by cases o <;> simp [opD, cleanD]
theorem clean_lf (n : Nat) (l : Lf) : cleanD n l.d = true := by
  simp only [Lf.d, clean_tup, clean_cons, clean_int, clean_str, clean_strs, clean_op, clean_nil, Bool.and_self]
theorem clean_rows (n : Nat) (l : List Lf) : cleanDs n (l.map Lf.d) = true := clean_map (clean_lf n) l
/-- the law's book -/
def bookK (own : List (Tx × Tx)) (now : Int) (r g : Nat) : List (D × D) := [(.str [111, 119, 110, 101, 114, 115], .cd (ownK own)), (.str [114, 111, 119, 115], .ref r), (.str [103, 111, 110, 101], .ref g), (.str [110, 111, 119], .int now)]
section
variable (own : List (Tx × Tx)) (now : Int) (r g : Nat)
theorem gb_own : getK (bookK own now r g) (.str [111, 119, 110, 101, 114, 115]) = some (.cd (ownK own)) := by simp [bookK, getK_S]
theorem gb_rows : getK (bookK own now r g) (.str [114, 111, 119, 115]) = some (.ref r) := by simp [bookK, getK_S]
theorem gb_gone : getK (bookK own now r g) (.str [103, 111, 110, 101]) = some (.ref g) := by simp [bookK, getK_S]
theorem gb_now : getK (bookK own now r g) (.str [110, 111, 119]) = some (.int now) := by simp [bookK, getK_S]
theorem pb_now (v : Int) : putK (bookK own now r g) (.str [110, 111, 119]) (.int v) = bookK own v r g := by simp [bookK, putK, keyEq]
theorem len_book : (bookK own now r g).length = 4 := (rfl)
end
structure Bk (st : Sto) (b r g : Nat) (L : Led) : Prop where
  b : st[b]? = some (.dct (bookK L.own L.now r g))
  r : st[r]? = some (.lst (L.rows.map Lf.d))
  g : st[g]? = some (.dct (goneK L.gone))
theorem Bk.app {b r g : Nat} {L : Led} (H : Bk st b r g L) (o : O) : Bk (st ++ [o]) b r g L := ⟨get_app H.b, get_app H.r, get_app H.g⟩
def isGone (L : Led) (i : Nat) : Bool := L.gone.any fun p => decide (p.1 = i)
theorem get_gone (L : List (Nat × Int)) (i : Nat) : (getK (goneK L) (.int i)).isSome = L.any fun p => decide (p.1 = i) := by
  induction L with
  | nil => rfl
  | cons p L ih =>
    show (getK ((.int p.1, .int p.2) :: goneK L) (.int i)).isSome = _
    rw [getK_I, List.any_cons, ← ih]
    by_cases h : p.1 = i
    · simp [h]
    · rw [if_neg (by omega)]; simp [h]
theorem get_own (L : List (Tx × Tx)) (i : Tx) : getK (ownK L) (.str i) = (L.lookup i).map .str := by
  induction L with
  | nil => rfl
  | cons p L ih =>
    show getK ((.str p.1, .str p.2) :: ownK L) (.str i) = _
    rw [getK_S, ih, List.lookup_cons]
    by_cases h : p.1 = i
    · simp [h]
    · have h' : (i == p.1) = false := by simpa using fun e => h e.symm
      rw [if_neg h, h']
def tTaken : Tx := [116, 97, 107, 101, 110]
def tEarly : Tx := [101, 97, 114, 108, 121]
def tOver : Tx := [111, 118, 101, 114]
/-- why a leave does not stand by itself -/
def cause (L : Led) (l : Lf) : Option Tx := if isGone L l.number = true then some tTaken else if L.now < l.since then some tEarly else if l.until_ ≤ L.now then some tOver else none
def txD : Option Tx → D
  | none => .non
  | some x => .str x
theorem txD_n : txD none = .non := (rfl)
theorem txD_s (x : Tx) : txD (some x) = .str x := (rfl)
theorem isNon_tx (o : Option Tx) : isNon (txD o) = o.isNone := by cases o <;> rfl
theorem pl_tx (n : Nat) (o : Option Tx) : pl (n + 1) (txD o) = true := by cases o <;> rfl
theorem clean_tx (n : Nat) (o : Option Tx) : cleanD n (txD o) = true := by cases o <;> simp [txD, cleanD]
theorem txD_inj (a b : Option Tx) : (txD a = txD b) = (a = b) := by
  cases a <;> cases b <;> simp [txD]
/-- the text of the row at a place -/
def isLostC (o : Option Tx) : Bool := decide (o = some tTaken) || decide (o = some tOver)
variable {b r g : Nat} {L : Led}
theorem line_lt {rows : List Lf} (up : ∀ (i : Nat) (l : Lf) (a : Nat), rows[i]? = some l → l.above = some a → a < i) : ∀ (i : Nat), i < rows.length → ∀ n ∈ line rows i, n < rows.length ∧ n ≤ i := by
  intro i
  induction i using Nat.strongRecOn with
  | _ i ih =>
    intro hi n hn
    cases h : above rows i with
    | none => rw [line_none h, List.mem_singleton] at hn; subst hn; exact ⟨hi, Nat.le_refl _⟩
    | some a =>
      have ha : a < i := by
        unfold above at h
        rw [List.getElem?_eq_getElem hi] at h
        exact up i _ a (List.getElem?_eq_getElem hi) h
      rw [line_some h ha, List.mem_append, List.mem_singleton] at hn
      rcases hn with hn | rfl
      · have := ih a ha (by omega) n hn; omega
      · exact ⟨hi, Nat.le_refl _⟩
theorem line_len {rows : List Lf} : ∀ i : Nat, (line rows i).length ≤ i + 1 ∧ 0 < (line rows i).length := by
  intro i
  induction i using Nat.strongRecOn with
  | _ i ih =>
    cases h : above rows i with
    | none => rw [line_none h]; simp
    | some a =>
      by_cases ha : a < i
      · rw [line_some h ha, List.length_append]; have := ih a ha; simp; omega
      · rw [line]; simp only [h, dif_neg ha]; simp
def natD (n : Nat) : D := .int n
theorem pl_nats (n : Nat) (l : List Nat) : (l.map natD).all (pl (n + 1)) = true := pl_map (f := natD) (fun a => pl_int n a) l
theorem clean_nats (n : Nat) (l : List Nat) : cleanDs n (l.map natD) = true := clean_map (f := natD) (fun a => clean_int n a) l
def rowAt (L : Led) (n : Nat) : Lf := L.rows.getD n default
theorem row_at {n : Nat} (h : n < L.rows.length) : L.rows[n]? = some (rowAt L n) := by
  unfold rowAt; rw [List.getD_eq_getElem?_getD, List.getElem?_eq_getElem h]; rfl
theorem row_eq {n : Nat} {l : Lf} (h : L.rows[n]? = some l) : rowAt L n = l := by
  unfold rowAt; rw [List.getD_eq_getElem?_getD, h]; rfl
/-- whether a leave stands -/
def isUp (L : Led) (i : Nat) : Bool := (line L.rows i).all fun n => (cause L (rowAt L n)).isNone
/-- .. is lost -/
def isLost (L : Led) (i : Nat) : Bool := (line L.rows i).any fun n => isLostC (cause L (rowAt L n))
theorem nil_filter {α β : Type} (p : α → Bool) (f : α → β) (l : List α) : decide ((l.filter p).map f = []) = l.all fun a => !p a := by
  induction l with
  | nil => simp
  | cons a l ih =>
    rw [List.filter_cons, List.all_cons, ← ih]
    by_cases h : p a = true <;> simp [h]
theorem nil_filterP {α β : Type} (p : α → Bool) (f : α → β) (l : List α) : ((l.filter p).map f = []) = ((l.all fun a => !p a) = true) := by
  rw [← nil_filter p f l, decide_eq_true_eq]
theorem line_sl (W : WF L) {i : Nat} (hi : i < L.rows.length) : (line L.rows i).length ≤ sl := sl_big (by have := line_len (rows := L.rows) i; have := W.few; omega)
theorem mem_lost (o : Option Tx) : (txD o ∈ [D.str [116, 97, 107, 101, 110], D.str [111, 118, 101, 114]]) = (isLostC o = true) := by
  cases o with
  | none => simp [txD, isLostC]
  | some x => simp [txD, isLostC, tTaken, tOver]
/-- without what it is under -/
def Lf.d8 (l : Lf) : D := .tup [.int l.number, .str l.room, .tup (l.deeds.map .str), .str l.giver, .str l.holder, .int l.since, .int l.until_, .int l.passes]
def narrow (a b : Lf) : Bool := decide (a.room = b.room) && (decide (b.holder = a.giver) && ((a.deeds.all fun d => decide (d ∈ b.deeds)) && (decide (b.since ≤ a.since) && (decide (a.until_ ≤ b.until_) && decide (a.passes < b.passes)))))
theorem mem_str (x : Tx) (l : List Tx) : (D.str x ∈ l.map D.str) = (x ∈ l) := by simp
def kinds : List (List Tx) := [[[108, 111, 111, 107]], [[115, 101, 116]], [[108, 111, 111, 107], [115, 101, 116]]]
def makes (l : Lf) : Bool := decide (l.deeds ∈ kinds) && (!decide (l.giver = l.holder) && (decide (0 ≤ l.since) && (decide (l.since < l.until_) && (decide (l.until_ ≤ 1000000) && (decide (0 ≤ l.passes) && decide (l.passes < 7))))))
theorem str_inj : ∀ (x y : List Tx), (x.map D.str = y.map D.str) = (x = y)
  | [], [] => by simp
  | [], _ :: _ => by simp
  | _ :: _, [] => by simp
  | a :: x, b :: y => by simp only [List.map_cons, List.cons.injEq, D.str.injEq, str_inj x y]
theorem mem_kinds (x : List Tx) : (D.tup (x.map D.str) ∈ [D.tup [D.str [108, 111, 111, 107]], D.tup [D.str [115, 101, 116]], D.tup [D.str [108, 111, 111, 107], D.str [115, 101, 116]]]) = (x ∈ kinds) := by
  have e1 := str_inj x [[108, 111, 111, 107]]
  have e2 := str_inj x [[115, 101, 116]]
  have e3 := str_inj x [[108, 111, 111, 107], [115, 101, 116]]
  simp only [List.map_cons, List.map_nil] at e1 e2 e3
  simp only [List.mem_cons, D.tup.injEq, e1, e2, e3, kinds, List.not_mem_nil]
end K02

set_option Elab.async false
set_option linter.all false
set_option maxRecDepth 100000
set_option maxHeartbeats 4000000
namespace K02
open PySem Mi
local macro_rules | `(tactic| simp_all! [$ls,*]) => `(tactic| simp -dsimp only [↓ifB_true, ↓ifB_false, ↓ifD_bl, ↓okE_ok, ↓okE_exc, ↓okE_bind, ↓okE_itb, ↓okT_st, ↓okT_next, ↓okT_ret, ↓okT_brk, ↓okT_cont, ↓okT_exc, ↓okT_nil, ↓ok_var, ↓ok_non, ↓ok_bl, ↓ok_int, ↓ok_str, ↓ok_ty, ↓ok_glob, ↓ok_bin, ↓ok_neg, ↓ok_not, ↓ok_and, ↓ok_or, ↓ok_ite, ↓ok_cmp, ↓ok_cmp2, ↓ok_attr, ↓ok_ix, ↓ok_sl, ↓ok_rev, ↓ok_lst, ↓ok_rep, ↓ok_tup, ↓ok_dct, ↓ok_bi, ↓ok_isx, ↓ok_ist, ↓ok_fstr, ↓ok_comp, ↓ok_dcomp, ↓ok_call, ↓ok_make, ↓ok_meth, ↓mthD_own, ↓mthD_append, ↓mthD_extend, ↓mthD_insert, ↓mthD_pop, ↓mthD_pop0, ↓mthD_reverse, ↓mthD_get, ↓mthD_get2, ↓mthD_join, ↓mthD_upper, ↓mthD_index, ↓ok_step2, ↓ok_es_nil, ↓ok_es_cons, ↓ok_ps_nil, ↓ok_ps_cons, ↓ok_fs_nil, ↓ok_fs_cons, ↓ok_o_none, ↓ok_o_some, ↓ok_if_none, ↓ok_if_some, ↓ok_i_e, ↓ok_i_range1, ↓ok_i_range2, ↓ok_i_enum, ↓ok_i_zip, ↓ok_i_items, ↓ok_i_vals, ↓ok_t_name, ↓ok_t_tup, ↓ok_t_star_tup, ↓ok_t_star_cl, ↓ok_t_sub, ↓ok_t_fld, ↓ok_ts_nil, ↓ok_ts_cons, ↓ok_ex, ↓ok_asg, ↓ok_ret, ↓ok_retN, ↓ok_pass, ↓ok_sbrk, ↓ok_scont, ↓ok_if, ↓ok_augS, ↓augV_some, ↓ok_aug, ↓ok_for, ↓ok_while, ↓ok_rais, ↓trycX_at, ↓ok_tryc, ↓ok_gc0, ↓planD_some, ↓b_mulI, ↓b_divI, ↓b_modI, ↓b_powI, ↓b_addS, ↓b_addT, ↓b_addC, ↓newL_eq, ↓repD_int, ↓i_sortC, ↓i_sortK, ↓setO_dctS, ↓setO_dctI, ↓fldO_obj, ↓appO_lst, ↓extO_lst, ↓insO_0, ↓rng1_int, ↓rng2_int, ↓raisT_at, ↓optD_none, ↓optD_some, ↓go_nil, ↓go_cons, ↓gos_nil, ↓gos_cons, get_new, pl_non, pl_int, pl_str, pl_tup, pl_cl, pl_strs, pl_ints, ctx_run, ctx_mrun, varD_some, globD_some, negD_int, notD_bl, someD_int, boolD_bl, nonD_non, b_addI, b_subI, newC_true, newC_false, newD_true, newD_false, dctR_nil, a_addI, a_subI, c_eqI, c_neI, c_eq, c_ne, c_eqS, c_neS, c_eqB, c_neB, c_ltI, c_leI, c_gtI, c_geI, c_is, c_isN, c_isB, c_isNB, isNon_non, isNon_int, isNon_str, isNon_tup, isNon_exn, isNon_bl, isNon_ref, isNon_cd, isNon_cl, c_inT, c_ninT, c_inC, c_ninC, c_eqR0, eqO0, c_neR0, neO0, c_inS, c_inR, c_ninR, inO_dctI, inO_dctS, inO_lst, c_inDS, c_ninDS, c_inDI, c_ninDI, okOB_some, set_new, getK_nil, i_len, i_lenT, i_lenC, i_lenK, i_lenR, lenO_lst, lenO_dct, i_max, i_min, i_intB, i_isi_n_int, i_isi_n_str, i_isi_n_list, i_isi_n_tuple, i_isi_n_dict, i_isi_n_bool, i_isi_b_int, i_isi_b_str, i_isi_b_list, i_isi_b_tuple, i_isi_b_dict, i_isi_b_bool, i_isi_i_int, i_isi_i_str, i_isi_i_list, i_isi_i_tuple, i_isi_i_dict, i_isi_i_bool, i_isi_s_int, i_isi_s_str, i_isi_s_list, i_isi_s_tuple, i_isi_s_dict, i_isi_s_bool, i_isi_t_int, i_isi_t_str, i_isi_t_list, i_isi_t_tuple, i_isi_t_dict, i_isi_t_bool, i_isi_c_int, i_isi_c_str, i_isi_c_list, i_isi_c_tuple, i_isi_c_dict, i_isi_c_bool, i_isi_k_int, i_isi_k_str, i_isi_k_list, i_isi_k_tuple, i_isi_k_dict, i_isi_k_bool, i_ist_lt_t, i_ist_lt_c, i_ist_lt_i, i_ist_lt_s, i_allM, i_anyM, i_tupC, i_listC, atD_nat, atD_m1, okO_some, ix_tup, ix_cl, ix_cdS, ix_cdI, ix_ref, ixO_lst, ixO_dctS, ixO_dctI, atD_0, atD_1, atD_2, atD_3, atD_4, atD_5, atD_6, atD_7, atD_8, getD_ref, setD_ref, setO_l0, setO_l1, setO_l2, attr_ref, attrO_obj, fld_ref, kind_str, kind_cl, kind_cd, kind_ref, kindO_lst, kindO_dct, kindO_obj, app_ref, ext_ref, ins_ref, pop_ref, revM_ref, revO_lst, ivD_str, ivD_tup, ivD_cl, ivD_cd, ivD_ref, ivO_lst, itemsD_cd, valsD_cd, enumD_cl, zipD_tt, zipD_cc, lenI_fix, sl_str, sl_tup, sl_cl, rev_cl, rev_tup, step2_cl, strB_bl, strB_non, cut_none, cut_m1, isx_at, sl_lit, sl_lit', alloc_ok, p0_is_name, z_is_name, p0_is_whole, z_is_whole, p0_is_between, z_is_between, p0_is_number, z_is_number, p0_are_moments, z_are_moments, p0_is_under, z_is_under, p0_is_leave, p1_is_leave, z_is_leave, p0__law_urn, z__law_urn, p0__law_lot, z__law_lot, p0__law_named, z__law_named, p0__law_leaf, z__law_leaf, p0__law_odd, z__law_odd, p0__law_is_name, z__law_is_name, p0__law_whole, z__law_whole, p0__law_is_leaf, z__law_is_leaf, p0__law_part, z__law_part, p0__law_bent, z__law_bent, p0__law_right, z__law_right, g_MOST_LETTERS, g_GREATEST, g_LAST_MOMENT, g_MOST_PASSES, g_SMALL, g_KINDS_OF_DEEDS, List.foldl_append, List.foldl_cons, List.foldl_nil, List.map_append, List.filter_append, List.all_append, List.any_append, List.length_append, List.sum_append, List.forall_mem_append, List.forall_mem_singleton, ifB_true, ifB_false, ifD_bl, okE_ok, okE_exc, okE_bind, okE_itb, okT_st, okT_next, okT_ret, okT_brk, okT_cont, okT_exc, okT_nil, ok_var, ok_non, ok_bl, ok_int, ok_str, ok_ty, ok_glob, ok_bin, ok_neg, ok_not, ok_and, ok_or, ok_ite, ok_cmp, ok_cmp2, ok_attr, ok_ix, ok_sl, ok_rev, ok_lst, ok_rep, ok_tup, ok_dct, ok_bi, ok_isx, ok_ist, ok_fstr, ok_comp, ok_dcomp, ok_call, ok_make, ok_meth, mthD_own, mthD_append, mthD_extend, mthD_insert, mthD_pop, mthD_pop0, mthD_reverse, mthD_get, mthD_get2, mthD_join, mthD_upper, mthD_index, ok_step2, ok_es_nil, ok_es_cons, ok_ps_nil, ok_ps_cons, ok_fs_nil, ok_fs_cons, ok_o_none, ok_o_some, ok_if_none, ok_if_some, ok_i_e, ok_i_range1, ok_i_range2, ok_i_enum, ok_i_zip, ok_i_items, ok_i_vals, ok_t_name, ok_t_tup, ok_t_star_tup, ok_t_star_cl, ok_t_sub, ok_t_fld, ok_ts_nil, ok_ts_cons, ok_ex, ok_asg, ok_ret, ok_retN, ok_pass, ok_sbrk, ok_scont, ok_if, ok_augS, augV_some, ok_aug, ok_for, ok_while, ok_rais, trycX_at, ok_tryc, ok_gc0, planD_some, b_mulI, b_divI, b_modI, b_powI, b_addS, b_addT, b_addC, newL_eq, repD_int, i_sortC, i_sortK, setO_dctS, setO_dctI, fldO_obj, appO_lst, extO_lst, insO_0, rng1_int, rng2_int, raisT_at, optD_none, optD_some, go_nil, go_cons, gos_nil, gos_cons, ↓okT_cons, okT_cons, ↓ifB_vc, ifB_vc, decide_eq_true_eq, decide_eq_false_iff_not, Bool.not_eq_true', Bool.not_eq_false', false_implies, implies_true, true_implies, Bool.and_true, Bool.decide_eq_true, Bool.false_eq_true, Bool.not_false, Bool.not_true, Bool.true_and, Bool.true_eq_false, D.bl.injEq, D.cl.injEq, D.int.injEq, D.str.injEq, D.tup.injEq, Int.cast_ofNat_Int, Int.reduceEq, Int.reduceLE, Int.reduceLT, Int.reduceNeg, List.all_cons, List.all_nil, List.append_nil, List.cons_append, List.getD_cons_succ, List.getD_cons_zero, List.getElem?_cons_succ, List.getElem?_cons_zero, List.getElem?_map, List.length_cons, List.length_nil, List.map_cons, List.map_nil, List.nil_append, List.replicate, List.set_cons_succ, List.set_cons_zero, Nat.reduceAdd, Nat.reduceEqDiff, Nat.reduceLeDiff, Nat.zero_add, Option.map_some, Src.pick, and_true, decide_false, decide_true, if_false, if_true, not_false_eq_true, not_true_eq_false, true_and, wipeE, $ls,*])
variable {k : Nat} {st : Sto} {Q : D → Sto → Prop} {X : XQ}
/-! things of any kind -/
def tyd : D → Bool
  | .non | .bl _ | .int _ | .cl _ | .cd _ => true
  | .str _ => true
  | .tup _ => true
  | _ => false
def isNameV : D → Bool
  | .str x => nameOk x
  | _ => false
def isIntV (lo hi : Int) : D → Bool
  | .int i => decide (lo ≤ i) && decide (i ≤ hi)
  | _ => false
theorem g_name {x : D} (h : tyd x = true) : gcR 2 st (callF P (k + 1) "is_name" [x] st) = .ok (.bl (isNameV x)) st := by
  refine pure_gc (clean_bl _ _) (ok_callF l_is_name ?_)
  simp -dsimp only [f_is_name, b_is_name]
  cases x with
  | str x =>
    show okT _ _ _ _ (fun d t => d = .bl (nameOk x) ∧ t = st) _
    generalize hv : nameOk x = v
    unfold nameOk at hv
    simp_all! [ctx_run]
    refine ⟨fun h1 => ⟨fun h2 => ?_, fun h2 => ?_⟩, fun h1 => ?_⟩
    · refine ok_compA (xs := x) (enc := fun c => .str [c]) (fun c => .bl (decide (c ∈ small))) (sl_big (by omega)) (fun c hc => ?_) ?_
      · simp_all! [ctx_run]
        rfl
      · simp_all! [ctx_run]
        rw [← hv, decide_eq_true (by omega), decide_eq_true (by omega)]
        simp
    · rw [← hv, decide_eq_false (by omega : ¬ x.length ≤ 8)]
      simp
    · rw [← hv, decide_eq_false (by omega : ¬ 1 ≤ x.length)]
      simp
  | non => simp_all! [ctx_run, isNameV]
  | bl _ => simp_all! [ctx_run, isNameV]
  | int _ => simp_all! [ctx_run, isNameV]
  | tup _ => simp_all! [ctx_run, isNameV]
  | cl _ => simp_all! [ctx_run, isNameV]
  | cd _ => simp_all! [ctx_run, isNameV]
  | _ => cases h
theorem g_whole {x : D} (h : tyd x = true) : gcR 2 st (callF P (k + 1) "is_whole" [x] st) = .ok (.bl (match x with | .int _ => true | _ => false)) st := by
  refine pure_gc (clean_bl _ _) (ok_callF l_is_whole ?_)
  simp -dsimp only [f_is_whole, b_is_whole]
  cases x with
  | str x => simp_all! [ctx_run]
  | non => simp_all! [ctx_run]
  | bl _ => simp_all! [ctx_run]
  | int _ => simp_all! [ctx_run]
  | tup _ => simp_all! [ctx_run]
  | cl _ => simp_all! [ctx_run]
  | cd _ => simp_all! [ctx_run]
  | _ => cases h
theorem g_between {x : D} (h : tyd x = true) (lo hi : Int) : gcR 2 st (callF P (k + 2) "is_between" [x, .int lo, .int hi] st) = .ok (.bl (isIntV lo hi x)) st := by
  refine pure_gc (clean_bl _ _) (ok_callF l_is_between ?_)
  generalize hx : x = y
  simp -dsimp only [f_is_between, b_is_between]
  simp_all! [g_whole (hx ▸ h : tyd y = true)]
  cases y with
  | int i =>
    simp_all! [isIntV]
    grind
  | _ => simp_all! [isIntV]
theorem g_number {x : D} (h : tyd x = true) : gcR 2 st (callF P (k + 3) "is_number" [x] st) = .ok (.bl (isIntV 0 999999999 x)) st := by
  refine pure_gc (clean_bl _ _) (ok_callF l_is_number ?_)
  simp -dsimp only [f_is_number, b_is_number]
  simp_all! [g_between h]
def momV (x y : D) : Bool := match x, y with
  | .int i, .int j => decide (0 ≤ i) && (decide (i < j) && decide (j ≤ 1000000))
  | _, _ => false
theorem g_moments {x y : D} (h : tyd x = true) (h' : tyd y = true) : gcR 2 st (callF P (k + 3) "are_moments" [x, y] st) = .ok (.bl (momV x y)) st := by
  refine pure_gc (clean_bl _ _) (ok_callF l_are_moments ?_)
  generalize hx : x = x1
  generalize hy : y = y1
  simp -dsimp only [f_are_moments, b_are_moments]
  simp_all! [g_between (hx ▸ h : tyd x1 = true), g_between (hy ▸ h' : tyd y1 = true)]
  cases x1 with
  | int i =>
    cases y1 with
    | int j =>
      simp_all! [isIntV, momV]
      grind
    | _ => simp_all! [isIntV, momV]
  | _ => simp_all! [isIntV, momV]
def undV (x : D) (n : Int) : Bool := match x with
  | .non => true
  | .int i => decide (0 ≤ i) && decide (i ≤ n - 1)
  | _ => false
theorem g_under {x : D} (h : tyd x = true) (n : Int) : gcR 2 st (callF P (k + 3) "is_under" [x, .int n] st) = .ok (.bl (undV x n)) st := by
  refine pure_gc (clean_bl _ _) (ok_callF l_is_under ?_)
  generalize hx : x = x1
  simp -dsimp only [f_is_under, b_is_under]
  have hg := fun lo hi => g_between (k := k) (st := st) (hx ▸ h : tyd x1 = true) lo hi
  cases x1 with
  | int i => simp_all! [hg, isIntV, undV]
  | non => simp_all! [undV]
  | str _ => simp_all! [hg, isIntV, undV]
  | bl _ => simp_all! [hg, isIntV, undV]
  | tup _ => simp_all! [hg, isIntV, undV]
  | cl _ => simp_all! [hg, isIntV, undV]
  | cd _ => simp_all! [hg, isIntV, undV]
  | _ => subst hx; cases h
/-- what stands by a leave's deeds -/
def deedsV : D → Bool
  | .tup xs => decide (D.tup xs ∈ [D.tup [D.str [108, 111, 111, 107]], D.tup [D.str [115, 101, 116]], D.tup [D.str [108, 111, 111, 107], D.str [115, 101, 116]]])
  | _ => false
def plT : D → Bool
  | .tup xs => xs.all (pl 58)
  | _ => true
/-- nine parts -/
structure Nine where
  (a b c d e f g h i : D)
def Nine.d' (p : Nine) : D := .tup [p.a, p.b, p.c, p.d, p.e, p.f, p.g, p.h, p.i]
def numV : D → Int
  | .int i => i
  | _ => 0
def leafV (p : Nine) : Bool := isIntV 0 999999999 p.a && (isNameV p.b && (isNameV p.d && (isNameV p.e && (!decide (p.d = p.e) && (deedsV p.c && (momV p.f p.g && (isIntV 0 6 p.h && undV p.i (numV p.a))))))))
structure Nine.Ok (p : Nine) : Prop where
  a : tyd p.a = true
  b : tyd p.b = true
  c : tyd p.c = true
  c' : plT p.c = true
  d : tyd p.d = true
  e : tyd p.e = true
  f : tyd p.f = true
  g : tyd p.g = true
  h : tyd p.h = true
  i : tyd p.i = true
theorem isNameV_str {x : D} (h : isNameV x = true) : ∃ y, x = .str y ∧ nameOk y = true := by
  cases x with
  | str y => exact ⟨y, rfl, h⟩
  | _ => simp [isNameV] at h
theorem g_leave {p : Nine} (ok : p.Ok) : gcR 2 st (callF P (k + 4) "is_leave" [p.d'] st) = .ok (.bl (leafV p)) st := by
  refine pure_gc (clean_bl _ _) (ok_callF l_is_leave ?_)
  obtain ⟨a, b, c, d, e, f, g, h, i⟩ := p
  obtain ⟨ka, kb, kc, kc', kd, ke, kf, kg, kh, ki⟩ := ok
  dsimp only at ka kb kc kc' kd ke kf kg kh ki
  simp -dsimp only [f_is_leave, b_is_leave]
  generalize hv : leafV _ = v
  unfold leafV at hv
  dsimp only at hv
  simp_all! [Nine.d', g_number ka]
  refine ⟨fun h1 => ?_, fun h1 => ?_⟩
  · rw [← hv, h1]; rfl
  · obtain ⟨n, rfl⟩ : ∃ n, a = .int n := by
      cases a with
      | int n => exact ⟨n, rfl⟩
      | _ => simp [isIntV] at h1
    refine ok_compA (xs := [b, d, e]) (enc := id) (fun x => .bl (isNameV x)) (sl_big (by simp)) (fun x hx => ?_) ?_
    · have hx' : tyd x = true := by
        simp only [List.mem_cons, List.not_mem_nil, or_false] at hx
        rcases hx with rfl | rfl | rfl <;> assumption
      simp_all! [id, g_name hx']
    · have ha : ∀ (z : Bool) s (x y w : Bool), biD z "all" [.cl [D.bl x, D.bl y, D.bl w]] s = .ok (.bl (x && (y && w))) s := fun z s x y w => by
        have := @i_all s z [x, y, w]
        simpa using this
      simp only [List.map_cons, List.map_nil]
      simp_all! [ha]
      refine ⟨fun q => ?_, fun q => ?_⟩
      · rw [← hv, h1, Bool.true_and]
        cases h3 : isNameV b <;> cases h4 : isNameV d <;> cases h5 : isNameV e <;> simp_all
      · simp only [Bool.and_eq_true] at q
        obtain ⟨b', rfl, hb'⟩ := isNameV_str q.1
        obtain ⟨d', rfl, hd'⟩ := isNameV_str q.2.1
        obtain ⟨e', rfl, he'⟩ := isNameV_str q.2.2
        rw [h1, q.1, q.2.1, q.2.2] at hv
        simp only [Bool.true_and, D.str.injEq] at hv
        simp_all! [ctx_run]
        refine ⟨fun h2 => ?_, fun h2 => ?_⟩
        · rw [← hv, decide_eq_true h2]; rfl
        · rw [decide_eq_false h2] at hv
          cases c with
          | tup xs =>
            have hp : xs.all (pl 58) = true := kc'
            have gi := g_under (k := k) (st := st) ki n
            simp_all! [hp, g_moments kf kg, g_between kh, gi]
            simp only [deedsV, numV, Bool.not_false, Bool.true_and] at hv
            exact ⟨fun q => by rw [← hv, decide_eq_false q]; rfl, fun q => ⟨fun q2 => ⟨fun q3 => by rw [← hv, decide_eq_true q, q2, q3]; rfl, fun q3 => by rw [← hv, decide_eq_true q, q2, q3]; rfl⟩, fun q2 => by rw [← hv, decide_eq_true q, q2]; rfl⟩⟩
          | non => simp_all! [ctx_run]; exact hv
          | bl _ => simp_all! [ctx_run]; exact hv
          | int _ => simp_all! [ctx_run]; exact hv
          | str _ => simp_all! [ctx_run]; exact hv
          | cl _ => simp_all! [ctx_run]; exact hv
          | cd _ => simp_all! [ctx_run]; exact hv
          | _ => simp [tyd] at kc
end K02

set_option Elab.async false
set_option linter.all false
set_option maxRecDepth 100000
set_option maxHeartbeats 4000000
namespace K02
open PySem Mi
local macro_rules | `(tactic| simp! [$ls,*]) => `(tactic| simp -dsimp only [↓ifB_true, ↓ifB_false, ↓ifD_bl, ↓okE_ok, ↓okE_exc, ↓okE_bind, ↓okE_itb, ↓okT_st, ↓okT_next, ↓okT_ret, ↓okT_brk, ↓okT_cont, ↓okT_exc, ↓okT_nil, ↓ok_var, ↓ok_non, ↓ok_bl, ↓ok_int, ↓ok_str, ↓ok_ty, ↓ok_glob, ↓ok_bin, ↓ok_neg, ↓ok_not, ↓ok_and, ↓ok_or, ↓ok_ite, ↓ok_cmp, ↓ok_cmp2, ↓ok_attr, ↓ok_ix, ↓ok_sl, ↓ok_rev, ↓ok_lst, ↓ok_rep, ↓ok_tup, ↓ok_dct, ↓ok_bi, ↓ok_isx, ↓ok_ist, ↓ok_fstr, ↓ok_comp, ↓ok_dcomp, ↓ok_call, ↓ok_make, ↓ok_meth, ↓mthD_own, ↓mthD_append, ↓mthD_extend, ↓mthD_insert, ↓mthD_pop, ↓mthD_pop0, ↓mthD_reverse, ↓mthD_get, ↓mthD_get2, ↓mthD_join, ↓mthD_upper, ↓mthD_index, ↓ok_step2, ↓ok_es_nil, ↓ok_es_cons, ↓ok_ps_nil, ↓ok_ps_cons, ↓ok_fs_nil, ↓ok_fs_cons, ↓ok_o_none, ↓ok_o_some, ↓ok_if_none, ↓ok_if_some, ↓ok_i_e, ↓ok_i_range1, ↓ok_i_range2, ↓ok_i_enum, ↓ok_i_zip, ↓ok_i_items, ↓ok_i_vals, ↓ok_t_name, ↓ok_t_tup, ↓ok_t_star_tup, ↓ok_t_star_cl, ↓ok_t_sub, ↓ok_t_fld, ↓ok_ts_nil, ↓ok_ts_cons, ↓ok_ex, ↓ok_asg, ↓ok_ret, ↓ok_retN, ↓ok_pass, ↓ok_sbrk, ↓ok_scont, ↓ok_if, ↓ok_augS, ↓augV_some, ↓ok_aug, ↓ok_for, ↓ok_while, ↓ok_rais, ↓trycX_at, ↓ok_tryc, ↓ok_gc0, ↓planD_some, ↓b_mulI, ↓b_divI, ↓b_modI, ↓b_powI, ↓b_addS, ↓b_addT, ↓b_addC, ↓newL_eq, ↓repD_int, ↓i_sortC, ↓i_sortK, ↓setO_dctS, ↓setO_dctI, ↓fldO_obj, ↓appO_lst, ↓extO_lst, ↓insO_0, ↓rng1_int, ↓rng2_int, ↓raisT_at, ↓optD_none, ↓optD_some, ↓go_nil, ↓go_cons, ↓gos_nil, ↓gos_cons, get_new, pl_non, pl_int, pl_str, pl_tup, pl_cl, pl_strs, pl_ints, ctx_run, ctx_mrun, varD_some, globD_some, negD_int, notD_bl, someD_int, boolD_bl, nonD_non, b_addI, b_subI, newC_true, newC_false, newD_true, newD_false, dctR_nil, a_addI, a_subI, c_eqI, c_neI, c_eq, c_ne, c_eqS, c_neS, c_eqB, c_neB, c_ltI, c_leI, c_gtI, c_geI, c_is, c_isN, c_isB, c_isNB, isNon_non, isNon_int, isNon_str, isNon_tup, isNon_exn, isNon_bl, isNon_ref, isNon_cd, isNon_cl, c_inT, c_ninT, c_inC, c_ninC, c_eqR0, eqO0, c_neR0, neO0, c_inS, c_inR, c_ninR, inO_dctI, inO_dctS, inO_lst, c_inDS, c_ninDS, c_inDI, c_ninDI, okOB_some, set_new, getK_nil, i_len, i_lenT, i_lenC, i_lenK, i_lenR, lenO_lst, lenO_dct, i_max, i_min, i_intB, i_isi_n_int, i_isi_n_str, i_isi_n_list, i_isi_n_tuple, i_isi_n_dict, i_isi_n_bool, i_isi_b_int, i_isi_b_str, i_isi_b_list, i_isi_b_tuple, i_isi_b_dict, i_isi_b_bool, i_isi_i_int, i_isi_i_str, i_isi_i_list, i_isi_i_tuple, i_isi_i_dict, i_isi_i_bool, i_isi_s_int, i_isi_s_str, i_isi_s_list, i_isi_s_tuple, i_isi_s_dict, i_isi_s_bool, i_isi_t_int, i_isi_t_str, i_isi_t_list, i_isi_t_tuple, i_isi_t_dict, i_isi_t_bool, i_isi_c_int, i_isi_c_str, i_isi_c_list, i_isi_c_tuple, i_isi_c_dict, i_isi_c_bool, i_isi_k_int, i_isi_k_str, i_isi_k_list, i_isi_k_tuple, i_isi_k_dict, i_isi_k_bool, i_ist_lt_t, i_ist_lt_c, i_ist_lt_i, i_ist_lt_s, i_allM, i_anyM, i_tupC, i_listC, atD_nat, atD_m1, okO_some, ix_tup, ix_cl, ix_cdS, ix_cdI, ix_ref, ixO_lst, ixO_dctS, ixO_dctI, atD_0, atD_1, atD_2, atD_3, atD_4, atD_5, atD_6, atD_7, atD_8, getD_ref, setD_ref, setO_l0, setO_l1, setO_l2, attr_ref, attrO_obj, fld_ref, kind_str, kind_cl, kind_cd, kind_ref, kindO_lst, kindO_dct, kindO_obj, app_ref, ext_ref, ins_ref, pop_ref, revM_ref, revO_lst, ivD_str, ivD_tup, ivD_cl, ivD_cd, ivD_ref, ivO_lst, itemsD_cd, valsD_cd, enumD_cl, zipD_tt, zipD_cc, lenI_fix, sl_str, sl_tup, sl_cl, rev_cl, rev_tup, step2_cl, strB_bl, strB_non, cut_none, cut_m1, isx_at, sl_lit, sl_lit', alloc_ok, p0_is_name, z_is_name, p0_is_whole, z_is_whole, p0_is_between, z_is_between, p0_is_number, z_is_number, p0_are_moments, z_are_moments, p0_is_under, z_is_under, p0_is_leave, p1_is_leave, z_is_leave, p0__law_urn, z__law_urn, p0__law_lot, z__law_lot, p0__law_named, z__law_named, p0__law_leaf, z__law_leaf, p0__law_odd, z__law_odd, p0__law_is_name, z__law_is_name, p0__law_whole, z__law_whole, p0__law_is_leaf, z__law_is_leaf, p0__law_part, z__law_part, p0__law_bent, z__law_bent, p0__law_right, z__law_right, g_MOST_LETTERS, g_GREATEST, g_LAST_MOMENT, g_MOST_PASSES, g_SMALL, g_KINDS_OF_DEEDS, List.foldl_append, List.foldl_cons, List.foldl_nil, List.map_append, List.filter_append, List.all_append, List.any_append, List.length_append, List.sum_append, List.forall_mem_append, List.forall_mem_singleton, ifB_true, ifB_false, ifD_bl, okE_ok, okE_exc, okE_bind, okE_itb, okT_st, okT_next, okT_ret, okT_brk, okT_cont, okT_exc, okT_nil, ok_var, ok_non, ok_bl, ok_int, ok_str, ok_ty, ok_glob, ok_bin, ok_neg, ok_not, ok_and, ok_or, ok_ite, ok_cmp, ok_cmp2, ok_attr, ok_ix, ok_sl, ok_rev, ok_lst, ok_rep, ok_tup, ok_dct, ok_bi, ok_isx, ok_ist, ok_fstr, ok_comp, ok_dcomp, ok_call, ok_make, ok_meth, mthD_own, mthD_append, mthD_extend, mthD_insert, mthD_pop, mthD_pop0, mthD_reverse, mthD_get, mthD_get2, mthD_join, mthD_upper, mthD_index, ok_step2, ok_es_nil, ok_es_cons, ok_ps_nil, ok_ps_cons, ok_fs_nil, ok_fs_cons, ok_o_none, ok_o_some, ok_if_none, ok_if_some, ok_i_e, ok_i_range1, ok_i_range2, ok_i_enum, ok_i_zip, ok_i_items, ok_i_vals, ok_t_name, ok_t_tup, ok_t_star_tup, ok_t_star_cl, ok_t_sub, ok_t_fld, ok_ts_nil, ok_ts_cons, ok_ex, ok_asg, ok_ret, ok_retN, ok_pass, ok_sbrk, ok_scont, ok_if, ok_augS, augV_some, ok_aug, ok_for, ok_while, ok_rais, trycX_at, ok_tryc, ok_gc0, planD_some, b_mulI, b_divI, b_modI, b_powI, b_addS, b_addT, b_addC, newL_eq, repD_int, i_sortC, i_sortK, setO_dctS, setO_dctI, fldO_obj, appO_lst, extO_lst, insO_0, rng1_int, rng2_int, raisT_at, optD_none, optD_some, go_nil, go_cons, gos_nil, gos_cons, ↓okT_cons, okT_cons, Bool.and_true, Bool.decide_eq_true, Bool.false_eq_true, Bool.not_false, Bool.not_true, Bool.true_and, Bool.true_eq_false, D.bl.injEq, D.cl.injEq, D.int.injEq, D.str.injEq, D.tup.injEq, Int.cast_ofNat_Int, Int.reduceEq, Int.reduceLE, Int.reduceLT, Int.reduceNeg, List.all_cons, List.all_nil, List.append_nil, List.cons_append, List.getD_cons_succ, List.getD_cons_zero, List.getElem?_cons_succ, List.getElem?_cons_zero, List.getElem?_map, List.length_cons, List.length_nil, List.map_cons, List.map_nil, List.nil_append, List.replicate, List.set_cons_succ, List.set_cons_zero, Nat.reduceAdd, Nat.reduceEqDiff, Nat.reduceLeDiff, Nat.zero_add, Option.map_some, Src.pick, and_true, decide_false, decide_true, if_false, if_true, not_false_eq_true, not_true_eq_false, true_and, wipeE, $ls,*])
variable {k : Nat} {st : Sto} {Q : D → Sto → Prop} {X : XQ} {j n : Nat} {J : Jr}
/-- a comprehension whose items draw -/
theorem ok_compI {st : Sto} {item : D → Sto → Mi.R (Option D)} {xs : List D} {Q : List D → Sto → Prop} {X : XQ} (I : Nat → List D → Sto → Prop) (h0 : I 0 [] st) (hl : xs.length ≤ sl)
    (hs : ∀ i acc s (h : i < xs.length), I i acc s → acc.length = i ∧ okE (item xs[i] s) (fun o s' => ∃ y, o = some y ∧ I (i + 1) (acc ++ [y]) s') noX)
    (he : ∀ acc s, I xs.length acc s → Q acc s) : okE (loopC item (.fix xs) (xs.length + 1) 0 [] st) Q X := by
  refine ok_loopC I xs.length (fun i acc s hi' hI => ?_) (fun acc s hI => ?_) xs.length 0 [] st _ (by omega) (by omega) h0
  · obtain ⟨h1, h2⟩ := hs i acc s hi' hI
    refine ⟨xs[i], by simp [nextI, hi'], okE_mono h2 ?_⟩
    rintro o s' ⟨y, rfl, h3⟩
    exact ⟨by omega, h3⟩
  · exact ⟨by simp [nextI], he _ _ hI⟩
def chD (c : Nat) : D := .str [c]
theorem strs_ch : ∀ cs : List Nat, strsOf (cs.map chD) = some (cs.map fun c => [c])
  | [] => rfl
  | c :: cs => by simp [strsOf, chD, ← strs_ch cs]
theorem joinS_ch : ∀ cs : List Nat, joinS [] (cs.map fun c => [c]) = cs
  | [] => rfl
  | [c] => rfl
  | c :: d :: cs => by
    have := joinS_ch (d :: cs)
    simp only [List.map_cons] at this ⊢
    simp only [joinS, List.nil_append, this, List.singleton_append, List.cons_append]
theorem sum_ones : ∀ cs : List Nat, ((cs.map fun c => [c]).map List.length).sum = cs.length
  | [] => rfl
  | c :: cs => by
    have := sum_ones cs
    simp only [List.map_cons, List.sum_cons, this, List.length_cons, List.length_nil]; omega
theorem join_ch {cs : List Nat} (h : cs.length ≤ 1000) {Q : D → Sto → Prop} {X : XQ} : okE (joinM (.str []) [.cl (cs.map chD)] st) Q X = Q (.str cs) st := by
  have e : joinM (.str []) [.cl (cs.map chD)] st = .ok (.str cs) st := by
    unfold joinM
    simp only [seqOf, lstOf, strs_ch, sum_ones, joinS_ch, List.length_map, List.length_nil, Nat.mul_zero, Nat.add_zero]
    rw [if_pos (by omega)]
    unfold okS
    have := sl_big (show cs.length ≤ 16777216 by omega)
    simp
    omega
  rw [e, okE_ok]
theorem small_at {i : Int} (h0 : 0 ≤ i) (h1 : i < 26) {s : Sto} : ∃ c, c ∈ small ∧ ixD (.str small) (.int i) s = .ok (chD c) s := by
  obtain ⟨m, rfl⟩ := Int.eq_ofNat_of_zero_le h0
  have hm : m < 26 := by omega
  have all : ∀ m, m < 26 → ∃ c, c ∈ small ∧ ixD (.str small) (.int (m : Nat)) s = .ok (chD c) s := by
    intro m hm
    have hm' : m < small.length := hm
    refine ⟨small[m], List.getElem_mem hm', ?_⟩
    have e : ixOf small.length (m : Int) = some m := by unfold ixOf; simp; omega
    simp [ixD, atD, chD, hm', e]
  exact all m hm
theorem s_named (hj : j < st.length) (hJ : J.ok n) (hn : n < 10 ^ 8) (h : ∀ (x : Tx) (J' : Jr), nameOk x = true → J'.ok (n + 10) → Q (.str x) (st.set j J'.o)) :
    okE (gcR 2 (st.set j J.o) (callF P (k + 2) "_law_named" [.ref j] (st.set j J.o))) Q X := by
  refine ok_gcv (m := 1) (ok_callF l__law_named ?_)
  simp -dsimp only [f__law_named, b__law_named]
  simp! [ctx_run]
  refine s_lot hj hJ (by omega) (by omega) (by omega) (fun i1 J1 a1 b1 k1 => ?_)
  simp! [ctx_run]
  refine ifB_dec (fun h1 => ?_) (fun h1 => ?_)
  · simp! [ctx_run]
    refine s_lot hj k1 (by omega) (by omega) (by omega) (fun i2 J2 a2 b2 k2 => ?_)
    simp! [ctx_run]
    refine pick_ (fun d => ∃ x : Tx, d = .str x ∧ nameOk x = true) a2 (by simpa using b2) ?_ ?_
    · intro d hd
      simp only [List.mem_cons, List.not_mem_nil, or_false] at hd
      rcases hd with rfl | rfl | rfl | rfl | rfl | rfl | rfl | rfl | rfl | rfl | rfl | rfl | rfl <;> exact ⟨_, rfl, by decide⟩
    · rintro _ ⟨x, rfl, hx⟩
      exact gQ_nil (Kept.put (Jr.clean J2 _)) (clean_str _ _) (h _ _ hx (k2.mono (by omega)))
  · simp! [ctx_run]
    refine s_lot hj k1 (by omega) (by omega) (by omega) (fun i2 J2 a2 b2 k2 => ?_)
    generalize hsm : [97, 98, 99, 100, 101, 102, 103, 104, 105, 106, 107, 108, 109, 110, 111, 112, 113, 114, 115, 116, 117, 118, 119, 120, 121, 122] = sm
    simp! [ctx_run]
    refine ⟨by omega, ?_⟩
    have hl : (rangeL 0 (1 + i2).toNat).length = (1 + i2).toNat := by simp [rangeL]
    refine ok_compI (fun i acc s => ∃ (J' : Jr) (cs : List Nat), s = st.set j J'.o ∧ acc = cs.map chD ∧ cs.length = i ∧ (∀ c ∈ cs, c ∈ small) ∧ J'.ok (n + 2 + i)) ⟨J2, [], rfl, rfl, rfl, by simp, k2⟩ (sl_big (by omega)) ?_ ?_
    · rintro i acc s hi ⟨J', cs, rfl, rfl, rfl, hc, k'⟩
      refine ⟨by simp, ?_⟩
      simp! [ctx_run]
      refine s_lot hj k' (by omega) (by omega) (by omega) (fun i3 J3 a3 b3 k3 => ?_)
      subst hsm
      obtain ⟨c, hcs, hix⟩ := small_at (s := st.set j J3.o) a3 b3
      unfold small at hix
      simp! [hix]
      exact ⟨_, rfl, J3, cs ++ [c], rfl, by simp, by simp, by simpa [or_imp, forall_and] using ⟨hc, hcs⟩, k3.mono (by omega)⟩
    · rintro acc s ⟨J', cs, rfl, rfl, hcl, hc, k'⟩
      simp! [join_ch (cs := cs) (by omega)]
      refine gQ_nil (Kept.put (Jr.clean J' _)) (clean_str _ _) (h _ _ ?_ (k'.mono (by omega)))
      unfold nameOk
      rw [decide_eq_true (by omega), decide_eq_true (by omega)]
      simpa using hc
end K02

set_option Elab.async false
set_option linter.all false
set_option maxRecDepth 100000
set_option maxHeartbeats 4000000
namespace K02
open PySem Mi
local macro_rules | `(tactic| simp! [$ls,*]) => `(tactic| simp -dsimp only [↓ifB_true, ↓ifB_false, ↓ifD_bl, ↓okE_ok, ↓okE_exc, ↓okE_bind, ↓okE_itb, ↓okT_st, ↓okT_next, ↓okT_ret, ↓okT_brk, ↓okT_cont, ↓okT_exc, ↓okT_nil, ↓ok_var, ↓ok_non, ↓ok_bl, ↓ok_int, ↓ok_str, ↓ok_ty, ↓ok_glob, ↓ok_bin, ↓ok_neg, ↓ok_not, ↓ok_and, ↓ok_or, ↓ok_ite, ↓ok_cmp, ↓ok_cmp2, ↓ok_attr, ↓ok_ix, ↓ok_sl, ↓ok_rev, ↓ok_lst, ↓ok_rep, ↓ok_tup, ↓ok_dct, ↓ok_bi, ↓ok_isx, ↓ok_ist, ↓ok_fstr, ↓ok_comp, ↓ok_dcomp, ↓ok_call, ↓ok_make, ↓ok_meth, ↓mthD_own, ↓mthD_append, ↓mthD_extend, ↓mthD_insert, ↓mthD_pop, ↓mthD_pop0, ↓mthD_reverse, ↓mthD_get, ↓mthD_get2, ↓mthD_join, ↓mthD_upper, ↓mthD_index, ↓ok_step2, ↓ok_es_nil, ↓ok_es_cons, ↓ok_ps_nil, ↓ok_ps_cons, ↓ok_fs_nil, ↓ok_fs_cons, ↓ok_o_none, ↓ok_o_some, ↓ok_if_none, ↓ok_if_some, ↓ok_i_e, ↓ok_i_range1, ↓ok_i_range2, ↓ok_i_enum, ↓ok_i_zip, ↓ok_i_items, ↓ok_i_vals, ↓ok_t_name, ↓ok_t_tup, ↓ok_t_star_tup, ↓ok_t_star_cl, ↓ok_t_sub, ↓ok_t_fld, ↓ok_ts_nil, ↓ok_ts_cons, ↓ok_ex, ↓ok_asg, ↓ok_ret, ↓ok_retN, ↓ok_pass, ↓ok_sbrk, ↓ok_scont, ↓ok_if, ↓ok_augS, ↓augV_some, ↓ok_aug, ↓ok_for, ↓ok_while, ↓ok_rais, ↓trycX_at, ↓ok_tryc, ↓ok_gc0, ↓planD_some, ↓b_mulI, ↓b_divI, ↓b_modI, ↓b_powI, ↓b_addS, ↓b_addT, ↓b_addC, ↓newL_eq, ↓repD_int, ↓i_sortC, ↓i_sortK, ↓setO_dctS, ↓setO_dctI, ↓fldO_obj, ↓appO_lst, ↓extO_lst, ↓insO_0, ↓rng1_int, ↓rng2_int, ↓raisT_at, ↓optD_none, ↓optD_some, ↓go_nil, ↓go_cons, ↓gos_nil, ↓gos_cons, get_new, pl_non, pl_int, pl_str, pl_tup, pl_cl, pl_strs, pl_ints, ctx_run, ctx_mrun, varD_some, globD_some, negD_int, notD_bl, someD_int, boolD_bl, nonD_non, b_addI, b_subI, newC_true, newC_false, newD_true, newD_false, dctR_nil, a_addI, a_subI, c_eqI, c_neI, c_eq, c_ne, c_eqS, c_neS, c_eqB, c_neB, c_ltI, c_leI, c_gtI, c_geI, c_is, c_isN, c_isB, c_isNB, isNon_non, isNon_int, isNon_str, isNon_tup, isNon_exn, isNon_bl, isNon_ref, isNon_cd, isNon_cl, c_inT, c_ninT, c_inC, c_ninC, c_eqR0, eqO0, c_neR0, neO0, c_inS, c_inR, c_ninR, inO_dctI, inO_dctS, inO_lst, c_inDS, c_ninDS, c_inDI, c_ninDI, okOB_some, set_new, getK_nil, i_len, i_lenT, i_lenC, i_lenK, i_lenR, lenO_lst, lenO_dct, i_max, i_min, i_intB, i_isi_n_int, i_isi_n_str, i_isi_n_list, i_isi_n_tuple, i_isi_n_dict, i_isi_n_bool, i_isi_b_int, i_isi_b_str, i_isi_b_list, i_isi_b_tuple, i_isi_b_dict, i_isi_b_bool, i_isi_i_int, i_isi_i_str, i_isi_i_list, i_isi_i_tuple, i_isi_i_dict, i_isi_i_bool, i_isi_s_int, i_isi_s_str, i_isi_s_list, i_isi_s_tuple, i_isi_s_dict, i_isi_s_bool, i_isi_t_int, i_isi_t_str, i_isi_t_list, i_isi_t_tuple, i_isi_t_dict, i_isi_t_bool, i_isi_c_int, i_isi_c_str, i_isi_c_list, i_isi_c_tuple, i_isi_c_dict, i_isi_c_bool, i_isi_k_int, i_isi_k_str, i_isi_k_list, i_isi_k_tuple, i_isi_k_dict, i_isi_k_bool, i_ist_lt_t, i_ist_lt_c, i_ist_lt_i, i_ist_lt_s, i_allM, i_anyM, i_tupC, i_listC, atD_nat, atD_m1, okO_some, ix_tup, ix_cl, ix_cdS, ix_cdI, ix_ref, ixO_lst, ixO_dctS, ixO_dctI, atD_0, atD_1, atD_2, atD_3, atD_4, atD_5, atD_6, atD_7, atD_8, getD_ref, setD_ref, setO_l0, setO_l1, setO_l2, attr_ref, attrO_obj, fld_ref, kind_str, kind_cl, kind_cd, kind_ref, kindO_lst, kindO_dct, kindO_obj, app_ref, ext_ref, ins_ref, pop_ref, revM_ref, revO_lst, ivD_str, ivD_tup, ivD_cl, ivD_cd, ivD_ref, ivO_lst, itemsD_cd, valsD_cd, enumD_cl, zipD_tt, zipD_cc, lenI_fix, sl_str, sl_tup, sl_cl, rev_cl, rev_tup, step2_cl, strB_bl, strB_non, cut_none, cut_m1, isx_at, sl_lit, sl_lit', alloc_ok, p0_is_name, z_is_name, p0_is_whole, z_is_whole, p0_is_between, z_is_between, p0_is_number, z_is_number, p0_are_moments, z_are_moments, p0_is_under, z_is_under, p0_is_leave, p1_is_leave, z_is_leave, p0__law_urn, z__law_urn, p0__law_lot, z__law_lot, p0__law_named, z__law_named, p0__law_leaf, z__law_leaf, p0__law_odd, z__law_odd, p0__law_is_name, z__law_is_name, p0__law_whole, z__law_whole, p0__law_is_leaf, z__law_is_leaf, p0__law_part, z__law_part, p0__law_bent, z__law_bent, p0__law_right, z__law_right, g_MOST_LETTERS, g_GREATEST, g_LAST_MOMENT, g_MOST_PASSES, g_SMALL, g_KINDS_OF_DEEDS, List.foldl_append, List.foldl_cons, List.foldl_nil, List.map_append, List.filter_append, List.all_append, List.any_append, List.length_append, List.sum_append, List.forall_mem_append, List.forall_mem_singleton, ifB_true, ifB_false, ifD_bl, okE_ok, okE_exc, okE_bind, okE_itb, okT_st, okT_next, okT_ret, okT_brk, okT_cont, okT_exc, okT_nil, ok_var, ok_non, ok_bl, ok_int, ok_str, ok_ty, ok_glob, ok_bin, ok_neg, ok_not, ok_and, ok_or, ok_ite, ok_cmp, ok_cmp2, ok_attr, ok_ix, ok_sl, ok_rev, ok_lst, ok_rep, ok_tup, ok_dct, ok_bi, ok_isx, ok_ist, ok_fstr, ok_comp, ok_dcomp, ok_call, ok_make, ok_meth, mthD_own, mthD_append, mthD_extend, mthD_insert, mthD_pop, mthD_pop0, mthD_reverse, mthD_get, mthD_get2, mthD_join, mthD_upper, mthD_index, ok_step2, ok_es_nil, ok_es_cons, ok_ps_nil, ok_ps_cons, ok_fs_nil, ok_fs_cons, ok_o_none, ok_o_some, ok_if_none, ok_if_some, ok_i_e, ok_i_range1, ok_i_range2, ok_i_enum, ok_i_zip, ok_i_items, ok_i_vals, ok_t_name, ok_t_tup, ok_t_star_tup, ok_t_star_cl, ok_t_sub, ok_t_fld, ok_ts_nil, ok_ts_cons, ok_ex, ok_asg, ok_ret, ok_retN, ok_pass, ok_sbrk, ok_scont, ok_if, ok_augS, augV_some, ok_aug, ok_for, ok_while, ok_rais, trycX_at, ok_tryc, ok_gc0, planD_some, b_mulI, b_divI, b_modI, b_powI, b_addS, b_addT, b_addC, newL_eq, repD_int, i_sortC, i_sortK, setO_dctS, setO_dctI, fldO_obj, appO_lst, extO_lst, insO_0, rng1_int, rng2_int, raisT_at, optD_none, optD_some, go_nil, go_cons, gos_nil, gos_cons, ↓okT_cons, okT_cons, Bool.and_true, Bool.decide_eq_true, Bool.false_eq_true, Bool.not_false, Bool.not_true, Bool.true_and, Bool.true_eq_false, D.bl.injEq, D.cl.injEq, D.int.injEq, D.str.injEq, D.tup.injEq, Int.cast_ofNat_Int, Int.reduceEq, Int.reduceLE, Int.reduceLT, Int.reduceNeg, List.all_cons, List.all_nil, List.append_nil, List.cons_append, List.getD_cons_succ, List.getD_cons_zero, List.getElem?_cons_succ, List.getElem?_cons_zero, List.getElem?_map, List.length_cons, List.length_nil, List.map_cons, List.map_nil, List.nil_append, List.replicate, List.set_cons_succ, List.set_cons_zero, Nat.reduceAdd, Nat.reduceEqDiff, Nat.reduceLeDiff, Nat.zero_add, Option.map_some, Src.pick, and_true, decide_false, decide_true, if_false, if_true, not_false_eq_true, not_true_eq_false, true_and, wipeE, $ls,*])
variable {k : Nat} {st : Sto} {Q : D → Sto → Prop} {X : XQ} {j n : Nat} {J : Jr}
/-- a leave that is one -/
structure LfOk (l : Lf) : Prop where
  num : l.number ≤ 999999999
  room : nameOk l.room = true
  giver : nameOk l.giver = true
  holder : nameOk l.holder = true
  ne : l.giver ≠ l.holder
  deeds : l.deeds ∈ kinds
  s0 : 0 ≤ l.since
  su : l.since < l.until_
  u1 : l.until_ ≤ 1000000
  p0 : 0 ≤ l.passes
  p6 : l.passes ≤ 6
  up : ∀ a, l.above = some a → a < l.number
theorem nameOk_len {x : Tx} (h : nameOk x = true) : 1 ≤ x.length ∧ x.length ≤ 8 := by
  unfold nameOk at h
  simp only [Bool.and_eq_true, decide_eq_true_eq] at h
  exact ⟨h.1, h.2.1⟩
theorem tyd_name {x : Tx} (h : nameOk x = true) : tyd (.str x) = true := rfl
theorem kinds_cases {x : List Tx} (h : x ∈ kinds) : x = [[108, 111, 111, 107]] ∨ x = [[115, 101, 116]] ∨ x = [[108, 111, 111, 107], [115, 101, 116]] := by
  simpa [kinds] using h
theorem e_leave {l : Lf} (h : LfOk l) : gcR 2 st (callF P (k + 4) "is_leave" [l.d] st) = .ok (.bl true) st := by
  have e : l.d = (⟨.int l.number, .str l.room, .tup (l.deeds.map .str), .str l.giver, .str l.holder, .int l.since, .int l.until_, .int l.passes, opD l.above⟩ : Nine).d' := rfl
  have hd : tyd (.tup (l.deeds.map .str)) = true ∧ plT (.tup (l.deeds.map .str)) = true ∧ deedsV (.tup (l.deeds.map .str)) = true := by
    rcases kinds_cases h.deeds with e | e | e <;> rw [e] <;> exact ⟨by decide, by decide, by simp [deedsV]⟩
  have hu : tyd (opD l.above) = true := by cases l.above <;> rfl
  rw [e, g_leave ⟨rfl, tyd_name h.room, hd.1, hd.2.1, tyd_name h.giver, tyd_name h.holder, rfl, rfl, rfl, hu⟩]
  have v : leafV ⟨.int l.number, .str l.room, .tup (l.deeds.map .str), .str l.giver, .str l.holder, .int l.since, .int l.until_, .int l.passes, opD l.above⟩ = true := by
    have a1 := h.num; have a2 := h.s0; have a3 := h.su; have a4 := h.u1; have a5 := h.p0; have a6 := h.p6
    unfold leafV
    simp only [isIntV, isNameV, h.room, h.giver, h.holder, hd.2.2, momV, numV, D.str.injEq, h.ne, decide_false, Bool.not_false, Bool.true_and, Bool.and_eq_true, decide_eq_true_eq]
    refine ⟨⟨by omega, by omega⟩, ⟨by omega, by omega, by omega⟩, ⟨by omega, by omega⟩, ?_⟩
    cases ha : l.above with
    | none => rfl
    | some a => have := h.up a ha; simp [opD, undV]; omega
  rw [v]
def NameD (d : D) : Prop := ∃ x : Tx, d = .str x ∧ nameOk x = true
def IntIn (lo hi : Int) (d : D) : Prop := ∃ z : Int, d = .int z ∧ lo ≤ z ∧ z ≤ hi
def AboveIn (z : Int) (d : D) : Prop := d = .non ∨ ∃ a, d = .int a ∧ 0 ≤ a ∧ a < z
def DeedsD (d : D) : Prop := ∃ x : List Tx, d = .tup (x.map .str) ∧ x ∈ kinds
theorem s_leaf (hj : j < st.length) (hJ : J.ok n) (hn : n < 10 ^ 7) (h : ∀ (l : Lf) (J' : Jr), LfOk l → J'.ok (n + 60) → Q l.d (st.set j J'.o)) :
    okE (gcR 2 (st.set j J.o) (callF P (k + 3) "_law_leaf" [.ref j] (st.set j J.o))) Q X := by
  refine ok_gcv (m := 1) (ok_callF l__law_leaf ?_)
  simp -dsimp only [f__law_leaf, b__law_leaf]
  have p6 : powOk 10 6 = true := by decide
  have t6 : (10 : Int) ^ Int.toNat 6 = 1000000 := by decide
  have p9 : powOk 10 9 = true := by decide
  have t9 : (10 : Int) ^ Int.toNat 9 = 1000000000 := by decide
  simp! [ctx_run]
  refine s_lot hj hJ (by omega) (by omega) (by omega) (fun i1 J1 a1 b1 k1 => ?_)
  simp! [p9, t9]
  refine s_lot hj k1 (by omega) (by omega) (by omega) (fun i2 J2 a2 b2 k2 => ?_)
  simp! [ctx_run]
  refine s_lot hj k2 (by omega) (by omega) (by omega) (fun i3 J3 a3 b3 k3 => ?_)
  simp! [ctx_run]
  refine pick_ (IntIn 0 999999999) a3 (by simpa using b3) (by simp [IntIn]; omega) ?_
  rintro _ ⟨z, rfl, z0, z1⟩
  simp! [ctx_run]
  refine ifB_dec (fun hz => ?_) (fun hz => ?_)
  case' refine_2 =>
    simp! [ctx_run]
    have hd : AboveIn z D.non := .inl rfl
    have k5 := k3.mono (show n + 1 + 1 + 1 ≤ n + 1 + 1 + 1 + 1 + 1 by omega)
    revert k5 hd
    generalize J3 = J5
    generalize D.non = d
    intro hd k5
  case' refine_1 =>
    simp! [ctx_run]
    refine s_lot hj k3 (by omega) (by omega) (by omega) (fun i4 J4 a4 b4 k4 => ?_)
    simp! [ctx_run]
    refine s_lot hj k4 (by omega) (by omega) (by omega) (fun i5 J5 a5 b5 k5 => ?_)
    simp! [ctx_run]
    refine pick_ (AboveIn z) a5 (by simpa using b5) (by simp [AboveIn]; omega) ?_
    rintro d hd
    simp! [ctx_run]
  all_goals
    refine s_named hj k5 (by omega) (fun g J6 hg k6 => ?_)
    simp! [ctx_run]
    refine s_named hj k6 (by omega) (fun y J7 hy k7 => ?_)
    simp! [ctx_run]
    refine ifB_dec (fun he => ?_) (fun he => ?_)
    case' refine_1 =>
      obtain ⟨y', hy', hne, hat⟩ : ∃ y' : Tx, nameOk y' = true ∧ g ≠ y' ∧ atD [D.str [98, 111, 98], D.str [99, 97, 114, 108]] (if decide (g = [98, 111, 98]) = true then 1 else 0) = some (.str y') := by
        by_cases hb : g = [98, 111, 98]
        · rw [if_pos (decide_eq_true hb)]
          exact ⟨[99, 97, 114, 108], by decide, by rw [hb]; decide, rfl⟩
        · rw [if_neg (by simpa using hb)]
          exact ⟨[98, 111, 98], by decide, hb, rfl⟩
      simp! [hat]
      clear he hy hat
    case' refine_2 =>
      have hne : g ≠ y := fun e => he e.symm
      have hy' := hy
      generalize y = y' at hne hy' ⊢
      simp! [ctx_run]
      clear he hy
    all_goals
      refine s_lot hj k7 (by omega) (by omega) (by omega) (fun i8 J8 a8 b8 k8 => ?_)
      simp! [ctx_run]
      refine s_lot hj k8 (by omega) (by omega) (by omega) (fun i9 J9 a9 b9 k9 => ?_)
      simp! [p6, t6]
      refine s_lot hj k9 (by omega) (by omega) (by omega) (fun i10 J10 a10 b10 k10 => ?_)
      simp! [ctx_run]
      refine s_lot hj k10 (by omega) (by omega) (by omega) (fun i11 J11 a11 b11 k11 => ?_)
      simp! [ctx_run]
      refine pick_ (IntIn 0 999999) a11 (by simpa using b11) (by simp [IntIn]; omega) ?_
      rintro _ ⟨s, rfl, s0, s1⟩
      simp! [p6, t6]
      refine s_lot hj k11 (by omega) (by omega) (by omega) (fun i12 J12 a12 b12 k12 => ?_)
      simp! [ctx_run]
      refine s_lot hj k12 (by omega) (by omega) (by omega) (fun i13 J13 a13 b13 k13 => ?_)
      simp! [ctx_run]
      refine pick_ (IntIn (s + 1) 1000000) a13 (by simpa using b13) (by simp [IntIn]; omega) ?_
      rintro _ ⟨u, rfl, u0, u1⟩
      simp! [ctx_run]
      refine s_lot hj k13 (by omega) (by omega) (by omega) (fun i14 J14 a14 b14 k14 => ?_)
      simp! [ctx_run]
      refine pick_ DeedsD a14 (by simpa using b14) (by simp [DeedsD]; exact ⟨⟨[[108, 111, 111, 107]], rfl, by decide⟩, ⟨[[115, 101, 116]], rfl, by decide⟩, ⟨[[108, 111, 111, 107], [115, 101, 116]], rfl, by decide⟩⟩) ?_
      rintro _ ⟨ds, rfl, hds⟩
      simp! [ctx_run]
      refine s_named hj k14 (by omega) (fun rm J15 hrm k15 => ?_)
      simp! [ctx_run]
      refine s_lot hj k15 (by omega) (by omega) (by omega) (fun i16 J16 a16 b16 k16 => ?_)
      simp! [ctx_run]
      obtain ⟨m, rfl⟩ := Int.eq_ofNat_of_zero_le z0
      obtain ⟨ab, rfl, hab⟩ : ∃ ab : Option Nat, d = opD ab ∧ ∀ a, ab = some a → a < m := by
        rcases hd with rfl | ⟨a, rfl, a0, a1⟩
        · exact ⟨none, rfl, fun _ e => by cases e⟩
        · obtain ⟨a, rfl⟩ := Int.eq_ofNat_of_zero_le a0
          exact ⟨some a, rfl, fun _ e => by cases e; omega⟩
      have ok : LfOk ⟨m, rm, ds, g, y', s, u, i16, ab⟩ := ⟨by show m ≤ _; omega, hrm, hg, hy', hne, hds, s0, by show s < u; omega, u1, a16, by show i16 ≤ 6; omega, hab⟩
      exact gQ_nil (Kept.put (Jr.clean J16 _)) (clean_lf _ ⟨m, rm, ds, g, y', s, u, i16, ab⟩) (h ⟨m, rm, ds, g, y', s, u, i16, ab⟩ J16 ok (k16.mono (by omega)))
end K02

set_option Elab.async false
set_option linter.all false
set_option maxRecDepth 100000
set_option maxHeartbeats 4000000
namespace K02
open PySem Mi
theorem c_to1 {α : Type} (x : List α) : cut x none (some 1) = x.take 1 := cut_to x 1
theorem c_fr1 {α : Type} (x : List α) : cut x (some 1) none = x.drop 1 := cut_from x 1
theorem c_to2 {α : Type} (x : List α) : cut x none (some 2) = x.take 2 := cut_to x 2
theorem c_fr2 {α : Type} (x : List α) : cut x (some 2) none = x.drop 2 := cut_from x 2
theorem c_to3 {α : Type} (x : List α) : cut x none (some 3) = x.take 3 := cut_to x 3
theorem c_fr3 {α : Type} (x : List α) : cut x (some 3) none = x.drop 3 := cut_from x 3
theorem c_to4 {α : Type} (x : List α) : cut x none (some 4) = x.take 4 := cut_to x 4
theorem c_fr4 {α : Type} (x : List α) : cut x (some 4) none = x.drop 4 := cut_from x 4
theorem c_to5 {α : Type} (x : List α) : cut x none (some 5) = x.take 5 := cut_to x 5
theorem c_fr5 {α : Type} (x : List α) : cut x (some 5) none = x.drop 5 := cut_from x 5
theorem c_to6 {α : Type} (x : List α) : cut x none (some 6) = x.take 6 := cut_to x 6
theorem c_fr6 {α : Type} (x : List α) : cut x (some 6) none = x.drop 6 := cut_from x 6
theorem c_to7 {α : Type} (x : List α) : cut x none (some 7) = x.take 7 := cut_to x 7
theorem c_fr7 {α : Type} (x : List α) : cut x (some 7) none = x.drop 7 := cut_from x 7
theorem c_to8 {α : Type} (x : List α) : cut x none (some 8) = x.take 8 := cut_to x 8
theorem c_fr8 {α : Type} (x : List α) : cut x (some 8) none = x.drop 8 := cut_from x 8
theorem c_to9 {α : Type} (x : List α) : cut x none (some 9) = x.take 9 := cut_to x 9
theorem c_last {α : Type} (x : List α) : cut x (some (-1)) none = x.drop (x.length - 1) := by
  unfold cut sIx
  cases x with
  | nil => simp
  | cons a r =>
    simp
    have e : (-1 + ((r.length : Int) + 1)).toNat = r.length := by omega
    rw [e, List.take_of_length_le (by simp)]
theorem c_17 {α : Type} (x : List α) : cut x (some 1) (some 7) = (x.take 7).drop 1 := by
  match x with
  | [] => rfl
  | [_] => rfl
  | [_, _] => rfl
  | [_, _, _] => rfl
  | [_, _, _, _] => rfl
  | [_, _, _, _, _] => rfl
  | [_, _, _, _, _, _] => rfl
  | _ :: _ :: _ :: _ :: _ :: _ :: _ :: r =>
    unfold cut sIx
    simp [List.take_of_length_le]
/-- w is l, passed on -/
structure Passed (l w : Lf) : Prop where
  ok : LfOk w
  giver : w.giver = l.holder
  room : w.room = l.room
  deeds : ∀ d ∈ w.deeds, d ∈ l.deeds
  since : l.since ≤ w.since
  until_ : w.until_ ≤ l.until_
  passes : w.passes < l.passes
  number : w.number ≤ l.number + 3
theorem Passed.within {l w : Lf} (h : Passed l w) : narrow w l = true := by
  unfold narrow
  rw [decide_eq_true h.room, decide_eq_true h.giver.symm, decide_eq_true h.since, decide_eq_true h.until_, decide_eq_true h.passes]
  simp only [Bool.true_and, Bool.and_true, List.all_eq_true, decide_eq_true_eq]
  exact h.deeds
theorem kinds_cut {ds : List Tx} (h : ds ∈ kinds) : ds.take 1 ∈ kinds ∧ ds.drop (ds.length - 1) ∈ kinds ∧ ds.length ≤ 2 ∧ 1 ≤ ds.length := by
  simp only [kinds, List.mem_cons, List.not_mem_nil, or_false] at h
  rcases h with rfl | rfl | rfl <;> decide
def NamesOk (ns : List Tx) : Prop := ns.Nodup ∧ 2 ≤ ns.length ∧ ns.length ≤ 20 ∧ ∀ x ∈ ns, nameOk x = true
theorem filter_ne {ns : List Tx} (x : Tx) (h : ns.Nodup) : ns.length - 1 ≤ (ns.filter fun y => !decide (y = x)).length := by
  induction ns with
  | nil => simp
  | cons a r ih =>
    rw [List.nodup_cons] at h
    have ih := ih h.2
    by_cases c : a = x
    · subst c
      have : (r.filter fun y => !decide (y = a)) = r := List.filter_eq_self.mpr fun y hy => by
        have : y ≠ a := fun e => h.1 (e ▸ hy)
        simp [this]
      simp [this]
    · simp only [List.filter_cons, c, decide_false, Bool.not_false, if_true, List.length_cons]
      omega
end K02

set_option Elab.async false
set_option linter.all false
set_option maxRecDepth 100000
set_option maxHeartbeats 4000000
namespace K02
open PySem Mi
local macro_rules | `(tactic| simp_all! [$ls,*]) => `(tactic| simp -dsimp only [↓ifB_true, ↓ifB_false, ↓ifD_bl, ↓okE_ok, ↓okE_exc, ↓okE_bind, ↓okE_itb, ↓okT_st, ↓okT_next, ↓okT_ret, ↓okT_brk, ↓okT_cont, ↓okT_exc, ↓okT_nil, ↓ok_var, ↓ok_non, ↓ok_bl, ↓ok_int, ↓ok_str, ↓ok_ty, ↓ok_glob, ↓ok_bin, ↓ok_neg, ↓ok_not, ↓ok_and, ↓ok_or, ↓ok_ite, ↓ok_cmp, ↓ok_cmp2, ↓ok_attr, ↓ok_ix, ↓ok_sl, ↓ok_rev, ↓ok_lst, ↓ok_rep, ↓ok_tup, ↓ok_dct, ↓ok_bi, ↓ok_isx, ↓ok_ist, ↓ok_fstr, ↓ok_comp, ↓ok_dcomp, ↓ok_call, ↓ok_make, ↓ok_meth, ↓mthD_own, ↓mthD_append, ↓mthD_extend, ↓mthD_insert, ↓mthD_pop, ↓mthD_pop0, ↓mthD_reverse, ↓mthD_get, ↓mthD_get2, ↓mthD_join, ↓mthD_upper, ↓mthD_index, ↓ok_step2, ↓ok_es_nil, ↓ok_es_cons, ↓ok_ps_nil, ↓ok_ps_cons, ↓ok_fs_nil, ↓ok_fs_cons, ↓ok_o_none, ↓ok_o_some, ↓ok_if_none, ↓ok_if_some, ↓ok_i_e, ↓ok_i_range1, ↓ok_i_range2, ↓ok_i_enum, ↓ok_i_zip, ↓ok_i_items, ↓ok_i_vals, ↓ok_t_name, ↓ok_t_tup, ↓ok_t_star_tup, ↓ok_t_star_cl, ↓ok_t_sub, ↓ok_t_fld, ↓ok_ts_nil, ↓ok_ts_cons, ↓ok_ex, ↓ok_asg, ↓ok_ret, ↓ok_retN, ↓ok_pass, ↓ok_sbrk, ↓ok_scont, ↓ok_if, ↓ok_augS, ↓augV_some, ↓ok_aug, ↓ok_for, ↓ok_while, ↓ok_rais, ↓trycX_at, ↓ok_tryc, ↓ok_gc0, ↓planD_some, ↓b_mulI, ↓b_divI, ↓b_modI, ↓b_powI, ↓b_addS, ↓b_addT, ↓b_addC, ↓newL_eq, ↓repD_int, ↓i_sortC, ↓i_sortK, ↓setO_dctS, ↓setO_dctI, ↓fldO_obj, ↓appO_lst, ↓extO_lst, ↓insO_0, ↓rng1_int, ↓rng2_int, ↓raisT_at, ↓optD_none, ↓optD_some, ↓go_nil, ↓go_cons, ↓gos_nil, ↓gos_cons, get_new, pl_non, pl_int, pl_str, pl_tup, pl_cl, pl_strs, pl_ints, ctx_run, ctx_mrun, varD_some, globD_some, negD_int, notD_bl, someD_int, boolD_bl, nonD_non, b_addI, b_subI, newC_true, newC_false, newD_true, newD_false, dctR_nil, a_addI, a_subI, c_eqI, c_neI, c_eq, c_ne, c_eqS, c_neS, c_eqB, c_neB, c_ltI, c_leI, c_gtI, c_geI, c_is, c_isN, c_isB, c_isNB, isNon_non, isNon_int, isNon_str, isNon_tup, isNon_exn, isNon_bl, isNon_ref, isNon_cd, isNon_cl, c_inT, c_ninT, c_inC, c_ninC, c_eqR0, eqO0, c_neR0, neO0, c_inS, c_inR, c_ninR, inO_dctI, inO_dctS, inO_lst, c_inDS, c_ninDS, c_inDI, c_ninDI, okOB_some, set_new, getK_nil, i_len, i_lenT, i_lenC, i_lenK, i_lenR, lenO_lst, lenO_dct, i_max, i_min, i_intB, i_isi_n_int, i_isi_n_str, i_isi_n_list, i_isi_n_tuple, i_isi_n_dict, i_isi_n_bool, i_isi_b_int, i_isi_b_str, i_isi_b_list, i_isi_b_tuple, i_isi_b_dict, i_isi_b_bool, i_isi_i_int, i_isi_i_str, i_isi_i_list, i_isi_i_tuple, i_isi_i_dict, i_isi_i_bool, i_isi_s_int, i_isi_s_str, i_isi_s_list, i_isi_s_tuple, i_isi_s_dict, i_isi_s_bool, i_isi_t_int, i_isi_t_str, i_isi_t_list, i_isi_t_tuple, i_isi_t_dict, i_isi_t_bool, i_isi_c_int, i_isi_c_str, i_isi_c_list, i_isi_c_tuple, i_isi_c_dict, i_isi_c_bool, i_isi_k_int, i_isi_k_str, i_isi_k_list, i_isi_k_tuple, i_isi_k_dict, i_isi_k_bool, i_ist_lt_t, i_ist_lt_c, i_ist_lt_i, i_ist_lt_s, i_allM, i_anyM, i_tupC, i_listC, atD_nat, atD_m1, okO_some, ix_tup, ix_cl, ix_cdS, ix_cdI, ix_ref, ixO_lst, ixO_dctS, ixO_dctI, atD_0, atD_1, atD_2, atD_3, atD_4, atD_5, atD_6, atD_7, atD_8, getD_ref, setD_ref, setO_l0, setO_l1, setO_l2, attr_ref, attrO_obj, fld_ref, kind_str, kind_cl, kind_cd, kind_ref, kindO_lst, kindO_dct, kindO_obj, app_ref, ext_ref, ins_ref, pop_ref, revM_ref, revO_lst, ivD_str, ivD_tup, ivD_cl, ivD_cd, ivD_ref, ivO_lst, itemsD_cd, valsD_cd, enumD_cl, zipD_tt, zipD_cc, lenI_fix, sl_str, sl_tup, sl_cl, rev_cl, rev_tup, step2_cl, strB_bl, strB_non, cut_none, cut_m1, isx_at, sl_lit, sl_lit', alloc_ok, p0_is_name, z_is_name, p0_is_whole, z_is_whole, p0_is_between, z_is_between, p0_is_number, z_is_number, p0_are_moments, z_are_moments, p0_is_under, z_is_under, p0_is_leave, p1_is_leave, z_is_leave, p0__law_urn, z__law_urn, p0__law_lot, z__law_lot, p0__law_named, z__law_named, p0__law_leaf, z__law_leaf, p0__law_odd, z__law_odd, p0__law_is_name, z__law_is_name, p0__law_whole, z__law_whole, p0__law_is_leaf, z__law_is_leaf, p0__law_part, z__law_part, p0__law_bent, z__law_bent, p0__law_right, z__law_right, g_MOST_LETTERS, g_GREATEST, g_LAST_MOMENT, g_MOST_PASSES, g_SMALL, g_KINDS_OF_DEEDS, List.foldl_append, List.foldl_cons, List.foldl_nil, List.map_append, List.filter_append, List.all_append, List.any_append, List.length_append, List.sum_append, List.forall_mem_append, List.forall_mem_singleton, ifB_true, ifB_false, ifD_bl, okE_ok, okE_exc, okE_bind, okE_itb, okT_st, okT_next, okT_ret, okT_brk, okT_cont, okT_exc, okT_nil, ok_var, ok_non, ok_bl, ok_int, ok_str, ok_ty, ok_glob, ok_bin, ok_neg, ok_not, ok_and, ok_or, ok_ite, ok_cmp, ok_cmp2, ok_attr, ok_ix, ok_sl, ok_rev, ok_lst, ok_rep, ok_tup, ok_dct, ok_bi, ok_isx, ok_ist, ok_fstr, ok_comp, ok_dcomp, ok_call, ok_make, ok_meth, mthD_own, mthD_append, mthD_extend, mthD_insert, mthD_pop, mthD_pop0, mthD_reverse, mthD_get, mthD_get2, mthD_join, mthD_upper, mthD_index, ok_step2, ok_es_nil, ok_es_cons, ok_ps_nil, ok_ps_cons, ok_fs_nil, ok_fs_cons, ok_o_none, ok_o_some, ok_if_none, ok_if_some, ok_i_e, ok_i_range1, ok_i_range2, ok_i_enum, ok_i_zip, ok_i_items, ok_i_vals, ok_t_name, ok_t_tup, ok_t_star_tup, ok_t_star_cl, ok_t_sub, ok_t_fld, ok_ts_nil, ok_ts_cons, ok_ex, ok_asg, ok_ret, ok_retN, ok_pass, ok_sbrk, ok_scont, ok_if, ok_augS, augV_some, ok_aug, ok_for, ok_while, ok_rais, trycX_at, ok_tryc, ok_gc0, planD_some, b_mulI, b_divI, b_modI, b_powI, b_addS, b_addT, b_addC, newL_eq, repD_int, i_sortC, i_sortK, setO_dctS, setO_dctI, fldO_obj, appO_lst, extO_lst, insO_0, rng1_int, rng2_int, raisT_at, optD_none, optD_some, go_nil, go_cons, gos_nil, gos_cons, ↓okT_cons, okT_cons, ↓ifB_vc, ifB_vc, decide_eq_true_eq, decide_eq_false_iff_not, Bool.not_eq_true', Bool.not_eq_false', false_implies, implies_true, true_implies, Bool.and_true, Bool.decide_eq_true, Bool.false_eq_true, Bool.not_false, Bool.not_true, Bool.true_and, Bool.true_eq_false, D.bl.injEq, D.cl.injEq, D.int.injEq, D.str.injEq, D.tup.injEq, Int.cast_ofNat_Int, Int.reduceEq, Int.reduceLE, Int.reduceLT, Int.reduceNeg, List.all_cons, List.all_nil, List.append_nil, List.cons_append, List.getD_cons_succ, List.getD_cons_zero, List.getElem?_cons_succ, List.getElem?_cons_zero, List.getElem?_map, List.length_cons, List.length_nil, List.map_cons, List.map_nil, List.nil_append, List.replicate, List.set_cons_succ, List.set_cons_zero, Nat.reduceAdd, Nat.reduceEqDiff, Nat.reduceLeDiff, Nat.zero_add, Option.map_some, Src.pick, and_true, decide_false, decide_true, if_false, if_true, not_false_eq_true, not_true_eq_false, true_and, wipeE, $ls,*])
variable {k : Nat} {st : Sto} {Q : D → Sto → Prop} {X : XQ}
theorem in_small (c : Nat) : c ∈ small ↔ 97 ≤ c ∧ c ≤ 122 := by
  constructor
  · intro h
    have : ∀ c ∈ small, 97 ≤ c ∧ c ≤ 122 := by decide
    exact this c h
  · rintro ⟨a, b⟩
    have : ∀ c, c < 123 → 97 ≤ c → c ∈ small := by decide
    exact this c (by omega) a
theorem lt_sign (c d : Nat) : ltS [c] [d] = decide (c < d) := by simp [ltS]
theorem c_ltc (c d : Nat) : cmpD .Lt (.str [c]) (.str [d]) st = .ok (.bl (decide (c < d))) st := by
  show okB (ltS [c] [d]) st = _
  rw [lt_sign]; rfl
theorem c_gtc (c d : Nat) : cmpD .Gt (.str [c]) (.str [d]) st = .ok (.bl (decide (d < c))) st := by
  show okB (ltS [d] [c]) st = _
  rw [lt_sign]; rfl
theorem h_name {x : D} (h : tyd x = true) : gcR 2 st (callF P (k + 1) "_law_is_name" [x] st) = .ok (.bl (isNameV x)) st := by
  refine pure_gc (clean_bl _ _) (ok_callF l__law_is_name ?_)
  simp -dsimp only [f__law_is_name, b__law_is_name]
  cases x with
  | str x =>
    show okT _ _ _ _ (fun d t => d = .bl (nameOk x) ∧ t = st) _
    generalize hv : nameOk x = v
    unfold nameOk at hv
    simp_all! [ctx_run]
    refine ⟨fun h1 => ?_, fun h1 => ⟨fun h2 => ?_, fun h2 => ?_⟩⟩
    · rw [← hv, decide_eq_false (by omega : ¬ 1 ≤ x.length)]; rfl
    · rw [← hv, decide_eq_false (by omega : ¬ x.length ≤ 8)]; simp
    · refine ok_compP (xs := x) (enc := fun c => .str [c]) (fun c => !decide (c ∈ small)) (fun c => .str [c]) (sl_big (by omega)) (fun c hc => ?_) ?_
      · have hs := in_small c
        simp_all! [c_ltc, c_gtc]
        grind
      · have hp : ∀ n, ((x.filter fun c => !decide (c ∈ small)).map fun c => D.str [c]).all (pl (n + 1)) = true := fun n => pl_map (f := fun c => D.str [c]) (fun a => rfl) _
        simp_all! [hp, nil_filterP]
        rw [← hv, decide_eq_true (by omega : 1 ≤ x.length), decide_eq_true (by omega : x.length ≤ 8)]
        simp
  | non => simp_all! [ctx_run, isNameV]
  | bl _ => simp_all! [ctx_run, isNameV]
  | int _ => simp_all! [ctx_run, isNameV]
  | tup _ => simp_all! [ctx_run, isNameV]
  | cl _ => simp_all! [ctx_run, isNameV]
  | cd _ => simp_all! [ctx_run, isNameV]
  | _ => cases h
theorem h_whole {x : D} (h : tyd x = true) (lo hi : Int) : gcR 2 st (callF P (k + 1) "_law_whole" [x, .int lo, .int hi] st) = .ok (.bl (isIntV lo hi x)) st := by
  refine pure_gc (clean_bl _ _) (ok_callF l__law_whole ?_)
  simp -dsimp only [f__law_whole, b__law_whole]
  cases x with
  | int i =>
    simp_all! [isIntV]
    grind
  | str _ => simp_all! [isIntV]
  | non => simp_all! [isIntV]
  | bl _ => simp_all! [isIntV]
  | tup _ => simp_all! [isIntV]
  | cl _ => simp_all! [isIntV]
  | cd _ => simp_all! [isIntV]
  | _ => cases h
theorem mom_f {f g : D} (e : isIntV 0 1000000 f = false) : momV f g = false := by
  cases f with
  | int i =>
    cases g with
    | int j =>
      simp only [isIntV, momV, Bool.and_eq_false_iff, decide_eq_false_iff_not] at e ⊢
      omega
    | _ => rfl
  | _ => cases g <;> rfl
theorem mom_g {f g : D} (e : isIntV 0 1000000 g = false) : momV f g = false := by
  cases g with
  | int j =>
    cases f with
    | int i =>
      simp only [isIntV, momV, Bool.and_eq_false_iff, decide_eq_false_iff_not] at e ⊢
      omega
    | _ => rfl
  | _ => cases f <;> rfl
theorem h_leaf {p : Nine} (ok : p.Ok) : gcR 2 st (callF P (k + 2) "_law_is_leaf" [p.d'] st) = .ok (.bl (leafV p)) st := by
  refine pure_gc (clean_bl _ _) (ok_callF l__law_is_leaf ?_)
  obtain ⟨a, b, c, d, e, f, g, h, i⟩ := p
  obtain ⟨ka, kb, kc, kc', kd, ke, kf, kg, kh, ki⟩ := ok
  dsimp only at ka kb kc kc' kd ke kf kg kh ki
  simp -dsimp only [f__law_is_leaf, b__law_is_leaf]
  generalize hv : leafV _ = v
  unfold leafV at hv
  dsimp only at hv
  simp_all! [Nine.d', h_whole ka]
  refine ⟨fun h1 => ?_, fun h1 => ?_⟩
  · rw [← hv, h1]; rfl
  · obtain ⟨n, rfl⟩ : ∃ n, a = .int n := by
      cases a with
      | int n => exact ⟨n, rfl⟩
      | _ => simp [isIntV] at h1
    refine ok_compA (xs := [1, 3, 4]) (enc := fun i : Nat => D.int i) (fun i => .bl (isNameV (if i = 1 then b else if i = 3 then d else e))) (sl_big (by simp)) (fun i hi => ?_) ?_
    · simp only [List.mem_cons, List.not_mem_nil, or_false] at hi
      rcases hi with rfl | rfl | rfl
      · simp_all! [h_name kb]
      · simp_all! [h_name kd]
      · simp_all! [h_name ke]
    · have ha : ∀ (z : Bool) s (x y w : Bool), biD z "all" [.cl [D.bl x, D.bl y, D.bl w]] s = .ok (.bl (x && (y && w))) s := fun z s x y w => by
        have := @i_all s z [x, y, w]
        simpa using this
      simp only [List.map_cons, List.map_nil]
      have t6 : (10 : Int) ^ Int.toNat 6 = 1000000 := by decide
      have p6 : powOk 10 6 = true := by decide
      simp_all! [ha, Nine.d']
      refine ⟨fun q => ?_, fun q => ?_⟩
      · rw [← hv, h1, Bool.true_and]
        cases h3 : isNameV b <;> cases h4 : isNameV d <;> cases h5 : isNameV e <;> simp_all
      · simp only [Bool.and_eq_true] at q
        obtain ⟨b', rfl, hb'⟩ := isNameV_str q.1
        obtain ⟨d', rfl, hd'⟩ := isNameV_str q.2.1
        obtain ⟨e', rfl, he'⟩ := isNameV_str q.2.2
        rw [h1, q.1, q.2.1, q.2.2] at hv
        simp only [Bool.true_and, D.str.injEq, numV] at hv
        cases c with
        | tup xs =>
          have hp : xs.all (pl 58) = true := kc'
          have hf := fun lo hi => h_whole (k := k) (st := st) kf lo hi
          have hg := fun lo hi => h_whole (k := k) (st := st) kg lo hi
          have hh := fun lo hi => h_whole (k := k) (st := st) kh lo hi
          have hi := fun lo hi => h_whole (k := k) (st := st) ki lo hi
          simp_all! [Nine.d', hp, hf, hg, hh, hi, p6, t6]
          simp only [deedsV] at hv
          refine ⟨fun n1 => ?_, fun n1 => ⟨fun n2 => ?_, fun n2 => ⟨fun n3 => ?_, fun n3 => ⟨fun n4 => ?_, fun n4 => ?_⟩⟩⟩⟩
          · rw [← hv, decide_eq_false n1]; simp
          · rw [← hv]; simp [n2]
          · rw [← hv, mom_f n3]; simp
          · rw [← hv, mom_g n4]; simp
          · obtain ⟨y, rfl⟩ : ∃ y, f = .int y := by cases f <;> first | exact ⟨_, rfl⟩ | simp [isIntV] at n3
            obtain ⟨z, rfl⟩ : ∃ y, g = .int y := by cases g <;> first | exact ⟨_, rfl⟩ | simp [isIntV] at n4
            simp only [isIntV, Bool.and_eq_true, decide_eq_true_eq] at n3 n4
            clear hf hg ha h1 q
            simp_all! [Nine.d', hh, hi]
            rw [decide_eq_false n2, decide_eq_true n1, Bool.not_false, Bool.true_and, Bool.true_and] at hv
            refine ⟨fun m1 => ?_, fun m1 => ⟨fun m2 => ⟨fun m3 => ?_, fun m3 => ?_⟩, fun m2 => ?_⟩⟩
            · rw [← hv]
              have : momV (.int y) (.int z) = false := by simp only [momV, Bool.and_eq_false_iff, decide_eq_false_iff_not]; omega
              rw [this]; rfl
            · have : momV (.int y) (.int z) = true := by simp only [momV, Bool.and_eq_true, decide_eq_true_eq]; omega
              rw [← hv, this, m2]
              cases i <;> first | rfl | (cases m3)
            · have : momV (.int y) (.int z) = true := by simp only [momV, Bool.and_eq_true, decide_eq_true_eq]; omega
              rw [← hv, this, m2]
              cases i <;> first | rfl | (cases m3)
            · rw [← hv, m2]; simp
        | non => simp_all! [Nine.d']; rw [← hv]; simp [deedsV]
        | bl _ => simp_all! [Nine.d']; rw [← hv]; simp [deedsV]
        | int _ => simp_all! [Nine.d']; rw [← hv]; simp [deedsV]
        | str _ => simp_all! [Nine.d']; rw [← hv]; simp [deedsV]
        | cl _ => simp_all! [Nine.d']; rw [← hv]; simp [deedsV]
        | cd _ => simp_all! [Nine.d']; rw [← hv]; simp [deedsV]
        | _ => simp [tyd] at kc
end K02

set_option Elab.async false
set_option linter.all false
set_option maxRecDepth 100000
set_option maxHeartbeats 4000000
namespace K02
open PySem Mi
local macro_rules | `(tactic| simp! [$ls,*]) => `(tactic| simp -dsimp only [↓ifB_true, ↓ifB_false, ↓ifD_bl, ↓okE_ok, ↓okE_exc, ↓okE_bind, ↓okE_itb, ↓okT_st, ↓okT_next, ↓okT_ret, ↓okT_brk, ↓okT_cont, ↓okT_exc, ↓okT_nil, ↓ok_var, ↓ok_non, ↓ok_bl, ↓ok_int, ↓ok_str, ↓ok_ty, ↓ok_glob, ↓ok_bin, ↓ok_neg, ↓ok_not, ↓ok_and, ↓ok_or, ↓ok_ite, ↓ok_cmp, ↓ok_cmp2, ↓ok_attr, ↓ok_ix, ↓ok_sl, ↓ok_rev, ↓ok_lst, ↓ok_rep, ↓ok_tup, ↓ok_dct, ↓ok_bi, ↓ok_isx, ↓ok_ist, ↓ok_fstr, ↓ok_comp, ↓ok_dcomp, ↓ok_call, ↓ok_make, ↓ok_meth, ↓mthD_own, ↓mthD_append, ↓mthD_extend, ↓mthD_insert, ↓mthD_pop, ↓mthD_pop0, ↓mthD_reverse, ↓mthD_get, ↓mthD_get2, ↓mthD_join, ↓mthD_upper, ↓mthD_index, ↓ok_step2, ↓ok_es_nil, ↓ok_es_cons, ↓ok_ps_nil, ↓ok_ps_cons, ↓ok_fs_nil, ↓ok_fs_cons, ↓ok_o_none, ↓ok_o_some, ↓ok_if_none, ↓ok_if_some, ↓ok_i_e, ↓ok_i_range1, ↓ok_i_range2, ↓ok_i_enum, ↓ok_i_zip, ↓ok_i_items, ↓ok_i_vals, ↓ok_t_name, ↓ok_t_tup, ↓ok_t_star_tup, ↓ok_t_star_cl, ↓ok_t_sub, ↓ok_t_fld, ↓ok_ts_nil, ↓ok_ts_cons, ↓ok_ex, ↓ok_asg, ↓ok_ret, ↓ok_retN, ↓ok_pass, ↓ok_sbrk, ↓ok_scont, ↓ok_if, ↓ok_augS, ↓augV_some, ↓ok_aug, ↓ok_for, ↓ok_while, ↓ok_rais, ↓trycX_at, ↓ok_tryc, ↓ok_gc0, ↓planD_some, ↓b_mulI, ↓b_divI, ↓b_modI, ↓b_powI, ↓b_addS, ↓b_addT, ↓b_addC, ↓newL_eq, ↓repD_int, ↓i_sortC, ↓i_sortK, ↓setO_dctS, ↓setO_dctI, ↓fldO_obj, ↓appO_lst, ↓extO_lst, ↓insO_0, ↓rng1_int, ↓rng2_int, ↓raisT_at, ↓optD_none, ↓optD_some, ↓go_nil, ↓go_cons, ↓gos_nil, ↓gos_cons, get_new, pl_non, pl_int, pl_str, pl_tup, pl_cl, pl_strs, pl_ints, ctx_run, ctx_mrun, varD_some, globD_some, negD_int, notD_bl, someD_int, boolD_bl, nonD_non, b_addI, b_subI, newC_true, newC_false, newD_true, newD_false, dctR_nil, a_addI, a_subI, c_eqI, c_neI, c_eq, c_ne, c_eqS, c_neS, c_eqB, c_neB, c_ltI, c_leI, c_gtI, c_geI, c_is, c_isN, c_isB, c_isNB, isNon_non, isNon_int, isNon_str, isNon_tup, isNon_exn, isNon_bl, isNon_ref, isNon_cd, isNon_cl, c_inT, c_ninT, c_inC, c_ninC, c_eqR0, eqO0, c_neR0, neO0, c_inS, c_inR, c_ninR, inO_dctI, inO_dctS, inO_lst, c_inDS, c_ninDS, c_inDI, c_ninDI, okOB_some, set_new, getK_nil, i_len, i_lenT, i_lenC, i_lenK, i_lenR, lenO_lst, lenO_dct, i_max, i_min, i_intB, i_isi_n_int, i_isi_n_str, i_isi_n_list, i_isi_n_tuple, i_isi_n_dict, i_isi_n_bool, i_isi_b_int, i_isi_b_str, i_isi_b_list, i_isi_b_tuple, i_isi_b_dict, i_isi_b_bool, i_isi_i_int, i_isi_i_str, i_isi_i_list, i_isi_i_tuple, i_isi_i_dict, i_isi_i_bool, i_isi_s_int, i_isi_s_str, i_isi_s_list, i_isi_s_tuple, i_isi_s_dict, i_isi_s_bool, i_isi_t_int, i_isi_t_str, i_isi_t_list, i_isi_t_tuple, i_isi_t_dict, i_isi_t_bool, i_isi_c_int, i_isi_c_str, i_isi_c_list, i_isi_c_tuple, i_isi_c_dict, i_isi_c_bool, i_isi_k_int, i_isi_k_str, i_isi_k_list, i_isi_k_tuple, i_isi_k_dict, i_isi_k_bool, i_ist_lt_t, i_ist_lt_c, i_ist_lt_i, i_ist_lt_s, i_allM, i_anyM, i_tupC, i_listC, atD_nat, atD_m1, okO_some, ix_tup, ix_cl, ix_cdS, ix_cdI, ix_ref, ixO_lst, ixO_dctS, ixO_dctI, atD_0, atD_1, atD_2, atD_3, atD_4, atD_5, atD_6, atD_7, atD_8, getD_ref, setD_ref, setO_l0, setO_l1, setO_l2, attr_ref, attrO_obj, fld_ref, kind_str, kind_cl, kind_cd, kind_ref, kindO_lst, kindO_dct, kindO_obj, app_ref, ext_ref, ins_ref, pop_ref, revM_ref, revO_lst, ivD_str, ivD_tup, ivD_cl, ivD_cd, ivD_ref, ivO_lst, itemsD_cd, valsD_cd, enumD_cl, zipD_tt, zipD_cc, lenI_fix, sl_str, sl_tup, sl_cl, rev_cl, rev_tup, step2_cl, strB_bl, strB_non, cut_none, cut_m1, isx_at, sl_lit, sl_lit', alloc_ok, p0_is_name, z_is_name, p0_is_whole, z_is_whole, p0_is_between, z_is_between, p0_is_number, z_is_number, p0_are_moments, z_are_moments, p0_is_under, z_is_under, p0_is_leave, p1_is_leave, z_is_leave, p0__law_urn, z__law_urn, p0__law_lot, z__law_lot, p0__law_named, z__law_named, p0__law_leaf, z__law_leaf, p0__law_odd, z__law_odd, p0__law_is_name, z__law_is_name, p0__law_whole, z__law_whole, p0__law_is_leaf, z__law_is_leaf, p0__law_part, z__law_part, p0__law_bent, z__law_bent, p0__law_right, z__law_right, g_MOST_LETTERS, g_GREATEST, g_LAST_MOMENT, g_MOST_PASSES, g_SMALL, g_KINDS_OF_DEEDS, List.foldl_append, List.foldl_cons, List.foldl_nil, List.map_append, List.filter_append, List.all_append, List.any_append, List.length_append, List.sum_append, List.forall_mem_append, List.forall_mem_singleton, ifB_true, ifB_false, ifD_bl, okE_ok, okE_exc, okE_bind, okE_itb, okT_st, okT_next, okT_ret, okT_brk, okT_cont, okT_exc, okT_nil, ok_var, ok_non, ok_bl, ok_int, ok_str, ok_ty, ok_glob, ok_bin, ok_neg, ok_not, ok_and, ok_or, ok_ite, ok_cmp, ok_cmp2, ok_attr, ok_ix, ok_sl, ok_rev, ok_lst, ok_rep, ok_tup, ok_dct, ok_bi, ok_isx, ok_ist, ok_fstr, ok_comp, ok_dcomp, ok_call, ok_make, ok_meth, mthD_own, mthD_append, mthD_extend, mthD_insert, mthD_pop, mthD_pop0, mthD_reverse, mthD_get, mthD_get2, mthD_join, mthD_upper, mthD_index, ok_step2, ok_es_nil, ok_es_cons, ok_ps_nil, ok_ps_cons, ok_fs_nil, ok_fs_cons, ok_o_none, ok_o_some, ok_if_none, ok_if_some, ok_i_e, ok_i_range1, ok_i_range2, ok_i_enum, ok_i_zip, ok_i_items, ok_i_vals, ok_t_name, ok_t_tup, ok_t_star_tup, ok_t_star_cl, ok_t_sub, ok_t_fld, ok_ts_nil, ok_ts_cons, ok_ex, ok_asg, ok_ret, ok_retN, ok_pass, ok_sbrk, ok_scont, ok_if, ok_augS, augV_some, ok_aug, ok_for, ok_while, ok_rais, trycX_at, ok_tryc, ok_gc0, planD_some, b_mulI, b_divI, b_modI, b_powI, b_addS, b_addT, b_addC, newL_eq, repD_int, i_sortC, i_sortK, setO_dctS, setO_dctI, fldO_obj, appO_lst, extO_lst, insO_0, rng1_int, rng2_int, raisT_at, optD_none, optD_some, go_nil, go_cons, gos_nil, gos_cons, ↓okT_cons, okT_cons, Bool.and_true, Bool.decide_eq_true, Bool.false_eq_true, Bool.not_false, Bool.not_true, Bool.true_and, Bool.true_eq_false, D.bl.injEq, D.cl.injEq, D.int.injEq, D.str.injEq, D.tup.injEq, Int.cast_ofNat_Int, Int.reduceEq, Int.reduceLE, Int.reduceLT, Int.reduceNeg, List.all_cons, List.all_nil, List.append_nil, List.cons_append, List.getD_cons_succ, List.getD_cons_zero, List.getElem?_cons_succ, List.getElem?_cons_zero, List.getElem?_map, List.length_cons, List.length_nil, List.map_cons, List.map_nil, List.nil_append, List.replicate, List.set_cons_succ, List.set_cons_zero, Nat.reduceAdd, Nat.reduceEqDiff, Nat.reduceLeDiff, Nat.zero_add, Option.map_some, Src.pick, and_true, decide_false, decide_true, if_false, if_true, not_false_eq_true, not_true_eq_false, true_and, wipeE, $ls,*])
local macro_rules | `(tactic| simp_all! [$ls,*]) => `(tactic| simp -dsimp only [↓ifB_true, ↓ifB_false, ↓ifD_bl, ↓okE_ok, ↓okE_exc, ↓okE_bind, ↓okE_itb, ↓okT_st, ↓okT_next, ↓okT_ret, ↓okT_brk, ↓okT_cont, ↓okT_exc, ↓okT_nil, ↓ok_var, ↓ok_non, ↓ok_bl, ↓ok_int, ↓ok_str, ↓ok_ty, ↓ok_glob, ↓ok_bin, ↓ok_neg, ↓ok_not, ↓ok_and, ↓ok_or, ↓ok_ite, ↓ok_cmp, ↓ok_cmp2, ↓ok_attr, ↓ok_ix, ↓ok_sl, ↓ok_rev, ↓ok_lst, ↓ok_rep, ↓ok_tup, ↓ok_dct, ↓ok_bi, ↓ok_isx, ↓ok_ist, ↓ok_fstr, ↓ok_comp, ↓ok_dcomp, ↓ok_call, ↓ok_make, ↓ok_meth, ↓mthD_own, ↓mthD_append, ↓mthD_extend, ↓mthD_insert, ↓mthD_pop, ↓mthD_pop0, ↓mthD_reverse, ↓mthD_get, ↓mthD_get2, ↓mthD_join, ↓mthD_upper, ↓mthD_index, ↓ok_step2, ↓ok_es_nil, ↓ok_es_cons, ↓ok_ps_nil, ↓ok_ps_cons, ↓ok_fs_nil, ↓ok_fs_cons, ↓ok_o_none, ↓ok_o_some, ↓ok_if_none, ↓ok_if_some, ↓ok_i_e, ↓ok_i_range1, ↓ok_i_range2, ↓ok_i_enum, ↓ok_i_zip, ↓ok_i_items, ↓ok_i_vals, ↓ok_t_name, ↓ok_t_tup, ↓ok_t_star_tup, ↓ok_t_star_cl, ↓ok_t_sub, ↓ok_t_fld, ↓ok_ts_nil, ↓ok_ts_cons, ↓ok_ex, ↓ok_asg, ↓ok_ret, ↓ok_retN, ↓ok_pass, ↓ok_sbrk, ↓ok_scont, ↓ok_if, ↓ok_augS, ↓augV_some, ↓ok_aug, ↓ok_for, ↓ok_while, ↓ok_rais, ↓trycX_at, ↓ok_tryc, ↓ok_gc0, ↓planD_some, ↓b_mulI, ↓b_divI, ↓b_modI, ↓b_powI, ↓b_addS, ↓b_addT, ↓b_addC, ↓newL_eq, ↓repD_int, ↓i_sortC, ↓i_sortK, ↓setO_dctS, ↓setO_dctI, ↓fldO_obj, ↓appO_lst, ↓extO_lst, ↓insO_0, ↓rng1_int, ↓rng2_int, ↓raisT_at, ↓optD_none, ↓optD_some, ↓go_nil, ↓go_cons, ↓gos_nil, ↓gos_cons, get_new, pl_non, pl_int, pl_str, pl_tup, pl_cl, pl_strs, pl_ints, ctx_run, ctx_mrun, varD_some, globD_some, negD_int, notD_bl, someD_int, boolD_bl, nonD_non, b_addI, b_subI, newC_true, newC_false, newD_true, newD_false, dctR_nil, a_addI, a_subI, c_eqI, c_neI, c_eq, c_ne, c_eqS, c_neS, c_eqB, c_neB, c_ltI, c_leI, c_gtI, c_geI, c_is, c_isN, c_isB, c_isNB, isNon_non, isNon_int, isNon_str, isNon_tup, isNon_exn, isNon_bl, isNon_ref, isNon_cd, isNon_cl, c_inT, c_ninT, c_inC, c_ninC, c_eqR0, eqO0, c_neR0, neO0, c_inS, c_inR, c_ninR, inO_dctI, inO_dctS, inO_lst, c_inDS, c_ninDS, c_inDI, c_ninDI, okOB_some, set_new, getK_nil, i_len, i_lenT, i_lenC, i_lenK, i_lenR, lenO_lst, lenO_dct, i_max, i_min, i_intB, i_isi_n_int, i_isi_n_str, i_isi_n_list, i_isi_n_tuple, i_isi_n_dict, i_isi_n_bool, i_isi_b_int, i_isi_b_str, i_isi_b_list, i_isi_b_tuple, i_isi_b_dict, i_isi_b_bool, i_isi_i_int, i_isi_i_str, i_isi_i_list, i_isi_i_tuple, i_isi_i_dict, i_isi_i_bool, i_isi_s_int, i_isi_s_str, i_isi_s_list, i_isi_s_tuple, i_isi_s_dict, i_isi_s_bool, i_isi_t_int, i_isi_t_str, i_isi_t_list, i_isi_t_tuple, i_isi_t_dict, i_isi_t_bool, i_isi_c_int, i_isi_c_str, i_isi_c_list, i_isi_c_tuple, i_isi_c_dict, i_isi_c_bool, i_isi_k_int, i_isi_k_str, i_isi_k_list, i_isi_k_tuple, i_isi_k_dict, i_isi_k_bool, i_ist_lt_t, i_ist_lt_c, i_ist_lt_i, i_ist_lt_s, i_allM, i_anyM, i_tupC, i_listC, atD_nat, atD_m1, okO_some, ix_tup, ix_cl, ix_cdS, ix_cdI, ix_ref, ixO_lst, ixO_dctS, ixO_dctI, atD_0, atD_1, atD_2, atD_3, atD_4, atD_5, atD_6, atD_7, atD_8, getD_ref, setD_ref, setO_l0, setO_l1, setO_l2, attr_ref, attrO_obj, fld_ref, kind_str, kind_cl, kind_cd, kind_ref, kindO_lst, kindO_dct, kindO_obj, app_ref, ext_ref, ins_ref, pop_ref, revM_ref, revO_lst, ivD_str, ivD_tup, ivD_cl, ivD_cd, ivD_ref, ivO_lst, itemsD_cd, valsD_cd, enumD_cl, zipD_tt, zipD_cc, lenI_fix, sl_str, sl_tup, sl_cl, rev_cl, rev_tup, step2_cl, strB_bl, strB_non, cut_none, cut_m1, isx_at, sl_lit, sl_lit', alloc_ok, p0_is_name, z_is_name, p0_is_whole, z_is_whole, p0_is_between, z_is_between, p0_is_number, z_is_number, p0_are_moments, z_are_moments, p0_is_under, z_is_under, p0_is_leave, p1_is_leave, z_is_leave, p0__law_urn, z__law_urn, p0__law_lot, z__law_lot, p0__law_named, z__law_named, p0__law_leaf, z__law_leaf, p0__law_odd, z__law_odd, p0__law_is_name, z__law_is_name, p0__law_whole, z__law_whole, p0__law_is_leaf, z__law_is_leaf, p0__law_part, z__law_part, p0__law_bent, z__law_bent, p0__law_right, z__law_right, g_MOST_LETTERS, g_GREATEST, g_LAST_MOMENT, g_MOST_PASSES, g_SMALL, g_KINDS_OF_DEEDS, List.foldl_append, List.foldl_cons, List.foldl_nil, List.map_append, List.filter_append, List.all_append, List.any_append, List.length_append, List.sum_append, List.forall_mem_append, List.forall_mem_singleton, ifB_true, ifB_false, ifD_bl, okE_ok, okE_exc, okE_bind, okE_itb, okT_st, okT_next, okT_ret, okT_brk, okT_cont, okT_exc, okT_nil, ok_var, ok_non, ok_bl, ok_int, ok_str, ok_ty, ok_glob, ok_bin, ok_neg, ok_not, ok_and, ok_or, ok_ite, ok_cmp, ok_cmp2, ok_attr, ok_ix, ok_sl, ok_rev, ok_lst, ok_rep, ok_tup, ok_dct, ok_bi, ok_isx, ok_ist, ok_fstr, ok_comp, ok_dcomp, ok_call, ok_make, ok_meth, mthD_own, mthD_append, mthD_extend, mthD_insert, mthD_pop, mthD_pop0, mthD_reverse, mthD_get, mthD_get2, mthD_join, mthD_upper, mthD_index, ok_step2, ok_es_nil, ok_es_cons, ok_ps_nil, ok_ps_cons, ok_fs_nil, ok_fs_cons, ok_o_none, ok_o_some, ok_if_none, ok_if_some, ok_i_e, ok_i_range1, ok_i_range2, ok_i_enum, ok_i_zip, ok_i_items, ok_i_vals, ok_t_name, ok_t_tup, ok_t_star_tup, ok_t_star_cl, ok_t_sub, ok_t_fld, ok_ts_nil, ok_ts_cons, ok_ex, ok_asg, ok_ret, ok_retN, ok_pass, ok_sbrk, ok_scont, ok_if, ok_augS, augV_some, ok_aug, ok_for, ok_while, ok_rais, trycX_at, ok_tryc, ok_gc0, planD_some, b_mulI, b_divI, b_modI, b_powI, b_addS, b_addT, b_addC, newL_eq, repD_int, i_sortC, i_sortK, setO_dctS, setO_dctI, fldO_obj, appO_lst, extO_lst, insO_0, rng1_int, rng2_int, raisT_at, optD_none, optD_some, go_nil, go_cons, gos_nil, gos_cons, ↓okT_cons, okT_cons, ↓ifB_vc, ifB_vc, decide_eq_true_eq, decide_eq_false_iff_not, Bool.not_eq_true', Bool.not_eq_false', false_implies, implies_true, true_implies, Bool.and_true, Bool.decide_eq_true, Bool.false_eq_true, Bool.not_false, Bool.not_true, Bool.true_and, Bool.true_eq_false, D.bl.injEq, D.cl.injEq, D.int.injEq, D.str.injEq, D.tup.injEq, Int.cast_ofNat_Int, Int.reduceEq, Int.reduceLE, Int.reduceLT, Int.reduceNeg, List.all_cons, List.all_nil, List.append_nil, List.cons_append, List.getD_cons_succ, List.getD_cons_zero, List.getElem?_cons_succ, List.getElem?_cons_zero, List.getElem?_map, List.length_cons, List.length_nil, List.map_cons, List.map_nil, List.nil_append, List.replicate, List.set_cons_succ, List.set_cons_zero, Nat.reduceAdd, Nat.reduceEqDiff, Nat.reduceLeDiff, Nat.zero_add, Option.map_some, Src.pick, and_true, decide_false, decide_true, if_false, if_true, not_false_eq_true, not_true_eq_false, true_and, wipeE, $ls,*])
variable {k : Nat} {st : Sto} {Q : D → Sto → Prop} {X : XQ} {j n : Nat} {J : Jr}
def Fine (d : D) : Prop := tyd d = true ∧ plT d = true ∧ ∀ n, cleanD n d = true
def isTupD : D → Bool
  | .tup _ => true
  | _ => false
/-- what no nine parts make -/
def Oth (d : D) : Prop := (∃ xs, d = .tup xs ∧ xs.length ≠ 9) ∨ (isTupD d = false ∧ tyd d = true)
def Th (d : D) : Prop := (∃ p : Nine, p.Ok ∧ d = p.d') ∨ Oth d
theorem oth_leave {d : D} (h : Oth d) : gcR 2 st (callF P (k + 4) "is_leave" [d] st) = .ok (.bl false) st := by
  refine pure_gc (clean_bl _ _) (ok_callF l_is_leave ?_)
  simp -dsimp only [f_is_leave, b_is_leave]
  rcases h with ⟨xs, rfl, hx⟩ | ⟨h1, h2⟩
  · have : decide ((xs.length : Int) = 9) = false := decide_eq_false (by omega)
    simp_all! [this]
  · cases d with
    | tup _ => cases h1
    | non => simp_all! [ctx_run]
    | bl _ => simp_all! [ctx_run]
    | int _ => simp_all! [ctx_run]
    | str _ => simp_all! [ctx_run]
    | cl _ => simp_all! [ctx_run]
    | cd _ => simp_all! [ctx_run]
    | _ => cases h2
theorem oth_leaf {d : D} (h : Oth d) : gcR 2 st (callF P (k + 2) "_law_is_leaf" [d] st) = .ok (.bl false) st := by
  refine pure_gc (clean_bl _ _) (ok_callF l__law_is_leaf ?_)
  simp -dsimp only [f__law_is_leaf, b__law_is_leaf]
  rcases h with ⟨xs, rfl, hx⟩ | ⟨h1, h2⟩
  · have : decide ((xs.length : Int) = 9) = false := decide_eq_false (by omega)
    simp_all! [this]
  · cases d with
    | tup _ => cases h1
    | non => simp_all! [ctx_run]
    | bl _ => simp_all! [ctx_run]
    | int _ => simp_all! [ctx_run]
    | str _ => simp_all! [ctx_run]
    | cl _ => simp_all! [ctx_run]
    | cd _ => simp_all! [ctx_run]
    | _ => cases h2
theorem isIntV_int {lo hi : Int} {d : D} (h : isIntV lo hi d = true) : ∃ i, d = .int i ∧ lo ≤ i ∧ i ≤ hi := by
  cases d with
  | int i => simp only [isIntV, Bool.and_eq_true, decide_eq_true_eq] at h; exact ⟨i, rfl, h.1, h.2⟩
  | _ => cases h
theorem leafV_lf {p : Nine} (h : leafV p = true) : ∃ l, LfOk l ∧ p.d' = l.d := by
  obtain ⟨a, b, c, d, e, f, g, hh, i⟩ := p
  unfold leafV at h
  dsimp only at h
  simp only [Bool.and_eq_true, Bool.not_eq_true', decide_eq_false_iff_not] at h
  obtain ⟨h1, h2, h3, h4, h5, h6, h7, h8, h9⟩ := h
  obtain ⟨a, rfl, a0, a1⟩ := isIntV_int h1
  obtain ⟨a, rfl⟩ := Int.eq_ofNat_of_zero_le a0
  obtain ⟨b, rfl, hb⟩ := isNameV_str h2
  obtain ⟨d, rfl, hd⟩ := isNameV_str h3
  obtain ⟨e, rfl, he⟩ := isNameV_str h4
  have hne : d ≠ e := fun z => h5 (by rw [z])
  obtain ⟨hp, rfl, p0, p1⟩ := isIntV_int h8
  obtain ⟨ds, rfl, hds⟩ : ∃ ds : List Tx, c = .tup (ds.map .str) ∧ ds ∈ kinds := by
    cases c with
    | tup xs =>
      simp only [deedsV, decide_eq_true_eq, List.mem_cons, List.not_mem_nil, or_false] at h6
      rcases h6 with h6 | h6 | h6
      · exact ⟨[[108, 111, 111, 107]], h6, by decide⟩
      · exact ⟨[[115, 101, 116]], h6, by decide⟩
      · exact ⟨[[108, 111, 111, 107], [115, 101, 116]], h6, by decide⟩
    | _ => cases h6
  obtain ⟨f, g, rfl, rfl, m0, m1, m2⟩ : ∃ x y : Int, f = .int x ∧ g = .int y ∧ 0 ≤ x ∧ x < y ∧ y ≤ 1000000 := by
    cases f with
    | int x =>
      cases g with
      | int y =>
        simp only [momV, Bool.and_eq_true, decide_eq_true_eq] at h7
        exact ⟨x, y, rfl, rfl, h7.1, h7.2.1, h7.2.2⟩
      | _ => cases h7
    | _ => cases g <;> cases h7
  obtain ⟨o, rfl, ho⟩ : ∃ o : Option Nat, i = opD o ∧ ∀ x, o = some x → x < a := by
    cases i with
    | non => exact ⟨none, rfl, fun _ e => by cases e⟩
    | int x =>
      simp only [undV, numV, Bool.and_eq_true, decide_eq_true_eq] at h9
      obtain ⟨x, rfl⟩ := Int.eq_ofNat_of_zero_le h9.1
      exact ⟨some x, rfl, fun y e => by have h10 : (x : Int) ≤ (a : Int) - 1 := of_decide_eq_true h9.2; cases e; omega⟩
    | _ => cases h9
  exact ⟨⟨a, b, ds, d, e, f, g, hp, o⟩, ⟨by show a ≤ _; omega, hb, hd, he, hne, hds, m0, m1, m2, p0, p1, ho⟩, rfl⟩
theorem th_ask {d : D} (h : Th d) : ∃ b : Bool, (∀ k st, gcR 2 st (callF P (k + 4) "is_leave" [d] st) = .ok (.bl b) st) ∧ (∀ k st, gcR 2 st (callF P (k + 2) "_law_is_leaf" [d] st) = .ok (.bl b) st) ∧ (b = true → ∃ l, LfOk l ∧ d = l.d) := by
  rcases h with ⟨p, hp, rfl⟩ | h
  · exact ⟨leafV p, fun k st => g_leave hp, fun k st => h_leaf hp, leafV_lf⟩
  · exact ⟨false, fun k st => oth_leave h, fun k st => oth_leaf h, fun e => by cases e⟩
def oddL : List D := [.non, .bl true, .bl false, .int 0, .int 1, .int (-1), .int 7, .int 1000001, .str [], .str [97], .str [65], .str [110, 105, 110, 101, 99, 104, 97, 114, 115], .str [97, 32, 98], .tup [.str [108, 111, 111, 107]], .cl [.str [108, 111, 111, 107]], .tup [], .cl [], .cd []]
def Odd (d : D) : Prop := Fine d ∧ Oth d
theorem odd_all : ∀ d ∈ oddL, Odd d := by
  intro d hd
  simp only [oddL, List.mem_cons, List.not_mem_nil, or_false] at hd
  rcases hd with rfl | rfl | rfl | rfl | rfl | rfl | rfl | rfl | rfl | rfl | rfl | rfl | rfl | rfl | rfl | rfl | rfl | rfl
  all_goals refine ⟨⟨rfl, ?_, fun n => by simp [cleanD, cleanDs, cleanKs]⟩, ?_⟩
  all_goals first | rfl | exact .inr ⟨rfl, rfl⟩ | exact .inl ⟨_, rfl, by decide⟩
theorem s_odd (hj : j < st.length) (hJ : J.ok n) (hn : n < 10 ^ 8) (h : ∀ (d : D) (J' : Jr), Odd d → J'.ok (n + 1) → Q d (st.set j J'.o)) :
    okE (gcR 2 (st.set j J.o) (callF P (k + 2) "_law_odd" [.ref j] (st.set j J.o))) Q X := by
  refine ok_gcv (m := 1) (ok_callF l__law_odd ?_)
  simp -dsimp only [f__law_odd, b__law_odd]
  simp! [ctx_run]
  refine s_lot hj hJ (by omega) (by omega) (by omega) (fun i1 J1 a1 b1 k1 => ?_)
  simp! [ctx_run]
  refine pick_ Odd (xs := oddL) a1 b1 odd_all ?_
  rintro d hd
  exact gQ_nil (Kept.put (Jr.clean J1 _)) (hd.1.2.2 _) (h d J1 hd k1)
theorem p6 : powOk 10 6 = true := by decide
theorem t6 : (10 : Int) ^ Int.toNat 6 = 1000000 := by decide
theorem fine_str (x : Tx) : Fine (.str x) := ⟨rfl, rfl, fun n => by simp [cleanD]⟩
theorem fine_int (x : Int) : Fine (.int x) := ⟨rfl, rfl, fun n => by simp [cleanD]⟩
theorem fine_bl (x : Bool) : Fine (.bl x) := ⟨rfl, rfl, fun n => by simp [cleanD]⟩
theorem fine_non : Fine .non := ⟨rfl, rfl, fun n => by simp [cleanD]⟩
theorem fine_strs (x : List Tx) : Fine (.tup (x.map .str)) := ⟨rfl, pl_strs 57 x, fun n => by simp [clean_tup, clean_strs]⟩
theorem fine_cl (x : List Tx) : Fine (.cl (x.map .str)) := ⟨rfl, rfl, fun n => by simp [clean_cl, clean_strs]⟩
theorem up_ok {x : Tx} (h : nameOk x = true) {st : Sto} : upperM (.str x) [] st = .ok (.str (x.map upC)) st := by
  unfold nameOk at h
  simp only [Bool.and_eq_true, decide_eq_true_eq, List.all_eq_true] at h
  show (if x.length ≤ 100000 ∧ (x.all fun c => decide (c < 128)) = true then R.ok (D.str (List.map upC x)) st else R.no) = _
  rw [if_pos ⟨by omega, List.all_eq_true.mpr fun c hc => decide_eq_true (by have := (in_small c).mp (h.2.2 c hc); omega)⟩]
theorem list_tup (xs : List D) {st : Sto} : biD true "list" [.tup xs] st = newL true xs st := rfl
theorem idx0 {st : Sto} : indexM (.cl [.int 0, .int 5, .int 6, .int 7, .int 8]) [.int 0] st = .ok (.int 0) st := by with_unfolding_all rfl
theorem idx5 {st : Sto} : indexM (.cl [.int 0, .int 5, .int 6, .int 7, .int 8]) [.int 5] st = .ok (.int 1) st := by with_unfolding_all rfl
theorem idx6 {st : Sto} : indexM (.cl [.int 0, .int 5, .int 6, .int 7, .int 8]) [.int 6] st = .ok (.int 2) st := by with_unfolding_all rfl
theorem idx7 {st : Sto} : indexM (.cl [.int 0, .int 5, .int 6, .int 7, .int 8]) [.int 7] st = .ok (.int 3) st := by with_unfolding_all rfl
theorem idx8 {st : Sto} : indexM (.cl [.int 0, .int 5, .int 6, .int 7, .int 8]) [.int 8] st = .ok (.int 4) st := by with_unfolding_all rfl
/-- what a part is put for -/
def NumD (d : D) : Prop := (∃ i : Int, d = .int i ∧ -(10 ^ 12) ≤ i ∧ i ≤ 10 ^ 12) ∨ (∃ b, d = .bl b) ∨ d = .non
theorem str_num {d : D} (h : NumD d) : ∃ x, ∀ st, biD true "str" [d] st = .ok (.str x) st := by
  rcases h with ⟨i, rfl, h0, h1⟩ | ⟨b, rfl⟩ | rfl
  · refine ⟨txtI i, fun st => ?_⟩
    show numT i st = _
    unfold numT
    rw [if_pos]
    exact Nat.lt_trans (log_lt (k := 50) (by decide) (by omega)) (by decide)
  · exact ⟨_, fun st => rfl⟩
  · exact ⟨_, fun st => rfl⟩
theorem num_fine {d : D} (h : NumD d) : Fine d := by
  rcases h with ⟨i, rfl, h0, h1⟩ | ⟨b, rfl⟩ | rfl
  · exact fine_int i
  · exact fine_bl b
  · exact fine_non
theorem s_part {l : Lf} {a : Nat} (hl : LfOk l) (ha : a < 9) (hj : j < st.length) (hJ : J.ok n) (hn : n < 10 ^ 7) (h : ∀ (d : D) (J' : Jr), Fine d → J'.ok (n + 10) → Q d (st.set j J'.o)) :
    okE (gcR 2 (st.set j J.o) (callF P (k + 3) "_law_part" [.ref j, l.d, .int a] (st.set j J.o))) Q X := by
  refine ok_gcv (m := 1) (ok_callF l__law_part ?_)
  simp -dsimp only [f__law_part, b__law_part]
  have hup := fun {st : Sto} => up_ok hl.room (st := st)
  have cases9 : a = 0 ∨ a = 1 ∨ a = 2 ∨ a = 3 ∨ a = 4 ∨ a = 5 ∨ a = 6 ∨ a = 7 ∨ a = 8 := by omega
  rcases cases9 with rfl | rfl | rfl | rfl | rfl | rfl | rfl | rfl | rfl
  case inr.inr.inl =>
    simp! [Lf.d, c_to5, c_fr5, List.take_succ_cons, List.take_zero, List.drop_succ_cons, List.drop_zero]
    refine ifB_dec (fun q => by simp at q) (fun q => ?_)
    have hdl : (l.deeds.map D.str).length ≤ sl := sl_big (by rw [List.length_map]; rcases kinds_cases hl.deeds with e | e | e <;> rw [e] <;> decide)
    have hdl1 : (l.deeds.map D.str).length + 1 ≤ sl := sl_big (by rw [List.length_map]; rcases kinds_cases hl.deeds with e | e | e <;> rw [e] <;> decide)
    simp! [list_tup, hdl, hdl1]
    refine s_lot hj hJ (by omega) (by omega) (by omega) (fun i1 J1 a1 b1 k1 => ?_)
    simp! [ctx_run]
    refine pick_ Fine a1 (by simpa using b1) ?_ ?_
    · have e : l.deeds.map D.str ++ [D.str [116, 97, 107, 101]] = (l.deeds ++ [[116, 97, 107, 101]]).map D.str := by simp
      rw [e]
      simp only [List.mem_cons, List.not_mem_nil, or_false, forall_eq_or_imp, forall_eq]
      exact ⟨fine_strs [_], fine_strs [_], fine_strs [_, _], fine_strs [_, _], fine_strs [_, _], fine_strs [], fine_cl _, fine_str _, fine_strs [_], fine_strs _⟩
    rintro y hy
    exact gQ_nil (Kept.put (Jr.clean J1 _)) (hy.2.2 _) (h y J1 hy (k1.mono (by omega)))
  case inr.inl | inr.inr.inr.inl | inr.inr.inr.inr.inl =>
    simp! [Lf.d, c_to5, c_fr5, List.take_succ_cons, List.take_zero, List.drop_succ_cons, List.drop_zero]
    refine ifB_dec (fun q => ?_) (fun q => absurd (by simp) q)
    simp! [hup]
    have hrl := nameOk_len hl.room
    refine ⟨sl_big (by omega), ?_⟩
    refine s_odd hj hJ (by omega) (fun d J1 hd k1 => ?_)
    simp! [ctx_run]
    refine s_lot hj k1 (by omega) (by omega) (by omega) (fun i2 J2 a2 b2 k2 => ?_)
    simp! [ctx_run]
    refine pick_ Fine a2 (by simpa using b2) ?_ ?_
    · simp only [List.mem_cons, List.not_mem_nil, or_false, forall_eq_or_imp, forall_eq]
      exact ⟨fine_str _, fine_str _, fine_str _, fine_str _, fine_str _, fine_str _, fine_str _, hd.1⟩
    rintro x hx
    exact gQ_nil (Kept.put (Jr.clean J2 _)) (hx.2.2 _) (h x J2 hx (k2.mono (by omega)))
  all_goals
    simp! [Lf.d, c_to5, c_fr5, List.take_succ_cons, List.take_zero, List.drop_succ_cons, List.drop_zero]
    refine ifB_dec (fun q => by simp at q) (fun q => ?_)
    simp! [p6, t6]
    have hn9 := hl.num
    have hs0 := hl.s0
    have hsu := hl.su
    have hu1 := hl.u1
    refine ⟨by decide, ?_⟩
    simp! [idx0, idx5, idx6, idx7, idx8]
    refine s_lot hj hJ (by omega) (by omega) (by omega) (fun i1 J1 a1 b1 k1 => ?_)
    simp! [ctx_run]
    refine pick_ NumD a1 (by simpa using b1) ?_ ?_
    · simp only [List.mem_cons, List.not_mem_nil, or_false, forall_eq_or_imp, forall_eq]
      refine ⟨?_, ?_, ?_, ?_⟩
      all_goals first | exact .inl ⟨_, rfl, by omega, by omega⟩ | exact .inr (.inl ⟨_, rfl⟩) | exact .inr (.inr rfl)
    rintro f hf
    obtain ⟨x, hx⟩ := str_num hf
    simp! [hx]
    refine s_odd hj k1 (by omega) (fun d J2 hd k2 => ?_)
    simp! [ctx_run]
    refine s_lot hj k2 (by omega) (by omega) (by omega) (fun i3 J3 a3 b3 k3 => ?_)
    simp! [ctx_run]
    refine pick_ Fine a3 (by simpa using b3) ?_ ?_
    · simp only [List.mem_cons, List.not_mem_nil, or_false, forall_eq_or_imp, forall_eq]
      exact ⟨num_fine hf, num_fine hf, num_fine hf, fine_str _, hd.1⟩
    rintro y hy
    exact gQ_nil (Kept.put (Jr.clean J3 _)) (hy.2.2 _) (h y J3 hy (k3.mono (by omega)))
end K02

set_option Elab.async false
set_option linter.all false
set_option maxRecDepth 100000
set_option maxHeartbeats 4000000
namespace K02
open PySem Mi
local macro_rules | `(tactic| simp! [$ls,*]) => `(tactic| simp -dsimp only [↓ifB_true, ↓ifB_false, ↓ifD_bl, ↓okE_ok, ↓okE_exc, ↓okE_bind, ↓okE_itb, ↓okT_st, ↓okT_next, ↓okT_ret, ↓okT_brk, ↓okT_cont, ↓okT_exc, ↓okT_nil, ↓ok_var, ↓ok_non, ↓ok_bl, ↓ok_int, ↓ok_str, ↓ok_ty, ↓ok_glob, ↓ok_bin, ↓ok_neg, ↓ok_not, ↓ok_and, ↓ok_or, ↓ok_ite, ↓ok_cmp, ↓ok_cmp2, ↓ok_attr, ↓ok_ix, ↓ok_sl, ↓ok_rev, ↓ok_lst, ↓ok_rep, ↓ok_tup, ↓ok_dct, ↓ok_bi, ↓ok_isx, ↓ok_ist, ↓ok_fstr, ↓ok_comp, ↓ok_dcomp, ↓ok_call, ↓ok_make, ↓ok_meth, ↓mthD_own, ↓mthD_append, ↓mthD_extend, ↓mthD_insert, ↓mthD_pop, ↓mthD_pop0, ↓mthD_reverse, ↓mthD_get, ↓mthD_get2, ↓mthD_join, ↓mthD_upper, ↓mthD_index, ↓ok_step2, ↓ok_es_nil, ↓ok_es_cons, ↓ok_ps_nil, ↓ok_ps_cons, ↓ok_fs_nil, ↓ok_fs_cons, ↓ok_o_none, ↓ok_o_some, ↓ok_if_none, ↓ok_if_some, ↓ok_i_e, ↓ok_i_range1, ↓ok_i_range2, ↓ok_i_enum, ↓ok_i_zip, ↓ok_i_items, ↓ok_i_vals, ↓ok_t_name, ↓ok_t_tup, ↓ok_t_star_tup, ↓ok_t_star_cl, ↓ok_t_sub, ↓ok_t_fld, ↓ok_ts_nil, ↓ok_ts_cons, ↓ok_ex, ↓ok_asg, ↓ok_ret, ↓ok_retN, ↓ok_pass, ↓ok_sbrk, ↓ok_scont, ↓ok_if, ↓ok_augS, ↓augV_some, ↓ok_aug, ↓ok_for, ↓ok_while, ↓ok_rais, ↓trycX_at, ↓ok_tryc, ↓ok_gc0, ↓planD_some, ↓b_mulI, ↓b_divI, ↓b_modI, ↓b_powI, ↓b_addS, ↓b_addT, ↓b_addC, ↓newL_eq, ↓repD_int, ↓i_sortC, ↓i_sortK, ↓setO_dctS, ↓setO_dctI, ↓fldO_obj, ↓appO_lst, ↓extO_lst, ↓insO_0, ↓rng1_int, ↓rng2_int, ↓raisT_at, ↓optD_none, ↓optD_some, ↓go_nil, ↓go_cons, ↓gos_nil, ↓gos_cons, get_new, pl_non, pl_int, pl_str, pl_tup, pl_cl, pl_strs, pl_ints, ctx_run, ctx_mrun, varD_some, globD_some, negD_int, notD_bl, someD_int, boolD_bl, nonD_non, b_addI, b_subI, newC_true, newC_false, newD_true, newD_false, dctR_nil, a_addI, a_subI, c_eqI, c_neI, c_eq, c_ne, c_eqS, c_neS, c_eqB, c_neB, c_ltI, c_leI, c_gtI, c_geI, c_is, c_isN, c_isB, c_isNB, isNon_non, isNon_int, isNon_str, isNon_tup, isNon_exn, isNon_bl, isNon_ref, isNon_cd, isNon_cl, c_inT, c_ninT, c_inC, c_ninC, c_eqR0, eqO0, c_neR0, neO0, c_inS, c_inR, c_ninR, inO_dctI, inO_dctS, inO_lst, c_inDS, c_ninDS, c_inDI, c_ninDI, okOB_some, set_new, getK_nil, i_len, i_lenT, i_lenC, i_lenK, i_lenR, lenO_lst, lenO_dct, i_max, i_min, i_intB, i_isi_n_int, i_isi_n_str, i_isi_n_list, i_isi_n_tuple, i_isi_n_dict, i_isi_n_bool, i_isi_b_int, i_isi_b_str, i_isi_b_list, i_isi_b_tuple, i_isi_b_dict, i_isi_b_bool, i_isi_i_int, i_isi_i_str, i_isi_i_list, i_isi_i_tuple, i_isi_i_dict, i_isi_i_bool, i_isi_s_int, i_isi_s_str, i_isi_s_list, i_isi_s_tuple, i_isi_s_dict, i_isi_s_bool, i_isi_t_int, i_isi_t_str, i_isi_t_list, i_isi_t_tuple, i_isi_t_dict, i_isi_t_bool, i_isi_c_int, i_isi_c_str, i_isi_c_list, i_isi_c_tuple, i_isi_c_dict, i_isi_c_bool, i_isi_k_int, i_isi_k_str, i_isi_k_list, i_isi_k_tuple, i_isi_k_dict, i_isi_k_bool, i_ist_lt_t, i_ist_lt_c, i_ist_lt_i, i_ist_lt_s, i_allM, i_anyM, i_tupC, i_listC, atD_nat, atD_m1, okO_some, ix_tup, ix_cl, ix_cdS, ix_cdI, ix_ref, ixO_lst, ixO_dctS, ixO_dctI, atD_0, atD_1, atD_2, atD_3, atD_4, atD_5, atD_6, atD_7, atD_8, getD_ref, setD_ref, setO_l0, setO_l1, setO_l2, attr_ref, attrO_obj, fld_ref, kind_str, kind_cl, kind_cd, kind_ref, kindO_lst, kindO_dct, kindO_obj, app_ref, ext_ref, ins_ref, pop_ref, revM_ref, revO_lst, ivD_str, ivD_tup, ivD_cl, ivD_cd, ivD_ref, ivO_lst, itemsD_cd, valsD_cd, enumD_cl, zipD_tt, zipD_cc, lenI_fix, sl_str, sl_tup, sl_cl, rev_cl, rev_tup, step2_cl, strB_bl, strB_non, cut_none, cut_m1, isx_at, sl_lit, sl_lit', alloc_ok, p0_is_name, z_is_name, p0_is_whole, z_is_whole, p0_is_between, z_is_between, p0_is_number, z_is_number, p0_are_moments, z_are_moments, p0_is_under, z_is_under, p0_is_leave, p1_is_leave, z_is_leave, p0__law_urn, z__law_urn, p0__law_lot, z__law_lot, p0__law_named, z__law_named, p0__law_leaf, z__law_leaf, p0__law_odd, z__law_odd, p0__law_is_name, z__law_is_name, p0__law_whole, z__law_whole, p0__law_is_leaf, z__law_is_leaf, p0__law_part, z__law_part, p0__law_bent, z__law_bent, p0__law_right, z__law_right, g_MOST_LETTERS, g_GREATEST, g_LAST_MOMENT, g_MOST_PASSES, g_SMALL, g_KINDS_OF_DEEDS, List.foldl_append, List.foldl_cons, List.foldl_nil, List.map_append, List.filter_append, List.all_append, List.any_append, List.length_append, List.sum_append, List.forall_mem_append, List.forall_mem_singleton, ifB_true, ifB_false, ifD_bl, okE_ok, okE_exc, okE_bind, okE_itb, okT_st, okT_next, okT_ret, okT_brk, okT_cont, okT_exc, okT_nil, ok_var, ok_non, ok_bl, ok_int, ok_str, ok_ty, ok_glob, ok_bin, ok_neg, ok_not, ok_and, ok_or, ok_ite, ok_cmp, ok_cmp2, ok_attr, ok_ix, ok_sl, ok_rev, ok_lst, ok_rep, ok_tup, ok_dct, ok_bi, ok_isx, ok_ist, ok_fstr, ok_comp, ok_dcomp, ok_call, ok_make, ok_meth, mthD_own, mthD_append, mthD_extend, mthD_insert, mthD_pop, mthD_pop0, mthD_reverse, mthD_get, mthD_get2, mthD_join, mthD_upper, mthD_index, ok_step2, ok_es_nil, ok_es_cons, ok_ps_nil, ok_ps_cons, ok_fs_nil, ok_fs_cons, ok_o_none, ok_o_some, ok_if_none, ok_if_some, ok_i_e, ok_i_range1, ok_i_range2, ok_i_enum, ok_i_zip, ok_i_items, ok_i_vals, ok_t_name, ok_t_tup, ok_t_star_tup, ok_t_star_cl, ok_t_sub, ok_t_fld, ok_ts_nil, ok_ts_cons, ok_ex, ok_asg, ok_ret, ok_retN, ok_pass, ok_sbrk, ok_scont, ok_if, ok_augS, augV_some, ok_aug, ok_for, ok_while, ok_rais, trycX_at, ok_tryc, ok_gc0, planD_some, b_mulI, b_divI, b_modI, b_powI, b_addS, b_addT, b_addC, newL_eq, repD_int, i_sortC, i_sortK, setO_dctS, setO_dctI, fldO_obj, appO_lst, extO_lst, insO_0, rng1_int, rng2_int, raisT_at, optD_none, optD_some, go_nil, go_cons, gos_nil, gos_cons, ↓okT_cons, okT_cons, Bool.and_true, Bool.decide_eq_true, Bool.false_eq_true, Bool.not_false, Bool.not_true, Bool.true_and, Bool.true_eq_false, D.bl.injEq, D.cl.injEq, D.int.injEq, D.str.injEq, D.tup.injEq, Int.cast_ofNat_Int, Int.reduceEq, Int.reduceLE, Int.reduceLT, Int.reduceNeg, List.all_cons, List.all_nil, List.append_nil, List.cons_append, List.getD_cons_succ, List.getD_cons_zero, List.getElem?_cons_succ, List.getElem?_cons_zero, List.getElem?_map, List.length_cons, List.length_nil, List.map_cons, List.map_nil, List.nil_append, List.replicate, List.set_cons_succ, List.set_cons_zero, Nat.reduceAdd, Nat.reduceEqDiff, Nat.reduceLeDiff, Nat.zero_add, Option.map_some, Src.pick, and_true, decide_false, decide_true, if_false, if_true, not_false_eq_true, not_true_eq_false, true_and, wipeE, $ls,*])
variable {k : Nat} {st : Sto} {Q : D → Sto → Prop} {X : XQ} {j n : Nat} {J : Jr}
def Thc (d : D) : Prop := Th d ∧ ∀ n, cleanD n d = true
theorem lf_nine {l : Lf} (h : LfOk l) : (⟨.int l.number, .str l.room, .tup (l.deeds.map .str), .str l.giver, .str l.holder, .int l.since, .int l.until_, .int l.passes, opD l.above⟩ : Nine).Ok :=
  ⟨rfl, rfl, rfl, pl_strs 57 _, rfl, rfl, rfl, rfl, rfl, by cases l.above <;> rfl⟩
def Lf.ps (l : Lf) : List D := [.int l.number, .str l.room, .tup (l.deeds.map .str), .str l.giver, .str l.holder, .int l.since, .int l.until_, .int l.passes, opD l.above]
theorem ps_fine (l : Lf) : ∀ d ∈ l.ps, Fine d := by
  intro d hd
  simp only [Lf.ps, List.mem_cons, List.not_mem_nil, or_false] at hd
  rcases hd with rfl | rfl | rfl | rfl | rfl | rfl | rfl | rfl | rfl
  · exact fine_int _
  · exact fine_str _
  · exact fine_strs _
  · exact fine_str _
  · exact fine_str _
  · exact fine_int _
  · exact fine_int _
  · exact fine_int _
  · cases l.above
    · exact fine_non
    · exact fine_int _
theorem clean_all {n : Nat} : ∀ {xs : List D}, (∀ d ∈ xs, cleanD n d = true) → cleanDs n xs = true
  | [], _ => by simp [cleanDs]
  | x :: xs, h => by
    rw [cleanDs, h x List.mem_cons_self, clean_all fun d hd => h d (List.mem_cons_of_mem _ hd)]; rfl
theorem clean_tupA {n : Nat} {xs : List D} (h : ∀ d ∈ xs, Fine d) : cleanD n (.tup xs) = true := by
  rw [cleanD]; exact clean_all fun d hd => (h d hd).2.2 n
theorem clean_clA {n : Nat} {xs : List D} (h : ∀ d ∈ xs, Fine d) : cleanD n (.cl xs) = true := by
  rw [cleanD]; exact clean_all fun d hd => (h d hd).2.2 n
theorem cut_mem {α : Type} {xs : List α} {lo hi : Option Int} {x : α} (h : x ∈ cut xs lo hi) : x ∈ xs := by
  unfold cut at h
  exact List.mem_of_mem_drop (List.mem_of_mem_take h)
theorem cut_one {α : Type} (xs : List α) (a : Nat) (h : a < xs.length) : (cut xs (some (a : Int)) (some ((a : Int) + 1))).length = 1 := by
  unfold cut sIx
  dsimp only
  rw [if_neg (by omega), if_neg (by omega), List.length_take, List.length_drop]
  omega
theorem th_put {l : Lf} (hl : LfOk l) {a : Nat} (ha : a < 9) {d : D} (hd : Fine d) : Thc (.tup (l.ps.take a ++ [d] ++ l.ps.drop (a + 1))) := by
  refine ⟨.inl ?_, fun n => clean_tupA ?_⟩
  · have ok := lf_nine hl
    have cases9 : a = 0 ∨ a = 1 ∨ a = 2 ∨ a = 3 ∨ a = 4 ∨ a = 5 ∨ a = 6 ∨ a = 7 ∨ a = 8 := by omega
    rcases cases9 with rfl | rfl | rfl | rfl | rfl | rfl | rfl | rfl | rfl
    · exact ⟨⟨d, .str l.room, .tup (l.deeds.map .str), .str l.giver, .str l.holder, .int l.since, .int l.until_, .int l.passes, opD l.above⟩, ⟨hd.1, ok.b, ok.c, ok.c', ok.d, ok.e, ok.f, ok.g, ok.h, ok.i⟩, rfl⟩
    · exact ⟨⟨.int l.number, d, .tup (l.deeds.map .str), .str l.giver, .str l.holder, .int l.since, .int l.until_, .int l.passes, opD l.above⟩, ⟨ok.a, hd.1, ok.c, ok.c', ok.d, ok.e, ok.f, ok.g, ok.h, ok.i⟩, rfl⟩
    · exact ⟨⟨.int l.number, .str l.room, d, .str l.giver, .str l.holder, .int l.since, .int l.until_, .int l.passes, opD l.above⟩, ⟨ok.a, ok.b, hd.1, hd.2.1, ok.d, ok.e, ok.f, ok.g, ok.h, ok.i⟩, rfl⟩
    · exact ⟨⟨.int l.number, .str l.room, .tup (l.deeds.map .str), d, .str l.holder, .int l.since, .int l.until_, .int l.passes, opD l.above⟩, ⟨ok.a, ok.b, ok.c, ok.c', hd.1, ok.e, ok.f, ok.g, ok.h, ok.i⟩, rfl⟩
    · exact ⟨⟨.int l.number, .str l.room, .tup (l.deeds.map .str), .str l.giver, d, .int l.since, .int l.until_, .int l.passes, opD l.above⟩, ⟨ok.a, ok.b, ok.c, ok.c', ok.d, hd.1, ok.f, ok.g, ok.h, ok.i⟩, rfl⟩
    · exact ⟨⟨.int l.number, .str l.room, .tup (l.deeds.map .str), .str l.giver, .str l.holder, d, .int l.until_, .int l.passes, opD l.above⟩, ⟨ok.a, ok.b, ok.c, ok.c', ok.d, ok.e, hd.1, ok.g, ok.h, ok.i⟩, rfl⟩
    · exact ⟨⟨.int l.number, .str l.room, .tup (l.deeds.map .str), .str l.giver, .str l.holder, .int l.since, d, .int l.passes, opD l.above⟩, ⟨ok.a, ok.b, ok.c, ok.c', ok.d, ok.e, ok.f, hd.1, ok.h, ok.i⟩, rfl⟩
    · exact ⟨⟨.int l.number, .str l.room, .tup (l.deeds.map .str), .str l.giver, .str l.holder, .int l.since, .int l.until_, d, opD l.above⟩, ⟨ok.a, ok.b, ok.c, ok.c', ok.d, ok.e, ok.f, ok.g, hd.1, ok.i⟩, rfl⟩
    · exact ⟨⟨.int l.number, .str l.room, .tup (l.deeds.map .str), .str l.giver, .str l.holder, .int l.since, .int l.until_, .int l.passes, d⟩, ⟨ok.a, ok.b, ok.c, ok.c', ok.d, ok.e, ok.f, ok.g, ok.h, hd.1⟩, rfl⟩
  · intro x hx
    rcases List.mem_append.mp hx with hx | hx
    · rcases List.mem_append.mp hx with hx | hx
      · exact ps_fine l x (List.mem_of_mem_take hx)
      · rw [List.mem_singleton.mp hx]; exact hd
    · exact ps_fine l x (List.mem_of_mem_drop hx)
theorem ps_len (l : Lf) : l.ps.length = 9 := rfl
theorem lf_ps (l : Lf) : l.d = .tup l.ps := rfl
theorem s_bent {l : Lf} (hl : LfOk l) (hj : j < st.length) (hJ : J.ok n) (hn : n < 10 ^ 6) (h : ∀ (d : D) (J' : Jr), Thc d → J'.ok (n + 20) → Q d (st.set j J'.o)) :
    okE (gcR 2 (st.set j J.o) (callF P (k + 4) "_law_bent" [.ref j, l.d] (st.set j J.o))) Q X := by
  refine ok_gcv (m := 1) (ok_callF l__law_bent ?_)
  have fin : ∀ (d : D) (J' : Jr), Thc d → J'.ok (n + 20) → gQ (st.set j J.o) Q d (st.set j J'.o) := fun d J' hd k' => gQ_nil (Kept.put (Jr.clean J' _)) (hd.2 _) (h d J' hd k')
  have hc : ∀ n, cleanD n l.d = true := fun n => clean_lf n l
  generalize hx : l.d = ld
  simp -dsimp only [f__law_bent, b__law_bent]
  simp! [ctx_run]
  refine s_lot hj hJ (by omega) (by omega) (by omega) (fun i1 J1 a1 b1 k1 => ?_)
  simp! [ctx_run]
  refine s_lot hj k1 (by omega) (by omega) (by omega) (fun i2 J2 a2 b2 k2 => ?_)
  subst hx
  obtain ⟨a, rfl⟩ := Int.eq_ofNat_of_zero_le a2
  have ha : a < 9 := by omega
  simp! [ctx_run]
  refine ifB_dec (fun q1 => ?_) (fun q1 => ?_)
  · simp! [lf_ps]
    have e : (a : Int) + 1 = ((a + 1 : Nat) : Int) := by omega
    rw [e, cut_to, cut_from]
    have hl8 : (l.ps.take a).length + (l.ps.drop (a + 1)).length = 8 := by rw [List.length_take, List.length_drop, ps_len]; omega
    refine ⟨sl_big (by omega), fin _ _ ⟨.inr (.inl ⟨_, rfl, by rw [List.length_append]; omega⟩), fun n => clean_tupA fun d hd => ?_⟩ (k2.mono (by omega))⟩
    rcases List.mem_append.mp hd with hd | hd
    · exact ps_fine l d (List.mem_of_mem_take hd)
    · exact ps_fine l d (List.mem_of_mem_drop hd)
  · simp! [ctx_run]
    refine ifB_dec (fun q2 => ?_) (fun q2 => ?_)
    · simp! [lf_ps]
      rw [cut_to, cut_from]
      have h1 := cut_one l.ps a (by rw [ps_len]; omega)
      have h2 : (l.ps.take a).length + (l.ps.drop a).length = 9 := by rw [List.length_take, List.length_drop, ps_len]; omega
      refine ⟨sl_big (by omega), sl_big (by omega), fin _ _ ⟨.inr (.inl ⟨_, rfl, by rw [List.length_append, List.length_append]; omega⟩), fun n => clean_tupA fun d hd => ?_⟩ (k2.mono (by omega))⟩
      rcases List.mem_append.mp hd with hd | hd
      · rcases List.mem_append.mp hd with hd | hd
        · exact ps_fine l d (List.mem_of_mem_take hd)
        · exact ps_fine l d (cut_mem hd)
      · exact ps_fine l d (List.mem_of_mem_drop hd)
    · simp! [ctx_run]
      refine ifB_dec (fun q3 => ?_) (fun q3 => ?_)
      · have h9 : l.ps.length ≤ sl := sl_big (by rw [ps_len]; omega)
        simp! [lf_ps, list_tup, h9]
        refine s_odd hj k2 (by omega) (fun d J3 hd k3 => ?_)
        simp! [ctx_run]
        refine s_lot hj k3 (by omega) (by omega) (by omega) (fun i4 J4 a4 b4 k4 => ?_)
        simp! [ctx_run]
        refine pick_ Thc a4 (by simpa using b4) ?_ ?_
        · have ok := lf_nine hl
          simp only [List.mem_cons, List.not_mem_nil, or_false, forall_eq_or_imp, forall_eq]
          refine ⟨⟨.inr (.inr ⟨rfl, rfl⟩), fun n => clean_clA (ps_fine l)⟩, ⟨.inl ⟨⟨opD l.above, .int l.passes, .int l.until_, .int l.since, .str l.holder, .str l.giver, .tup (l.deeds.map .str), .str l.room, .int l.number⟩, ⟨ok.i, ok.h, ok.g, rfl, ok.f, ok.e, ok.d, ok.c, ok.b, ok.a⟩, rfl⟩, fun n => clean_tupA fun d hd => ps_fine l d (List.mem_reverse.mp hd)⟩, ⟨.inr (.inl ⟨_, rfl, by simp⟩), fun n => ?_⟩, ⟨.inr hd.2, hd.1.2.2⟩⟩
          rw [cleanD, cleanDs, cleanDs, clean_tupA (ps_fine l)]; rfl
        rintro x hx
        exact fin x J4 hx (k4.mono (by omega))
      · have hs1 : ∀ st, slD true l.d none (some (a : Int)) st = .ok (.tup (l.ps.take a)) st := fun st => by
          show Mi.R.ok (D.tup (cut l.ps none (some (a : Int)))) st = _
          rw [cut_to]
        have hs2 : ∀ st, slD true l.d (some ((a : Int) + 1)) none st = .ok (.tup (l.ps.drop (a + 1))) st := fun st => by
          show Mi.R.ok (D.tup (cut l.ps (some ((a : Int) + 1)) none)) st = _
          rw [show (a : Int) + 1 = ((a + 1 : Nat) : Int) by omega, cut_from]
        simp! [hs1, hs2]
        refine s_part hl ha hj k2 (by omega) (fun d J3 hd k3 => ?_)
        have e1 : (l.ps.take a).length + 1 ≤ sl := sl_big (by rw [List.length_take, ps_len]; omega)
        have e2 : (l.ps.take a).length + 1 + (l.ps.drop (a + 1)).length ≤ sl := sl_big (by rw [List.length_take, List.length_drop, ps_len]; omega)
        simp! [hs2, e1, e2]
        exact fin _ J3 (th_put hl ha hd) (k3.mono (by omega))
end K02

set_option Elab.async false
set_option linter.all false
set_option maxRecDepth 100000
set_option maxHeartbeats 4000000
namespace K02
open PySem Mi
local macro_rules | `(tactic| simp! [$ls,*]) => `(tactic| simp -dsimp only [↓ifB_true, ↓ifB_false, ↓ifD_bl, ↓okE_ok, ↓okE_exc, ↓okE_bind, ↓okE_itb, ↓okT_st, ↓okT_next, ↓okT_ret, ↓okT_brk, ↓okT_cont, ↓okT_exc, ↓okT_nil, ↓ok_var, ↓ok_non, ↓ok_bl, ↓ok_int, ↓ok_str, ↓ok_ty, ↓ok_glob, ↓ok_bin, ↓ok_neg, ↓ok_not, ↓ok_and, ↓ok_or, ↓ok_ite, ↓ok_cmp, ↓ok_cmp2, ↓ok_attr, ↓ok_ix, ↓ok_sl, ↓ok_rev, ↓ok_lst, ↓ok_rep, ↓ok_tup, ↓ok_dct, ↓ok_bi, ↓ok_isx, ↓ok_ist, ↓ok_fstr, ↓ok_comp, ↓ok_dcomp, ↓ok_call, ↓ok_make, ↓ok_meth, ↓mthD_own, ↓mthD_append, ↓mthD_extend, ↓mthD_insert, ↓mthD_pop, ↓mthD_pop0, ↓mthD_reverse, ↓mthD_get, ↓mthD_get2, ↓mthD_join, ↓mthD_upper, ↓mthD_index, ↓ok_step2, ↓ok_es_nil, ↓ok_es_cons, ↓ok_ps_nil, ↓ok_ps_cons, ↓ok_fs_nil, ↓ok_fs_cons, ↓ok_o_none, ↓ok_o_some, ↓ok_if_none, ↓ok_if_some, ↓ok_i_e, ↓ok_i_range1, ↓ok_i_range2, ↓ok_i_enum, ↓ok_i_zip, ↓ok_i_items, ↓ok_i_vals, ↓ok_t_name, ↓ok_t_tup, ↓ok_t_star_tup, ↓ok_t_star_cl, ↓ok_t_sub, ↓ok_t_fld, ↓ok_ts_nil, ↓ok_ts_cons, ↓ok_ex, ↓ok_asg, ↓ok_ret, ↓ok_retN, ↓ok_pass, ↓ok_sbrk, ↓ok_scont, ↓ok_if, ↓ok_augS, ↓augV_some, ↓ok_aug, ↓ok_for, ↓ok_while, ↓ok_rais, ↓trycX_at, ↓ok_tryc, ↓ok_gc0, ↓planD_some, ↓b_mulI, ↓b_divI, ↓b_modI, ↓b_powI, ↓b_addS, ↓b_addT, ↓b_addC, ↓newL_eq, ↓repD_int, ↓i_sortC, ↓i_sortK, ↓setO_dctS, ↓setO_dctI, ↓fldO_obj, ↓appO_lst, ↓extO_lst, ↓insO_0, ↓rng1_int, ↓rng2_int, ↓raisT_at, ↓optD_none, ↓optD_some, ↓go_nil, ↓go_cons, ↓gos_nil, ↓gos_cons, get_new, pl_non, pl_int, pl_str, pl_tup, pl_cl, pl_strs, pl_ints, ctx_run, ctx_mrun, varD_some, globD_some, negD_int, notD_bl, someD_int, boolD_bl, nonD_non, b_addI, b_subI, newC_true, newC_false, newD_true, newD_false, dctR_nil, a_addI, a_subI, c_eqI, c_neI, c_eq, c_ne, c_eqS, c_neS, c_eqB, c_neB, c_ltI, c_leI, c_gtI, c_geI, c_is, c_isN, c_isB, c_isNB, isNon_non, isNon_int, isNon_str, isNon_tup, isNon_exn, isNon_bl, isNon_ref, isNon_cd, isNon_cl, c_inT, c_ninT, c_inC, c_ninC, c_eqR0, eqO0, c_neR0, neO0, c_inS, c_inR, c_ninR, inO_dctI, inO_dctS, inO_lst, c_inDS, c_ninDS, c_inDI, c_ninDI, okOB_some, set_new, getK_nil, i_len, i_lenT, i_lenC, i_lenK, i_lenR, lenO_lst, lenO_dct, i_max, i_min, i_intB, i_isi_n_int, i_isi_n_str, i_isi_n_list, i_isi_n_tuple, i_isi_n_dict, i_isi_n_bool, i_isi_b_int, i_isi_b_str, i_isi_b_list, i_isi_b_tuple, i_isi_b_dict, i_isi_b_bool, i_isi_i_int, i_isi_i_str, i_isi_i_list, i_isi_i_tuple, i_isi_i_dict, i_isi_i_bool, i_isi_s_int, i_isi_s_str, i_isi_s_list, i_isi_s_tuple, i_isi_s_dict, i_isi_s_bool, i_isi_t_int, i_isi_t_str, i_isi_t_list, i_isi_t_tuple, i_isi_t_dict, i_isi_t_bool, i_isi_c_int, i_isi_c_str, i_isi_c_list, i_isi_c_tuple, i_isi_c_dict, i_isi_c_bool, i_isi_k_int, i_isi_k_str, i_isi_k_list, i_isi_k_tuple, i_isi_k_dict, i_isi_k_bool, i_ist_lt_t, i_ist_lt_c, i_ist_lt_i, i_ist_lt_s, i_allM, i_anyM, i_tupC, i_listC, atD_nat, atD_m1, okO_some, ix_tup, ix_cl, ix_cdS, ix_cdI, ix_ref, ixO_lst, ixO_dctS, ixO_dctI, atD_0, atD_1, atD_2, atD_3, atD_4, atD_5, atD_6, atD_7, atD_8, getD_ref, setD_ref, setO_l0, setO_l1, setO_l2, attr_ref, attrO_obj, fld_ref, kind_str, kind_cl, kind_cd, kind_ref, kindO_lst, kindO_dct, kindO_obj, app_ref, ext_ref, ins_ref, pop_ref, revM_ref, revO_lst, ivD_str, ivD_tup, ivD_cl, ivD_cd, ivD_ref, ivO_lst, itemsD_cd, valsD_cd, enumD_cl, zipD_tt, zipD_cc, lenI_fix, sl_str, sl_tup, sl_cl, rev_cl, rev_tup, step2_cl, strB_bl, strB_non, cut_none, cut_m1, isx_at, sl_lit, sl_lit', alloc_ok, p0_is_name, z_is_name, p0_is_whole, z_is_whole, p0_is_between, z_is_between, p0_is_number, z_is_number, p0_are_moments, z_are_moments, p0_is_under, z_is_under, p0_is_leave, p1_is_leave, z_is_leave, p0__law_urn, z__law_urn, p0__law_lot, z__law_lot, p0__law_named, z__law_named, p0__law_leaf, z__law_leaf, p0__law_odd, z__law_odd, p0__law_is_name, z__law_is_name, p0__law_whole, z__law_whole, p0__law_is_leaf, z__law_is_leaf, p0__law_part, z__law_part, p0__law_bent, z__law_bent, p0__law_right, z__law_right, g_MOST_LETTERS, g_GREATEST, g_LAST_MOMENT, g_MOST_PASSES, g_SMALL, g_KINDS_OF_DEEDS, List.foldl_append, List.foldl_cons, List.foldl_nil, List.map_append, List.filter_append, List.all_append, List.any_append, List.length_append, List.sum_append, List.forall_mem_append, List.forall_mem_singleton, ifB_true, ifB_false, ifD_bl, okE_ok, okE_exc, okE_bind, okE_itb, okT_st, okT_next, okT_ret, okT_brk, okT_cont, okT_exc, okT_nil, ok_var, ok_non, ok_bl, ok_int, ok_str, ok_ty, ok_glob, ok_bin, ok_neg, ok_not, ok_and, ok_or, ok_ite, ok_cmp, ok_cmp2, ok_attr, ok_ix, ok_sl, ok_rev, ok_lst, ok_rep, ok_tup, ok_dct, ok_bi, ok_isx, ok_ist, ok_fstr, ok_comp, ok_dcomp, ok_call, ok_make, ok_meth, mthD_own, mthD_append, mthD_extend, mthD_insert, mthD_pop, mthD_pop0, mthD_reverse, mthD_get, mthD_get2, mthD_join, mthD_upper, mthD_index, ok_step2, ok_es_nil, ok_es_cons, ok_ps_nil, ok_ps_cons, ok_fs_nil, ok_fs_cons, ok_o_none, ok_o_some, ok_if_none, ok_if_some, ok_i_e, ok_i_range1, ok_i_range2, ok_i_enum, ok_i_zip, ok_i_items, ok_i_vals, ok_t_name, ok_t_tup, ok_t_star_tup, ok_t_star_cl, ok_t_sub, ok_t_fld, ok_ts_nil, ok_ts_cons, ok_ex, ok_asg, ok_ret, ok_retN, ok_pass, ok_sbrk, ok_scont, ok_if, ok_augS, augV_some, ok_aug, ok_for, ok_while, ok_rais, trycX_at, ok_tryc, ok_gc0, planD_some, b_mulI, b_divI, b_modI, b_powI, b_addS, b_addT, b_addC, newL_eq, repD_int, i_sortC, i_sortK, setO_dctS, setO_dctI, fldO_obj, appO_lst, extO_lst, insO_0, rng1_int, rng2_int, raisT_at, optD_none, optD_some, go_nil, go_cons, gos_nil, gos_cons, ↓okT_cons, okT_cons, Bool.and_true, Bool.decide_eq_true, Bool.false_eq_true, Bool.not_false, Bool.not_true, Bool.true_and, Bool.true_eq_false, D.bl.injEq, D.cl.injEq, D.int.injEq, D.str.injEq, D.tup.injEq, Int.cast_ofNat_Int, Int.reduceEq, Int.reduceLE, Int.reduceLT, Int.reduceNeg, List.all_cons, List.all_nil, List.append_nil, List.cons_append, List.getD_cons_succ, List.getD_cons_zero, List.getElem?_cons_succ, List.getElem?_cons_zero, List.getElem?_map, List.length_cons, List.length_nil, List.map_cons, List.map_nil, List.nil_append, List.replicate, List.set_cons_succ, List.set_cons_zero, Nat.reduceAdd, Nat.reduceEqDiff, Nat.reduceLeDiff, Nat.zero_add, Option.map_some, Src.pick, and_true, decide_false, decide_true, if_false, if_true, not_false_eq_true, not_true_eq_false, true_and, wipeE, $ls,*])
local macro_rules | `(tactic| simp_all! [$ls,*]) => `(tactic| simp -dsimp only [↓ifB_true, ↓ifB_false, ↓ifD_bl, ↓okE_ok, ↓okE_exc, ↓okE_bind, ↓okE_itb, ↓okT_st, ↓okT_next, ↓okT_ret, ↓okT_brk, ↓okT_cont, ↓okT_exc, ↓okT_nil, ↓ok_var, ↓ok_non, ↓ok_bl, ↓ok_int, ↓ok_str, ↓ok_ty, ↓ok_glob, ↓ok_bin, ↓ok_neg, ↓ok_not, ↓ok_and, ↓ok_or, ↓ok_ite, ↓ok_cmp, ↓ok_cmp2, ↓ok_attr, ↓ok_ix, ↓ok_sl, ↓ok_rev, ↓ok_lst, ↓ok_rep, ↓ok_tup, ↓ok_dct, ↓ok_bi, ↓ok_isx, ↓ok_ist, ↓ok_fstr, ↓ok_comp, ↓ok_dcomp, ↓ok_call, ↓ok_make, ↓ok_meth, ↓mthD_own, ↓mthD_append, ↓mthD_extend, ↓mthD_insert, ↓mthD_pop, ↓mthD_pop0, ↓mthD_reverse, ↓mthD_get, ↓mthD_get2, ↓mthD_join, ↓mthD_upper, ↓mthD_index, ↓ok_step2, ↓ok_es_nil, ↓ok_es_cons, ↓ok_ps_nil, ↓ok_ps_cons, ↓ok_fs_nil, ↓ok_fs_cons, ↓ok_o_none, ↓ok_o_some, ↓ok_if_none, ↓ok_if_some, ↓ok_i_e, ↓ok_i_range1, ↓ok_i_range2, ↓ok_i_enum, ↓ok_i_zip, ↓ok_i_items, ↓ok_i_vals, ↓ok_t_name, ↓ok_t_tup, ↓ok_t_star_tup, ↓ok_t_star_cl, ↓ok_t_sub, ↓ok_t_fld, ↓ok_ts_nil, ↓ok_ts_cons, ↓ok_ex, ↓ok_asg, ↓ok_ret, ↓ok_retN, ↓ok_pass, ↓ok_sbrk, ↓ok_scont, ↓ok_if, ↓ok_augS, ↓augV_some, ↓ok_aug, ↓ok_for, ↓ok_while, ↓ok_rais, ↓trycX_at, ↓ok_tryc, ↓ok_gc0, ↓planD_some, ↓b_mulI, ↓b_divI, ↓b_modI, ↓b_powI, ↓b_addS, ↓b_addT, ↓b_addC, ↓newL_eq, ↓repD_int, ↓i_sortC, ↓i_sortK, ↓setO_dctS, ↓setO_dctI, ↓fldO_obj, ↓appO_lst, ↓extO_lst, ↓insO_0, ↓rng1_int, ↓rng2_int, ↓raisT_at, ↓optD_none, ↓optD_some, ↓go_nil, ↓go_cons, ↓gos_nil, ↓gos_cons, get_new, pl_non, pl_int, pl_str, pl_tup, pl_cl, pl_strs, pl_ints, ctx_run, ctx_mrun, varD_some, globD_some, negD_int, notD_bl, someD_int, boolD_bl, nonD_non, b_addI, b_subI, newC_true, newC_false, newD_true, newD_false, dctR_nil, a_addI, a_subI, c_eqI, c_neI, c_eq, c_ne, c_eqS, c_neS, c_eqB, c_neB, c_ltI, c_leI, c_gtI, c_geI, c_is, c_isN, c_isB, c_isNB, isNon_non, isNon_int, isNon_str, isNon_tup, isNon_exn, isNon_bl, isNon_ref, isNon_cd, isNon_cl, c_inT, c_ninT, c_inC, c_ninC, c_eqR0, eqO0, c_neR0, neO0, c_inS, c_inR, c_ninR, inO_dctI, inO_dctS, inO_lst, c_inDS, c_ninDS, c_inDI, c_ninDI, okOB_some, set_new, getK_nil, i_len, i_lenT, i_lenC, i_lenK, i_lenR, lenO_lst, lenO_dct, i_max, i_min, i_intB, i_isi_n_int, i_isi_n_str, i_isi_n_list, i_isi_n_tuple, i_isi_n_dict, i_isi_n_bool, i_isi_b_int, i_isi_b_str, i_isi_b_list, i_isi_b_tuple, i_isi_b_dict, i_isi_b_bool, i_isi_i_int, i_isi_i_str, i_isi_i_list, i_isi_i_tuple, i_isi_i_dict, i_isi_i_bool, i_isi_s_int, i_isi_s_str, i_isi_s_list, i_isi_s_tuple, i_isi_s_dict, i_isi_s_bool, i_isi_t_int, i_isi_t_str, i_isi_t_list, i_isi_t_tuple, i_isi_t_dict, i_isi_t_bool, i_isi_c_int, i_isi_c_str, i_isi_c_list, i_isi_c_tuple, i_isi_c_dict, i_isi_c_bool, i_isi_k_int, i_isi_k_str, i_isi_k_list, i_isi_k_tuple, i_isi_k_dict, i_isi_k_bool, i_ist_lt_t, i_ist_lt_c, i_ist_lt_i, i_ist_lt_s, i_allM, i_anyM, i_tupC, i_listC, atD_nat, atD_m1, okO_some, ix_tup, ix_cl, ix_cdS, ix_cdI, ix_ref, ixO_lst, ixO_dctS, ixO_dctI, atD_0, atD_1, atD_2, atD_3, atD_4, atD_5, atD_6, atD_7, atD_8, getD_ref, setD_ref, setO_l0, setO_l1, setO_l2, attr_ref, attrO_obj, fld_ref, kind_str, kind_cl, kind_cd, kind_ref, kindO_lst, kindO_dct, kindO_obj, app_ref, ext_ref, ins_ref, pop_ref, revM_ref, revO_lst, ivD_str, ivD_tup, ivD_cl, ivD_cd, ivD_ref, ivO_lst, itemsD_cd, valsD_cd, enumD_cl, zipD_tt, zipD_cc, lenI_fix, sl_str, sl_tup, sl_cl, rev_cl, rev_tup, step2_cl, strB_bl, strB_non, cut_none, cut_m1, isx_at, sl_lit, sl_lit', alloc_ok, p0_is_name, z_is_name, p0_is_whole, z_is_whole, p0_is_between, z_is_between, p0_is_number, z_is_number, p0_are_moments, z_are_moments, p0_is_under, z_is_under, p0_is_leave, p1_is_leave, z_is_leave, p0__law_urn, z__law_urn, p0__law_lot, z__law_lot, p0__law_named, z__law_named, p0__law_leaf, z__law_leaf, p0__law_odd, z__law_odd, p0__law_is_name, z__law_is_name, p0__law_whole, z__law_whole, p0__law_is_leaf, z__law_is_leaf, p0__law_part, z__law_part, p0__law_bent, z__law_bent, p0__law_right, z__law_right, g_MOST_LETTERS, g_GREATEST, g_LAST_MOMENT, g_MOST_PASSES, g_SMALL, g_KINDS_OF_DEEDS, List.foldl_append, List.foldl_cons, List.foldl_nil, List.map_append, List.filter_append, List.all_append, List.any_append, List.length_append, List.sum_append, List.forall_mem_append, List.forall_mem_singleton, ifB_true, ifB_false, ifD_bl, okE_ok, okE_exc, okE_bind, okE_itb, okT_st, okT_next, okT_ret, okT_brk, okT_cont, okT_exc, okT_nil, ok_var, ok_non, ok_bl, ok_int, ok_str, ok_ty, ok_glob, ok_bin, ok_neg, ok_not, ok_and, ok_or, ok_ite, ok_cmp, ok_cmp2, ok_attr, ok_ix, ok_sl, ok_rev, ok_lst, ok_rep, ok_tup, ok_dct, ok_bi, ok_isx, ok_ist, ok_fstr, ok_comp, ok_dcomp, ok_call, ok_make, ok_meth, mthD_own, mthD_append, mthD_extend, mthD_insert, mthD_pop, mthD_pop0, mthD_reverse, mthD_get, mthD_get2, mthD_join, mthD_upper, mthD_index, ok_step2, ok_es_nil, ok_es_cons, ok_ps_nil, ok_ps_cons, ok_fs_nil, ok_fs_cons, ok_o_none, ok_o_some, ok_if_none, ok_if_some, ok_i_e, ok_i_range1, ok_i_range2, ok_i_enum, ok_i_zip, ok_i_items, ok_i_vals, ok_t_name, ok_t_tup, ok_t_star_tup, ok_t_star_cl, ok_t_sub, ok_t_fld, ok_ts_nil, ok_ts_cons, ok_ex, ok_asg, ok_ret, ok_retN, ok_pass, ok_sbrk, ok_scont, ok_if, ok_augS, augV_some, ok_aug, ok_for, ok_while, ok_rais, trycX_at, ok_tryc, ok_gc0, planD_some, b_mulI, b_divI, b_modI, b_powI, b_addS, b_addT, b_addC, newL_eq, repD_int, i_sortC, i_sortK, setO_dctS, setO_dctI, fldO_obj, appO_lst, extO_lst, insO_0, rng1_int, rng2_int, raisT_at, optD_none, optD_some, go_nil, go_cons, gos_nil, gos_cons, ↓okT_cons, okT_cons, ↓ifB_vc, ifB_vc, decide_eq_true_eq, decide_eq_false_iff_not, Bool.not_eq_true', Bool.not_eq_false', false_implies, implies_true, true_implies, Bool.and_true, Bool.decide_eq_true, Bool.false_eq_true, Bool.not_false, Bool.not_true, Bool.true_and, Bool.true_eq_false, D.bl.injEq, D.cl.injEq, D.int.injEq, D.str.injEq, D.tup.injEq, Int.cast_ofNat_Int, Int.reduceEq, Int.reduceLE, Int.reduceLT, Int.reduceNeg, List.all_cons, List.all_nil, List.append_nil, List.cons_append, List.getD_cons_succ, List.getD_cons_zero, List.getElem?_cons_succ, List.getElem?_cons_zero, List.getElem?_map, List.length_cons, List.length_nil, List.map_cons, List.map_nil, List.nil_append, List.replicate, List.set_cons_succ, List.set_cons_zero, Nat.reduceAdd, Nat.reduceEqDiff, Nat.reduceLeDiff, Nat.zero_add, Option.map_some, Src.pick, and_true, decide_false, decide_true, if_false, if_true, not_false_eq_true, not_true_eq_false, true_and, wipeE, $ls,*])
variable {k : Nat} {st : Sto} {Q : D → Sto → Prop} {X : XQ} {j n : Nat} {J : Jr}
theorem th_lf {l : Lf} (h : LfOk l) : Thc l.d := ⟨.inl ⟨_, lf_nine h, rfl⟩, fun n => clean_lf n l⟩
theorem s_right (hj : j < st.length) (hJ : J.ok n) (hn : n < 10 ^ 5) (h : ∀ J' : Jr, Q (.bl true) (st.set j J'.o)) : okE (gcR 2 (st.set j J.o) (callF P (k + 6) "_law_right" [.ref j] (st.set j J.o))) Q X := by
  refine ok_gcv (m := 1) (ok_callF l__law_right ?_)
  simp -dsimp only [f__law_right, b__law_right]
  simp! [ctx_run]
  refine s_leaf hj hJ (by omega) (fun l J1 hl k1 => ?_)
  simp! [ctx_run]
  refine s_lot hj k1 (by omega) (by omega) (by omega) (fun i2 J2 a2 b2 k2 => ?_)
  simp! [ctx_run]
  refine ifB_dec (fun q1 => ?_) (fun q1 => ?_)
  case' refine_1 =>
    simp! [ctx_run]
    refine s_bent hl hj k2 (by omega) (fun d J3 hd k3 => ?_)
    obtain ⟨b, h1, h2, h3⟩ := th_ask hd.1
    simp! [ctx_run]
    refine ifB_dec (fun q2 => ?_) (fun q2 => ?_)
    case' refine_1 =>
      simp! [h2]
      refine ifB_vc b _ _ ▸ ?_
      refine ⟨fun hb => ?_, fun hb => ?_⟩
      case' refine_1 =>
        obtain ⟨l', hl', rfl⟩ := h3 hb
        clear h1 h2 h3 hb hd
        simp! [ctx_run]
        refine s_bent hl' hj k3 (by omega) (fun d J4 hd k4 => ?_)
        obtain ⟨b, h1, h2, h3⟩ := th_ask hd.1
        simp! [ctx_run]
      case' refine_2 => skip
    case' refine_2 => skip
  case' refine_2 =>
    have hd := th_lf hl
    obtain ⟨b, h1, h2, h3⟩ := th_ask hd.1
    simp! [ctx_run]
    refine ifB_f (decide_eq_false (by omega)) ?_
  all_goals
    simp! [h1, h2]
    refine ok_litS rfl ?_
    simp_all! [ctx_run]
    exact gQ_nil (Kept.put (Jr.clean _ _)) (clean_bl _ _) (h _)
end K02

set_option Elab.async false
set_option linter.all false
set_option maxRecDepth 100000
set_option maxHeartbeats 4000000
namespace K02
open PySem Mi
local macro_rules | `(tactic| simp! [$ls,*]) => `(tactic| simp -dsimp only [↓ifB_true, ↓ifB_false, ↓ifD_bl, ↓okE_ok, ↓okE_exc, ↓okE_bind, ↓okE_itb, ↓okT_st, ↓okT_next, ↓okT_ret, ↓okT_brk, ↓okT_cont, ↓okT_exc, ↓okT_nil, ↓ok_var, ↓ok_non, ↓ok_bl, ↓ok_int, ↓ok_str, ↓ok_ty, ↓ok_glob, ↓ok_bin, ↓ok_neg, ↓ok_not, ↓ok_and, ↓ok_or, ↓ok_ite, ↓ok_cmp, ↓ok_cmp2, ↓ok_attr, ↓ok_ix, ↓ok_sl, ↓ok_rev, ↓ok_lst, ↓ok_rep, ↓ok_tup, ↓ok_dct, ↓ok_bi, ↓ok_isx, ↓ok_ist, ↓ok_fstr, ↓ok_comp, ↓ok_dcomp, ↓ok_call, ↓ok_make, ↓ok_meth, ↓mthD_own, ↓mthD_append, ↓mthD_extend, ↓mthD_insert, ↓mthD_pop, ↓mthD_pop0, ↓mthD_reverse, ↓mthD_get, ↓mthD_get2, ↓mthD_join, ↓mthD_upper, ↓mthD_index, ↓ok_step2, ↓ok_es_nil, ↓ok_es_cons, ↓ok_ps_nil, ↓ok_ps_cons, ↓ok_fs_nil, ↓ok_fs_cons, ↓ok_o_none, ↓ok_o_some, ↓ok_if_none, ↓ok_if_some, ↓ok_i_e, ↓ok_i_range1, ↓ok_i_range2, ↓ok_i_enum, ↓ok_i_zip, ↓ok_i_items, ↓ok_i_vals, ↓ok_t_name, ↓ok_t_tup, ↓ok_t_star_tup, ↓ok_t_star_cl, ↓ok_t_sub, ↓ok_t_fld, ↓ok_ts_nil, ↓ok_ts_cons, ↓ok_ex, ↓ok_asg, ↓ok_ret, ↓ok_retN, ↓ok_pass, ↓ok_sbrk, ↓ok_scont, ↓ok_if, ↓ok_augS, ↓augV_some, ↓ok_aug, ↓ok_for, ↓ok_while, ↓ok_rais, ↓trycX_at, ↓ok_tryc, ↓ok_gc0, ↓planD_some, ↓b_mulI, ↓b_divI, ↓b_modI, ↓b_powI, ↓b_addS, ↓b_addT, ↓b_addC, ↓newL_eq, ↓repD_int, ↓i_sortC, ↓i_sortK, ↓setO_dctS, ↓setO_dctI, ↓fldO_obj, ↓appO_lst, ↓extO_lst, ↓insO_0, ↓rng1_int, ↓rng2_int, ↓raisT_at, ↓optD_none, ↓optD_some, ↓go_nil, ↓go_cons, ↓gos_nil, ↓gos_cons, get_new, pl_non, pl_int, pl_str, pl_tup, pl_cl, pl_strs, pl_ints, ctx_run, ctx_mrun, varD_some, globD_some, negD_int, notD_bl, someD_int, boolD_bl, nonD_non, b_addI, b_subI, newC_true, newC_false, newD_true, newD_false, dctR_nil, a_addI, a_subI, c_eqI, c_neI, c_eq, c_ne, c_eqS, c_neS, c_eqB, c_neB, c_ltI, c_leI, c_gtI, c_geI, c_is, c_isN, c_isB, c_isNB, isNon_non, isNon_int, isNon_str, isNon_tup, isNon_exn, isNon_bl, isNon_ref, isNon_cd, isNon_cl, c_inT, c_ninT, c_inC, c_ninC, c_eqR0, eqO0, c_neR0, neO0, c_inS, c_inR, c_ninR, inO_dctI, inO_dctS, inO_lst, c_inDS, c_ninDS, c_inDI, c_ninDI, okOB_some, set_new, getK_nil, i_len, i_lenT, i_lenC, i_lenK, i_lenR, lenO_lst, lenO_dct, i_max, i_min, i_intB, i_isi_n_int, i_isi_n_str, i_isi_n_list, i_isi_n_tuple, i_isi_n_dict, i_isi_n_bool, i_isi_b_int, i_isi_b_str, i_isi_b_list, i_isi_b_tuple, i_isi_b_dict, i_isi_b_bool, i_isi_i_int, i_isi_i_str, i_isi_i_list, i_isi_i_tuple, i_isi_i_dict, i_isi_i_bool, i_isi_s_int, i_isi_s_str, i_isi_s_list, i_isi_s_tuple, i_isi_s_dict, i_isi_s_bool, i_isi_t_int, i_isi_t_str, i_isi_t_list, i_isi_t_tuple, i_isi_t_dict, i_isi_t_bool, i_isi_c_int, i_isi_c_str, i_isi_c_list, i_isi_c_tuple, i_isi_c_dict, i_isi_c_bool, i_isi_k_int, i_isi_k_str, i_isi_k_list, i_isi_k_tuple, i_isi_k_dict, i_isi_k_bool, i_ist_lt_t, i_ist_lt_c, i_ist_lt_i, i_ist_lt_s, i_allM, i_anyM, i_tupC, i_listC, atD_nat, atD_m1, okO_some, ix_tup, ix_cl, ix_cdS, ix_cdI, ix_ref, ixO_lst, ixO_dctS, ixO_dctI, atD_0, atD_1, atD_2, atD_3, atD_4, atD_5, atD_6, atD_7, atD_8, getD_ref, setD_ref, setO_l0, setO_l1, setO_l2, attr_ref, attrO_obj, fld_ref, kind_str, kind_cl, kind_cd, kind_ref, kindO_lst, kindO_dct, kindO_obj, app_ref, ext_ref, ins_ref, pop_ref, revM_ref, revO_lst, ivD_str, ivD_tup, ivD_cl, ivD_cd, ivD_ref, ivO_lst, itemsD_cd, valsD_cd, enumD_cl, zipD_tt, zipD_cc, lenI_fix, sl_str, sl_tup, sl_cl, rev_cl, rev_tup, step2_cl, strB_bl, strB_non, cut_none, cut_m1, isx_at, sl_lit, sl_lit', alloc_ok, p0_is_name, z_is_name, p0_is_whole, z_is_whole, p0_is_between, z_is_between, p0_is_number, z_is_number, p0_are_moments, z_are_moments, p0_is_under, z_is_under, p0_is_leave, p1_is_leave, z_is_leave, p0__law_urn, z__law_urn, p0__law_lot, z__law_lot, p0__law_named, z__law_named, p0__law_leaf, z__law_leaf, p0__law_odd, z__law_odd, p0__law_is_name, z__law_is_name, p0__law_whole, z__law_whole, p0__law_is_leaf, z__law_is_leaf, p0__law_part, z__law_part, p0__law_bent, z__law_bent, p0__law_right, z__law_right, g_MOST_LETTERS, g_GREATEST, g_LAST_MOMENT, g_MOST_PASSES, g_SMALL, g_KINDS_OF_DEEDS, List.foldl_append, List.foldl_cons, List.foldl_nil, List.map_append, List.filter_append, List.all_append, List.any_append, List.length_append, List.sum_append, List.forall_mem_append, List.forall_mem_singleton, ifB_true, ifB_false, ifD_bl, okE_ok, okE_exc, okE_bind, okE_itb, okT_st, okT_next, okT_ret, okT_brk, okT_cont, okT_exc, okT_nil, ok_var, ok_non, ok_bl, ok_int, ok_str, ok_ty, ok_glob, ok_bin, ok_neg, ok_not, ok_and, ok_or, ok_ite, ok_cmp, ok_cmp2, ok_attr, ok_ix, ok_sl, ok_rev, ok_lst, ok_rep, ok_tup, ok_dct, ok_bi, ok_isx, ok_ist, ok_fstr, ok_comp, ok_dcomp, ok_call, ok_make, ok_meth, mthD_own, mthD_append, mthD_extend, mthD_insert, mthD_pop, mthD_pop0, mthD_reverse, mthD_get, mthD_get2, mthD_join, mthD_upper, mthD_index, ok_step2, ok_es_nil, ok_es_cons, ok_ps_nil, ok_ps_cons, ok_fs_nil, ok_fs_cons, ok_o_none, ok_o_some, ok_if_none, ok_if_some, ok_i_e, ok_i_range1, ok_i_range2, ok_i_enum, ok_i_zip, ok_i_items, ok_i_vals, ok_t_name, ok_t_tup, ok_t_star_tup, ok_t_star_cl, ok_t_sub, ok_t_fld, ok_ts_nil, ok_ts_cons, ok_ex, ok_asg, ok_ret, ok_retN, ok_pass, ok_sbrk, ok_scont, ok_if, ok_augS, augV_some, ok_aug, ok_for, ok_while, ok_rais, trycX_at, ok_tryc, ok_gc0, planD_some, b_mulI, b_divI, b_modI, b_powI, b_addS, b_addT, b_addC, newL_eq, repD_int, i_sortC, i_sortK, setO_dctS, setO_dctI, fldO_obj, appO_lst, extO_lst, insO_0, rng1_int, rng2_int, raisT_at, optD_none, optD_some, go_nil, go_cons, gos_nil, gos_cons, ↓okT_cons, okT_cons, Bool.and_true, Bool.decide_eq_true, Bool.false_eq_true, Bool.not_false, Bool.not_true, Bool.true_and, Bool.true_eq_false, D.bl.injEq, D.cl.injEq, D.int.injEq, D.str.injEq, D.tup.injEq, Int.cast_ofNat_Int, Int.reduceEq, Int.reduceLE, Int.reduceLT, Int.reduceNeg, List.all_cons, List.all_nil, List.append_nil, List.cons_append, List.getD_cons_succ, List.getD_cons_zero, List.getElem?_cons_succ, List.getElem?_cons_zero, List.getElem?_map, List.length_cons, List.length_nil, List.map_cons, List.map_nil, List.nil_append, List.replicate, List.set_cons_succ, List.set_cons_zero, Nat.reduceAdd, Nat.reduceEqDiff, Nat.reduceLeDiff, Nat.zero_add, Option.map_some, Src.pick, and_true, decide_false, decide_true, if_false, if_true, not_false_eq_true, not_true_eq_false, true_and, wipeE, $ls,*])
variable {k : Nat} {st : Sto} {Q : D → Sto → Prop} {X : XQ}
theorem law_ok (ns : List Int) (hl : ns.length ≤ 63) : ∃ st, runF (P.ctx (callF P 40) (callM P 40)) f_law [.cl (ns.map .int)] [] = .ok (.bl true) st := by
  have key : okE (runF (P.ctx (callF P 40) (callM P 40)) f_law [.cl (ns.map .int)] []) (fun d _ => d = .bl true) noX := by
    refine ok_run ?_
    simp -dsimp only [f_law, b_law]
    generalize he : ([] : Sto) = st
    have es : st.length < 1 := by rw [← he]; decide
    clear he
    simp! [ctx_run, List.length_map]
    refine ⟨sl_big (by omega), ?_⟩
    obtain ⟨m, hm, hm'⟩ : ∃ m : Nat, (if (if (24 : Int) < ↑ns.length then (24 : Int) else ↑ns.length) > 1 then if (24 : Int) < ↑ns.length then (24 : Int) else ↑ns.length else 1) = (m : Int) ∧ m ≤ 24 := by
      by_cases h1 : (24 : Int) < ↑ns.length
      · exact ⟨24, by simp [h1], by omega⟩
      · by_cases h2 : (1 : Int) < ↑ns.length
        · exact ⟨ns.length, by simp [h1, h2], by omega⟩
        · exact ⟨1, by simp [h1, h2], by omega⟩
    rw [hm, cut_to, show List.map D.int ns ++ [D.int 0] = (ns ++ [0]).map D.int by simp, ← List.map_take]
    have hy : ((ns ++ [0]).take m).length ≤ 24 := by rw [List.length_take]; omega
    revert hy
    generalize (ns ++ [0]).take m = ys
    intro hy
    refine ⟨sl_big (by rw [List.length_map]; omega), ?_⟩
    have hle : lenI st (Iv.fix (ys.map D.int)).enum = ys.length := by simp [lenI]
    rw [hle]
    refine ok_loop (fun i env s => ∃ x y, env = [some (.cl (ns.map .int)), x, y]) ys.length (fun i env s hi hI => ?_) (fun env s hI => ?_) ys.length 0 _ _ (ys.length + 1) (by omega) (by omega) ⟨_, _, rfl⟩
    · obtain ⟨x, y, rfl⟩ := hI
      refine ⟨.tup [.int i, .int ys[i]], by simp [nextI, hi], ?_⟩
      simp! [ctx_run]
      refine s_urn (k := 39) (by omega) (by omega) (fun J hJ => ?_)
      simp! [ctx_run]
      rw [show s ++ [J.o] = (s ++ [J.o]).set s.length J.o from by simp]
      refine s_right (k := 34) (by simp) hJ (by omega) (fun J' => ?_)
      simp! [ctx_run]
      exact ⟨_, _, rfl⟩
    · obtain ⟨x, y, rfl⟩ := hI
      refine ⟨by simp [nextI], ?_⟩
      simp! [ctx_run]
  cases e : runF (P.ctx (callF P 40) (callM P 40)) f_law [.cl (ns.map .int)] [] with
  | ok d s => rw [e, okE_ok] at key; exact ⟨s, by rw [key]⟩
  | exc _ _ _ => rw [e, okE_exc] at key; exact key.elim
  | no => rw [e, okE_no] at key; exact key.elim
def depth : Nat := 40
theorem holds (ns : List Int) (hl : ns.length ≤ 63) (hz : ∀ z ∈ ns, SmallZ z) : ∃ st, runF (P.ctx (callF P depth) (callM P depth)) f_law [.cl (ns.map .int)] [] = .ok (.bl true) st := law_ok ns hl
end K02


open PySem PySem.W PySem.Calls PyProof.Rows
set_option maxRecDepth 100000 in
set_option maxHeartbeats 0 in
theorem PySem.Challenge.cw_leavechain_k02_which_are_leaves_holds : PySem.Challenge.rw_leavechain_k02_which_are_leaves.Holds := by
  w_on; o_law
  refine HandSHeadRun.head_any (r := OpenLaw.row PySem.Challenge.rw_leavechain_k02_which_are_leaves) (q := view (OpenLaw.row PySem.Challenge.rw_leavechain_k02_which_are_leaves).prog [26]) (H := K02.hk) (ob := K02.ob) (M := 4000) (loose := K02.loose) (d := HandSHeadRun.topDef (OpenLaw.row PySem.Challenge.rw_leavechain_k02_which_are_leaves).prog 26) (kwd := []) K02.ob_eq
    (by kernel_rfl) (fun s => by kernel_rfl) K02.run (by kernel_rfl) (by kernel_rfl) (by kernel_rfl) (by rfl) (by first | assumption | decide +kernel) (by decide +kernel) ⟨rfl, rfl, rfl, rfl, rfl, by decide +kernel⟩ ?hw ?hc
  case hw => w_witness2
  case hc =>
    refine Mi.walk_M (l := PySem.Challenge.rw_leavechain_k02_which_are_leaves) (k := 2 * K02.depth + 2) (y := PySem.Str.ofString "script") rfl (by kernel_rfl) ⟨rfl, by decide, by decide⟩ K02.holds ?_
    intro w mg fa h Y G hmg0
    obtain ⟨K, KX, c⟩ := Y
    have hmg : mg (PySem.Str.ofString "law") = some (.ref fa) := by
      have e : (HandSHeadRun.topDef (OpenLaw.row PySem.Challenge.rw_leavechain_k02_which_are_leaves).prog 26).name = PySem.Str.ofString "law" := by kernel_rfl
      rw [← e]
      exact hmg0
    obtain ⟨fd, hb, hF⟩ := K02.facts (prog := (PySem.Challenge.rw_leavechain_k02_which_are_leaves).prog) (w := w) K02.depth KX G hmg c
    exact ⟨K, fd, _, KX, hb, hF⟩


