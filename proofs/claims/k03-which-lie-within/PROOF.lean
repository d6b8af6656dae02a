import PyProof.Rows.All
import Wide.All
import OpenK.AllK
import Wide.FinOn
import HandS.ForMost
import HandS.ForExc
import HandS.WordsExc
import HandS.FStr
import HandS.DictComp
import HandS.Deep
import HandS.IsInst
import HandS.StrMore
import HandS.Wide
import HandS.TryMany
import HandS.More
import HandS.TupAny
import HandS.CallRecv
import HandS.HeadWalk
import HandS.Defaults
import HandS.Zip
import HandS.HeadHook2
import HandS.HeadEnd
import HandS.Head2
import KE.KStateDown
import PySem.Challenge.RW_leavechain_k03_which_lie_within
set_option linter.all false
/-! M1: a small evaluator: values, a store of cells, expressions and statements by slots. -/
namespace Mi
open PySem

/-- a value: None, truths, whole numbers, texts (code points), tuples, lists that nobody changes, a cell of the store, a def or class of the module by its name, a built-in class -/
inductive D where
  | non | bl (b : Bool) | int (i : Int) | str (x : List Nat) | tup (xs : List D) | cl (xs : List D) | ref (n : Nat) | fn (x : String) | ty (n : String)
  deriving Inhabited
abbrev Fs := List (String × D)
/-- a cell: a list, a dict, a dict that is walked just now, an instance -/
inductive O where
  | lst (xs : List D) | dct (kvs : List (D × D)) | lck (kvs : List (D × D)) | obj (c : String) (fs : Fs)
  deriving Inhabited
abbrev Sto := List O
abbrev Env := List (Option D)
/-- what comes of it: a value, an own exception with its fields, or nothing is told -/
inductive R (α : Type) where
  | ok (a : α) (st : Sto) | exc (c : String) (fs : Fs) (st : Sto) | no
def R.bind {α β : Type} (r : R α) (k : α → Sto → R β) : R β := match r with
  | .ok a st => k a st
  | .exc c fs st => .exc c fs st
  | .no => .no
/-- exceptions are not looked at -/
def R.calm {α : Type} (r : R α) : R α := match r with
  | .exc _ _ _ => .no
  | r => r
/-- .. of a statement -/
inductive RS where
  | next (e : Env) (st : Sto) | ret (d : D) (st : Sto) | brk (e : Env) (st : Sto) | cont (e : Env) (st : Sto) | exc (c : String) (fs : Fs) (e : Env) (st : Sto) | no

/-! ### syntax -/
mutual
inductive E where
  | var (i : Nat) | non | bl (b : Bool) | int (i : Int) | str (x : List Nat) | glob (x : String) | ty (n : String)
  | bin (o : Operator) (a b : E) | neg (a : E) | not (a : E) | and (a b : E) | or (a b : E) | ite (c a b : E)
  | cmp (o : CmpOp) (a b : E) | cmp2 (o p : CmpOp) (a b c : E)
  | attr (a : E) (f : String) | ix (a b : E) | sl (a : E) (lo hi : Option E) | slc (a : E) (lo hi : Option E) (c : E)
  | lst (es : List E) | tup (es : List E) | dct (ks vs : List E)
  | comp (e : E) (t : Tg) (it : It) (ifs : Option E) (own : List Nat)
  | dcomp (k v : E) (t : Tg) (it : It) (ifs : Option E) (own : List Nat)
  | fstr (es : List E)
  | call (f : String) (es : List E) (ks : List String) (kes : List E)
  | make (f : String) (es : List E)
  | bi (f : String) (es : List E)
  | meth (a : E) (m : String) (es : List E) (ks : List String) (kes : List E)
inductive It where
  | e (e : E) | range1 (es : List E) | range2 (es : List E) | enum (e : E) | zip (a b : E) | items (e : E) | vals (e : E)
inductive Tg where
  | name (i : Nat) | tup (ts : List Tg) | sub (a b : E) | fld (a : E) (f : String)
end
inductive S where
  | ex (e : E) | asg (t : Tg) (e : E) | aug (i : Nat) (o : Operator) (e : E) | augS (a b : E) (o : Operator) (e : E)
  | ret (e : E) | retN | iff (c : E) (a b : List S) | whil (c : E) (b : List S) | fr (t : Tg) (it : It) (b : List S)
  | rais (c : String) (es : List E) | trye (b : List S) (cs : List String) (i : Option Nat) (h : List S) | pass | brk | cont

/-! ### values -/
def sl : Nat := PySem.sizeLine
def lstOf (st : Sto) : D → Option (List D)
  | .ref n => (match st[n]? with | some (.lst xs) => some xs | _ => none)
  | .cl xs => some xs
  | _ => none
def dctOf (st : Sto) : D → Option (List (D × D))
  | .ref n => (match st[n]? with | some (.dct k) => some k | some (.lck k) => some k | _ => none)
  | _ => none
def seqOf (st : Sto) : D → Option (List D)
  | .tup xs => some xs
  | d => lstOf st d
def alloc (o : O) (st : Sto) : R D := .ok (.ref st.length) (st ++ [o])
def newL (xs : List D) (st : Sto) : R D := if xs.length ≤ sl then alloc (.lst xs) st else .no
def okS (x : List Nat) (st : Sto) : R D := if x.length ≤ sl then .ok (.str x) st else .no
/-- factors together below 2^20 bits or so -/
def mulOk (i j : Int) : Bool := decide (i.natAbs.log2 + j.natAbs.log2 < 100000000)
def powOk (i j : Int) : Bool := decide (0 ≤ j) && decide (((i.natAbs.log2 : Int) + 1) * j ≤ 100000000)
def txtI (i : Int) : List Nat := (toString i).toList.map Char.toNat
def binD (o : Operator) (a b : D) (st : Sto) : R D := match o, a, b with
  | .Add, .int i, .int j => .ok (.int (i + j)) st
  | .Sub, .int i, .int j => .ok (.int (i - j)) st
  | .Mult, .int i, .int j => if mulOk i j = true then .ok (.int (i * j)) st else .no
  | .FloorDiv, .int i, .int j => if 0 < j ∧ j.natAbs.log2 < 9000 then .ok (.int (i / j)) st else .no
  | .Mod, .int i, .int j => if 0 < j then .ok (.int (i % j)) st else .no
  | .Pow, .int i, .int j => if powOk i j = true then .ok (.int (i ^ j.toNat)) st else .no
  | .Add, .str x, .str y => okS (x ++ y) st
  | .Add, .tup xs, .tup ys => if xs.length + ys.length ≤ sl then .ok (.tup (xs ++ ys)) st else .no
  | .Add, a, b => (match lstOf st a, lstOf st b with
    | some xs, some ys => newL (xs ++ ys) st
    | _, _ => .no)
  | .Mult, .ref n, .int k => (match st[n]? with
    | some (.lst xs) => if xs.length * k.toNat ≤ sl ∧ -(2 ^ 63) ≤ k ∧ k < 2 ^ 63 then newL (List.replicate k.toNat xs).flatten st else .no
    | _ => .no)
  | _, _, _ => .no
/-- op=, in place: ints and texts alone (a list would be changed itself) -/
def augD (o : Operator) (a b : D) (st : Sto) : R D := match o, a, b with
  | .Add, .int i, .int j => .ok (.int (i + j)) st
  | .Sub, .int i, .int j => .ok (.int (i - j)) st
  | .Mult, .int i, .int j => if (-(2 ^ 64) < i ∧ i < 2 ^ 64) ∨ (-(2 ^ 64) < j ∧ j < 2 ^ 64) then .ok (.int (i * j)) st else .no
  | .FloorDiv, .int i, .int j => if 0 < j ∧ j < 1073741824 then .ok (.int (i / j)) st else .no
  | .Mod, .int i, .int j => if 0 < j then .ok (.int (i % j)) st else .no
  | .Add, .str x, .str y => okS (x ++ y) st
  | _, _, _ => .no
/-! ### comparisons -/
def mapO {α β : Type} (f : α → Option β) : List α → Option (List β)
  | [] => some []
  | x :: xs => (match f x, mapO f xs with
    | some p, some ps => some (p :: ps)
    | _, _ => none)
def toPy (st : Sto) : Nat → D → Option PyData
  | 0, _ => none
  | _ + 1, .non => some .none
  | _ + 1, .bl b => some (.bool b)
  | _ + 1, .int i => some (.int i)
  | _ + 1, .str x => some (.str ⟨x.toArray⟩)
  | n + 1, .tup xs => (mapO (toPy st n) xs).map .tuple
  | n + 1, .cl xs => (mapO (toPy st n) xs).map .list
  | n + 1, .ref m => (match st[m]? with
    | some (.lst xs) => (mapO (toPy st n) xs).map .list
    | _ => none)
  | _ + 1, .fn _ => none
  | _ + 1, .ty _ => none
def eqD (st : Sto) (a b : D) : Option Bool := match toPy st 60 a, toPy st 60 b with
  | some p, some q => some (PyData.eqv p q)
  | _, _ => none
/-- x in items -/
def inSeq (st : Sto) (x : D) (xs : List D) : Option Bool := match toPy st 59 x, mapO (toPy st 59) xs with
  | some p, some qs => some (qs.any fun z => PyData.eqv z p)
  | _, _ => none
def ltS : List Nat → List Nat → Bool
  | [], [] => false
  | [], _ :: _ => true
  | _ :: _, [] => false
  | a :: x, b :: y => decide (a < b) || (decide (a = b) && ltS x y)
def keyOk : D → Bool
  | .int _ => true
  | .str _ => true
  | _ => false
def keyEq : D → D → Bool
  | .int i, .int j => decide (i = j)
  | .str x, .str y => decide (x = y)
  | _, _ => false
def getK (kvs : List (D × D)) (k : D) : Option D := (kvs.find? fun p => keyEq p.1 k).map (·.2)
def putK (kvs : List (D × D)) (k v : D) : List (D × D) :=
  if (kvs.any fun p => keyEq p.1 k) = true then kvs.map (fun p => if keyEq p.1 k = true then (p.1, v) else p) else kvs ++ [(k, v)]
def delK (kvs : List (D × D)) (k : D) : List (D × D) := kvs.filter fun p => !keyEq p.1 k
def okB (b : Bool) (st : Sto) : R D := .ok (.bl b) st
def okOB (b : Option Bool) (st : Sto) : R D := match b with | some b => okB b st | none => .no
def memD (a b : D) (st : Sto) : Option Bool := match b with
  | .str y => (match a with
    | .str [c] => some (decide (c ∈ y))
    | _ => none)
  | b => (match seqOf st b with
    | some xs => inSeq st a xs
    | none => (match dctOf st b with
      | some kvs => if keyOk a = true then some (getK kvs a).isSome else none
      | none => none))
def isNon : D → Bool
  | .non => true
  | _ => false
def isD (a b : D) : Option Bool := match b with
  | .non => some (isNon a)
  | _ => none
def cmpD (o : CmpOp) (a b : D) (st : Sto) : R D := match o with
  | .Eq => okOB (eqD st a b) st
  | .NotEq => okOB ((eqD st a b).map (!·)) st
  | .In => okOB (memD a b st) st
  | .NotIn => okOB ((memD a b st).map (!·)) st
  | .Is => okOB (isD a b) st
  | .IsNot => okOB ((isD a b).map (!·)) st
  | .Lt => (match a, b with
    | .int i, .int j => okB (decide (i < j)) st
    | .str x, .str y => okB (ltS x y) st
    | _, _ => .no)
  | .LtE => (match a, b with
    | .int i, .int j => okB (decide (i ≤ j)) st
    | .str x, .str y => okB (!ltS y x) st
    | _, _ => .no)
  | .Gt => (match a, b with
    | .int i, .int j => okB (decide (j < i)) st
    | .str x, .str y => okB (ltS y x) st
    | _, _ => .no)
  | .GtE => (match a, b with
    | .int i, .int j => okB (decide (j ≤ i)) st
    | .str x, .str y => okB (!ltS x y) st
    | _, _ => .no)

/-! ### places -/
def ixOf (n : Nat) (i : Int) : Option Nat := if 0 ≤ i then (if i < n then some i.toNat else none) else if -(n : Int) ≤ i then some (i + n).toNat else none
def atD {α : Type} (xs : List α) (i : Int) : Option α := (ixOf xs.length i).bind fun j => xs[j]?
def ixD (a b : D) (st : Sto) : R D := match a, b with
  | .str x, .int i => (match atD x i with | some c => .ok (.str [c]) st | none => .no)
  | a, b => (match seqOf st a, b with
    | some xs, .int i => (match atD xs i with | some d => .ok d st | none => .no)
    | some _, _ => .no
    | none, _ => (match dctOf st a with
      | some kvs => if keyOk b = true then (match getK kvs b with | some d => .ok d st | none => .no) else .no
      | none => .no))
def sIx (n d : Nat) : Option Int → Nat
  | none => d
  | some v => if v < 0 then (v + (n : Int)).toNat else min v.toNat n
def cut {α : Type} (xs : List α) (lo hi : Option Int) : List α := (xs.drop (sIx xs.length 0 lo)).take (sIx xs.length xs.length hi - sIx xs.length 0 lo)
def slD (a : D) (lo hi : Option Int) (st : Sto) : R D := match a with
  | .str x => .ok (.str (cut x lo hi)) st
  | .tup xs => .ok (.tup (cut xs lo hi)) st
  | a => (match lstOf st a with
    | some xs => newL (cut xs lo hi) st
    | none => .no)
/-- a mutable place is read -/
def getD (a b : D) (st : Sto) : R D := match a, b with
  | .ref n, b => (match st[n]?, b with
    | some (.lst xs), .int i => (match atD xs i with | some d => .ok d st | none => .no)
    | some (.dct kvs), k => if keyOk k = true then (match getK kvs k with | some d => .ok d st | none => .no) else .no
    | _, _ => .no)
  | _, _ => .no
/-- a store at a place -/
def setD (a b v : D) (st : Sto) : R Unit := match a, b with
  | .ref n, b => (match st[n]?, b with
    | some (.lst xs), .int i => (match ixOf xs.length i with | some j => .ok () (st.set n (.lst (xs.set j v))) | none => .no)
    | some (.dct kvs), k => if keyOk k = true ∧ kvs.length < sl then .ok () (st.set n (.dct (putK kvs k v))) else .no
    | _, _ => .no)
  | _, _ => .no

/-! ### fields -/
def getF (fs : Fs) (f : String) : Option D := (fs.find? fun p => p.1 == f).map (·.2)
def putF (f : String) (v : D) : Fs → Fs
  | [] => [(f, v)]
  | (g, x) :: r => if g = f then (g, v) :: r else (g, x) :: putF f v r
def attrD (a : D) (f : String) (st : Sto) : R D := match a with
  | .ref n => (match st[n]? with
    | some (.obj _ fs) => (match getF fs f with | some d => .ok d st | none => .no)
    | _ => .no)
  | _ => .no
def fldD (fld : String → List String) (a : D) (f : String) (v : D) (st : Sto) : R Unit := match a with
  | .ref n => (match st[n]? with
    | some (.obj c fs) => if fs.length < 1000 ∧ f ∈ fld c then .ok () (st.set n (.obj c (putF f v fs))) else .no
    | _ => .no)
  | _ => .no

/-! ### built-ins -/
def clsOf (st : Sto) : D → Option String
  | .ref n => (match st[n]? with | some (.obj c _) => some c | _ => none)
  | _ => none
def tyOf (st : Sto) : D → Option String
  | .non => some "NoneType" | .bl _ => some "bool" | .int _ => some "int" | .str _ => some "str" | .tup _ => some "tuple" | .cl _ => some "list"
  | .ref n => (match st[n]? with
    | some (.lst _) => some "list" | some (.dct _) => some "dict" | some (.lck _) => some "dict" | _ => none)
  | _ => none
def tyNames : List String := ["NoneType", "bool", "int", "str", "tuple", "list", "dict"]
def isiB (vs : List D) (st : Sto) : R D := match vs with
  | [x, .ty t] => (match tyOf st x with
    | some a => if a ∈ tyNames ∧ t ∈ tyNames then okB (decide (a = t) || (decide (a = "bool") && decide (t = "int"))) st else .no
    | none => .no)
  | _ => .no
def lenD (a : D) (st : Sto) : Option Nat := match a with
  | .str x => some x.length
  | a => (match seqOf st a with
    | some xs => some xs.length
    | none => (match a with
      | .ref n => (match st[n]? with | some (.dct kvs) => some kvs.length | _ => none)
      | _ => none))
def lenB (vs : List D) (st : Sto) : R D := match vs with
  | [a] => (match lenD a st with | some n => .ok (.int n) st | none => .no)
  | _ => .no
def blsOf : List D → Option (List Bool)
  | [] => some []
  | .bl b :: r => (blsOf r).map (b :: ·)
  | _ => none
def intsOf : List D → Option (List Int)
  | [] => some []
  | .int b :: r => (intsOf r).map (b :: ·)
  | _ => none
def strsOf : List D → Option (List (List Nat))
  | [] => some []
  | .str b :: r => (strsOf r).map (b :: ·)
  | _ => none
def insS (x : List Nat) : List (List Nat) → List (List Nat)
  | [] => [x]
  | y :: r => if ltS y x = true then y :: insS x r else x :: y :: r
def sortS : List (List Nat) → List (List Nat)
  | [] => []
  | x :: r => insS x (sortS r)
def insI (x : Int) : List Int → List Int
  | [] => [x]
  | y :: r => if y < x then y :: insI x r else x :: y :: r
def sortI : List Int → List Int
  | [] => []
  | x :: r => insI x (sortI r)
def numT (i : Int) (st : Sto) : R D := if i.natAbs.log2 < 1920 then .ok (.str (txtI i)) st else .no
def sortedD (xs : List D) (st : Sto) : R D := match strsOf xs with
  | some ys => if ys.length < 64 then newL ((sortS ys).map .str) st else .no
  | none => (match intsOf xs with
    | some ns => if ns.length < 64 then newL ((sortI ns).map .int) st else .no
    | none => .no)
def intB (vs : List D) (st : Sto) : R D := match vs with
  | [.bl b] => .ok (.int (if b = true then 1 else 0)) st
  | [.int i] => .ok (.int i) st
  | _ => .no
def strB (vs : List D) (st : Sto) : R D := match vs with
  | [.int i] => numT i st
  | _ => .no
def absB (vs : List D) (st : Sto) : R D := match vs with
  | [.int i] => .ok (.int (if i < 0 then -i else i)) st
  | _ => .no
def maxB (vs : List D) (st : Sto) : R D := match vs with
  | [.int i, .int j] => .ok (.int (if j > i then j else i)) st
  | _ => .no
def minB (vs : List D) (st : Sto) : R D := match vs with
  | [.int i, .int j] => .ok (.int (if j < i then j else i)) st
  | _ => .no
def allB (vs : List D) (st : Sto) : R D := match vs with
  | [a] => (match lstOf st a with | some xs => (match blsOf xs with | some bs => okB (bs.all id) st | none => .no) | none => .no)
  | _ => .no
def anyB (vs : List D) (st : Sto) : R D := match vs with
  | [a] => (match lstOf st a with | some xs => (match blsOf xs with | some bs => okB (bs.any id) st | none => .no) | none => .no)
  | _ => .no
def sumB (vs : List D) (st : Sto) : R D := match vs with
  | [a] => (match lstOf st a with | some xs => (match intsOf xs with | some bs => .ok (.int bs.sum) st | none => .no) | none => .no)
  | _ => .no
def sortedB (vs : List D) (st : Sto) : R D := match vs with
  | [a] => (match lstOf st a with
    | some xs => sortedD xs st
    | none => (match dctOf st a with | some kvs => sortedD (kvs.map (·.1)) st | none => .no))
  | _ => .no
def listB (vs : List D) (st : Sto) : R D := match vs with
  | [a] => (match seqOf st a with | some xs => newL xs st | none => (match dctOf st a with | some kvs => newL (kvs.map (·.1)) st | none => .no))
  | _ => .no
def tupleB (vs : List D) (st : Sto) : R D := match vs with
  | [a] => (match seqOf st a with | some xs => .ok (.tup xs) st | none => .no)
  | _ => .no
def dictB (vs : List D) (st : Sto) : R D := match vs with
  | [a] => (match dctOf st a with | some kvs => alloc (.dct kvs) st | none => .no)
  | _ => .no
def biD (f : String) : List D → Sto → R D := match f with
  | "len" => lenB | "isinstance" => isiB | "int" => intB | "str" => strB | "abs" => absB | "max" => maxB | "min" => minB | "all" => allB | "any" => anyB
  | "sum" => sumB | "sorted" => sortedB | "list" => listB | "tuple" => tupleB | "dict" => dictB
  | _ => fun _ _ => .no

/-! ### built-in methods -/
inductive Kd where
  | str | list | dict | own (c : String) | no
def kindOf (st : Sto) : D → Kd
  | .str _ => .str
  | .ref n => (match st[n]? with
    | some (.lst _) => .list
    | some (.dct _) => .dict
    | some (.obj c _) => .own c
    | _ => .no)
  | _ => .no
def joinS (s : List Nat) : List (List Nat) → List Nat
  | [] => []
  | [x] => x
  | x :: y :: r => x ++ (s ++ joinS s (y :: r))
def appendM (a : D) (vs : List D) (st : Sto) : R D := match a, vs with
  | .ref n, [v] => (match st[n]? with
    | some (.lst xs) => if xs.length < sl then .ok .non (st.set n (.lst (xs ++ [v]))) else .no
    | _ => .no)
  | _, _ => .no
def extendM (a : D) (vs : List D) (st : Sto) : R D := match a, vs with
  | .ref n, [.ref k] => (match st[n]?, st[k]? with
    | some (.lst xs), some (.lst ys) => if xs.length + ys.length ≤ sl then .ok .non (st.set n (.lst (xs ++ ys))) else .no
    | _, _ => .no)
  | _, _ => .no
def popM (a : D) (vs : List D) (st : Sto) : R D := match a, vs with
  | .ref n, [.int i] => (match st[n]? with
    | some (.lst xs) => (match ixOf xs.length i with
      | some j => (match xs[j]? with | some d => .ok d (st.set n (.lst (xs.eraseIdx j))) | none => .no)
      | none => .no)
    | _ => .no)
  | .ref n, [] => (match st[n]? with
    | some (.lst xs) => (match xs[xs.length - 1]? with | some d => .ok d (st.set n (.lst xs.dropLast)) | none => .no)
    | _ => .no)
  | _, _ => .no
def dpopM (a : D) (vs : List D) (st : Sto) : R D := match a, vs with
  | .ref n, [k] => (match st[n]? with
    | some (.dct kvs) => if keyOk k = true then (match getK kvs k with | some d => .ok d (st.set n (.dct (delK kvs k))) | none => .no) else .no
    | _ => .no)
  | _, _ => .no
def dgetM (a : D) (vs : List D) (st : Sto) : R D := match vs with
  | [k] => (match dctOf st a with | some kvs => if keyOk k = true then .ok ((getK kvs k).getD .non) st else .no | none => .no)
  | [k, d] => (match dctOf st a with | some kvs => if keyOk k = true then .ok ((getK kvs k).getD d) st else .no | none => .no)
  | _ => .no
def joinM (a : D) (vs : List D) (st : Sto) : R D := match a, vs with
  | .str s, [a] => (match seqOf st a with
    | some xs => (match strsOf xs with | some ys => if (ys.map List.length).sum + ys.length * s.length ≤ 16777216 then okS (joinS s ys) st else .no | none => .no)
    | none => .no)
  | _, _ => .no
def mtOk : Kd → String → Bool
  | .list, m => ["append", "extend", "pop"].contains m
  | .str, m => ["join"].contains m
  | _, _ => false
def methD (k : Kd) (m : String) : D → List D → Sto → R D := match k with
  | .list => (match m with | "append" => appendM | "extend" => extendM | "pop" => popM | _ => fun _ _ _ => .no)
  | .dict => (match m with | "pop" => dpopM | "get" => dgetM | _ => fun _ _ _ => .no)
  | .str => (match m with | "join" => joinM | _ => fun _ _ _ => .no)
  | _ => fun _ _ _ => .no

/-! ### what is walked -/
inductive Iv where
  | fix (xs : List D) | cell (n : Nat) | enum (a : Iv) | zip (a b : Iv)
def nextI (st : Sto) (i : Nat) : Iv → Option (Option D)
  | .fix xs => some xs[i]?
  | .cell n => (match st[n]? with | some (.lst xs) => some xs[i]? | _ => none)
  | .enum a => (match nextI st i a with
    | some (some d) => some (some (.tup [.int (i : Nat), d]))
    | some none => some none
    | none => none)
  | .zip a b => (match nextI st i a, nextI st i b with
    | some (some x), some (some y) => some (some (.tup [x, y]))
    | some none, some _ => some none
    | some (some _), some none => some none
    | _, _ => none)
def lenI (st : Sto) : Iv → Nat
  | .fix xs => xs.length
  | .cell n => (match st[n]? with | some (.lst xs) => xs.length | _ => 0)
  | .enum a => lenI st a
  | .zip a b => min (lenI st a) (lenI st b)
def ivOf (st : Sto) : D → Option Iv
  | .tup xs => some (.fix xs)
  | .cl xs => some (.fix xs)
  | .str x => some (.fix (x.map fun c => .str [c]))
  | .ref n => (match st[n]? with | some (.lst _) => some (.cell n) | _ => none)
  | _ => none
/-- a list alone -/
def ivL (st : Sto) : D → Option Iv
  | .cl xs => some (.fix xs)
  | .ref n => (match st[n]? with | some (.lst _) => some (.cell n) | _ => none)
  | _ => none
def zipOf (st : Sto) (a b : D) : Option Iv := match a, b with
  | .tup xs, .tup ys => some (.zip (.fix xs) (.fix ys))
  | a, b => (match ivL st a, ivL st b with
    | some i, some j => some (.zip i j)
    | _, _ => none)
def rangeL (lo : Int) (n : Nat) : List D := (List.range n).map fun (i : Nat) => D.int (lo + (i : Int))
/-- a loop's turns from the i-th on -/
def loopS (body : D → Env → Sto → RS) (iv : Iv) : Nat → Nat → Env → Sto → RS
  | 0, _, _, _ => .no
  | f + 1, i, env, st => match nextI st i iv with
    | none => .no
    | some none => .next env st
    | some (some d) => match body d env st with
      | .next e s => loopS body iv f (i + 1) e s
      | .cont e s => loopS body iv f (i + 1) e s
      | .brk e s => .next e s
      | .ret d s => .ret d s
      | .exc c fs e s => .exc c fs e s
      | .no => .no
def loopC (item : D → Sto → R (Option D)) (iv : Iv) : Nat → Nat → List D → Sto → R (List D)
  | 0, _, _, _ => .no
  | f + 1, i, acc, st => match nextI st i iv with
    | none => .no
    | some none => .ok acc st
    | some (some d) => match item d st with
      | .ok none s => loopC item iv f (i + 1) acc s
      | .ok (some x) s => if acc.length < sl then loopC item iv f (i + 1) (acc ++ [x]) s else .no
      | .exc c fs s => .no
      | .no => .no
def whileS (test : Env → Sto → R D) (body : Env → Sto → RS) : Nat → Env → Sto → RS
  | 0, _, _ => .no
  | f + 1, env, st => match test env st with
    | .ok (.bl true) s => (match body env s with
      | .next e s => whileS test body f e s
      | .cont e s => whileS test body f e s
      | .brk e s => .next e s
      | .ret d s => .ret d s
      | .exc c fs e s => .exc c fs e s
      | .no => .no)
    | .ok (.bl false) s => .next env s
    | .exc c fs s => .exc c fs env s
    | _ => .no
def wipeE (env : Env) : List Nat → Env
  | [] => env
  | v :: vs => (wipeE env vs).set v none
def keysOk : List D → Bool
  | [] => true
  | k :: r => keyOk k && keysOk r
def fmtD : D → Option (List Nat)
  | .str x => some x
  | .int i => if i.natAbs.log2 < 1920 then some (txtI i) else none
  | _ => none
/-- where a parameter's value comes from: a place, a keyword, a default -/
inductive Src where
  | pos (i : Nat) | kw (i : Nat) | dv (d : D)
def Src.pick (vs : List D) (zs : List D) : Src → D
  | .pos i => vs.getD i .non
  | .kw i => zs.getD i .non
  | .dv d => d
structure Ctx where
  g : String → Option D
  plan : String → Nat → List String → Option (List Src)
  mplan : String → String → Nat → List String → Option (List Src)
  run : String → List D → Sto → R D
  mrun : String → String → List D → Sto → R D
  fld : String → List String
  bi : String → Bool
def lockE (n : Nat) (kvs : List (D × D)) (st : Sto) : Sto := st.set n (.lck kvs)

mutual
def evE (c : Ctx) : E → Env → Sto → R D
  | .var i, env, st => (match env[i]? with | some (some d) => .ok d st | _ => .no)
  | .non, _, st => .ok .non st
  | .bl b, _, st => .ok (.bl b) st
  | .int i, _, st => .ok (.int i) st
  | .str x, _, st => .ok (.str x) st
  | .glob x, _, st => (match c.g x with | some d => .ok d st | none => .no)
  | .ty n, _, st => .ok (.ty n) st
  | .bin o a b, env, st => (evE c a env st).bind fun x st => (evE c b env st).bind fun y st => binD o x y st
  | .neg a, env, st => (evE c a env st).bind fun x st => (match x with | .int i => .ok (.int (-i)) st | _ => .no)
  | .not a, env, st => (evE c a env st).bind fun x st => (match x with | .bl b => .ok (.bl (!b)) st | _ => .no)
  | .and a b, env, st => (evE c a env st).bind fun x st => (match x with | .bl true => evE c b env st | .bl false => .ok (.bl false) st | _ => .no)
  | .or a b, env, st => (evE c a env st).bind fun x st => (match x with | .bl false => evE c b env st | .bl true => .ok (.bl true) st | _ => .no)
  | .ite t a b, env, st => (evE c t env st).bind fun x st => (match x with | .bl true => evE c a env st | .bl false => evE c b env st | _ => .no)
  | .cmp o a b, env, st => (evE c a env st).bind fun x st => (evE c b env st).bind fun y st => cmpD o x y st
  | .cmp2 o p a b d, env, st => (evE c a env st).bind fun x st => (evE c b env st).bind fun y st => (cmpD o x y st).bind fun r st => (match r with
    | .bl true => (evE c d env st).bind fun z st => cmpD p y z st
    | .bl false => .ok (.bl false) st
    | _ => .no)
  | .attr a f, env, st => (evE c a env st).bind fun x st => attrD x f st
  | .ix a b, env, st => (evE c a env st).bind fun x st => (evE c b env st).bind fun y st => ixD x y st
  | .sl a lo hi, env, st => (evE c a env st).bind fun x st => (evO c lo env st).bind fun l st => (evO c hi env st).bind fun h st => slD x l h st
  | .slc _ _ _ _, _, _ => .no
  | .lst es, env, st => (evEs c es env st).bind fun xs st => newL xs st
  | .tup es, env, st => (evEs c es env st).bind fun xs st => if xs.length ≤ sl then .ok (.tup xs) st else .no
  | .dct ks vs, env, st => (evEs c ks env st).bind fun xs st => (evEs c vs env st).bind fun ys st =>
      if keysOk xs = true ∧ xs.length ≤ 15 ∧ xs.length = ys.length then alloc (.dct ((xs.zip ys).foldl (fun k p => putK k p.1 p.2) [])) st else .no
  | .comp e t it ifs own, env, st => (itE c it env st).bind fun iv st =>
      (loopC (fun d st => (asT c t d (wipeE env own) st).bind fun env1 st => (evI c ifs env1 st).bind fun b st => if b = true then (evE c e env1 st).bind fun y st => .ok (some y) st else .ok none st) iv (lenI st iv + 1) 0 [] st).bind fun xs st => alloc (.lst xs) st
  | .dcomp _ _ _ _ _ _, _, _ => .no
  | .fstr es, env, st => evFs c es [] env st
  | .call f es ks kes, env, st => (evEs c es env st).bind fun xs st => (evEs c kes env st).bind fun zs st =>
      (match c.plan f xs.length ks with
      | some pl => if zs.length = ks.length then c.run f (pl.map (Src.pick xs zs)) st else .no
      | none => .no)
  | .make f es, env, st => (evEs c es env st).bind fun xs st => (match c.mplan f "__init__" (xs.length + 1) [] with
      | some pl => (c.mrun f "__init__" (pl.map (Src.pick (.ref st.length :: xs) [])) (st ++ [.obj f []])).bind fun d st1 => (match d with | .non => .ok (.ref st.length) st1 | _ => .no)
      | none => .no)
  | .bi f es, env, st => (evEs c es env st).bind fun xs st => biD f xs st
  | .meth a m es ks kes, env, st => (evE c a env st).bind fun x st => (match kindOf st x with
      | .own cl => (match c.mplan cl m (es.length + 1) ks with
        | some pl => (evEs c es env st).bind fun xs st => (evEs c kes env st).bind fun zs st => if xs.length = es.length ∧ zs.length = ks.length then c.mrun cl m (pl.map (Src.pick (x :: xs) zs)) st else .no
        | none => .no)
      | k => if mtOk k m = true ∧ ks = [] ∧ kes = [] then (evEs c es env st).bind fun xs st => methD k m x xs st else .no)
def evEs (c : Ctx) : List E → Env → Sto → R (List D)
  | [], _, st => .ok [] st
  | e :: es, env, st => (evE c e env st).bind fun x st => (evEs c es env st).bind fun xs st => .ok (x :: xs) st
def evFs (c : Ctx) : List E → List Nat → Env → Sto → R D
  | [], acc, _, st => .ok (.str acc) st
  | e :: es, acc, env, st => (evE c e env st).bind fun x st => (match fmtD x with
    | some y => if (acc ++ y).length ≤ sl then evFs c es (acc ++ y) env st else .no
    | none => .no)
def evO (c : Ctx) : Option E → Env → Sto → R (Option Int)
  | none, _, st => .ok none st
  | some e, env, st => (evE c e env st).bind fun x st => (match x with | .int i => .ok (some i) st | _ => .no)
def evI (c : Ctx) : Option E → Env → Sto → R Bool
  | none, _, st => .ok true st
  | some e, env, st => (evE c e env st).bind fun x st => (match x with | .bl b => .ok b st | _ => .no)
def itE (c : Ctx) : It → Env → Sto → R Iv
  | .e e, env, st => (evE c e env st).bind fun x st => (match ivOf st x with | some iv => .ok iv st | none => .no)
  | .range1 es, env, st => (evEs c es env st).bind fun xs st => (match xs with
    | [.int j] => if -(2 ^ 62) ≤ j ∧ j < 2 ^ 62 then .ok (.fix (rangeL 0 j.toNat)) st else .no
    | _ => .no)
  | .range2 es, env, st => (evEs c es env st).bind fun xs st => (match xs with
    | [.int i, .int j] => if -(2 ^ 62) ≤ i ∧ i < 2 ^ 62 ∧ -(2 ^ 62) ≤ j ∧ j < 2 ^ 62 then .ok (.fix (rangeL i (j - i).toNat)) st else .no
    | _ => .no)
  | .enum e, env, st => (evE c e env st).bind fun x st => (match ivL st x with | some iv => .ok (.enum iv) st | none => .no)
  | .zip a b, env, st => (evE c a env st).bind fun x st => (evE c b env st).bind fun y st => (match zipOf st x y with | some iv => .ok iv st | none => .no)
  | .items _, _, _ => .no
  | .vals _, _, _ => .no
def asT (c : Ctx) : Tg → D → Env → Sto → R Env
  | .name i, d, env, st => .ok (env.set i (some d)) st
  | .tup ts, d, env, st => (match d with
    | .tup xs => if xs.length = ts.length then (asTs c ts xs env st).calm else .no
    | _ => .no)
  | .sub a b, d, env, st => (evE c a env st).bind fun x st => (evE c b env st).bind fun y st => (setD x y d st).bind fun _ st => .ok env st
  | .fld a f, d, env, st => (evE c a env st).bind fun x st => (fldD c.fld x f d st).bind fun _ st => .ok env st
def asTs (c : Ctx) : List Tg → List D → Env → Sto → R Env
  | [], [], env, st => .ok env st
  | t :: ts, d :: ds, env, st => (asT c t d env st).bind fun env st => asTs c ts ds env st
  | _, _, _, _ => .no
end
def R.st (r : R α) (env : Env) (k : α → Sto → RS) : RS := match r with
  | .ok a st => k a st
  | .exc c fs st => .exc c fs env st
  | .no => .no
mutual
def exS (c : Ctx) : S → Env → Sto → RS
  | .ex e, env, st => (evE c e env st).st env fun _ st => .next env st
  | .asg t e, env, st => (evE c e env st).st env fun x st => (asT c t x env st).st env fun env st => .next env st
  | .aug i o e, env, st => (match env[i]? with
    | some (some x) => (evE c e env st).st env fun y st => (augD o x y st).st env fun z st => .next (env.set i (some z)) st
    | _ => .no)
  | .augS a b o e, env, st => (evE c a env st).st env fun x st => (evE c b env st).st env fun y st => (getD x y st).st env fun z st =>
      (evE c e env st).st env fun w st => (augD o z w st).st env fun r st => (setD x y r st).st env fun _ st => .next env st
  | .ret e, env, st => (evE c e env st).st env fun x st => .ret x st
  | .retN, _, st => .ret .non st
  | .iff t a b, env, st => (evE c t env st).st env fun x st => (match x with | .bl true => exSs c a env st | .bl false => exSs c b env st | _ => .no)
  | .whil t b, env, st => whileS (evE c t) (exSs c b) 1048576 env st
  | .fr t it b, env, st => (itE c it env st).st env fun iv st => loopS (fun d env st => (asT c t d env st).st env fun env st => exSs c b env st) iv (lenI st iv + 1) 0 env st
  | .rais _ _, _, _ => .no
  | .trye _ _ _ _, _, _ => .no
  | .pass, env, st => .next env st
  | .brk, env, st => .brk env st
  | .cont, env, st => .cont env st
def exSs (c : Ctx) : List S → Env → Sto → RS
  | [], env, st => .next env st
  | s :: r, env, st => (match exS c s env st with
    | .next env st => exSs c r env st
    | o => o)
end
/-! ### defs -/
structure Fn where
  slots : Nat
  body : List S
abbrev Plans := List ((Nat × List String) × List Src)
structure Prog where
  fns : List (String × Fn)
  mts : List ((String × String) × Fn)
  plans : List (String × Plans)
  mplans : List ((String × String) × Plans)
  g : List (String × D)
  fld : List (String × List String)
  bi : List String
def runF (c : Ctx) (f : Fn) (ds : List D) (st : Sto) : R D := match exSs c f.body (ds.map some ++ List.replicate (f.slots - ds.length) none) st with
  | .next _ st => .ok .non st
  | .ret d st => .ok d st
  | .exc c fs _ st => .exc c fs st
  | _ => .no
def look {α β : Type} [BEq α] (k : α) (l : List (α × β)) : Option β := l.lookup k
def Prog.ctx (P : Prog) (run : String → List D → Sto → R D) (mrun : String → String → List D → Sto → R D) : Ctx :=
  ⟨fun x => P.g.lookup x, fun f n ks => (P.plans.lookup f).bind fun p => p.lookup (n, ks), fun c m n ks => (P.mplans.lookup (c, m)).bind fun p => p.lookup (n, ks), run, mrun, fun c => (P.fld.lookup c).getD [], fun x => P.bi.contains x⟩
mutual
def callF (P : Prog) : Nat → String → List D → Sto → R D
  | 0, _, _, _ => .no
  | k + 1, f, ds, st => match P.fns.lookup f with
    | none => .no
    | some fn => runF (P.ctx (callF P k) (callM P k)) fn ds st
def callM (P : Prog) : Nat → String → String → List D → Sto → R D
  | 0, _, _, _, _ => .no
  | k + 1, c, m, ds, st => match P.mts.lookup (c, m) with
    | none => .no
    | some fn => runF (P.ctx (callF P k) (callM P k)) fn ds st
end
end Mi

set_option linter.all false
set_option maxRecDepth 100000
/-! M2: how values and cells stand in the abstract heap; what is wanted behind a step. -/
namespace Mi
open PySem PySem.Spec L2
open PyProof.Rows hiding St

structure Fx where
  K : PySem.W.Frag
  mg : Str → Option Value
  fld : String → List String
def tS (x : List Nat) : Str := ⟨x.toArray⟩
def StrOk (x : List Nat) : Prop := x.length ≤ sizeLine ∧ ∀ c ∈ x, c < 1114112
/-- a list that nobody changes: known to the object, or of the written part -/
def CL (K : PySem.W.Frag) (H : Hp) (a : Addr) (xs : List V) : Prop :=
  (∃ o, H a = some (.frz o (.lst xs))) ∨ ∃ (o : Obj) (its : Array Value) (n : Nat), K.lookup a = some o ∧ o.cls = .type "list" ∧ o.dict = none ∧ o.data = .seq its n ∧ its.size ≤ sizeLine ∧ Vals xs its.toList
theorem CL.sq {K : PySem.W.Frag} {H : Hp} {a : Addr} {xs : List V} (h : CL K H a xs) : SqL K H a xs := by
  rcases h with ⟨o, h⟩ | h
  · exact .inl (.inr ⟨o, h⟩)
  · exact .inr h
/-- a list, changed by some or by nobody -/
def LS (K : PySem.W.Frag) (H : Hp) (a : Addr) (xs : List V) : Prop := H a = some (.lst xs) ∨ CL K H a xs
theorem LS.sq {K : PySem.W.Frag} {H : Hp} {a : Addr} {xs : List V} (h : LS K H a xs) : SqL K H a xs := h.elim (fun h => .inl (.inl h)) CL.sq
theorem LS.exact {X : Cx} {pins : List (Addr × Obj)} {σ : L2.St} {H : Hp} {s : Shared} {a : Addr} {xs : List V} (h : LS X.K H a xs) (I : Inv X pins σ H s) :
    xs.length ≤ sizeLine ∧ ∃ (its : List Value) (n : Nat) (dd : Option Addr) (sl : Array (Option Value)), Vals xs its ∧ xs.length = its.length ∧ s.heap.get? a = some { cls := .type "list", dict := dd, data := .seq its.toArray n, slots := sl } := by
  rcases h with h | ⟨o, h⟩ | ⟨o, its, n, h, h1, h2, h3, hz, r⟩
  · obtain ⟨z, its, n, r, e1, e⟩ := I.lstM h
    exact ⟨z, its, n, none, #[], r, e1, e⟩
  · obtain ⟨z, its, n, r, e⟩ := (Rd.ok (.inr ⟨o, h⟩) I.hok : ObjOk X.prog X.w H s.heap a (.lst xs))
    exact ⟨z, its, n, none, #[], r, r.length, e⟩
  · have e := r.length
    obtain ⟨c, d, dt, sl⟩ := o
    simp only at h1 h2 h3
    subst h1 h2 h3
    refine ⟨by rw [e]; simpa using hz, its.toList, n, none, sl, r, e, ?_⟩
    have := I.kIn a _ h
    simpa using this
/-- what never changes stays -/
structure KeepT (H H' : Hp) : Prop where
  tup : ∀ a xs, H a = some (.tup xs) → H' a = some (.tup xs)
  frl : ∀ a o xs, H a = some (.frz o (.lst xs)) → H' a = some (.frz o (.lst xs))
  frt : ∀ a o xs, H a = some (.frz o (.tup xs)) → H' a = some (.frz o (.tup xs))
theorem KeepT.sqT {K : PySem.W.Frag} {H H' : Hp} {a : Addr} {xs : List V} (k : KeepT H H') (h : SqT K H a xs) : SqT K H' a xs := by
  rcases h with (h | ⟨o, h⟩) | h
  · exact .inl (.inl (k.tup _ _ h))
  · exact .inl (.inr ⟨o, k.frt _ _ _ h⟩)
  · exact .inr h
theorem KeepT.cl {K : PySem.W.Frag} {H H' : Hp} {a : Addr} {xs : List V} (k : KeepT H H') (h : CL K H a xs) : CL K H' a xs := by
  rcases h with ⟨o, h⟩ | h
  · exact .inl ⟨o, k.frl _ _ _ h⟩
  · exact .inr h
theorem KeepT.refl (H : Hp) : KeepT H H := ⟨fun _ _ h => h, fun _ _ _ h => h, fun _ _ _ h => h⟩
/-- what stays: all that the cells do not hold; the new cells are new -/
structure Keep (ι ι' : List Addr) (H H' : Hp) : Prop where
  tup : ∀ a xs, H a = some (.tup xs) → H' a = some (.tup xs)
  frl : ∀ a o xs, H a = some (.frz o (.lst xs)) → H' a = some (.frz o (.lst xs))
  frt : ∀ a o xs, H a = some (.frz o (.tup xs)) → H' a = some (.frz o (.tup xs))
  xd : ∀ a fs, H a = some (.xd fs) → H' a = some (.xd fs)
  out : ∀ a o, a ∉ ι → H a = some o → H' a = some o
  new : ∀ a, a ∈ ι' → a ∉ ι → H a = none
theorem Keep.refl {ι : List Addr} (H : Hp) : Keep ι ι H H := ⟨fun _ _ h => h, fun _ _ _ h => h, fun _ _ _ h => h, fun _ _ h => h, fun _ _ _ h => h, fun _ h n => absurd h n⟩
theorem Keep.trans {ι ι1 ι2 : List Addr} {H H1 H2 : Hp} (a : Keep ι ι1 H H1) (b : Keep ι1 ι2 H1 H2) : Keep ι ι2 H H2 :=
  ⟨fun _ _ h => b.tup _ _ (a.tup _ _ h), fun _ _ _ h => b.frl _ _ _ (a.frl _ _ _ h), fun _ _ _ h => b.frt _ _ _ (a.frt _ _ _ h), fun _ _ h => b.xd _ _ (a.xd _ _ h),
    fun x o n h => b.out _ _ (fun m => by rw [a.new x m n] at h; cases h) (a.out _ _ n h),
    fun x m n => by
      by_cases c : x ∈ ι1
      · exact a.new x c n
      · have h1 := b.new x m c
        cases e : H x with
        | none => rfl
        | some o => rw [a.out x o n e] at h1; cases h1⟩
theorem Keep.t {ι ι' : List Addr} {H H' : Hp} (k : Keep ι ι' H H') : KeepT H H' := ⟨k.tup, k.frl, k.frt⟩
theorem Keep.sqT {ι ι' : List Addr} {K : PySem.W.Frag} {H H' : Hp} {a : Addr} {xs : List V} (k : Keep ι ι' H H') (h : SqT K H a xs) : SqT K H' a xs := k.t.sqT h
theorem Keep.cl {ι ι' : List Addr} {K : PySem.W.Frag} {H H' : Hp} {a : Addr} {xs : List V} (k : Keep ι ι' H H') (h : CL K H a xs) : CL K H' a xs := k.t.cl h
/-- a cell's object may be changed -/
def Cell : HO → Prop
  | .lst _ => True
  | .dK _ => True
  | .frz _ (.dK _) => True
  | .ins _ _ _ => True
  | .own _ => True
  | _ => False
theorem upd_old {H : Hp} {a : Addr} {o : HO} (h : H a = none ∨ ∃ u, H a = some u ∧ Cell u) {b : Addr} {u : HO} (hb : H b = some u) (hc : ¬ Cell u) : upd H a o b = some u := by
  rw [upd_ne]
  · exact hb
  · rintro rfl
    rcases h with h | ⟨u', h, c⟩
    · rw [h] at hb; cases hb
    · rw [h] at hb; cases hb; exact hc c
theorem Keep.side {ι : List Addr} {H : Hp} {a : Addr} {o : HO} (h : H a = none) : Keep ι ι H (upd H a o) :=
  ⟨fun _ _ q => upd_old (.inl h) q id, fun _ _ _ q => upd_old (.inl h) q id, fun _ _ _ q => upd_old (.inl h) q id, fun _ _ q => upd_old (.inl h) q id,
    fun b u _ q => by rw [upd_ne (ne_of_none q h)]; exact q, fun _ q n => absurd q n⟩
theorem Keep.cell {ι : List Addr} {H : Hp} {a : Addr} {o : HO} (h : H a = none) : Keep ι (ι ++ [a]) H (upd H a o) :=
  ⟨fun _ _ q => upd_old (.inl h) q id, fun _ _ _ q => upd_old (.inl h) q id, fun _ _ _ q => upd_old (.inl h) q id, fun _ _ q => upd_old (.inl h) q id,
    fun b u _ q => by rw [upd_ne (ne_of_none q h)]; exact q, fun x q n => by
      rcases List.mem_append.mp q with q | q
      · exact absurd q n
      · rw [List.mem_singleton.mp q]; exact h⟩
theorem Keep.put {ι : List Addr} {H : Hp} {a : Addr} {o : HO} (m : a ∈ ι) (h : ∃ u, H a = some u ∧ Cell u) : Keep ι ι H (upd H a o) :=
  ⟨fun _ _ q => upd_old (.inr h) q id, fun _ _ _ q => upd_old (.inr h) q id, fun _ _ _ q => upd_old (.inr h) q id, fun _ _ q => upd_old (.inr h) q id,
    fun b u n q => by rw [upd_ne (fun z => n (by rw [z]; exact m))]; exact q, fun _ q n => absurd q n⟩

mutual
inductive RV (F : Fx) (ι : List Addr) (H : Hp) : D → V → Prop where
  | non : RV F ι H .non .non
  | bl (b : Bool) : RV F ι H (.bl b) (.bl b)
  | int (i : Int) : RV F ι H (.int i) (.int i)
  | str (x : List Nat) : StrOk x → RV F ι H (.str x) (.str (tS x))
  | tup {ds : List D} {vs : List V} {a : Addr} : SqT F.K H a vs → RVs F ι H ds vs → ds.length ≤ sizeLine → RV F ι H (.tup ds) (.ref a)
  | cl {ds : List D} {vs : List V} {a : Addr} : CL F.K H a vs → RVs F ι H ds vs → ds.length ≤ sizeLine → RV F ι H (.cl ds) (.ref a)
  | ref {n : Nat} {a : Addr} : ι[n]? = some a → RV F ι H (.ref n) (.ref a)
  | fn {x : String} {a : Addr} : F.mg (Str.ofString x) = some (.ref a) → RV F ι H (.fn x) (.ref a)
  | ty (n : String) : RV F ι H (.ty n) (.ty n)
inductive RVs (F : Fx) (ι : List Addr) (H : Hp) : List D → List V → Prop where
  | nil : RVs F ι H [] []
  | cons {d : D} {ds : List D} {v : V} {vs : List V} : RV F ι H d v → RVs F ι H ds vs → RVs F ι H (d :: ds) (v :: vs)
end
section
variable {F : Fx} {ι ι' : List Addr} {H H' : Hp}
theorem pre_get {α : Type} {l l' : List α} {n : Nat} {a : α} (p : l <+: l') (h : l[n]? = some a) : l'[n]? = some a := by
  obtain ⟨r, rfl⟩ := p
  rw [List.getElem?_append_left (List.getElem?_eq_some_iff.mp h).1]
  exact h
mutual
theorem RV.monoT (p : ι <+: ι') (k : KeepT H H') : ∀ {d : D} {v : V}, RV F ι H d v → RV F ι' H' d v
  | _, _, .non => .non
  | _, _, .bl b => .bl b
  | _, _, .int i => .int i
  | _, _, .str x h => .str x h
  | _, _, .tup h hs z => .tup (k.sqT h) (RVs.monoT p k hs) z
  | _, _, .cl h hs z => .cl (k.cl h) (RVs.monoT p k hs) z
  | _, _, .ref h => .ref (pre_get p h)
  | _, _, .fn h => .fn h
  | _, _, .ty n => .ty n
theorem RVs.monoT (p : ι <+: ι') (k : KeepT H H') : ∀ {ds : List D} {vs : List V}, RVs F ι H ds vs → RVs F ι' H' ds vs
  | _, _, .nil => .nil
  | _, _, .cons h t => .cons (RV.monoT p k h) (RVs.monoT p k t)
end
theorem RV.mono (p : ι <+: ι') (k : Keep ι ι' H H') {d : D} {v : V} (h : RV F ι H d v) : RV F ι' H' d v := h.monoT p k.t
theorem RVs.mono (p : ι <+: ι') (k : Keep ι ι' H H') {d : List D} {v : List V} (h : RVs F ι H d v) : RVs F ι' H' d v := h.monoT p k.t
theorem RVs.length : ∀ {ds : List D} {vs : List V}, RVs F ι H ds vs → ds.length = vs.length
  | _, _, .nil => rfl
  | _, _, .cons _ t => by rw [List.length_cons, List.length_cons, RVs.length t]
theorem RVs.get : ∀ {ds : List D} {vs : List V} {i : Nat} {d : D}, RVs F ι H ds vs → ds[i]? = some d → ∃ v, vs[i]? = some v ∧ RV F ι H d v
  | _, _, _, _, .nil, e => by simp at e
  | _, _, 0, _, .cons r _, e => by simp at e; subst e; exact ⟨_, rfl, r⟩
  | _, _, i + 1, _, .cons _ t, e => by
    obtain ⟨v, h1, h2⟩ := RVs.get t (by simpa using e)
    exact ⟨v, by simpa using h1, h2⟩
theorem RVs.get' : ∀ {ds : List D} {vs : List V} {i : Nat} {v : V}, RVs F ι H ds vs → vs[i]? = some v → ∃ d, ds[i]? = some d ∧ RV F ι H d v
  | _, _, _, _, .nil, e => by simp at e
  | _, _, 0, _, .cons r _, e => by simp at e; subst e; exact ⟨_, rfl, r⟩
  | _, _, i + 1, _, .cons _ t, e => by
    obtain ⟨v, h1, h2⟩ := RVs.get' t (by simpa using e)
    exact ⟨v, by simpa using h1, h2⟩
theorem RVs.append : ∀ {ds es : List D} {vs ws : List V}, RVs F ι H ds vs → RVs F ι H es ws → RVs F ι H (ds ++ es) (vs ++ ws)
  | _, _, _, _, .nil, s => s
  | _, _, _, _, .cons r t, s => .cons r (RVs.append t s)
theorem RVs.one {d : D} {v : V} (h : RV F ι H d v) : RVs F ι H [d] [v] := .cons h .nil
theorem RVs.set {d : D} {v : V} (h : RV F ι H d v) : ∀ {ds : List D} {vs : List V} (i : Nat), RVs F ι H ds vs → RVs F ι H (ds.set i d) (vs.set i v)
  | _, _, _, .nil => .nil
  | _, _, 0, .cons _ t => .cons h t
  | _, _, i + 1, .cons q t => .cons q (RVs.set h i t)
theorem RVs.take : ∀ {ds : List D} {vs : List V} (n : Nat), RVs F ι H ds vs → RVs F ι H (ds.take n) (vs.take n)
  | _, _, 0, _ => .nil
  | _, _, _ + 1, .nil => .nil
  | _, _, n + 1, .cons r t => .cons r (RVs.take n t)
theorem RVs.drop : ∀ {ds : List D} {vs : List V} (n : Nat), RVs F ι H ds vs → RVs F ι H (ds.drop n) (vs.drop n)
  | _, _, 0, r => r
  | _, _, _ + 1, .nil => .nil
  | _, _, n + 1, .cons _ t => RVs.drop n t
theorem RVs.eraseIdx : ∀ {ds : List D} {vs : List V} (n : Nat), RVs F ι H ds vs → RVs F ι H (ds.eraseIdx n) (vs.eraseIdx n)
  | _, _, _, .nil => .nil
  | _, _, 0, .cons _ t => t
  | _, _, n + 1, .cons r t => .cons r (RVs.eraseIdx n t)
theorem RVs.replicate {ds : List D} {vs : List V} (h : RVs F ι H ds vs) : ∀ n : Nat, RVs F ι H (List.replicate n ds).flatten (List.replicate n vs).flatten
  | 0 => .nil
  | n + 1 => by
    rw [List.replicate_succ, List.replicate_succ, List.flatten_cons, List.flatten_cons]
    exact h.append (RVs.replicate h n)
/-! inversions -/
theorem RV.int_inv {i : Int} {v : V} (h : RV F ι H (.int i) v) : v = .int i := by cases h; rfl
theorem RV.bl_inv {i : Bool} {v : V} (h : RV F ι H (.bl i) v) : v = .bl i := by cases h; rfl
theorem RV.str_inv {x : List Nat} {v : V} (h : RV F ι H (.str x) v) : v = .str (tS x) ∧ StrOk x := by cases h; exact ⟨rfl, by assumption⟩
theorem RVs.ints : ∀ {ns : List Int} {vs : List V}, RVs F ι H (ns.map .int) vs → vs = ns.map V.int
  | [], _, h => by cases h; rfl
  | n :: ns, _, h => by
    rw [List.map_cons] at h
    cases h with
    | cons r t => rw [RV.int_inv r, RVs.ints t, List.map_cons]
theorem RVs.bls : ∀ {ns : List Bool} {vs : List V}, RVs F ι H (ns.map .bl) vs → vs = ns.map V.bl
  | [], _, h => by cases h; rfl
  | n :: ns, _, h => by
    rw [List.map_cons] at h
    cases h with
    | cons r t => rw [RV.bl_inv r, RVs.bls t, List.map_cons]
theorem RVs.strs : ∀ {ns : List (List Nat)} {vs : List V}, RVs F ι H (ns.map .str) vs → vs = (ns.map tS).map V.str ∧ ∀ x ∈ ns, StrOk x
  | [], _, h => by cases h; exact ⟨rfl, by simp⟩
  | n :: ns, _, h => by
    rw [List.map_cons] at h
    cases h with
    | cons r t =>
      obtain ⟨rfl, o⟩ := RV.str_inv r
      obtain ⟨rfl, os⟩ := RVs.strs t
      refine ⟨rfl, fun x hx => ?_⟩
      rcases List.mem_cons.mp hx with rfl | hx
      · exact o
      · exact os x hx
end
theorem intsOf_some : ∀ {xs : List D} {ns : List Int}, intsOf xs = some ns → xs = ns.map .int
  | [], ns, h => by simp [intsOf] at h; subst h; rfl
  | .int i :: r, ns, h => by
    simp only [intsOf, Option.map_eq_some_iff] at h
    obtain ⟨m, h1, rfl⟩ := h
    rw [intsOf_some h1, List.map_cons]
  | .non :: _, _, h | .bl _ :: _, _, h | .str _ :: _, _, h | .tup _ :: _, _, h | .cl _ :: _, _, h | .ref _ :: _, _, h | .fn _ :: _, _, h | .ty _ :: _, _, h => by simp [intsOf] at h
theorem blsOf_some : ∀ {xs : List D} {ns : List Bool}, blsOf xs = some ns → xs = ns.map .bl
  | [], ns, h => by simp [blsOf] at h; subst h; rfl
  | .bl i :: r, ns, h => by
    simp only [blsOf, Option.map_eq_some_iff] at h
    obtain ⟨m, h1, rfl⟩ := h
    rw [blsOf_some h1, List.map_cons]
  | .non :: _, _, h | .int _ :: _, _, h | .str _ :: _, _, h | .tup _ :: _, _, h | .cl _ :: _, _, h | .ref _ :: _, _, h | .fn _ :: _, _, h | .ty _ :: _, _, h => by simp [blsOf] at h
theorem strsOf_some : ∀ {xs : List D} {ns : List (List Nat)}, strsOf xs = some ns → xs = ns.map .str
  | [], ns, h => by simp [strsOf] at h; subst h; rfl
  | .str i :: r, ns, h => by
    simp only [strsOf, Option.map_eq_some_iff] at h
    obtain ⟨m, h1, rfl⟩ := h
    rw [strsOf_some h1, List.map_cons]
  | .non :: _, _, h | .int _ :: _, _, h | .bl _ :: _, _, h | .tup _ :: _, _, h | .cl _ :: _, _, h | .ref _ :: _, _, h | .fn _ :: _, _, h | .ty _ :: _, _, h => by simp [strsOf] at h

/-! ### cells -/
def RKey : D → Key → Prop
  | .int i, k => k = .inl i
  | .str x, k => k = .inr (tS x) ∧ StrOk x
  | _, _ => False
def RK (F : Fx) (ι : List Addr) (H : Hp) : List (D × D) → List (Key × V) → Prop := Paired fun p q => RKey p.1 q.1 ∧ RV F ι H p.2 q.2
def RF (F : Fx) (ι : List Addr) (H : Hp) : Fs → List (Str × V) → Prop := Paired fun p q => q.1 = Str.ofString p.1 ∧ RV F ι H p.2 q.2
def RO (F : Fx) (ι : List Addr) (H : Hp) (a : Addr) : O → Prop
  | .lst ds => ∃ vs, H a = some (.lst vs) ∧ RVs F ι H ds vs ∧ ds.length ≤ sizeLine
  | .dct kvs => ∃ ks, H a = some (.dK ks) ∧ RK F ι H kvs ks ∧ kvs.length ≤ sizeLine
  | .lck kvs => ∃ o ks, H a = some (.frz o (.dK ks)) ∧ RK F ι H kvs ks ∧ kvs.length ≤ sizeLine
  | .obj c fs => ∃ C dx vs, F.mg (Str.ofString c) = some (.ref C) ∧ H a = some (.ins C dx vs) ∧ RF F ι H fs vs ∧ L2.Cls F.K C ∧ ∀ p ∈ fs, p.1 ∈ F.fld c
structure Rs (F : Fx) (ι : List Addr) (st : Sto) (H : Hp) : Prop where
  len : ι.length = st.length
  nd : ι.Nodup
  cell : ∀ (n : Nat) (o : O), st[n]? = some o → ∃ a, ι[n]? = some a ∧ RO F ι H a o
section
variable {F : Fx} {ι ι' : List Addr} {H H' : Hp} {a : Addr} {o : O} {st : Sto}
theorem RO.monoT (p : ι <+: ι') (k : KeepT H H') (e : H' a = H a) (h : RO F ι H a o) : RO F ι' H' a o := by
  cases o with
  | lst ds => obtain ⟨vs, h1, h2, h3⟩ := h; exact ⟨vs, by rw [e]; exact h1, h2.monoT p k, h3⟩
  | dct kvs => obtain ⟨ks, h1, h2, h3⟩ := h; exact ⟨ks, by rw [e]; exact h1, Paired.mapP h2 fun _ _ z => ⟨z.1, z.2.monoT p k⟩, h3⟩
  | lck kvs => obtain ⟨ob, ks, h1, h2, h3⟩ := h; exact ⟨ob, ks, by rw [e]; exact h1, Paired.mapP h2 fun _ _ z => ⟨z.1, z.2.monoT p k⟩, h3⟩
  | obj c fs => obtain ⟨C, dx, vs, h0, h1, h2, h3⟩ := h; exact ⟨C, dx, vs, h0, by rw [e]; exact h1, Paired.mapP h2 fun _ _ z => ⟨z.1, z.2.monoT p k⟩, h3⟩
theorem RO.mono (p : ι <+: ι') (k : Keep ι ι' H H') (e : H' a = H a) (h : RO F ι H a o) : RO F ι' H' a o := h.monoT p k.t e
theorem RO.some (h : RO F ι H a o) : ∃ u, H a = some u ∧ Cell u := by
  cases o with
  | lst ds => obtain ⟨vs, h1, _⟩ := h; exact ⟨_, h1, trivial⟩
  | dct kvs => obtain ⟨ks, h1, _⟩ := h; exact ⟨_, h1, trivial⟩
  | lck kvs => obtain ⟨ob, ks, h1, _⟩ := h; exact ⟨_, h1, trivial⟩
  | obj c fs => obtain ⟨C, dx, vs, _, h1, _⟩ := h; exact ⟨_, h1, trivial⟩
theorem Rs.at_ (r : Rs F ι st H) {n : Nat} (hn : ι[n]? = some a) (hs : st[n]? = some o) : RO F ι H a o := by
  obtain ⟨b, hb, h⟩ := r.cell n o hs
  rw [hn] at hb; cases hb; exact h
theorem Rs.has (r : Rs F ι st H) {n : Nat} (hn : ι[n]? = some a) : ∃ u, H a = some u ∧ Cell u := by
  have hl : n < st.length := by rw [← r.len]; exact (List.getElem?_eq_some_iff.mp hn).1
  have := r.at_ hn (List.getElem?_eq_getElem hl)
  exact this.some
theorem Rs.fresh (r : Rs F ι st H) (h : H a = none) : a ∉ ι := fun hm => by
  obtain ⟨n, hn⟩ := List.mem_iff_getElem?.mp hm
  obtain ⟨u, hu, _⟩ := r.has hn
  rw [h] at hu; cases hu
/-- the heap grows beside -/
theorem Rs.side (r : Rs F ι st H) (k : Keep ι ι H H') (e : ∀ b ∈ ι, H' b = H b) : Rs F ι st H' :=
  ⟨r.len, r.nd, fun n o h => by
    obtain ⟨a, ha, q⟩ := r.cell n o h
    exact ⟨a, ha, q.mono (List.prefix_refl _) k (e _ (List.mem_of_getElem? ha))⟩⟩
theorem Rs.tup (r : Rs F ι st H) {p : Addr} {u : HO} (hp : H p = none) : Rs F ι st (upd H p u) :=
  r.side (Keep.side hp) fun b hb => upd_ne fun e => r.fresh hp (e ▸ hb)
/-- a new cell -/
theorem Rs.new (r : Rs F ι st H) {p : Addr} {u : HO} (hp : H p = none) (h : RO F (ι ++ [p]) (upd H p u) p o) : Rs F (ι ++ [p]) (st ++ [o]) (upd H p u) := by
  have k : Keep ι (ι ++ [p]) H (upd H p u) := Keep.cell hp
  refine ⟨by rw [List.length_append, List.length_append, r.len]; rfl, ?_, fun n o' h' => ?_⟩
  · refine List.nodup_append.mpr ⟨r.nd, by simp, fun x hx y hy => ?_⟩
    rw [List.mem_singleton] at hy
    subst hy
    rintro rfl
    exact r.fresh hp hx
  · by_cases hn : n < st.length
    · rw [List.getElem?_append_left hn] at h'
      obtain ⟨a, ha, q⟩ := r.cell n o' h'
      exact ⟨a, pre_get (List.prefix_append _ _) ha, q.mono (List.prefix_append _ _) k (upd_ne fun e => r.fresh hp (e ▸ List.mem_of_getElem? ha))⟩
    · rw [List.getElem?_append_right (by omega)] at h'
      have hz : n - st.length = 0 := by
        have := (List.getElem?_eq_some_iff.mp h').1
        simp at this
        omega
      rw [hz] at h'
      simp at h'
      subst h'
      refine ⟨p, ?_, h⟩
      rw [List.getElem?_append_right (by rw [r.len]; omega), r.len, hz]
      rfl
/-- a cell written -/
theorem Rs.set (r : Rs F ι st H) {n : Nat} {u : HO} (hn : ι[n]? = some a) (h : RO F ι (upd H a u) a o) : Rs F ι (st.set n o) (upd H a u) := by
  obtain ⟨u0, hu0, c0⟩ := r.has hn
  have k : Keep ι ι H (upd H a u) := Keep.put (List.mem_of_getElem? hn) ⟨u0, hu0, c0⟩
  refine ⟨by rw [List.length_set]; exact r.len, r.nd, fun m o' h' => ?_⟩
  by_cases e : m = n
  · subst e
    have hl : m < st.length := by rw [← r.len]; exact (List.getElem?_eq_some_iff.mp hn).1
    rw [List.getElem?_set_self hl] at h'
    cases h'
    exact ⟨a, hn, h⟩
  · rw [List.getElem?_set_ne (fun z => e z.symm)] at h'
    obtain ⟨b, hb, q⟩ := r.cell m o' h'
    refine ⟨b, hb, q.mono (List.prefix_refl _) k (upd_ne fun z => ?_)⟩
    subst z
    have h1 := (List.getElem?_eq_some_iff.mp hb)
    have h2 := (List.getElem?_eq_some_iff.mp hn)
    exact e ((List.getElem_inj r.nd).mp (h1.2.trans h2.2.symm))
theorem Rs.keepSet (r : Rs F ι st H) {n : Nat} {u : HO} (hn : ι[n]? = some a) : Keep ι ι H (upd H a u) := by
  obtain ⟨u0, hu0, c0⟩ := r.has hn
  exact Keep.put (List.mem_of_getElem? hn) ⟨u0, hu0, c0⟩
end

/-! ### locals -/
structure Re (F : Fx) (ι : List Addr) (H : Hp) (env : Env) (σ : L2.St) : Prop where
  len : env.length = σ.length
  slot : ∀ (i : Nat) (d : D), env[i]? = some (some d) → ∃ v, σ[i]? = some (some v) ∧ RV F ι H d v
section
variable {F : Fx} {ι ι' : List Addr} {H H' : Hp} {env : Env} {σ : L2.St}
theorem Re.mono (p : ι <+: ι') (k : Keep ι ι' H H') (r : Re F ι H env σ) : Re F ι' H' env σ :=
  ⟨r.len, fun i d h => by obtain ⟨v, h1, h2⟩ := r.slot i d h; exact ⟨v, h1, h2.mono p k⟩⟩
theorem Re.set (r : Re F ι H env σ) (i : Nat) {d : D} {v : V} (h : RV F ι H d v) : Re F ι H (env.set i (some d)) (σ.set i (some v)) := by
  refine ⟨by rw [List.length_set, List.length_set]; exact r.len, fun j d' e => ?_⟩
  by_cases hj : j = i
  · subst hj
    have hl : j < env.length := by
      have := (List.getElem?_eq_some_iff.mp e).1
      rwa [List.length_set] at this
    rw [List.getElem?_set_self hl] at e
    cases e
    exact ⟨v, List.getElem?_set_self (by rw [← r.len]; exact hl), h⟩
  · rw [List.getElem?_set_ne (fun z => hj z.symm)] at e
    obtain ⟨w, h1, h2⟩ := r.slot j d' e
    exact ⟨w, by rw [List.getElem?_set_ne (fun z => hj z.symm)]; exact h1, h2⟩
theorem Re.wipe (r : Re F ι H env σ) : ∀ vs : List Nat, Re F ι H (wipeE env vs) (L2.wipe σ vs)
  | [] => r
  | v :: vs => by
    have ih := Re.wipe r vs
    refine ⟨by unfold wipeE L2.wipe; rw [List.length_set, List.length_set]; exact ih.len, fun j d' e => ?_⟩
    unfold wipeE at e
    unfold L2.wipe
    by_cases hj : j = v
    · subst hj
      have hl : j < (wipeE env vs).length := by
        have := (List.getElem?_eq_some_iff.mp e).1
        rwa [List.length_set] at this
      rw [List.getElem?_set_self hl] at e
      cases e
    · rw [List.getElem?_set_ne (fun z => hj z.symm)] at e
      obtain ⟨w, h1, h2⟩ := ih.slot j d' e
      exact ⟨w, by rw [List.getElem?_set_ne (fun z => hj z.symm)]; exact h1, h2⟩
end

/-! ### what is wanted -/
/-- the exception's own dict -/
def XF (F : Fx) (ι : List Addr) (H : Hp) : Fs → Option Addr → Prop
  | [], _ => True
  | [(f, d)], dx => ∃ b v, dx = some b ∧ H b = some (.xd [(Str.ofString f, v)]) ∧ RV F ι H d v
  | _, _ => False
def Post {α β : Type} (F : Fx) (RA : List Addr → Hp → α → β → Prop) (Q : β → Hp → Prop) (W : XK) (ι : List Addr) (H : Hp) : R α → Prop
  | .ok a st => ∀ ι' H' b, ι <+: ι' → Keep ι ι' H H' → Rs F ι' st H' → RA ι' H' a b → Q b H'
  | .exc c fs st => ∀ ι' H' C dx, ι <+: ι' → Keep ι ι' H H' → Rs F ι' st H' → F.mg (Str.ofString c) = some (.ref C) → XF F ι' H' fs dx → W (.ref C) dx H'
  | .no => False
section
variable {F : Fx} {α β γ δ : Type} {RA : List Addr → Hp → α → β → Prop} {RB : List Addr → Hp → γ → δ → Prop} {Q Q' : β → Hp → Prop} {P : δ → Hp → Prop} {W : XK} {ι ι' : List Addr} {H H' : Hp} {r : R α} {k : α → Sto → R γ}
theorem Post.mono (h : Post F RA Q W ι H r) (p : ι <+: ι') (kp : Keep ι ι' H H') : Post F RA Q W ι' H' r := by
  cases r with
  | ok a st => exact fun i h' b q k' => h i h' b (p.trans q) (kp.trans k')
  | exc c fs st => exact fun i h' C dx q k' => h i h' C dx (p.trans q) (kp.trans k')
  | no => exact h
theorem Post.bind (h : Post F RB P W ι H (r.bind k)) :
    Post F RA (fun b H1 => ∃ ι1 st1 a, ι <+: ι1 ∧ Keep ι ι1 H H1 ∧ Rs F ι1 st1 H1 ∧ RA ι1 H1 a b ∧ Post F RB P W ι1 H1 (k a st1)) W ι H r := by
  cases r with
  | ok a st => exact fun i h' b q k' rs ra => ⟨i, st, a, q, k', rs, ra, Post.mono h q k'⟩
  | exc c fs st => exact h
  | no => exact h
theorem Post.imp (h : Post F RA Q W ι H r) (f : ∀ b H', Q b H' → Q' b H') : Post F RA Q' W ι H r := by
  cases r with
  | ok a st => exact fun i h' b q k' rs ra => f _ _ (h i h' b q k' rs ra)
  | exc c fs st => exact h
  | no => exact h
end
theorem Post.calm {F : Fx} {α β : Type} {RA : List Addr → Hp → α → β → Prop} {Q : β → Hp → Prop} {W W' : XK} {ι : List Addr} {H : Hp} {r : R α} (h : Post F RA Q W ι H r.calm) : Post F RA Q W' ι H r := by
  cases r with
  | ok a st => exact h
  | exc c fs st => exact h.elim
  | no => exact h
/-- an expression's reading by the evaluator -/
def tE (F : Fx) (W : L2.WX) (m : Env → Sto → R D) : TE := fun σ H Q => ∃ ι st env, Rs F ι st H ∧ Re F ι H env σ ∧ Post F (RV F) Q (fun c d H' => W c d σ H') ι H (m env st)
def tT (F : Fx) (W : L2.WX) (m : Env → Sto → R D) : TT := fun σ H Q => ∃ ι st env, Rs F ι st H ∧ Re F ι H env σ ∧ Post F (RV F) (fun v H' => ∃ b, v = .bl b ∧ Q b H') (fun c d H' => W c d σ H') ι H (m env st)
def tL (F : Fx) (W : L2.WX) (m : Env → Sto → R (List D)) : TA := fun σ H Q => ∃ ι st env, Rs F ι st H ∧ Re F ι H env σ ∧ Post F (RVs F) Q (fun c d H' => W c d σ H') ι H (m env st)
/-- two values, by the evaluator -/
def r2 (F : Fx) (W : XK) (f : D → D → Sto → R D) : R2 := fun x y H Q => ∃ ι st d e, Rs F ι st H ∧ RV F ι H d x ∧ RV F ι H e y ∧ Post F (RV F) Q W ι H (f d e st)
def r1 (F : Fx) (W : XK) (f : D → Sto → R D) : V → Hp → VK → Prop := fun x H Q => ∃ ι st d, Rs F ι st H ∧ RV F ι H d x ∧ Post F (RV F) Q W ι H (f d st)
def rL (F : Fx) (W : XK) (f : List D → Sto → R D) : List V → Hp → VK → Prop := fun xs H Q => ∃ ι st ds, Rs F ι st H ∧ RVs F ι H ds xs ∧ Post F (RV F) Q W ι H (f ds st)
def rM (F : Fx) (W : XK) (f : D → List D → Sto → R D) : V → List V → Hp → VK → Prop := fun x xs H Q => ∃ ι st d ds, Rs F ι st H ∧ RV F ι H d x ∧ RVs F ι H ds xs ∧ Post F (RV F) Q W ι H (f d ds st)
section
variable {X : Cx}
theorem PE.imp {e : Expr} {t t' : TE} (h : PE X e t) (f : ∀ σ H Q, t' σ H Q → t σ H Q) : PE X e t' := ⟨fun pins s σ H Q I q => h.run pins s σ H Q I (f _ _ _ q)⟩
theorem PT.imp {e : Expr} {t t' : TT} (h : PT X e t) (f : ∀ σ H Q, t' σ H Q → t σ H Q) : PT X e t' := ⟨fun pins s σ H Q I q => h.run pins s σ H Q I (f _ _ _ q)⟩
theorem PA.imp {e : List Expr} {t t' : TA} (h : PA X e t) (f : ∀ σ H Q, t' σ H Q → t σ H Q) : PA X e t' := ⟨fun pos pins s σ H Q I q => h.run pos pins s σ H Q I (f _ _ _ q)⟩
theorem PS.imp {e : Stmt} {t t' : TS} (h : PS X e t) (f : ∀ D σ H, t' D σ H → t D σ H) : PS X e t' := ⟨fun pins s σ H D I q => h.run pins s σ H D I (f _ _ _ q)⟩
theorem PSs.imp {e : List Stmt} {t t' : TS} (h : PSs X e t) (f : ∀ D σ H, t' D σ H → t D σ H) : PSs X e t' := ⟨fun pins s σ H D I q => h.run pins s σ H D I (f _ _ _ q)⟩
theorem OpR.imp {f : Value → Value → Sem Value} {r r' : R2} (h : OpR X f r) (g : ∀ x y H Q, r' x y H Q → r x y H Q) : OpR X f r' := fun pins s σ H x y v u Q I rx ry q => h pins s σ H x y v u Q I rx ry (g _ _ _ _ q)
theorem PE.ex {ι : Type} {e : Expr} {t : ι → TE} (h : ∀ i, PE X e (t i)) : PE X e (fun σ H Q => ∃ i, t i σ H Q) := ⟨fun pins s σ H Q I ⟨i, q⟩ => (h i).run pins s σ H Q I q⟩
theorem PE.or {e : Expr} {t t' : TE} (h : PE X e t) (h' : PE X e t') : PE X e (fun σ H Q => t σ H Q ∨ t' σ H Q) := ⟨fun pins s σ H Q I q => q.elim (h.run pins s σ H Q I) (h'.run pins s σ H Q I)⟩
end
end Mi

set_option linter.all false
set_option maxRecDepth 100000
/-! M3: operators on values. -/
namespace Mi
open PySem PySem.Spec L2
open PyProof.Rows hiding St
abbrev fx (X : Cx) (fld : String → List String) : Fx := ⟨X.K, X.mg, fld⟩
section
variable {X : Cx} {W : XK} {fld : String → List String}
theorem pre_refl {α : Type} (l : List α) : l <+: l := List.prefix_refl l
/-- a lstOf that is told stands as a list -/
theorem lst_of {F : Fx} {ι : List Addr} {st : Sto} {H : Hp} {d : D} {v : V} {xs : List D} (rs : Rs F ι st H) (r : RV F ι H d v) (h : lstOf st d = some xs) :
    ∃ a vs, v = .ref a ∧ LS F.K H a vs ∧ RVs F ι H xs vs ∧ xs.length ≤ sizeLine := by
  cases r with
  | cl h1 h2 h3 => simp only [lstOf, Option.some.injEq] at h; subst h; exact ⟨_, _, rfl, .inr h1, h2, h3⟩
  | @ref n a e =>
    simp only [lstOf] at h
    split at h
    · rename_i ys hs
      simp only [Option.some.injEq] at h
      subst h
      obtain ⟨vs, h1, h2, h3⟩ := rs.at_ e hs
      exact ⟨_, _, rfl, .inl h1, h2, h3⟩
    · cases h
  | _ => simp [lstOf] at h
theorem seq_of {F : Fx} {ι : List Addr} {st : Sto} {H : Hp} {d : D} {v : V} {xs : List D} (rs : Rs F ι st H) (r : RV F ι H d v) (h : seqOf st d = some xs) :
    ∃ a vs, v = .ref a ∧ (LS F.K H a vs ∨ SqT F.K H a vs) ∧ RVs F ι H xs vs ∧ xs.length ≤ sizeLine := by
  have c : d = .tup xs ∨ lstOf st d = some xs := by cases d <;> simp_all [seqOf]
  rcases c with rfl | c
  · cases r with
    | tup h1 h2 h3 => exact ⟨_, _, rfl, .inr h1, h2, h3⟩
  · obtain ⟨a, vs, e, q⟩ := lst_of rs r c
    exact ⟨a, vs, e, .inl q.1, q.2⟩
theorem tS_append (x y : List Nat) : tS (x ++ y) = tS x ++ tS y := by
  show (⟨(x ++ y).toArray⟩ : Str) = ⟨x.toArray ++ y.toArray⟩
  simp
theorem tS_length (x : List Nat) : (tS x).length = x.length := by
  show x.toArray.size = _
  simp
/-- the ends -/
theorem Post.here {F : Fx} {Q : VK} {ι : List Addr} {st : Sto} {H : Hp} {d : D} {v : V} (h : Post F (RV F) Q W ι H (.ok d st)) (rs : Rs F ι st H) (r : RV F ι H d v) : Q v H :=
  h ι H v (pre_refl ι) (Keep.refl H) rs r
/-- a new list as the answer -/
theorem Post.lst {F : Fx} {Q : VK} {ι : List Addr} {st : Sto} {H : Hp} {xs : List D} {vs : List V} (h : Post F (RV F) Q W ι H (newL xs st)) (rs : Rs F ι st H) (r : RVs F ι H xs vs) {p : Addr} (hp : H p = none) : Q (.ref p) (upd H p (.lst vs)) := by
  unfold newL at h
  split at h
  · rename_i hl
    have k : Keep ι (ι ++ [p]) H (upd H p (.lst vs)) := Keep.cell hp
    exact h (ι ++ [p]) _ _ (List.prefix_append _ _) k (rs.new hp ⟨vs, upd_same, r.mono (List.prefix_append _ _) k, hl⟩) (.ref (by rw [List.getElem?_append_right (by rw [rs.len]; omega), rs.len]; simp))
  · exact h.elim
theorem newL_ok {F : Fx} {Q : VK} {ι : List Addr} {st : Sto} {H : Hp} {xs : List D} (h : Post F (RV F) Q W ι H (newL xs st)) : xs.length ≤ sizeLine := by
  unfold newL at h
  split at h
  · assumption
  · exact h.elim
/-- a new tuple as the answer -/
theorem Post.tupl {F : Fx} {Q : VK} {ι : List Addr} {st : Sto} {H : Hp} {xs : List D} {vs : List V} (h : Post F (RV F) Q W ι H (.ok (.tup xs) st)) (rs : Rs F ι st H) (r : RVs F ι H xs vs) (hl : xs.length ≤ sizeLine) {p : Addr} (hp : H p = none) : Q (.ref p) (upd H p (.tup vs)) := by
  have k : Keep ι ι H (upd H p (.tup vs)) := Keep.side hp
  exact h ι _ _ (pre_refl _) k (rs.tup hp) (.tup (SqT.of upd_same) (r.mono (pre_refl _) k) hl)

theorem op_catL : OpR X (binaryOp .Add) (fun x y H Q => ∃ l b xs zs, x = .ref l ∧ y = .ref b ∧ LS X.K H l xs ∧ LS X.K H b zs ∧ xs.length + zs.length ≤ sizeLine ∧ ∀ p, H p = none → Q (.ref p) (upd H p (.lst (xs ++ zs)))) := by
  rintro pins s σ H x y v u Q I rx ry ⟨l, b, xs, zs, rfl, rfl, h1, h2, hz, q⟩
  cases rx
  cases ry
  obtain ⟨_, i1, n1, d1, s1, r1, e1, o1⟩ := h1.exact I
  obtain ⟨_, i2, n2, d2, s2, r2, e2, o2⟩ := h2.exact I
  refine concat_meets ⟨_, o1, rfl⟩ ⟨_, o2, rfl⟩ noFill_list_add seq_list_add PySem.F.slot_list_add PySem.F.entry_list_add (PySem.F.args_list_add_2 _ _) (list_addW l b i1.toArray i2.toArray n1 n2 d1 d2 s1 s2 (by simp only [List.size_toArray]; omega)) ⟨o1, o2, ?_⟩
  rw [show i1.toArray ++ i2.toArray = (i1 ++ i2).toArray by simp]
  exact ⟨.ref _, _, I.lnew (t' := s.toks) (r1.append r2) (by rw [List.length_append]; omega), rfl, q _ I.fresh⟩
theorem bin_add : OpR X (binaryOp .Add) (r2 (fx X fld) W (binD .Add)) := by
  rintro pins s σ H x y v u Q I rx ry ⟨ι, st, d, e, rs, rd, re, p⟩
  have lists : ∀ xs ys, lstOf st d = some xs → lstOf st e = some ys → Post (fx X fld) (RV (fx X fld)) Q W ι H (newL (xs ++ ys) st) → wpAny (model X.prog X.w) X.A (binaryOp .Add v u) (EP X pins σ Q) X.xe s := by
    intro xs ys h1 h2 p
    obtain ⟨a, vs, rfl, l1, q1, z1⟩ := lst_of rs rd h1
    obtain ⟨b, ws, rfl, l2, q2, z2⟩ := lst_of rs re h2
    have hz := newL_ok p
    rw [List.length_append, q1.length, q2.length] at hz
    exact op_catL pins s σ H _ _ v u Q I rx ry ⟨a, b, vs, ws, rfl, rfl, l1, l2, hz, fun c hc => p.lst rs (q1.append q2) hc⟩
  unfold binD at p
  split at p <;> try (first | contradiction | exact p.elim)
  · have := rd.int_inv; have := re.int_inv; subst_vars
    exact op_add pins s σ H _ _ v u Q I rx ry ⟨_, _, rfl, rfl, p.here rs (.int _)⟩
  · obtain ⟨rfl, o1⟩ := rd.str_inv
    obtain ⟨rfl, o2⟩ := re.str_inv
    unfold okS at p
    split at p
    · rename_i hz
      have hz' := hz
      rw [List.length_append] at hz'
      refine op_add_str pins s σ H _ _ v u Q I rx ry ⟨_, _, rfl, rfl, by rw [tS_length, tS_length]; exact hz', ?_⟩
      rw [← tS_append]
      refine p.here rs (.str _ ⟨hz, fun c hc => ?_⟩)
      rcases List.mem_append.mp hc with hc | hc
      · exact o1.2 c hc
      · exact o2.2 c hc
    · exact p.elim
  · cases rd with
    | tup t1 q1 z1 => cases re with
      | tup t2 q2 z2 =>
        split at p
        · rename_i hz
          have hz' := hz
          rw [q1.length, q2.length] at hz'
          refine op_catA pins s σ H _ _ v u Q I rx ry ⟨_, _, _, _, rfl, rfl, t1, t2, hz', fun e => ?_, fun _ e => ?_, fun _ _ c hc => ?_⟩
          · subst e
            cases q1
            exact p.here rs (.tup t2 q2 z2)
          · subst e
            cases q2
            rw [List.append_nil] at p
            exact p.here rs (.tup t1 q1 z1)
          · exact p.tupl rs (q1.append q2) (by rw [List.length_append]; exact hz) hc
        · exact p.elim
  · split at p
    · exact lists _ _ (by assumption) (by assumption) p
    · exact p.elim
theorem bits_le (x : Int) : Builtin.Int.intBits x ≤ x.natAbs.log2 + 1 := by
  unfold Builtin.Int.intBits
  split <;> omega
theorem mulOk_ok {i j : Int} (h : mulOk i j = true) : IntMulOk i j := by
  have h0 : i.natAbs.log2 + j.natAbs.log2 < 100000000 := of_decide_eq_true h
  have b1 := bits_le i
  have b2 := bits_le j
  have e : bitsLine = 134217728 := by decide
  unfold IntMulOk
  intro z
  have z2 := (Bool.and_eq_true_iff.mp z).2
  unfold Builtin.Int.intTooBig at z2
  have := of_decide_eq_true z2
  rw [e] at this
  omega
theorem bin_sub : OpR X (binaryOp .Sub) (r2 (fx X fld) W (binD .Sub)) := by
  rintro pins s σ H x y v u Q I rx ry ⟨ι, st, d, e, rs, rd, re, p⟩
  unfold binD at p
  split at p <;> try (first | contradiction | exact p.elim)
  have := rd.int_inv; have := re.int_inv; subst_vars
  exact op_sub pins s σ H _ _ v u Q I rx ry ⟨_, _, rfl, rfl, p.here rs (.int _)⟩
theorem bin_mul : OpR X (binaryOp .Mult) (r2 (fx X fld) W (binD .Mult)) := by
  rintro pins s σ H x y v u Q I rx ry ⟨ι, st, d, e, rs, rd, re, p⟩
  unfold binD at p
  split at p <;> try (first | contradiction | exact p.elim)
  · have := rd.int_inv; have := re.int_inv; subst_vars
    split at p
    · rename_i h
      have R : OpR X (binaryOp .Mult) (rI (fun i j => mulOk i j = true) fun i j => .int (i * j)) := opI fun _ _ _ _ _ _ _ hc q => PyProof.Rows.mul_int q (mulOk_ok hc)
      exact R pins s σ H _ _ v u Q I rx ry ⟨_, _, rfl, rfl, h, p.here rs (.int _)⟩
    · exact p.elim
  · have := re.int_inv; subst_vars
    split at p
    · rename_i xs hs
      split at p
      · rename_i hz
        cases rd with
        | ref e =>
          obtain ⟨vs, h1, q1, z1⟩ := rs.at_ e hs
          have hz1 := hz.1
          rw [q1.length] at hz1
          exact op_rep pins s σ H _ _ v u Q I rx ry ⟨_, _, _, rfl, rfl, h1, hz.2.1, hz.2.2, hz1, fun c hc => p.lst rs (q1.replicate _) hc⟩
      · exact p.elim
    · exact p.elim
theorem bin_fdiv : OpR X (binaryOp .FloorDiv) (r2 (fx X fld) W (binD .FloorDiv)) := by
  rintro pins s σ H x y v u Q I rx ry ⟨ι, st, d, e, rs, rd, re, p⟩
  unfold binD at p
  split at p <;> try (first | contradiction | exact p.elim)
  have := rd.int_inv; have := re.int_inv; subst_vars
  split at p
  · rename_i h
    exact op_fdivW pins s σ H _ _ v u Q I rx ry ⟨_, _, rfl, rfl, h, p.here rs (.int _)⟩
  · exact p.elim
theorem bin_mod : OpR X (binaryOp .Mod) (r2 (fx X fld) W (binD .Mod)) := by
  rintro pins s σ H x y v u Q I rx ry ⟨ι, st, d, e, rs, rd, re, p⟩
  unfold binD at p
  split at p <;> try (first | contradiction | exact p.elim)
  have := rd.int_inv; have := re.int_inv; subst_vars
  split at p
  · rename_i h
    exact op_mod pins s σ H _ _ v u Q I rx ry ⟨_, _, rfl, rfl, h, p.here rs (.int _)⟩
  · exact p.elim
theorem bin_pow : OpR X (binaryOp .Pow) (r2 (fx X fld) W (binD .Pow)) := by
  rintro pins s σ H x y v u Q I rx ry ⟨ι, st, d, e, rs, rd, re, p⟩
  unfold binD at p
  split at p <;> try (first | contradiction | exact p.elim)
  have := rd.int_inv; have := re.int_inv; subst_vars
  split at p
  · rename_i h
    have R : OpR X (binaryOp .Pow) (rI (fun i j => powOk i j = true) fun i j => .int (i ^ j.toNat)) := opI fun i j _ _ _ _ _ hc q => by
      have h1 := Bool.and_eq_true_iff.mp hc
      have h2 : 0 ≤ j := of_decide_eq_true h1.1
      have h3 : ((i.natAbs.log2 : Int) + 1) * j ≤ 100000000 := of_decide_eq_true h1.2
      have b1 : (Builtin.Int.intBits i : Int) ≤ (i.natAbs.log2 : Int) + 1 := by have := bits_le i; omega
      have h4 := Int.mul_le_mul_of_nonneg_right b1 h2
      exact PyProof.Rows.pow_int h2 (by omega) q
    exact R pins s σ H _ _ v u Q I rx ry ⟨_, _, rfl, rfl, h, p.here rs (.int _)⟩
  · exact p.elim
theorem bin_ok (op : Operator) : OpR X (binaryOp op) (r2 (fx X fld) W (binD op)) := by
  cases op with
  | Add => exact bin_add
  | Sub => exact bin_sub
  | Mult => exact bin_mul
  | FloorDiv => exact bin_fdiv
  | Mod => exact bin_mod
  | Pow => exact bin_pow
  | _ =>
    rintro pins s σ H x y v u Q I rx ry ⟨ι, st, d, e, rs, rd, re, p⟩
    unfold binD at p
    split at p <;> first | contradiction | exact p.elim
end
end Mi

set_option linter.all false
set_option maxRecDepth 100000
/-! M4: comparisons. -/
namespace Mi
open PySem PySem.Spec L2
open PyProof.Rows hiding St
section
variable {F : Fx} {ι : List Addr} {st : Sto} {H : Hp}
theorem toPy_dp (rs : Rs F ι st H) : ∀ (n : Nat) {d : D} {v : V} {p : PyData}, RV F ι H d v → toPy st n d = some p → Dp F.K H v p ∧ p.canLay0 = true ∧ p.depth ≤ n := by
  intro n
  induction n with
  | zero => intro d v p r h; simp [toPy] at h
  | succ n ih =>
    have all : ∀ {ds : List D} {vs : List V} {ps : List PyData}, RVs F ι H ds vs → mapO (toPy st n) ds = some ps → DpAll F.K H vs ps ∧ PyData.canLayAll0 ps = true ∧ PyData.depthAll ps ≤ n := by
      intro ds
      induction ds with
      | nil => intro vs ps r h; cases r; simp only [mapO, Option.some.injEq] at h; subst h; exact ⟨.nil, by simp [PyData.canLayAll0], by simp [PyData.depthAll]⟩
      | cons d ds ih2 =>
        intro vs ps r h
        cases r with
        | cons r1 r2 =>
          simp only [mapO] at h
          split at h
          · rename_i p ps' h1 h2
            simp only [Option.some.injEq] at h
            subst h
            obtain ⟨a1, a2, a3⟩ := ih r1 h1
            obtain ⟨b1, b2, b3⟩ := ih2 r2 h2
            exact ⟨.cons a1 b1, by simp [PyData.canLayAll0, a2, b2], by simp only [PyData.depthAll]; omega⟩
          · cases h
    intro d v p r h
    cases r with
    | non => simp only [toPy, Option.some.injEq] at h; subst h; exact ⟨.non, by simp [PyData.canLay0], by simp [PyData.depth]⟩
    | bl b => simp only [toPy, Option.some.injEq] at h; subst h; exact ⟨.bl b, by simp [PyData.canLay0], by simp [PyData.depth]⟩
    | int b => simp only [toPy, Option.some.injEq] at h; subst h; exact ⟨.int b, by simp [PyData.canLay0], by simp [PyData.depth]⟩
    | str x o =>
      simp only [toPy, Option.some.injEq] at h; subst h
      refine ⟨.str _, ?_, by simp [PyData.depth]⟩
      simp only [PyData.canLay0, PyData.strOk, List.all_toArray, List.all_eq_true, decide_eq_true_eq]
      exact fun c hc => by have := o.2 c hc; omega
    | tup t rr z =>
      simp only [toPy, Option.map_eq_some_iff] at h
      obtain ⟨ps, h1, rfl⟩ := h
      obtain ⟨a1, a2, a3⟩ := all rr h1
      exact ⟨.tup t a1, by simpa [PyData.canLay0] using a2, by simp only [PyData.depth]; omega⟩
    | cl t rr z =>
      simp only [toPy, Option.map_eq_some_iff] at h
      obtain ⟨ps, h1, rfl⟩ := h
      obtain ⟨a1, a2, a3⟩ := all rr h1
      exact ⟨.lst t.sq a1, by simpa [PyData.canLay0] using a2, by simp only [PyData.depth]; omega⟩
    | @ref m a e =>
      simp only [toPy] at h
      split at h
      · rename_i xs hs
        simp only [Option.map_eq_some_iff] at h
        obtain ⟨ps, h1, rfl⟩ := h
        obtain ⟨vs, q1, q2, q3⟩ := rs.at_ e hs
        obtain ⟨a1, a2, a3⟩ := all q2 h1
        exact ⟨.lst (SqL.of q1) a1, by simpa [PyData.canLay0] using a2, by simp only [PyData.depth]; omega⟩
      · cases h
    | fn e => simp [toPy] at h
    | ty n => simp [toPy] at h
theorem toPys_dp (rs : Rs F ι st H) (n : Nat) : ∀ {ds : List D} {vs : List V} {ps : List PyData}, RVs F ι H ds vs → mapO (toPy st n) ds = some ps → DpAll F.K H vs ps ∧ PyData.canLayAll0 ps = true ∧ PyData.depthAll ps ≤ n := by
  intro ds
  induction ds with
  | nil => intro vs ps r h; cases r; simp only [mapO, Option.some.injEq] at h; subst h; exact ⟨.nil, by simp [PyData.canLayAll0], by simp [PyData.depthAll]⟩
  | cons d ds ih2 =>
    intro vs ps r h
    cases r with
    | cons r1 r2 =>
      simp only [mapO] at h
      split at h
      · rename_i p ps' h1 h2
        simp only [Option.some.injEq] at h
        subst h
        obtain ⟨a1, a2, a3⟩ := toPy_dp rs n r1 h1
        obtain ⟨b1, b2, b3⟩ := ih2 r2 h2
        exact ⟨.cons a1 b1, by simp [PyData.canLayAll0, a2, b2], by simp only [PyData.depthAll]; omega⟩
      · cases h
theorem shaped_of {p : PyData} (h : p.canLay0 = true) (hd : p.depth ≤ 64) : SeqAt.shaped p = true := by
  unfold SeqAt.shaped
  rw [h, decide_eq_true hd]
  rfl
end
section
variable {X : Cx} {W : XK} {fld : String → List String}
theorem okOB_here {F : Fx} {Q : VK} {ι : List Addr} {st : Sto} {H : Hp} {o : Option Bool} (h : Post F (RV F) Q W ι H (okOB o st)) (rs : Rs F ι st H) : ∃ b, o = some b ∧ Q (.bl b) H := by
  unfold okOB at h
  split at h
  · exact ⟨_, rfl, h.here rs (.bl _)⟩
  · exact h.elim
theorem eq_dp {F : Fx} {ι : List Addr} {st : Sto} {H : Hp} {d e : D} {x y : V} {b : Bool} (rs : Rs F ι st H) (rd : RV F ι H d x) (re : RV F ι H e y) (h : eqD st d e = some b) :
    ∃ p q, Dp F.K H x p ∧ Dp F.K H y q ∧ SeqAt.shaped p = true ∧ SeqAt.shaped q = true ∧ PyData.eqv p q = b := by
  unfold eqD at h
  split at h
  · rename_i p q h1 h2
    obtain ⟨a1, a2, a3⟩ := toPy_dp rs 60 rd h1
    obtain ⟨b1, b2, b3⟩ := toPy_dp rs 60 re h2
    exact ⟨p, q, a1, b1, shaped_of a2 (by omega), shaped_of b2 (by omega), Option.some.inj h⟩
  · cases h
theorem cmp_eq (hu : X.A.units + 64 < cLine) : OpR X (compareOp .Eq) (r2 (fx X fld) W (cmpD .Eq)) := by
  rintro pins s σ H x y v u Q I rx ry ⟨ι, st, d, e, rs, rd, re, p⟩
  obtain ⟨b, hb, q⟩ := okOB_here p rs
  obtain ⟨p1, q1, a1, a2, a3, a4, rfl⟩ := eq_dp rs rd re hb
  exact op_eqD hu pins s σ H _ _ v u Q I rx ry ⟨p1, q1, a1, a2, a3, a4, q⟩
theorem cmp_ne (hu : X.A.units + 64 < cLine) : OpR X (compareOp .NotEq) (r2 (fx X fld) W (cmpD .NotEq)) := by
  rintro pins s σ H x y v u Q I rx ry ⟨ι, st, d, e, rs, rd, re, p⟩
  obtain ⟨b, hb, q⟩ := okOB_here p rs
  obtain ⟨c, hc, rfl⟩ := Option.map_eq_some_iff.mp hb
  obtain ⟨p1, q1, a1, a2, a3, a4, rfl⟩ := eq_dp rs rd re hc
  exact op_neD hu pins s σ H _ _ v u Q I rx ry ⟨p1, q1, a1, a2, a3, a4, q⟩
theorem isNon_dec {F : Fx} {ι : List Addr} {H : Hp} {d : D} {x : V} (r : RV F ι H d x) : isNon d = decide (x = .non) := by
  cases r <;> simp [isNon]
theorem isD_non {F : Fx} {ι : List Addr} {H : Hp} {d e : D} {x y : V} {b : Bool} (rd : RV F ι H d x) (re : RV F ι H e y) (h : isD d e = some b) : y = .non ∧ b = decide (x = .non) := by
  unfold isD at h
  split at h
  · cases re
    exact ⟨rfl, by rw [← isNon_dec rd]; exact (Option.some.inj h).symm⟩
  · cases h
theorem cmp_is : OpR X (compareOp .Is) (r2 (fx X fld) W (cmpD .Is)) := by
  rintro pins s σ H x y v u Q I rx ry ⟨ι, st, d, e, rs, rd, re, p⟩
  obtain ⟨b, hb, q⟩ := okOB_here p rs
  obtain ⟨rfl, rfl⟩ := isD_non rd re hb
  exact op_isN pins s σ H _ _ v u Q I rx ry ⟨rfl, q⟩
theorem cmp_isnt : OpR X (compareOp .IsNot) (r2 (fx X fld) W (cmpD .IsNot)) := by
  rintro pins s σ H x y v u Q I rx ry ⟨ι, st, d, e, rs, rd, re, p⟩
  obtain ⟨b, hb, q⟩ := okOB_here p rs
  obtain ⟨c, hc, rfl⟩ := Option.map_eq_some_iff.mp hb
  obtain ⟨rfl, rfl⟩ := isD_non rd re hc
  exact op_notN pins s σ H _ _ v u Q I rx ry ⟨rfl, q⟩
/-! the order of texts -/
theorem ltS_iff : ∀ x y : List Nat, ltS x y = true ↔ x < y
  | [], [] => by simp [ltS]
  | [], _ :: _ => by simp [ltS]
  | _ :: _, [] => by simp [ltS]
  | a :: x, b :: y => by
    rw [List.cons_lt_cons_iff, ← ltS_iff x y]
    simp [ltS]
theorem ltS_dec (x y : List Nat) : ltS x y = decide ((tS x).cps.toList < (tS y).cps.toList) := by
  rw [Bool.eq_iff_iff, ltS_iff, decide_eq_true_iff]
  exact Iff.rfl
theorem okB_here {F : Fx} {Q : VK} {ι : List Addr} {st : Sto} {H : Hp} {b : Bool} (h : Post F (RV F) Q W ι H (okB b st)) (rs : Rs F ι st H) : Q (.bl b) H := h.here rs (.bl _)
theorem cmp_lt : OpR X (compareOp .Lt) (r2 (fx X fld) W (cmpD .Lt)) := by
  rintro pins s σ H x y v u Q I rx ry ⟨ι, st, d, e, rs, rd, re, p⟩
  simp only [cmpD] at p
  split at p
  · have := rd.int_inv; have := re.int_inv; subst_vars
    exact op_lt pins s σ H _ _ v u Q I rx ry ⟨_, _, rfl, rfl, okB_here p rs⟩
  · obtain ⟨rfl, _⟩ := rd.str_inv; obtain ⟨rfl, _⟩ := re.str_inv
    refine op_lt_str pins s σ H _ _ v u Q I rx ry ⟨_, _, rfl, rfl, ?_⟩
    rw [← ltS_dec]
    exact okB_here p rs
  · exact p.elim
theorem cmp_le : OpR X (compareOp .LtE) (r2 (fx X fld) W (cmpD .LtE)) := by
  rintro pins s σ H x y v u Q I rx ry ⟨ι, st, d, e, rs, rd, re, p⟩
  simp only [cmpD] at p
  split at p
  · have := rd.int_inv; have := re.int_inv; subst_vars
    exact op_le pins s σ H _ _ v u Q I rx ry ⟨_, _, rfl, rfl, okB_here p rs⟩
  · obtain ⟨rfl, _⟩ := rd.str_inv; obtain ⟨rfl, _⟩ := re.str_inv
    refine op_le_str pins s σ H _ _ v u Q I rx ry ⟨_, _, rfl, rfl, ?_⟩
    rw [← ltS_dec]
    exact okB_here p rs
  · exact p.elim
theorem cmp_gt : OpR X (compareOp .Gt) (r2 (fx X fld) W (cmpD .Gt)) := by
  rintro pins s σ H x y v u Q I rx ry ⟨ι, st, d, e, rs, rd, re, p⟩
  simp only [cmpD] at p
  split at p
  · have := rd.int_inv; have := re.int_inv; subst_vars
    exact op_gt pins s σ H _ _ v u Q I rx ry ⟨_, _, rfl, rfl, okB_here p rs⟩
  · obtain ⟨rfl, _⟩ := rd.str_inv; obtain ⟨rfl, _⟩ := re.str_inv
    refine op_gt_str pins s σ H _ _ v u Q I rx ry ⟨_, _, rfl, rfl, ?_⟩
    rw [← ltS_dec]
    exact okB_here p rs
  · exact p.elim
theorem cmp_ge : OpR X (compareOp .GtE) (r2 (fx X fld) W (cmpD .GtE)) := by
  rintro pins s σ H x y v u Q I rx ry ⟨ι, st, d, e, rs, rd, re, p⟩
  simp only [cmpD] at p
  split at p
  · have := rd.int_inv; have := re.int_inv; subst_vars
    exact op_ge pins s σ H _ _ v u Q I rx ry ⟨_, _, rfl, rfl, okB_here p rs⟩
  · obtain ⟨rfl, _⟩ := rd.str_inv; obtain ⟨rfl, _⟩ := re.str_inv
    refine op_ge_str pins s σ H _ _ v u Q I rx ry ⟨_, _, rfl, rfl, ?_⟩
    rw [← ltS_dec]
    exact okB_here p rs
  · exact p.elim
/-! keys -/
theorem tS_inj {x y : List Nat} (h : tS x = tS y) : x = y := by
  have := congrArg (fun s : Str => s.cps.toList) h
  simpa [tS] using this
theorem RKey.eq {d e : D} {k j : Key} (h : RKey d k) (h' : RKey e j) : keyEq d e = decide (k = j) := by
  cases d <;> first | exact h.elim | skip
  all_goals cases e <;> first | exact h'.elim | skip
  · cases h; cases h'; simp [keyEq]
  · cases h; cases h'.1; simp [keyEq]
  · cases h.1; cases h'; simp [keyEq]
  · cases h.1; cases h'.1
    simp only [keyEq, Sum.inr.injEq]
    exact decide_eq_decide.mpr ⟨fun z => by rw [z], tS_inj⟩
theorem key_of_rv {F : Fx} {ι : List Addr} {H : Hp} {d : D} {v : V} (r : RV F ι H d v) (h : keyOk d = true) : ∃ k, RKey d k ∧ v = kV k := by
  cases r <;> first | (simp [keyOk] at h; done) | skip
  · exact ⟨.inl _, rfl, rfl⟩
  · exact ⟨.inr _, ⟨rfl, by assumption⟩, rfl⟩
theorem rk_get {F : Fx} {ι : List Addr} {H : Hp} {d : D} {k : Key} (hk : RKey d k) : ∀ {kvs : List (D × D)} {ks : List (Key × V)}, RK F ι H kvs ks →
    (∀ e, getK kvs d = some e → ∃ v, valV ks k = some v ∧ RV F ι H e v) ∧ (getK kvs d = none → valV ks k = none)
  | [], _, .nil => ⟨fun _ h => (by simp [getK] at h), fun _ => rfl⟩
  | p :: kvs, q :: ks, .cons h t => by
    have e1 : keyEq p.1 d = decide (q.1 = k) := RKey.eq h.1 hk
    obtain ⟨i1, i2⟩ := rk_get hk t
    by_cases c : q.1 = k
    · have g : getK (p :: kvs) d = some p.2 := by simp [getK, List.find?, e1, c]
      rw [g]
      exact ⟨fun e he => ⟨q.2, valV_pos c, by cases he; exact h.2⟩, fun z => by cases z⟩
    · have g : getK (p :: kvs) d = getK kvs d := by simp [getK, List.find?, e1, c]
      rw [g, valV_neg c]
      exact ⟨i1, i2⟩
theorem rk_isSome {F : Fx} {ι : List Addr} {H : Hp} {d : D} {k : Key} (hk : RKey d k) {kvs : List (D × D)} {ks : List (Key × V)} (r : RK F ι H kvs ks) : (valV ks k).isSome = (getK kvs d).isSome := by
  obtain ⟨h1, h2⟩ := rk_get hk r
  cases e : getK kvs d with
  | none => rw [h2 e]; rfl
  | some z => obtain ⟨v, hv, _⟩ := h1 z e; rw [hv]; rfl
theorem dct_of {F : Fx} {ι : List Addr} {st : Sto} {H : Hp} {d : D} {v : V} {kvs : List (D × D)} (rs : Rs F ι st H) (r : RV F ι H d v) (h : dctOf st d = some kvs) :
    ∃ a ks, v = .ref a ∧ Rd H a (.dK ks) ∧ RK F ι H kvs ks ∧ kvs.length ≤ sizeLine := by
  cases r with
  | @ref n a e =>
    simp only [dctOf] at h
    split at h
    · rename_i ys hs
      simp only [Option.some.injEq] at h
      subst h
      obtain ⟨ks, h1, h2, h3⟩ := rs.at_ e hs
      exact ⟨_, _, rfl, .inl h1, h2, h3⟩
    · rename_i ys hs
      simp only [Option.some.injEq] at h
      subst h
      obtain ⟨o, ks, h1, h2, h3⟩ := rs.at_ e hs
      exact ⟨_, _, rfl, .inr ⟨o, h1⟩, h2, h3⟩
    · cases h
  | _ => simp [dctOf] at h
theorem mem_str {F : Fx} {ι : List Addr} {H : Hp} {y : List Nat} {d : D} {x : V} {st : Sto} {b : Bool} (rd : RV F ι H d x) (h : memD d (.str y) st = some b) : ∃ c, x = .str ⟨#[c]⟩ ∧ b = decide (c ∈ (tS y).cps.toList) := by
  simp only [memD] at h
  split at h
  · rename_i c
    cases rd
    refine ⟨c, rfl, ?_⟩
    rw [← Option.some.inj h]
    exact decide_eq_decide.mpr Iff.rfl
  · cases h
theorem mem_cases {F : Fx} {ι : List Addr} {st : Sto} {H : Hp} {d e : D} {x y : V} {b : Bool} (rs : Rs F ι st H) (rd : RV F ι H d x) (re : RV F ι H e y) (h : memD d e st = some b) :
    (∃ z c, e = .str z ∧ y = .str (tS z) ∧ x = .str ⟨#[c]⟩ ∧ b = decide (c ∈ (tS z).cps.toList)) ∨
    (∃ p ps, Dp F.K H x p ∧ (Dp F.K H y (.list ps) ∨ Dp F.K H y (.tuple ps)) ∧ p.canLay0 = true ∧ PyData.canLayAll0 ps = true ∧ p.depth ≤ 59 ∧ b = ps.any fun z => PyData.eqv z p) ∨
    (∃ a ks k, y = .ref a ∧ x = kV k ∧ Rd H a (.dK ks) ∧ b = (valV ks k).isSome) := by
  by_cases c : ∃ z, e = .str z
  · obtain ⟨z, rfl⟩ := c
    obtain ⟨rfl, _⟩ := re.str_inv
    obtain ⟨c, h1, h2⟩ := mem_str rd h
    exact .inl ⟨z, c, rfl, rfl, h1, h2⟩
  · right
    have h' : (match seqOf st e with
      | some xs => inSeq st d xs
      | none => (match dctOf st e with
        | some kvs => if keyOk d = true then some (getK kvs d).isSome else none
        | none => none)) = some b := by
      cases e <;> first | exact h | exact absurd ⟨_, rfl⟩ c
    split at h'
    · rename_i xs hx
      left
      unfold inSeq at h'
      split at h'
      · rename_i p ps h1 h2
        obtain ⟨a, vs, rfl, hq, hr, hz⟩ := seq_of rs re hx
        obtain ⟨a1, a2, a3⟩ := toPy_dp rs 59 rd h1
        obtain ⟨b1, b2, b3⟩ := toPys_dp rs 59 hr h2
        exact ⟨p, ps, a1, hq.elim (fun q => .inl (.lst q.sq b1)) (fun q => .inr (.tup q b1)), a2, b2, a3, (Option.some.inj h').symm⟩
      · cases h'
    · right
      split at h'
      · rename_i kvs hk
        split at h'
        · rename_i ok
          obtain ⟨a, ks, rfl, h1, h2, h3⟩ := dct_of rs re hk
          obtain ⟨k, h4, rfl⟩ := key_of_rv rd ok
          exact ⟨a, ks, k, rfl, rfl, h1, by rw [rk_isSome h4 h2]; exact (Option.some.inj h').symm⟩
        · cases h'
      · cases h'
theorem cmp_in (hu : X.A.units + 64 < cLine) : OpR X (compareOp .In) (r2 (fx X fld) W (cmpD .In)) := by
  rintro pins s σ H x y v u Q I rx ry ⟨ι, st, d, e, rs, rd, re, p⟩
  obtain ⟨b, hb, q⟩ := okOB_here p rs
  rcases mem_cases rs rd re hb with ⟨z, c, rfl, rfl, rfl, rfl⟩ | ⟨p1, ps, h1, h2, h3, h4, h5, rfl⟩ | ⟨a, ks, k, rfl, rfl, h1, rfl⟩
  · exact op_in_sign pins s σ H _ _ v u Q I rx ry ⟨_, _, rfl, rfl, q⟩
  · obtain ⟨as, r1⟩ := Dp.reads I p1 x v h1 rx
    have room : X.A.units + 1 + min (PyData.depthAll ps) p1.depth < cLine := by have := Nat.min_le_right (PyData.depthAll ps) p1.depth; omega
    rcases h2 with h2 | h2
    · obtain ⟨bs, r2⟩ := Dp.reads I (.list ps) y u h2 ry
      exact SeqAt.in_list_reads r2 r1 h4 h3 room ⟨.bl _, H, I, rfl, q⟩
    · obtain ⟨bs, r2⟩ := Dp.reads I (.tuple ps) y u h2 ry
      exact SeqAt.in_tuple_reads r2 r1 h4 h3 room ⟨.bl _, H, I, rfl, q⟩
  · cases ry
    exact d_in (by omega) I (.inl ⟨ks, k, h1, rfl, rfl⟩) rx fun s' I' => ⟨.bl _, H, I', rfl, q⟩
theorem cmp_notin (hu : X.A.units + 64 < cLine) : OpR X (compareOp .NotIn) (r2 (fx X fld) W (cmpD .NotIn)) := by
  rintro pins s σ H x y v u Q I rx ry ⟨ι, st, d, e, rs, rd, re, p⟩
  obtain ⟨b', hb', q⟩ := okOB_here p rs
  obtain ⟨b, hb, rfl⟩ := Option.map_eq_some_iff.mp hb'
  rcases mem_cases rs rd re hb with ⟨z, c, rfl, rfl, rfl, rfl⟩ | ⟨p1, ps, h1, h2, h3, h4, h5, rfl⟩ | ⟨a, ks, k, rfl, rfl, h1, rfl⟩
  · exact op_notIn_sign pins s σ H _ _ v u Q I rx ry ⟨_, _, rfl, rfl, q⟩
  · obtain ⟨as, r1⟩ := Dp.reads I p1 x v h1 rx
    have room : X.A.units + 1 + min (PyData.depthAll ps) p1.depth < cLine := by have := Nat.min_le_right (PyData.depthAll ps) p1.depth; omega
    rcases h2 with h2 | h2
    · obtain ⟨bs, r2⟩ := Dp.reads I (.list ps) y u h2 ry
      exact SeqAt.notIn_list_reads r2 r1 h4 h3 room ⟨.bl _, H, I, rfl, q⟩
    · obtain ⟨bs, r2⟩ := Dp.reads I (.tuple ps) y u h2 ry
      exact SeqAt.notIn_tuple_reads r2 r1 h4 h3 room ⟨.bl _, H, I, rfl, q⟩
  · cases ry
    exact d_notIn (by omega) I (.inl ⟨ks, k, h1, rfl, rfl⟩) rx fun s' I' => ⟨.bl _, H, I', rfl, q⟩
theorem cmp_ok (hu : X.A.units + 64 < cLine) (o : CmpOp) : OpR X (compareOp o) (r2 (fx X fld) W (cmpD o)) := by
  cases o with
  | Eq => exact cmp_eq hu
  | NotEq => exact cmp_ne hu
  | Lt => exact cmp_lt
  | LtE => exact cmp_le
  | Gt => exact cmp_gt
  | GtE => exact cmp_ge
  | Is => exact cmp_is
  | IsNot => exact cmp_isnt
  | In => exact cmp_in hu
  | NotIn => exact cmp_notin hu
end
end Mi

set_option linter.all false
set_option maxRecDepth 100000
/-! M5: places, slices, fields. -/
namespace Mi
open PySem PySem.Spec L2
open PyProof.Rows hiding St
section
variable {X : Cx} {W : XK} {fld : String → List String}
theorem ixOf_eq (n : Nat) (i : Int) : ixOf n i = ixN n i := rfl
theorem atD_get {F : Fx} {ι : List Addr} {H : Hp} {ds : List D} {vs : List V} {i : Int} {d : D} (r : RVs F ι H ds vs) (h : atD ds i = some d) : ∃ v, atI vs i = some v ∧ RV F ι H d v := by
  unfold atD at h
  rw [r.length] at h
  obtain ⟨j, h1, h2⟩ := Option.bind_eq_some_iff.mp h
  obtain ⟨v, h3, h4⟩ := r.get h2
  exact ⟨v, by unfold atI; rw [← ixOf_eq, h1]; exact h3, h4⟩
theorem sub_ok (hu : X.A.units + 64 < cLine) : IxR X (r2 (fx X fld) W ixD) := by
  rintro value slice pins s σ H x y v u Q I rx ry ⟨ι, st, d, e, rs, rd, re, p⟩ hs
  have c : (∃ z i, d = .str z ∧ e = .int i ∧ ∃ c, atD z i = some c ∧ Post (fx X fld) (RV (fx X fld)) Q W ι H (.ok (.str [c]) st)) ∨
      (∃ xs i q, seqOf st d = some xs ∧ e = .int i ∧ atD xs i = some q ∧ Post (fx X fld) (RV (fx X fld)) Q W ι H (.ok q st)) ∨
      (∃ kvs q, dctOf st d = some kvs ∧ keyOk e = true ∧ getK kvs e = some q ∧ Post (fx X fld) (RV (fx X fld)) Q W ι H (.ok q st)) := by
    unfold ixD at p
    split at p
    · split at p
      · exact .inl ⟨_, _, rfl, rfl, _, by assumption, p⟩
      · exact p.elim
    · split at p
      · split at p
        · exact .inr (.inl ⟨_, _, _, by assumption, rfl, by assumption, p⟩)
        · exact p.elim
      · exact p.elim
      · split at p
        · split at p
          · split at p
            · exact .inr (.inr ⟨_, _, by assumption, by assumption, by assumption, p⟩)
            · exact p.elim
          · exact p.elim
        · exact p.elim
  rcases c with ⟨z, i, rfl, rfl, c, h1, p⟩ | ⟨xs, i, q, h1, rfl, h2, p⟩ | ⟨kvs, q, h1, h2, h3, p⟩
  · obtain ⟨rfl, o⟩ := rd.str_inv
    have := re.int_inv; subst this
    refine ix_str value slice pins s σ H _ _ v u Q I rx ry ⟨tS z, i, c, rfl, rfl, by rw [tS_length]; exact o.1, h1, ?_⟩ hs
    refine p.here rs (.str [c] ⟨by rw [sizeLine_eq]; simp, fun k hk => ?_⟩)
    rw [List.mem_singleton.mp hk]
    unfold atD at h1
    obtain ⟨j, _, h3⟩ := Option.bind_eq_some_iff.mp h1
    exact o.2 c (List.mem_of_getElem? h3)
  · obtain ⟨a, vs, rfl, hq, hr, hz⟩ := seq_of rs rd h1
    have := re.int_inv; subst this
    obtain ⟨w, h3, h4⟩ := atD_get hr h2
    rcases hq with hq | hq
    · exact ix_list value slice pins s σ H _ _ v u Q I rx ry ⟨a, vs, i, w, rfl, rfl, hq.sq, h3, p.here rs h4⟩ hs
    · exact ix_tup value slice pins s σ H _ _ v u Q I rx ry ⟨a, vs, i, w, rfl, rfl, hq, h3, p.here rs h4⟩ hs
  · obtain ⟨a, ks, rfl, k1, k2, k3⟩ := dct_of rs rd h1
    obtain ⟨k, k4, rfl⟩ := key_of_rv re h2
    obtain ⟨w, k5, k6⟩ := (rk_get k4 k2).1 _ h3
    cases rx
    have g : DGet H a (kV k) (some w) := .inl ⟨ks, k, k1, rfl, k5.symm⟩
    exact tail_any (dict_typeIs I g) PySem.F.slot_dict_getitem.lookup (d_getItem (by omega) I g ry fun w' s' I' r' => ⟨w, H, I', r', p.here rs k6⟩) hs
/-- a slice's reading -/
def rS (F : Fx) (W : XK) (f : D → Option Int → Option Int → Sto → R D) : V → Option Int → Option Int → Hp → VK → Prop := fun x lo hi H Q => ∃ ι st d, Rs F ι st H ∧ RV F ι H d x ∧ Post F (RV F) Q W ι H (f d lo hi st)
theorem cut_rv {F : Fx} {ι : List Addr} {H : Hp} {ds : List D} {vs : List V} (r : RVs F ι H ds vs) (lo hi : Option Int) : RVs F ι H (cut ds lo hi) (cutV vs lo hi) := by
  have e : cut ds lo hi = (ds.drop (HT.sIx vs.length 0 lo)).take (HT.sIx vs.length vs.length hi - HT.sIx vs.length 0 lo) := by
    unfold cut
    rw [r.length]
    rfl
  rw [e]
  exact (r.drop _).take _
theorem cut_len {α : Type} (xs : List α) (lo hi : Option Int) : (cut xs lo hi).length ≤ xs.length := by
  unfold cut
  simp only [List.length_take, List.length_drop]
  omega
theorem slice_ok : SlR X (rS (fx X fld) W slD) := by
  rintro pins s σ H x v vl vu lo hi sl Q I rx hs pl pu ⟨ι, st, d, rs, rd, p⟩
  unfold slD at p
  split at p
  · rename_i z
    obtain ⟨rfl, o⟩ := rd.str_inv
    refine sl_str pins s σ H _ v vl vu lo hi sl Q I rx hs pl pu ⟨tS z, rfl, by rw [tS_length]; exact o.1, ?_⟩
    have e : cutS (tS z) lo hi = tS (cut z lo hi) := by
      unfold cutS tS cut
      simp only [List.size_toArray, Str.length, List.extract_toArray]
      rfl
    rw [e]
    refine p.here rs (.str _ ⟨Nat.le_trans (cut_len z lo hi) o.1, fun c hc => o.2 c ?_⟩)
    unfold cut at hc
    exact List.mem_of_mem_drop (List.mem_of_mem_take hc)
  · rename_i xs
    cases rd with
    | tup t r z =>
      refine sl_tupA pins s σ H _ v vl vu lo hi sl Q I rx hs pl pu ⟨_, _, rfl, t, fun h => ?_, fun _ q hq => ?_⟩
      · have e : cut xs lo hi = xs := by
          have h' : sIx xs.length 0 lo = 0 ∧ sIx xs.length xs.length hi = xs.length := by rw [r.length]; exact h
          unfold cut
          rw [h'.1, h'.2]
          simp
        rw [e] at p
        exact p.here rs (.tup t r z)
      · exact p.tupl rs (cut_rv r lo hi) (Nat.le_trans (cut_len _ _ _) z) hq
  · split at p
    · rename_i xs hx
      obtain ⟨a, vs, rfl, l, r, z⟩ := lst_of rs rd hx
      exact sl_list pins s σ H _ v vl vu lo hi sl Q I rx hs pl pu ⟨a, vs, rfl, l.sq, fun q hq => p.lst rs (cut_rv r lo hi) hq⟩
    · exact p.elim
/-! fields -/
theorem ofString_inj {a b : String} (h : Str.ofString a = Str.ofString b) : a = b := by
  rw [Str.ofString_eq_toList, Str.ofString_eq_toList] at h
  have h1 : a.toList.map Char.toNat = b.toList.map Char.toNat := by
    have := congrArg (fun s : Str => s.cps.toList) h
    simpa using this
  have inj : ∀ l m : List Char, l.map Char.toNat = m.map Char.toNat → l = m := by
    intro l
    induction l with
    | nil => intro m e; cases m with | nil => rfl | cons _ _ => simp at e
    | cons c l ih =>
      intro m e
      cases m with
      | nil => simp at e
      | cons d m =>
        simp only [List.map_cons, List.cons.injEq] at e
        rw [ih m e.2, Char.ext (UInt32.toNat_inj.mp e.1)]
  have h2 : a.toList = b.toList := inj _ _ h1
  exact String.toList_inj.mp h2
theorem rf_get {F : Fx} {ι : List Addr} {H : Hp} {f : String} : ∀ {fs : Fs} {vs : List (Str × V)}, RF F ι H fs vs →
    (∀ d, getF fs f = some d → ∃ v, vs.lookup (Str.ofString f) = some v ∧ RV F ι H d v) ∧ (getF fs f = none → vs.lookup (Str.ofString f) = none)
  | [], _, .nil => ⟨fun _ h => (by simp [getF] at h), fun _ => rfl⟩
  | (g, x) :: fs, (h, v) :: vs, .cons e t => by
    obtain ⟨rfl, e2⟩ : h = Str.ofString g ∧ RV F ι H x v := e
    obtain ⟨i1, i2⟩ := rf_get (f := f) t
    by_cases c : g = f
    · subst c
      have q : getF ((g, x) :: fs) g = some x := by simp [getF]
      have q2 : List.lookup (Str.ofString g) ((Str.ofString g, v) :: vs) = some v := by simp [List.lookup]
      rw [q, q2]
      exact ⟨fun d hd => ⟨v, rfl, by cases hd; exact e2⟩, fun z => by cases z⟩
    · have c0 : (g == f) = false := by simpa using c
      have q : getF ((g, x) :: fs) f = getF fs f := by simp [getF, List.find?, c0]
      have c2 : (Str.ofString f == Str.ofString g) = false := by
        rw [beq_eq_false_iff_ne]
        exact fun z => c (ofString_inj z).symm
      have q2 : List.lookup (Str.ofString f) ((Str.ofString g, v) :: vs) = vs.lookup (Str.ofString f) := by simp [List.lookup, c2]
      rw [q, q2]
      exact ⟨i1, i2⟩
theorem rf_put {F : Fx} {ι : List Addr} {H : Hp} {f : String} {d : D} {w : V} (r : RV F ι H d w) : ∀ {fs : Fs} {vs : List (Str × V)}, RF F ι H fs vs → RF F ι H (putF f d fs) (L2.putF (Str.ofString f) w vs)
  | [], _, .nil => .cons ⟨rfl, r⟩ .nil
  | (g, x) :: fs, (h, v) :: vs, .cons e t => by
    obtain ⟨rfl, e2⟩ : h = Str.ofString g ∧ RV F ι H x v := e
    unfold putF L2.putF
    by_cases c : g = f
    · subst c
      rw [if_pos rfl, if_pos rfl]
      exact .cons ⟨rfl, r⟩ t
    · rw [if_neg c, if_neg (fun z => c (ofString_inj z))]
      exact .cons ⟨rfl, e2⟩ (rf_put r t)
theorem rf_len {F : Fx} {ι : List Addr} {H : Hp} {fs : Fs} {vs : List (Str × V)} (h : RF F ι H fs vs) : fs.length = vs.length := Paired.length h
end
end Mi

set_option linter.all false
set_option maxRecDepth 100000
/-! M6: built-in functions and methods by values. -/
namespace Mi
open PySem PySem.Spec L2
open PyProof.Rows hiding St
/-! ### sorting -/
theorem perm_uniq {α : Type} {le : α → α → Prop} (anti : ∀ a b, le a b → le b a → a = b) : ∀ {l m : List α}, l.Pairwise le → m.Pairwise le → l.Perm m → l = m
  | [], m, _, _, p => (List.Perm.nil_eq p)
  | x :: l, [], _, _, p => by have := p.length_eq; simp at this
  | x :: l, y :: m, h1, h2, p => by
    have hx : x = y ∨ x ∈ m := by have := p.mem_iff.mp (List.mem_cons_self (a := x) (l := l)); simpa using this
    have hy : y = x ∨ y ∈ l := by have := p.mem_iff.mpr (List.mem_cons_self (a := y) (l := m)); simpa using this
    have e : x = y := by
      rcases hx with e | hx
      · exact e
      · rcases hy with e | hy
        · exact e.symm
        · exact anti _ _ ((List.pairwise_cons.mp h1).1 y hy) ((List.pairwise_cons.mp h2).1 x hx)
    subst e
    rw [perm_uniq anti (List.pairwise_cons.mp h1).2 (List.pairwise_cons.mp h2).2 (List.Perm.cons_inv p)]
def leS (x y : List Nat) : Prop := ltS y x = false
theorem ltS_irrefl : ∀ x, ltS x x = false
  | [] => rfl
  | a :: x => by simp [ltS, ltS_irrefl x]
theorem ltS_asymm {x y : List Nat} (h : ltS x y = true) : ltS y x = false := by
  have h1 := (ltS_iff x y).mp h
  cases e : ltS y x with
  | false => rfl
  | true => exact absurd ((ltS_iff y x).mp e) (List.lt_asymm h1)
theorem leS_anti {x y : List Nat} (h1 : leS x y) (h2 : leS y x) : x = y := by
  have a1 : ¬ y < x := fun z => by rw [← ltS_iff, h1] at z; cases z
  have a2 : ¬ x < y := fun z => by rw [← ltS_iff, h2] at z; cases z
  exact List.le_antisymm a1 a2
theorem leS_trans {x y z : List Nat} (h1 : leS x y) (h2 : leS y z) : leS x z := by
  have a1 : ¬ y < x := fun z => by rw [← ltS_iff, h1] at z; cases z
  have a2 : ¬ z < y := fun w => by rw [← ltS_iff, h2] at w; cases w
  have a3 : x ≤ z := List.le_trans a1 a2
  unfold leS
  cases e : ltS z x with
  | false => rfl
  | true => exact absurd ((ltS_iff z x).mp e) a3
theorem insS_perm (x : List Nat) : ∀ l, (insS x l).Perm (x :: l)
  | [] => .refl _
  | y :: r => by
    unfold insS
    split
    · exact ((insS_perm x r).cons y).trans (.swap x y r)
    · exact .refl _
theorem sortS_perm : ∀ l, (sortS l).Perm l
  | [] => .refl _
  | x :: r => (insS_perm x (sortS r)).trans ((sortS_perm r).cons x)
theorem insS_sorted (x : List Nat) : ∀ {l}, l.Pairwise leS → (insS x l).Pairwise leS
  | [], _ => by simp [insS]
  | y :: r, h => by
    unfold insS
    split
    · rename_i c
      refine List.pairwise_cons.mpr ⟨fun z hz => ?_, insS_sorted x (List.pairwise_cons.mp h).2⟩
      rcases List.mem_cons.mp ((insS_perm x r).mem_iff.mp hz) with rfl | hz
      · exact ltS_asymm c
      · exact (List.pairwise_cons.mp h).1 z hz
    · rename_i c
      have c' : leS x y := by unfold leS; simpa using c
      refine List.pairwise_cons.mpr ⟨fun z hz => ?_, h⟩
      rcases List.mem_cons.mp hz with rfl | hz
      · exact c'
      · exact leS_trans c' ((List.pairwise_cons.mp h).1 z hz)
theorem sortS_sorted : ∀ l, (sortS l).Pairwise leS
  | [] => .nil
  | x :: r => insS_sorted x (sortS_sorted r)
theorem ltCps_eq : ∀ x y : List Nat, PySem.Spec.ltCps x y = ltS x y
  | [], [] => rfl
  | [], _ :: _ => rfl
  | _ :: _, [] => rfl
  | a :: x, b :: y => by
    simp only [PySem.Spec.ltCps, ltS, ltCps_eq x y]
    rfl
theorem rising_pw : ∀ (ys : List Str) (p : Str), risingS p ys = true → (p :: ys).Pairwise (fun a b => leS a.cps.toList b.cps.toList)
  | [], p, _ => by simp
  | x :: r, p, h => by
    simp only [risingS, Bool.and_eq_true, Bool.not_eq_true', ltCps_eq] at h
    have ih := rising_pw r x h.2
    have hx : leS p.cps.toList x.cps.toList := h.1
    refine List.pairwise_cons.mpr ⟨fun z hz => ?_, ih⟩
    rcases List.mem_cons.mp hz with rfl | hz
    · exact hx
    · exact leS_trans hx ((List.pairwise_cons.mp ih).1 z hz)
theorem sorted_uniq {xs : List (List Nat)} {ys : List Str} (p : ys.Perm (xs.map tS)) (h : sortedS ys = true) : ys = (sortS xs).map tS := by
  have pw : ys.Pairwise (fun a b => leS a.cps.toList b.cps.toList) := by
    cases ys with
    | nil => exact .nil
    | cons a r => exact rising_pw r a h
  refine perm_uniq (le := fun a b : Str => leS a.cps.toList b.cps.toList) (fun a b h1 h2 => ?_) pw ?_ (p.trans ((sortS_perm xs).symm.map tS))
  · have := leS_anti h1 h2
    cases a; cases b
    simpa using this
  · exact List.Pairwise.map tS (fun a b h => by simpa [tS] using h) (sortS_sorted xs)
theorem insI_perm (x : Int) : ∀ l, (insI x l).Perm (x :: l)
  | [] => .refl _
  | y :: r => by
    unfold insI
    split
    · exact ((insI_perm x r).cons y).trans (.swap x y r)
    · exact .refl _
theorem sortI_perm : ∀ l, (sortI l).Perm l
  | [] => .refl _
  | x :: r => (insI_perm x (sortI r)).trans ((sortI_perm r).cons x)
theorem insI_sorted (x : Int) : ∀ {l : List Int}, l.Pairwise (· ≤ ·) → (insI x l).Pairwise (· ≤ ·)
  | [], _ => by simp [insI]
  | y :: r, h => by
    unfold insI
    split
    · rename_i c
      refine List.pairwise_cons.mpr ⟨fun z hz => ?_, insI_sorted x (List.pairwise_cons.mp h).2⟩
      rcases List.mem_cons.mp ((insI_perm x r).mem_iff.mp hz) with rfl | hz
      · omega
      · exact (List.pairwise_cons.mp h).1 z hz
    · refine List.pairwise_cons.mpr ⟨fun z hz => ?_, h⟩
      rcases List.mem_cons.mp hz with rfl | hz
      · omega
      · have := (List.pairwise_cons.mp h).1 z hz; omega
theorem sortI_sorted : ∀ l : List Int, (sortI l).Pairwise (· ≤ ·)
  | [] => .nil
  | x :: r => insI_sorted x (sortI_sorted r)
theorem sortI_uniq {xs ys : List Int} (p : ys.Perm xs) (h : ys.Pairwise (· ≤ ·)) : ys = sortI xs :=
  perm_uniq (fun a b h1 h2 => Int.le_antisymm h1 h2) h (sortI_sorted xs) (p.trans (sortI_perm xs).symm)

section
variable {X : Cx} {W : XK} {fld : String → List String}
theorem vs1 {F : Fx} {ι : List Addr} {H : Hp} {d : D} {xs : List V} (r : RVs F ι H [d] xs) : ∃ v, xs = [v] ∧ RV F ι H d v := by
  cases r with
  | cons a t => cases t; exact ⟨_, rfl, a⟩
theorem vs2 {F : Fx} {ι : List Addr} {H : Hp} {d e : D} {xs : List V} (r : RVs F ι H [d, e] xs) : ∃ v w, xs = [v, w] ∧ RV F ι H d v ∧ RV F ι H e w := by
  cases r with
  | cons a t => obtain ⟨w, rfl, b⟩ := vs1 t; exact ⟨_, _, rfl, a, b⟩
theorem vs0 {F : Fx} {ι : List Addr} {H : Hp} {xs : List V} (r : RVs F ι H [] xs) : xs = [] := by cases r; rfl
theorem len_ok : CallR X (.builtin "len") (rL (fx X fld) W lenB) := by
  rintro pins s σ H xs us Q I r ⟨ι, st, ds, rs, rd, p⟩
  unfold lenB at p
  split at p
  · rename_i d
    obtain ⟨v, rfl, rv⟩ := vs1 rd
    split at p
    · rename_i n hn
      have fin : Q (.int n) H := p.here rs (.int _)
      unfold lenD at hn
      split at hn
      · obtain ⟨rfl, o⟩ := rv.str_inv
        cases hn
        exact call_len pins s σ H _ us Q I r ⟨_, _, rfl, ⟨by rw [tS_length]; exact o.1, (tS_length _).symm⟩, fin⟩
      · split at hn
        · rename_i xs hx
          cases hn
          obtain ⟨a, vs, rfl, q, r2, z⟩ := seq_of rs rv hx
          rcases q with q | q
          · exact call_len pins s σ H _ us Q I r ⟨_, _, rfl, .inl ⟨vs, q.sq, r2.length⟩, fin⟩
          · exact call_len pins s σ H _ us Q I r ⟨_, _, rfl, .inr ⟨vs, q, r2.length⟩, fin⟩
        · split at hn
          · split at hn
            · rename_i kvs hs
              cases hn
              cases rv with
              | ref e =>
                obtain ⟨ks, h1, h2, h3⟩ := rs.at_ e hs
                refine call_lenD pins s σ H _ us Q I r ⟨_, ks, rfl, h1, ?_⟩
                rw [← Paired.length h2]
                exact fin
            · cases hn
          · cases hn
    · exact p.elim
  · exact p.elim
theorem kit_all : ∀ a ∈ tyNames, ∀ b ∈ tyNames, kitB a b = some (decide (a = b) || (decide (a = "bool") && decide (b = "int"))) := by decide +kernel
theorem tyOf_x {F : Fx} {ι : List Addr} {st : Sto} {H : Hp} {d : D} {v : V} {a : String} (rs : Rs F ι st H) (r : RV F ι H d v) (h : tyOf st d = some a) : TyX F.K H v (.type a) := by
  cases r with
  | non => cases h; exact .base .non
  | bl b => cases h; exact .base (.bl _)
  | int i => cases h; exact .base (.int _)
  | str x o => cases h; exact .base (.str _)
  | tup t _ _ =>
    cases h
    rcases t with (t | ⟨o, t⟩) | ⟨o, its, n, t, c, _⟩
    · exact .base (.tup t)
    · exact .fTuple t
    · exact .kTuple t c
  | cl t _ _ =>
    cases h
    rcases t with ⟨o, t⟩ | ⟨o, its, n, t, c, _⟩
    · exact .base (.frz t)
    · exact .kList t c
  | ref e =>
    simp only [tyOf] at h
    split at h
    · rename_i hs; cases h; obtain ⟨vs, h1, _⟩ := rs.at_ e hs; exact .base (.lst h1)
    · rename_i hs; cases h; obtain ⟨vs, h1, _⟩ := rs.at_ e hs; exact .base (.dK h1)
    · rename_i hs; cases h; obtain ⟨o, vs, h1, _⟩ := rs.at_ e hs; exact .fDict h1
    · cases h
  | fn e => cases h
  | ty n => cases h
theorem isi_ok : CallR X (.builtin "isinstance") (rL (fx X fld) W isiB) := by
  rintro pins s σ H xs us Q I r ⟨ι, st, ds, rs, rd, p⟩
  unfold isiB at p
  split at p
  · obtain ⟨v, w, rfl, rv, rw'⟩ := vs2 rd
    cases rw'
    split at p
    · rename_i a ha
      split at p
      · rename_i c
        exact call_isi pins s σ H _ us Q I r ⟨_, _, _, _, _, rfl, .ty _, tyOf_x rs rv ha, kit_ty (kit_all _ c.1 _ c.2), okB_here p rs⟩
      · exact p.elim
    · exact p.elim
  · exact p.elim
theorem int_ok : CallR X (.type "int") (rL (fx X fld) W intB) := by
  rintro pins s σ H xs us Q I r ⟨ι, st, ds, rs, rd, p⟩
  unfold intB at p
  split at p
  · obtain ⟨v, rfl, rv⟩ := vs1 rd
    have := rv.bl_inv; subst this
    exact call_int1 pins s σ H _ us Q I r (.inr ⟨_, rfl, p.here rs (.int _)⟩)
  · obtain ⟨v, rfl, rv⟩ := vs1 rd
    have := rv.int_inv; subst this
    exact call_int1 pins s σ H _ us Q I r (.inl ⟨_, rfl, p.here rs (.int _)⟩)
  · exact p.elim
theorem txtI_tS (i : Int) : Str.ofString (toString i) = tS (txtI i) := Str.ofString_eq_toList _
theorem txtI_ok {i : Int} (h : i.natAbs.log2 < 1920) : StrOk (txtI i) := by
  have e := PySem.int_text_fits h
  rw [txtI_tS, tS_length] at e
  refine ⟨e, fun c hc => ?_⟩
  obtain ⟨k, _, rfl⟩ := List.mem_map.mp hc
  have := k.valid
  simp only [UInt32.isValidChar, Nat.isValidChar] at this
  show k.val.toNat < _
  omega
theorem str_ok : CallR X (.type "str") (rL (fx X fld) W strB) := by
  rintro pins s σ H xs us Q I r ⟨ι, st, ds, rs, rd, p⟩
  unfold strB at p
  split at p
  · obtain ⟨v, rfl, rv⟩ := vs1 rd
    have := rv.int_inv; subst this
    unfold numT at p
    split at p
    · rename_i h
      refine call_str_int pins s σ H _ us Q I r ⟨_, rfl, h, ?_⟩
      rw [txtI_tS]
      exact p.here rs (.str _ (txtI_ok h))
    · exact p.elim
  · exact p.elim
theorem abs_ok : CallR X (.builtin "abs") (rL (fx X fld) W absB) := by
  rintro pins s σ H xs us Q I r ⟨ι, st, ds, rs, rd, p⟩
  unfold absB at p
  split at p
  · obtain ⟨v, rfl, rv⟩ := vs1 rd
    have := rv.int_inv; subst this
    exact call_abs pins s σ H _ us Q I r ⟨_, rfl, p.here rs (.int _)⟩
  · exact p.elim
theorem max_ok (hc : X.calm = true) : CallR X (.builtin "max") (rL (fx X fld) W maxB) := by
  rintro pins s σ H xs us Q I r ⟨ι, st, ds, rs, rd, p⟩
  unfold maxB at p
  split at p
  · obtain ⟨v, w, rfl, rv, rw'⟩ := vs2 rd
    have := rv.int_inv; have := rw'.int_inv; subst_vars
    exact call_max2 hc pins s σ H _ us Q I r ⟨_, _, rfl, p.here rs (.int _)⟩
  · exact p.elim
theorem min_ok (hc : X.calm = true) : CallR X (.builtin "min") (rL (fx X fld) W minB) := by
  rintro pins s σ H xs us Q I r ⟨ι, st, ds, rs, rd, p⟩
  unfold minB at p
  split at p
  · obtain ⟨v, w, rfl, rv, rw'⟩ := vs2 rd
    have := rv.int_inv; have := rw'.int_inv; subst_vars
    exact call_min2 hc pins s σ H _ us Q I r ⟨_, _, rfl, p.here rs (.int _)⟩
  · exact p.elim
theorem all_ok (hc : X.calm = true) : CallR X (.builtin "all") (rL (fx X fld) W allB) := by
  rintro pins s σ H xs us Q I r ⟨ι, st, ds, rs, rd, p⟩
  unfold allB at p
  split at p
  · obtain ⟨v, rfl, rv⟩ := vs1 rd
    split at p
    · rename_i ys hy
      split at p
      · rename_i bs hb
        obtain ⟨a, vs, rfl, l, q, z⟩ := lst_of rs rv hy
        have := blsOf_some hb; subst this
        have := q.bls; subst this
        exact cr_all hc pins s σ H _ us Q I r ⟨a, bs, rfl, l.sq, okB_here p rs⟩
      · exact p.elim
    · exact p.elim
  · exact p.elim
theorem any_ok (hc : X.calm = true) : CallR X (.builtin "any") (rL (fx X fld) W anyB) := by
  rintro pins s σ H xs us Q I r ⟨ι, st, ds, rs, rd, p⟩
  unfold anyB at p
  split at p
  · obtain ⟨v, rfl, rv⟩ := vs1 rd
    split at p
    · rename_i ys hy
      split at p
      · rename_i bs hb
        obtain ⟨a, vs, rfl, l, q, z⟩ := lst_of rs rv hy
        have := blsOf_some hb; subst this
        have := q.bls; subst this
        exact cr_any hc pins s σ H _ us Q I r ⟨a, bs, rfl, l.sq, okB_here p rs⟩
      · exact p.elim
    · exact p.elim
  · exact p.elim
theorem sum_ok (hc : X.calm = true) : CallR X (.builtin "sum") (rL (fx X fld) W sumB) := by
  rintro pins s σ H xs us Q I r ⟨ι, st, ds, rs, rd, p⟩
  unfold sumB at p
  split at p
  · obtain ⟨v, rfl, rv⟩ := vs1 rd
    split at p
    · rename_i ys hy
      split at p
      · rename_i bs hb
        obtain ⟨a, vs, rfl, l, q, z⟩ := lst_of rs rv hy
        have := intsOf_some hb; subst this
        have := q.ints; subst this
        exact cr_sum hc pins s σ H _ us Q I r ⟨a, bs, rfl, l.sq, p.here rs (.int _)⟩
      · exact p.elim
    · exact p.elim
  · exact p.elim
theorem rvs_strs {F : Fx} {ι : List Addr} {H : Hp} : ∀ {xs : List (List Nat)}, (∀ x ∈ xs, StrOk x) → RVs F ι H (xs.map .str) ((xs.map tS).map V.str)
  | [], _ => .nil
  | x :: xs, h => .cons (.str x (h x List.mem_cons_self)) (rvs_strs fun y hy => h y (List.mem_cons_of_mem _ hy))
theorem rvs_ints {F : Fx} {ι : List Addr} {H : Hp} : ∀ {xs : List Int}, RVs F ι H (xs.map .int) (xs.map V.int)
  | [] => .nil
  | x :: xs => .cons (.int x) rvs_ints
theorem keys_of {F : Fx} {ι : List Addr} {H : Hp} : ∀ {kvs : List (D × D)} {ks : List (Key × V)}, RK F ι H kvs ks → RVs F ι H (kvs.map (·.1)) (ks.map fun p => kV p.1)
  | [], _, .nil => .nil
  | p :: kvs, q :: ks, .cons h t => by
    refine .cons ?_ (keys_of t)
    have h1 := h.1
    obtain ⟨d, e⟩ := p
    obtain ⟨k, v⟩ := q
    cases d <;> first | exact h1.elim | skip
    · cases h1; exact .int _
    · obtain ⟨rfl, o⟩ := h1; exact .str _ o
theorem kV_inrs : ∀ {ks : List (Key × V)} {xs : List Str}, (ks.map fun p => kV p.1) = xs.map V.str → ks.map (·.1) = xs.map Sum.inr
  | [], [], _ => rfl
  | [], _ :: _, h => by simp at h
  | _ :: _, [], h => by simp at h
  | (k, v) :: ks, x :: xs, h => by
    simp only [List.map_cons, List.cons.injEq] at h ⊢
    refine ⟨?_, kV_inrs h.2⟩
    cases k with
    | inl i => exact absurd h.1 (by simp [kV])
    | inr y => have := h.1; simp only [kV, V.str.injEq] at this; rw [this]
theorem kV_inls : ∀ {ks : List (Key × V)} {xs : List Int}, (ks.map fun p => kV p.1) = xs.map V.int → ks.map (·.1) = xs.map Sum.inl
  | [], [], _ => rfl
  | [], _ :: _, h => by simp at h
  | _ :: _, [], h => by simp at h
  | (k, v) :: ks, x :: xs, h => by
    simp only [List.map_cons, List.cons.injEq] at h ⊢
    refine ⟨?_, kV_inls h.2⟩
    cases k with
    | inr i => exact absurd h.1 (by simp [kV])
    | inl y => have := h.1; simp only [kV, V.int.injEq] at this; rw [this]
theorem sorted_ok (hc : X.calm = true) : CallR X (.builtin "sorted") (rL (fx X fld) W sortedB) := by
  rintro pins s σ H xs us Q I r ⟨ι, st, ds, rs, rd, p⟩
  have goS : ∀ {ys : List (List Nat)}, ∀ q : Post (fx X fld) (RV (fx X fld)) Q W ι H (newL ((sortS ys).map .str) st), (∀ x ∈ ys, StrOk x) →
      ∀ (ws : List Str) (a : Addr), ws.Perm (ys.map tS) → sortedS ws = true → H a = none → Q (.ref a) (upd H a (.lst (ws.map V.str))) := fun q ho ws a hp hs ha => by
    rw [sorted_uniq hp hs]
    exact q.lst rs (rvs_strs fun x hx => ho x ((sortS_perm _).mem_iff.mp hx)) ha
  have goI : ∀ {ns : List Int}, ∀ q : Post (fx X fld) (RV (fx X fld)) Q W ι H (newL ((sortI ns).map .int) st),
      ∀ (ws : List Int) (a : Addr), ws.Perm ns → ws.Pairwise (· ≤ ·) → H a = none → Q (.ref a) (upd H a (.lst (ws.map V.int))) := fun q ws a hp hs ha => by
    rw [sortI_uniq hp hs]
    exact q.lst rs rvs_ints ha
  unfold sortedB at p
  split at p
  · obtain ⟨v, rfl, rv⟩ := vs1 rd
    split at p
    · rename_i ys hy
      obtain ⟨a, vs, rfl, l, q, z⟩ := lst_of rs rv hy
      unfold sortedD at p
      split at p
      · rename_i zs hz
        have := strsOf_some hz; subst this
        obtain ⟨rfl, ho⟩ := q.strs
        split at p
        · rename_i hl
          exact cr_sortedS pins s σ H _ us Q I r ⟨a, zs.map tS, rfl, l.sq, by simpa using hl, goS p ho⟩
        · exact p.elim
      · split at p
        · rename_i ns hn
          have := intsOf_some hn; subst this
          have := q.ints; subst this
          split at p
          · rename_i hl
            exact cr_sorted pins s σ H _ us Q I r ⟨a, ns, rfl, l.sq, hl, goI p⟩
          · exact p.elim
        · exact p.elim
    · split at p
      · rename_i kvs hk
        obtain ⟨a, ks, rfl, l, q, z⟩ := dct_of rs rv hk
        have rk := keys_of q
        unfold sortedD at p
        split at p
        · rename_i zs hz
          rw [strsOf_some hz] at rk
          obtain ⟨e, ho⟩ := rk.strs
          split at p
          · rename_i hl
            exact call_sortedD hc pins s σ H _ us Q I r ⟨a, ks, zs.map tS, rfl, l, kV_inrs e, by simpa using hl, goS p ho⟩
          · exact p.elim
        · split at p
          · rename_i ns hn
            rw [intsOf_some hn] at rk
            split at p
            · rename_i hl
              exact call_sortedDI hc pins s σ H _ us Q I r ⟨a, ks, ns, rfl, l, kV_inls rk.ints, hl, goI p⟩
            · exact p.elim
          · exact p.elim
      · exact p.elim
  · exact p.elim
theorem list_ok (hc : X.calm = true) : CallR X (.type "list") (rL (fx X fld) W listB) := by
  rintro pins s σ H xs us Q I r ⟨ι, st, ds, rs, rd, p⟩
  unfold listB at p
  split at p
  · obtain ⟨v, rfl, rv⟩ := vs1 rd
    split at p
    · rename_i ys hy
      obtain ⟨a, vs, rfl, l, q, z⟩ := seq_of rs rv hy
      exact call_list_of pins s σ H _ us Q I r ⟨a, vs, rfl, l.elim (fun l => .inl l.sq) .inr, fun b hb => p.lst rs q hb⟩
    · split at p
      · rename_i kvs hk
        obtain ⟨a, ks, rfl, l, q, z⟩ := dct_of rs rv hk
        exact call_listD hc pins s σ H _ us Q I r ⟨a, ks, rfl, l, fun b hb => p.lst rs (keys_of q) hb⟩
      · exact p.elim
  · exact p.elim
theorem tuple_ok : CallR X (.type "tuple") (rL (fx X fld) W tupleB) := by
  rintro pins s σ H xs us Q I r ⟨ι, st, ds, rs, rd, p⟩
  unfold tupleB at p
  split at p
  · obtain ⟨v, rfl, rv⟩ := vs1 rd
    split at p
    · rename_i ys hy
      obtain ⟨a, vs, rfl, l, q, z⟩ := seq_of rs rv hy
      rcases l with l | l
      · exact call_tuple_of pins s σ H _ us Q I r ⟨a, vs, rfl, .inl ⟨l.sq, fun b hb => p.tupl rs q z hb⟩⟩
      · exact call_tuple_of pins s σ H _ us Q I r ⟨a, vs, rfl, .inr ⟨l, p.here rs (.tup l q z)⟩⟩
    · exact p.elim
  · exact p.elim
theorem dict_ok : CallR X (.type "dict") (rL (fx X fld) W dictB) := by
  rintro pins s σ H xs us Q I r ⟨ι, st, ds, rs, rd, p⟩
  unfold dictB at p
  split at p
  · obtain ⟨v, rfl, rv⟩ := vs1 rd
    split at p
    · rename_i kvs hk
      obtain ⟨a, ks, rfl, l, q, z⟩ := dct_of rs rv hk
      refine call_dictD pins s σ H _ us Q I r ⟨a, ks, rfl, l, fun b hb => ?_⟩
      have k : Keep ι (ι ++ [b]) H (upd H b (.dK ks)) := Keep.cell hb
      exact p (ι ++ [b]) _ _ (List.prefix_append _ _) k (rs.new hb ⟨ks, upd_same, Paired.mapP q fun _ _ z => ⟨z.1, z.2.mono (List.prefix_append _ _) k⟩, z⟩)
        (.ref (by rw [List.getElem?_append_right (by rw [rs.len]; omega), rs.len]; simp))
    · exact p.elim
  · exact p.elim
end
end Mi

set_option linter.all false
set_option maxRecDepth 100000
/-! M7: built-in methods by values. -/
namespace Mi
open PySem PySem.Spec L2
open PyProof.Rows hiding St
section
variable {X : Cx} {W : XK} {fld : String → List String}
theorem append_ok : MtR X "list.append" (rM (fx X fld) W appendM) := by
  rintro pins s σ H x xs v us Q I rx rxs ⟨ι, st, d, ds, rs, rd, rds, p⟩
  unfold appendM at p
  split at p
  · obtain ⟨y, rfl, ry⟩ := vs1 rds
    split at p
    · rename_i ys hs
      cases rd with
      | @ref n a e =>
        obtain ⟨vs, h1, h2, h3⟩ := rs.at_ e hs
        split at p
        · rename_i hl
          have hl' : vs.length < sizeLine := by rw [← h2.length]; exact hl
          refine mt_append pins s σ H _ _ v us Q I rx rxs ⟨a, vs, y, rfl, rfl, h1, hl', ?_⟩
          have k : Keep ι ι H (upd H a (.lst (vs ++ [y]))) := rs.keepSet e
          have r' : RVs (fx X fld) ι (upd H a (.lst (vs ++ [y]))) (ys ++ [_]) (vs ++ [y]) := (h2.append (.one ry)).mono (pre_refl _) k
          exact p ι _ _ (pre_refl _) k (rs.set e ⟨_, upd_same, r', by rw [List.length_append]; exact hl⟩) .non
        · exact p.elim
    · exact p.elim
  · exact p.elim
theorem extend_ok : MtR X "list.extend" (rM (fx X fld) W extendM) := by
  rintro pins s σ H x xs v us Q I rx rxs ⟨ι, st, d, ds, rs, rd, rds, p⟩
  unfold extendM at p
  split at p
  · obtain ⟨y, rfl, ry⟩ := vs1 rds
    split at p
    · rename_i ys zs hs hz
      cases rd with
      | @ref n a e => cases ry with
        | @ref m b f =>
          obtain ⟨vs, h1, h2, h3⟩ := rs.at_ e hs
          obtain ⟨ws, g1, g2, g3⟩ := rs.at_ f hz
          split at p
          · rename_i hl
            refine mt_extend pins s σ H _ _ v us Q I rx rxs ⟨a, b, vs, ws, rfl, rfl, h1, g1, by rw [← h2.length, ← g2.length]; exact hl, ?_⟩
            have k : Keep ι ι H (upd H a (.lst (vs ++ ws))) := rs.keepSet e
            exact p ι _ _ (pre_refl _) k (rs.set e ⟨_, upd_same, (h2.append g2).mono (pre_refl _) k, by rw [List.length_append]; exact hl⟩) .non
          · exact p.elim
    · exact p.elim
  · exact p.elim
theorem pop_ok : MtR X "list.pop" (rM (fx X fld) W popM) := by
  rintro pins s σ H x xs v us Q I rx rxs ⟨ι, st, d, ds, rs, rd, rds, p⟩
  unfold popM at p
  split at p
  · obtain ⟨y, rfl, ry⟩ := vs1 rds
    have := ry.int_inv; subst this
    split at p
    · rename_i ys hs
      split at p
      · rename_i j hj
        split at p
        · rename_i q hq
          cases rd with
          | @ref n a e =>
            obtain ⟨vs, h1, h2, h3⟩ := rs.at_ e hs
            obtain ⟨w, w1, w2⟩ := h2.get hq
            rw [h2.length] at hj h3
            obtain ⟨s1, s2, s3, s4⟩ := ixN_seq hj
            have hn := line63
            refine mt_popAt pins s σ H _ _ v us Q I rx rxs ⟨a, vs, _, j, w, rfl, rfl, h1, by omega, by omega, s1, w1, ?_⟩
            have k : Keep ι ι H (upd H a (.lst (vs.eraseIdx j))) := rs.keepSet e
            have hlen : (ys.eraseIdx j).length ≤ sizeLine := Nat.le_trans (List.length_eraseIdx_le _ _) (by rw [h2.length]; exact h3)
            exact p ι _ _ (pre_refl _) k (rs.set e ⟨_, upd_same, (h2.eraseIdx j).mono (pre_refl _) k, hlen⟩) (w2.mono (pre_refl _) k)
        · exact p.elim
      · exact p.elim
    · exact p.elim
  · have := vs0 rds; subst this
    split at p
    · rename_i ys hs
      split at p
      · rename_i q hq
        cases rd with
        | @ref n a e =>
          obtain ⟨vs, h1, h2, h3⟩ := rs.at_ e hs
          obtain ⟨w, w1, w2⟩ := h2.get hq
          rw [h2.length] at w1
          refine mt_pop pins s σ H _ _ v us Q I rx rxs ⟨a, vs, w, rfl, rfl, h1, w1, ?_⟩
          have k : Keep ι ι H (upd H a (.lst vs.dropLast)) := rs.keepSet e
          have e1 : RVs (fx X fld) ι H ys.dropLast vs.dropLast := by
            rw [List.dropLast_eq_take, List.dropLast_eq_take, h2.length]
            exact h2.take _
          exact p ι _ _ (pre_refl _) k (rs.set e ⟨_, upd_same, e1.mono (pre_refl _) k, by rw [List.length_dropLast]; omega⟩) (w2.mono (pre_refl _) k)
      · exact p.elim
    · exact p.elim
  · exact p.elim
theorem sjoin_tS (s : List Nat) : ∀ ys : List (List Nat), Str.join (tS s) (ys.map tS) = tS (joinS s ys)
  | [] => rfl
  | [x] => rfl
  | x :: y :: r => by
    have ih := sjoin_tS s (y :: r)
    show tS x ++ tS s ++ Str.join (tS s) ((y :: r).map tS) = tS (x ++ (s ++ joinS s (y :: r)))
    have assoc : ∀ u v w : List Nat, tS u ++ tS v ++ tS w = tS (u ++ (v ++ w)) := fun u v w => by
      rw [← tS_append, ← tS_append, List.append_assoc]
    rw [ih, assoc]
theorem join_tS (s : List Nat) (ys : List (List Nat)) : Txt.join (tS s) (ys.map tS) = tS (joinS s ys) := by
  rw [TL.join_eq, sjoin_tS]
theorem joinS_mem {s : List Nat} : ∀ {ys : List (List Nat)} {c : Nat}, c ∈ joinS s ys → c ∈ s ∨ ∃ y ∈ ys, c ∈ y
  | [], c, h => by simp [joinS] at h
  | [x], c, h => .inr ⟨x, by simp, h⟩
  | x :: y :: r, c, h => by
    simp only [joinS, List.mem_append] at h
    rcases h with h | h | h
    · exact .inr ⟨x, by simp, h⟩
    · exact .inl h
    · rcases joinS_mem h with h | ⟨z, hz, h⟩
      · exact .inl h
      · exact .inr ⟨z, List.mem_cons_of_mem _ hz, h⟩
theorem join_ok : MtR X "str.join" (rM (fx X fld) W joinM) := by
  rintro pins s σ H x xs v us Q I rx rxs ⟨ι, st, d, ds, rs, rd, rds, p⟩
  unfold joinM at p
  split at p
  · rename_i sS aD
    obtain ⟨y, rfl, ry⟩ := vs1 rds
    obtain ⟨rfl, o⟩ := rd.str_inv
    split at p
    · rename_i ys hs
      split at p
      · rename_i zs hz
        split at p
        · rename_i hl
          obtain ⟨a, vs, rfl, l, q, z⟩ := seq_of rs ry hs
          have := strsOf_some hz; subst this
          obtain ⟨rfl, os⟩ := q.strs
          have hl' : ((zs.map tS).map (·.length)).sum + (zs.map tS).length * (tS sS).length ≤ 16777216 := by
            rw [tS_length, List.length_map, List.map_map]
            have : (fun x : Str => x.length) ∘ tS = List.length := by funext x; exact tS_length x
            rw [this]
            exact hl
          refine mt_join pins s σ H _ _ v us Q I rx rxs ⟨_, a, zs.map tS, rfl, rfl, l.elim (fun l => .inl l.sq) .inr, hl', ?_⟩
          rw [join_tS]
          unfold okS at p
          split at p
          · rename_i hj
            refine p.here rs (.str _ ⟨hj, fun c hc => ?_⟩)
            rcases joinS_mem hc with hc | ⟨y, hy, hc⟩
            · exact o.2 c hc
            · exact (os y hy).2 c hc
          · exact p.elim
        · exact p.elim
      · exact p.elim
    · exact p.elim
  · exact p.elim
/-- the value is of that kind -/
def kdT : Kd → String
  | .str => "str" | .list => "list" | .dict => "dict" | _ => ""
theorem kind_tyV {F : Fx} {ι : List Addr} {st : Sto} {H : Hp} {d : D} {v : V} {k : Kd} (rs : Rs F ι st H) (r : RV F ι H d v) (h : kindOf st d = k) (hk : k = .str ∨ k = .list ∨ k = .dict) : tyV F.K (kdT k) v H := by
  subst h
  cases r with
  | str x o => exact rfl
  | @ref n a e =>
    simp only [kindOf] at hk ⊢
    split
    · rename_i xs hs
      obtain ⟨vs, h1, _⟩ := rs.at_ e hs
      exact .inl ⟨rfl, vs, SqL.of h1⟩
    · rename_i xs hs
      obtain ⟨vs, h1, _⟩ := rs.at_ e hs
      exact .inr (.inr (.inl ⟨rfl, .inl ⟨vs, h1⟩⟩))
    · rename_i c fs hs
      rw [hs] at hk
      rcases hk with hk | hk | hk <;> cases hk
    · rename_i h1 h2 h3
      exfalso
      revert hk
      split
      · rename_i xs hs; exact absurd hs (h1 xs)
      · rename_i xs hs; exact absurd hs (h2 xs)
      · rename_i c xs hs; exact absurd hs (h3 c xs)
      · rintro (hk | hk | hk) <;> cases hk
  | _ => rcases hk with hk | hk | hk <;> cases hk
/-- the methods that are known -/
theorem mt_known {k : Kd} {m : String} (h : mtOk k m = true) : (k = .str ∨ k = .list ∨ k = .dict) ∧ ∃ id, PlainAttrs (kdT k) ∧ Slot (kdT k) (Str.ofString m) id ∧ typeOf (.builtin id) = pure (.type "method_descriptor") ∧ MtR X id (rM (fx X fld) W (methD k m)) := by
  cases k with
  | list =>
    refine ⟨.inr (.inl rfl), ?_⟩
    have h' : m = "append" ∨ m = "extend" ∨ m = "pop" := by simpa [mtOk] using h
    rcases h' with rfl | rfl | rfl
    · exact ⟨_, PySem.F.plainAttrs_list, PySem.F.slot_list_append, PySem.F.type_list_append, append_ok⟩
    · exact ⟨_, PySem.F.plainAttrs_list, PySem.F.slot_list_extend, PySem.F.type_list_extend, extend_ok⟩
    · exact ⟨_, PySem.F.plainAttrs_list, PySem.F.slot_list_pop, PySem.F.type_list_pop, pop_ok⟩
  | str =>
    refine ⟨.inl rfl, ?_⟩
    have h' : m = "join" := by simpa [mtOk] using h
    subst h'
    exact ⟨_, PySem.F.plainAttrs_str, PySem.F.slot_str_join, PySem.F.type_str_join, join_ok⟩
  | _ => simp [mtOk] at h
end
end Mi

set_option linter.all false
set_option maxRecDepth 100000
/-! M8: expressions. -/
namespace Mi
open PySem PySem.Spec L2
open PyProof.Rows hiding St
/-- a def's promise by the evaluator -/
def spI (F : Fx) (n : Nat) (run : List D → Sto → R D) : Sp := fun vs H Q E => ∃ ι st ds, Rs F ι st H ∧ RVs F ι H ds vs ∧ ds.length = n ∧ Post F (RV F) Q E ι H (run ds st)
def PlanOk (F : Fx) (pl : List Src) (n m : Nat) (gV : List V → List V → List V) : Prop :=
  ∀ ι H ds vs es zs, RVs F ι H ds vs → RVs F ι H es zs → ds.length = n → es.length = m → RVs F ι H (pl.map (Src.pick ds es)) (gV vs zs)
structure FnFact (X : Cx) (F : Fx) (lv : Nat) (run : List D → Sto → R D) (n : Nat) (ks : List String) (pl : List Src) (a : Addr) : Prop where
  ex : ∃ fd ps g gV, FnOk X.prog X.w X.K X.mg X.base (L2.CX X.prog X.w) lv a fd ps (spI F pl.length run) ∧ KBn X.K fd ps n (ks.map Str.ofString) g gV ∧ PlanOk F pl n ks.length gV
/-- what is known of the module -/
structure Lib (X : Cx) (c : Ctx) (lv : Nat) : Prop where
  glob : ∀ x d, c.g x = some d → ∃ u v, X.mg (Str.ofString x) = some u ∧ RelV v u ∧ ∀ ι H, RV (fx X c.fld) ι H d v
  fn : ∀ f n ks pl, c.plan f n ks = some pl → ∃ a, X.mg (Str.ofString f) = some (.ref a) ∧ PySem.W.keepIn X.K (.ref a) = true ∧ FnFact X (fx X c.fld) lv (c.run f) n ks pl a
  mt : ∀ cl m n ks pl, c.mplan cl m n ks = some pl → ∃ C a, X.mg (Str.ofString cl) = some (.ref C) ∧ Meth X.K C (Str.ofString m) a ∧ m ∉ c.fld cl ∧ FnFact X (fx X c.fld) lv (c.mrun cl m) n ks pl a
  make : ∀ cl n pl, c.mplan cl "__init__" n [] = some pl → ∃ C, X.mg (Str.ofString cl) = some (.ref C) ∧ Cls X.K C ∧ PySem.W.makesIn X.K C = true ∧ PySem.W.keepIn X.K (.ref C) = true
  noat : ∀ cl C f, X.mg (Str.ofString cl) = some (.ref C) → f ∈ c.fld cl → NoAttr X.K C (Str.ofString f)
  bi : ∀ x, c.bi x = true → X.mg (Str.ofString x) = none
structure Cok (X : Cx) (c : Ctx) (lv : Nat) (W : L2.WX) : Prop where
  calm : X.calm = true
  room : Room (lv + 1) X.A
  nd : X.N.Nodup
  takes : Takes X W
  lib : Lib X c lv
section
variable {X : Cx} {c : Ctx} {lv : Nat} {W : L2.WX}
abbrev FX (X : Cx) (c : Ctx) : Fx := fx X c.fld
/-- value, test -/
abbrev SE (X : Cx) (c : Ctx) (W : L2.WX) (e : Expr) (e' : E) : Prop := PE X e (tE (FX X c) W (evE c e'))
abbrev ST (X : Cx) (c : Ctx) (W : L2.WX) (e : Expr) (e' : E) : Prop := PT X e (tT (FX X c) W (evE c e'))
abbrev SL (X : Cx) (c : Ctx) (W : L2.WX) (es : List Expr) (es' : List E) : Prop := PA X es (tL (FX X c) W (evEs c es'))
theorem s_var {x : Str} {i : Nat} {pos : Pos} (hN : X.N[i]? = some x) (hv : Vis X.env.scope x) (h1 : (x == ("__debug__" : Str)) = false) (h2 : (x == ("__classdict__" : Str)) = false) : SE X c W (.Name x pos) (.var i) := by
  refine PE.imp (pe_var hN hv h1 h2) ?_
  rintro σ H Q ⟨ι, st, env, rs, re, p⟩
  simp only [evE] at p
  split at p
  · rename_i d hd
    obtain ⟨v, h3, h4⟩ := re.slot i d hd
    exact ⟨v, h3, p.here rs h4⟩
  · exact p.elim
theorem s_non {j pos} : SE X c W (.Constant .none j pos) .non := PE.imp pe_non (by rintro σ H Q ⟨ι, st, env, rs, re, p⟩; exact Post.here (by simpa only [evE] using p) rs .non)
theorem s_bl {b j pos} : SE X c W (.Constant (.bool b) j pos) (.bl b) := PE.imp pe_bl (by rintro σ H Q ⟨ι, st, env, rs, re, p⟩; exact Post.here (by simpa only [evE] using p) rs (.bl b))
theorem s_int {i j pos} : SE X c W (.Constant (.int i) j pos) (.int i) := PE.imp pe_int (by rintro σ H Q ⟨ι, st, env, rs, re, p⟩; exact Post.here (by simpa only [evE] using p) rs (.int i))
theorem s_str {x : Str} {j pos} (o : StrOk x.cps.toList) : SE X c W (.Constant (.str x) j pos) (.str x.cps.toList) :=
  PE.imp pe_str (by
    rintro σ H Q ⟨ι, st, env, rs, re, p⟩
    simp only [evE] at p
    have e : tS x.cps.toList = x := by cases x; simp [tS]
    have := p.here rs (.str _ o)
    rw [e] at this
    exact this)
theorem s_glob (C : Cok X c lv W) {x : String} {pos : Pos} (hg : Gl X (Str.ofString x)) (hd : (Str.ofString x == ("__debug__" : Str)) = false) : SE X c W (.Name (Str.ofString x) pos) (.glob x) := by
  cases hx : c.g x with
  | none =>
    refine ⟨fun pins s σ H Q I => ?_⟩
    rintro ⟨ι, st, env, rs, re, p⟩
    simp only [evE, hx] at p
    exact p.elim
  | some d =>
    obtain ⟨u, v, h1, h2, h3⟩ := C.lib.glob x d hx
    refine PE.imp (pe_glob hg h1 h2 hd) ?_
    rintro σ H Q ⟨ι, st, env, rs, re, p⟩
    simp only [evE, hx] at p
    exact p.here rs (h3 ι H)
theorem s_ty {x : Str} {n : String} {pos : Pos} (hg : Gl X x) (hm : X.mg x = none) (hv : bootBuiltins x = some (.type n)) (hn : x ≠ "__name__") (hd : (x == ("__debug__" : Str)) = false) : SE X c W (.Name x pos) (.ty n) := by
  refine PE.imp (pe_bltn (v := .ty n) hg hm hv rfl hn hd) ?_
  rintro σ H Q ⟨ι, st, env, rs, re, p⟩
  simp only [evE] at p
  exact p.here rs (.ty n)
theorem OpR.exW {f : Value → Value → Sem Value} {F : Fx} {g : D → D → Sto → R D} (h : ∀ W : XK, OpR X f (r2 F W g)) : OpR X f (fun x y H Q => ∃ W, r2 F W g x y H Q) := fun pins s σ H x y v u Q I rx ry ⟨W, q⟩ => h W pins s σ H x y v u Q I rx ry q
/-- two in a row -/
theorem two {a b : E} {g : D → D → Sto → R D} {σ : St} {H : Hp} {Q : VK} {m : Env → Sto → R D} (hm : ∀ env st, m env st = (evE c a env st).bind fun x st => (evE c b env st).bind fun y st => g x y st)
    (h : tE (FX X c) W m σ H Q) : tE (FX X c) W (evE c a) σ H fun x H1 => tE (FX X c) W (evE c b) σ H1 fun y H2 => ∃ W', r2 (FX X c) W' g x y H2 Q := by
  obtain ⟨ι, st, env, rs, re, p⟩ := h
  rw [hm] at p
  refine ⟨ι, st, env, rs, re, p.bind.imp ?_⟩
  rintro x H1 ⟨ι1, st1, d1, p1, k1, rs1, rd1, q1⟩
  refine ⟨ι1, st1, env, rs1, re.mono p1 k1, q1.bind.imp ?_⟩
  rintro y H2 ⟨ι2, st2, d2, p2, k2, rs2, rd2, q2⟩
  exact ⟨_, ι2, st2, d1, d2, rs2, rd1.mono p2 k2, rd2, q2⟩
theorem s_bin {op : Operator} {a b : Expr} {a' b' : E} {pos : Pos} (ha : SE X c W a a') (hb : SE X c W b b') : SE X c W (.BinOp a op b pos) (.bin op a' b') :=
  PE.imp (pe_op (OpR.exW fun W => bin_ok (fld := c.fld) op) ha hb) fun σ H Q h => two (fun env st => by simp only [evE]) h
theorem s_cmp (C : Cok X c lv W) {op : CmpOp} {a b : Expr} {a' b' : E} {pos : Pos} (ha : SE X c W a a') (hb : SE X c W b b') (hm : behindInMarks op b = false) : SE X c W (.Compare a [op] [b] pos) (.cmp op a' b') :=
  PE.imp (pe_cmpR (OpR.exW fun W => cmp_ok (fld := c.fld) C.room.units op) ha hb hm) fun σ H Q h => two (fun env st => by simp only [evE]) h
theorem st_cmp (C : Cok X c lv W) {op : CmpOp} {a b : Expr} {a' b' : E} {pos : Pos} (ha : SE X c W a a') (hb : SE X c W b b') (hm : behindInMarks op b = false) : ST X c W (.Compare a [op] [b] pos) (.cmp op a' b') :=
  PT.imp (pt_cmpR (OpR.exW fun W => cmp_ok (fld := c.fld) C.room.units op) ha hb hm) fun σ H Q h => two (m := evE c (.cmp op a' b')) (fun env st => by simp only [evE]) h
theorem chain {op op' : CmpOp} {a b e : E} {σ : St} {H : Hp} {Q : VK} (h : tE (FX X c) W (evE c (.cmp2 op op' a b e)) σ H Q) :
    tChain (fun x y H Q => ∃ W, r2 (FX X c) W (cmpD op) x y H Q) (fun x y H Q => ∃ W, r2 (FX X c) W (cmpD op') x y H Q) (tE (FX X c) W (evE c a)) (tE (FX X c) W (evE c b)) (tE (FX X c) W (evE c e)) σ H Q := by
  obtain ⟨ι, st, env, rs, re, p⟩ := h
  simp only [evE] at p
  refine ⟨ι, st, env, rs, re, p.bind.imp ?_⟩
  rintro x H1 ⟨ι1, st1, d1, p1, k1, rs1, rd1, q1⟩
  refine ⟨ι1, st1, env, rs1, re.mono p1 k1, q1.bind.imp ?_⟩
  rintro y H2 ⟨ι2, st2, d2, p2, k2, rs2, rd2, q2⟩
  refine ⟨_, ι2, st2, d1, d2, rs2, rd1.mono p2 k2, rd2, q2.bind.imp ?_⟩
  rintro z H3 ⟨ι3, st3, d3, p3, k3, rs3, rd3, q3⟩
  split at q3
  · cases rd3
    refine ⟨true, rfl, ?_⟩
    rw [if_pos rfl]
    refine ⟨ι3, st3, env, rs3, (re.mono p1 k1).mono (p2.trans p3) (k2.trans k3), q3.bind.imp ?_⟩
    rintro w H4 ⟨ι4, st4, d4, p4, k4, rs4, rd4, q4⟩
    exact ⟨_, ι4, st4, d2, d4, rs4, rd2.mono (p3.trans p4) (k3.trans k4), rd4, q4⟩
  · cases rd3
    refine ⟨false, rfl, ?_⟩
    rw [if_neg Bool.false_ne_true]
    exact q3.here rs3 (.bl false)
  · exact q3.elim
theorem s_cmp2 (C : Cok X c lv W) {op op' : CmpOp} {a b e : Expr} {a' b' e' : E} {pos : Pos} (ha : SE X c W a a') (hb : SE X c W b b') (he : SE X c W e e') (hm : lastMarks [op, op'] [b, e] = false) : SE X c W (.Compare a [op, op'] [b, e] pos) (.cmp2 op op' a' b' e') :=
  PE.imp (pe_chain (OpR.exW fun W => cmp_ok (fld := c.fld) C.room.units op) (OpR.exW fun W => cmp_ok (fld := c.fld) C.room.units op') ha hb he hm) fun σ H Q h => chain h
theorem st_cmp2 (C : Cok X c lv W) {op op' : CmpOp} {a b e : Expr} {a' b' e' : E} {pos : Pos} (ha : SE X c W a a') (hb : SE X c W b b') (he : SE X c W e e') (hm : lastMarks [op, op'] [b, e] = false) : ST X c W (.Compare a [op, op'] [b, e] pos) (.cmp2 op op' a' b' e') :=
  PT.imp (pt_chain (OpR.exW fun W => cmp_ok (fld := c.fld) C.room.units op) (OpR.exW fun W => cmp_ok (fld := c.fld) C.room.units op') ha hb he hm) fun σ H Q h => chain h
/-- one step behind another -/
theorem thenE {a : E} {g : D → Sto → R D} {σ : St} {H : Hp} {Q : VK} {m : Env → Sto → R D} (hm : ∀ env st, m env st = (evE c a env st).bind g) (h : tE (FX X c) W m σ H Q) :
    tE (FX X c) W (evE c a) σ H fun x H1 => ∃ ι1 st1 d, Rs (FX X c) ι1 st1 H1 ∧ RV (FX X c) ι1 H1 d x ∧ Post (FX X c) (RV (FX X c)) Q (fun c d H' => W c d σ H') ι1 H1 (g d st1) := by
  obtain ⟨ι, st, env, rs, re, p⟩ := h
  rw [hm] at p
  refine ⟨ι, st, env, rs, re, p.bind.imp ?_⟩
  rintro x H1 ⟨ι1, st1, d1, p1, k1, rs1, rd1, q1⟩
  exact ⟨ι1, st1, d1, rs1, rd1, q1⟩
theorem s_neg {a : Expr} {a' : E} {pos : Pos} (ha : SE X c W a a') : SE X c W (.UnaryOp .USub a pos) (.neg a') := by
  refine PE.imp (pe_un un_neg ha) fun σ H Q h => ?_
  refine (thenE (a := a') (fun env st => by first | (simp only [evE]; done) | (simp only [evE]; rfl)) h).imp fun ι h => ?_
  obtain ⟨st, env, rs, re, p⟩ := h
  refine ⟨st, env, rs, re, p.imp ?_⟩
  rintro x H1 ⟨ι1, st1, d, rs1, rd, q⟩
  split at q
  · have := rd.int_inv; subst this
    exact ⟨_, rfl, q.here rs1 (.int _)⟩
  · exact q.elim
theorem s_not {a : Expr} {a' : E} {pos : Pos} (ha : SE X c W a a') : SE X c W (.UnaryOp .Not a pos) (.not a') := by
  refine PE.imp (pe_not ha) fun σ H Q h => ?_
  refine (thenE (a := a') (fun env st => by first | (simp only [evE]; done) | (simp only [evE]; rfl)) h).imp fun ι h => ?_
  obtain ⟨st, env, rs, re, p⟩ := h
  refine ⟨st, env, rs, re, p.imp ?_⟩
  rintro x H1 ⟨ι1, st1, d, rs1, rd, q⟩
  split at q
  · have := rd.bl_inv; subst this
    exact ⟨_, rfl, q.here rs1 (.bl _)⟩
  · exact q.elim
theorem st_not {a : Expr} {a' : E} {pos : Pos} (ha : ST X c W a a') : ST X c W (.UnaryOp .Not a pos) (.not a') := by
  refine PT.imp (pt_not ha) fun σ H Q h => ?_
  refine (thenE (a := a') (fun env st => by first | (simp only [evE]; done) | (simp only [evE]; rfl)) h).imp fun ι h => ?_
  obtain ⟨st, env, rs, re, p⟩ := h
  refine ⟨st, env, rs, re, p.imp ?_⟩
  rintro x H1 ⟨ι1, st1, d, rs1, rd, q⟩
  split at q
  · have := rd.bl_inv; subst this
    obtain ⟨b', e, q'⟩ := q.here rs1 (.bl _)
    cases e
    exact ⟨_, rfl, q'⟩
  · exact q.elim
/-- a test's continuation -/
theorem testE {t a b : E} {m : Env → Sto → R D} {σ : St} {H : Hp} {Q : VK}
    (hm : ∀ env st, m env st = (evE c t env st).bind fun x st => (match x with | .bl true => evE c a env st | .bl false => evE c b env st | _ => .no)) (h : tE (FX X c) W m σ H Q) :
    tT (FX X c) W (evE c t) σ H fun k H1 => if k = true then tE (FX X c) W (evE c a) σ H1 Q else tE (FX X c) W (evE c b) σ H1 Q := by
  obtain ⟨ι, st, env, rs, re, p⟩ := h
  rw [hm] at p
  refine ⟨ι, st, env, rs, re, p.bind.imp ?_⟩
  rintro x H1 ⟨ι1, st1, d1, p1, k1, rs1, rd1, q1⟩
  split at q1
  · have := rd1.bl_inv; subst this
    exact ⟨true, rfl, iteT ⟨ι1, st1, env, rs1, re.mono p1 k1, q1⟩⟩
  · have := rd1.bl_inv; subst this
    exact ⟨false, rfl, iteF ⟨ι1, st1, env, rs1, re.mono p1 k1, q1⟩⟩
  · exact q1.elim
theorem s_ite {t a b : Expr} {t' a' b' : E} {pos : Pos} (ht : ST X c W t t') (ha : SE X c W a a') (hb : SE X c W b b') : SE X c W (.IfExp t a b pos) (.ite t' a' b') :=
  PE.imp (pe_ifExp ht ha hb) fun σ H Q h => testE (fun env st => by first | (simp only [evE]; done) | (simp only [evE]; rfl)) h
theorem st_ite {t a b : Expr} {t' a' b' : E} {pos : Pos} (ht : ST X c W t t') (ha : ST X c W a a') (hb : ST X c W b b') : ST X c W (.IfExp t a b pos) (.ite t' a' b') := by
  refine ⟨fun pins s σ H Q I h => ?_⟩
  have h' := testE (X := X) (c := c) (W := W) (t := t') (a := a') (b := b') (m := evE c (.ite t' a' b')) (fun env st => by first | (simp only [evE]; done) | (simp only [evE]; rfl)) (show tE (FX X c) W (evE c (.ite t' a' b')) σ H (fun v H' => ∃ b, v = .bl b ∧ Q b H') from h)
  show wpAny _ _ (do if ← isTrue t X.env (eval t X.env) then isTrue a X.env (eval a X.env) else isTrue b X.env (eval b X.env)) _ _ _
  refine wpAny_bind (thn (ht.run pins s σ H _ I h') fun k s1 ⟨H1, I1, q⟩ => ?_)
  cases k with
  | true => exact ha.run pins s1 σ H1 Q I1 (by rw [if_pos rfl] at q; exact q)
  | false => exact hb.run pins s1 σ H1 Q I1 (by rw [if_neg Bool.false_ne_true] at q; exact q)
theorem s_and {a b : Expr} {rest : List Expr} {a' b' : E} {pos : Pos} (ha : SE X c W a a') (hb : SE X c W (.BoolOp .And (b :: rest) pos) b') : SE X c W (.BoolOp .And (a :: b :: rest) pos) (.and a' b') := by
  refine PE.imp (pe_and ha hb) fun σ H Q h => ?_
  obtain ⟨ι, st, env, rs, re, p⟩ := h
  simp only [evE] at p
  refine ⟨ι, st, env, rs, re, p.bind.imp ?_⟩
  rintro x H1 ⟨ι1, st1, d1, p1, k1, rs1, rd1, q1⟩
  split at q1
  · have := rd1.bl_inv; subst this
    exact ⟨true, rfl, iteT ⟨ι1, st1, env, rs1, re.mono p1 k1, q1⟩⟩
  · have := rd1.bl_inv; subst this
    exact ⟨false, rfl, iteF (q1.here rs1 (.bl false))⟩
  · exact q1.elim
theorem s_or {a b : Expr} {rest : List Expr} {a' b' : E} {pos : Pos} (ha : SE X c W a a') (hb : SE X c W (.BoolOp .Or (b :: rest) pos) b') : SE X c W (.BoolOp .Or (a :: b :: rest) pos) (.or a' b') := by
  refine PE.imp (pe_or ha hb) fun σ H Q h => ?_
  obtain ⟨ι, st, env, rs, re, p⟩ := h
  simp only [evE] at p
  refine ⟨ι, st, env, rs, re, p.bind.imp ?_⟩
  rintro x H1 ⟨ι1, st1, d1, p1, k1, rs1, rd1, q1⟩
  split at q1
  · have := rd1.bl_inv; subst this
    exact ⟨false, rfl, iteF ⟨ι1, st1, env, rs1, re.mono p1 k1, q1⟩⟩
  · have := rd1.bl_inv; subst this
    exact ⟨true, rfl, iteT (q1.here rs1 (.bl true))⟩
  · exact q1.elim
abbrev SW (X : Cx) (c : Ctx) (W : L2.WX) (e : Expr) (e' : E) : Prop := PW X e (tT (FX X c) W (evE c e'))
theorem PW.imp {e : Expr} {t t' : TT} (h : PW X e t) (f : ∀ σ H Q, t' σ H Q → t σ H Q) : PW X e t' := ⟨fun w pins s σ H Q I q => h.run w pins s σ H Q I (f _ _ _ q)⟩
theorem sw_and {a b : Expr} {rest : List Expr} {a' b' : E} {pos : Pos} (ha : ST X c W a a') (hb : SW X c W (.BoolOp .And (b :: rest) pos) b') : SW X c W (.BoolOp .And (a :: b :: rest) pos) (.and a' b') := by
  refine PW.imp (pw_and ha hb) fun σ H Q h => ?_
  obtain ⟨ι, st, env, rs, re, p⟩ := h
  simp only [evE] at p
  refine ⟨ι, st, env, rs, re, p.bind.imp ?_⟩
  rintro x H1 ⟨ι1, st1, d1, p1, k1, rs1, rd1, q1⟩
  split at q1
  · have := rd1.bl_inv; subst this
    exact ⟨true, rfl, iteT ⟨ι1, st1, env, rs1, re.mono p1 k1, q1⟩⟩
  · have := rd1.bl_inv; subst this
    obtain ⟨k, e, q⟩ := q1.here rs1 (.bl false)
    cases e
    exact ⟨false, rfl, iteF q⟩
  · exact q1.elim
theorem sw_or {a b : Expr} {rest : List Expr} {a' b' : E} {pos : Pos} (ha : ST X c W a a') (hb : SW X c W (.BoolOp .Or (b :: rest) pos) b') : SW X c W (.BoolOp .Or (a :: b :: rest) pos) (.or a' b') := by
  refine PW.imp (pw_or ha hb) fun σ H Q h => ?_
  obtain ⟨ι, st, env, rs, re, p⟩ := h
  simp only [evE] at p
  refine ⟨ι, st, env, rs, re, p.bind.imp ?_⟩
  rintro x H1 ⟨ι1, st1, d1, p1, k1, rs1, rd1, q1⟩
  split at q1
  · have := rd1.bl_inv; subst this
    exact ⟨false, rfl, iteF ⟨ι1, st1, env, rs1, re.mono p1 k1, q1⟩⟩
  · have := rd1.bl_inv; subst this
    obtain ⟨k, e, q⟩ := q1.here rs1 (.bl true)
    cases e
    exact ⟨true, rfl, iteT q⟩
  · exact q1.elim
/-- .. a list of them -/
theorem sl_nil : SL X c W [] [] := PA.imp pa_nil (by rintro σ H Q ⟨ι, st, env, rs, re, p⟩; simp only [evEs] at p; exact p ι H _ (pre_refl _) (Keep.refl _) rs .nil)
theorem sl_cons {e : Expr} {es : List Expr} {e' : E} {es' : List E} (h : SE X c W e e') (hs : SL X c W es es') (hst : starEach (e :: es) X.env = (false, eval e X.env) :: starEach es X.env) : SL X c W (e :: es) (e' :: es') := by
  refine PA.imp (pa_cons h hs hst) ?_
  rintro σ H Q ⟨ι, st, env, rs, re, p⟩
  simp only [evEs] at p
  refine ⟨ι, st, env, rs, re, p.bind.imp ?_⟩
  rintro x H1 ⟨ι1, st1, d1, p1, k1, rs1, rd1, q1⟩
  refine ⟨ι1, st1, env, rs1, re.mono p1 k1, (Post.bind (RA := RVs (FX X c)) q1).imp ?_⟩
  rintro y H2 ⟨ι2, st2, d2, p2, k2, rs2, rd2, q2⟩
  exact q2 ι2 H2 _ (pre_refl _) (Keep.refl _) rs2 (.cons (rd1.mono p2 k2) rd2)
theorem listE {es : List E} {g : List D → Sto → R D} {σ : St} {H : Hp} {Q : VK} {m : Env → Sto → R D} (hm : ∀ env st, m env st = (evEs c es env st).bind g) (h : tE (FX X c) W m σ H Q) :
    tL (FX X c) W (evEs c es) σ H fun xs H1 => ∃ ι1 st1 ds, Rs (FX X c) ι1 st1 H1 ∧ RVs (FX X c) ι1 H1 ds xs ∧ Post (FX X c) (RV (FX X c)) Q (fun c d H' => W c d σ H') ι1 H1 (g ds st1) := by
  obtain ⟨ι, st, env, rs, re, p⟩ := h
  rw [hm] at p
  refine ⟨ι, st, env, rs, re, (Post.bind (RA := RVs (FX X c)) p).imp ?_⟩
  rintro x H1 ⟨ι1, st1, d1, p1, k1, rs1, rd1, q1⟩
  exact ⟨ι1, st1, d1, rs1, rd1, q1⟩
theorem s_lst {es : List Expr} {es' : List E} {pos : Pos} (h : SL X c W es es') : SE X c W (.List es pos) (.lst es') := by
  refine PE.imp (pe_lst h) fun σ H Q q => ?_
  obtain ⟨ι, st, env, rs, re, p⟩ := listE (es := es') (fun env st => by first | (simp only [evE]; done) | (simp only [evE]; rfl)) q
  refine ⟨ι, st, env, rs, re, p.imp ?_⟩
  rintro xs H1 ⟨ι1, st1, ds, rs1, rd, q⟩
  exact ⟨by rw [← rd.length]; exact newL_ok q, fun a ha => q.lst rs1 rd ha⟩
theorem s_tup {es : List Expr} {es' : List E} {k : Nat} {pos : Pos} (h : SL X c W es es') : SE X c W (.Tuple es k pos) (.tup es') := by
  refine PE.imp (pe_tup h) fun σ H Q q => ?_
  obtain ⟨ι, st, env, rs, re, p⟩ := listE (es := es') (fun env st => by first | (simp only [evE]; done) | (simp only [evE]; rfl)) q
  refine ⟨ι, st, env, rs, re, p.imp ?_⟩
  rintro xs H1 ⟨ι1, st1, ds, rs1, rd, q⟩
  split at q
  · rename_i hl
    exact ⟨by rw [← rd.length]; exact hl, fun a ha => q.tupl rs1 rd hl ha⟩
  · exact q.elim
theorem s_ix (C : Cok X c lv W) {a b : Expr} {a' b' : E} {pos : Pos} (ha : SE X c W a a') (hb : SE X c W b b') (hp : PlainIx b) : SE X c W (.Subscript a b pos) (.ix a' b') := by
  have R : IxR X (fun x y H Q => ∃ W, r2 (FX X c) W ixD x y H Q) := fun value slice pins s σ H x y v u Q I rx ry ⟨W, q⟩ hs => sub_ok (fld := c.fld) C.room.units value slice pins s σ H x y v u Q I rx ry q hs
  exact PE.imp (pe_ix R ha hb hp) fun σ H Q h => two (fun env st => by simp only [evE]) h
/-! slices -/
def tO (F : Fx) (W : L2.WX) (m : Env → Sto → R (Option Int)) : TO := fun σ H Q => ∃ ι st env, Rs F ι st H ∧ Re F ι H env σ ∧ Post F (fun _ _ a b => a = b) Q (fun c d H' => W c d σ H') ι H (m env st)
abbrev SO (X : Cx) (c : Ctx) (W : L2.WX) (e : Option Expr) (e' : Option E) : Prop := PO X e (tO (FX X c) W (evO c e'))
theorem so_none : SO X c W none none := ⟨fun pins s σ H Q I h => po_none.run pins s σ H Q I (by
  obtain ⟨ι, st, env, rs, re, p⟩ := h
  simp only [evO] at p
  exact p ι H _ (pre_refl _) (Keep.refl _) rs rfl)⟩
theorem so_some {e : Expr} {e' : E} (h : SE X c W e e') : SO X c W (some e) (some e') := ⟨fun pins s σ H Q I q => (po_some h).run pins s σ H Q I (by
  obtain ⟨ι, st, env, rs, re, p⟩ := q
  simp only [evO] at p
  refine ⟨ι, st, env, rs, re, p.bind.imp ?_⟩
  rintro x H1 ⟨ι1, st1, d1, p1, k1, rs1, rd1, q1⟩
  split at q1
  · have := rd1.int_inv; subst this
    exact ⟨_, rfl, q1 ι1 H1 _ (pre_refl _) (Keep.refl _) rs1 rfl⟩
  · exact q1.elim)⟩
theorem s_sl {a : Expr} {lo hi : Option Expr} {a' : E} {lo' hi' : Option E} {pos p2 : Pos} (ha : SE X c W a a') (hl : SO X c W lo lo') (hh : SO X c W hi hi') : SE X c W (.Subscript a (.Slice lo hi none p2) pos) (.sl a' lo' hi') := by
  have R : SlR X (fun x l h H Q => ∃ W, rS (FX X c) W slD x l h H Q) := fun pins s σ H x v vl vu lo hi sl Q I rx hs pl pu ⟨W, q⟩ => slice_ok (fld := c.fld) pins s σ H x v vl vu lo hi sl Q I rx hs pl pu q
  refine PE.imp (pe_slice R ha hl hh) fun σ H Q h => ?_
  obtain ⟨ι, st, env, rs, re, p⟩ := h
  simp only [evE] at p
  refine ⟨ι, st, env, rs, re, p.bind.imp ?_⟩
  rintro x H1 ⟨ι1, st1, d1, p1, k1, rs1, rd1, q1⟩
  refine ⟨ι1, st1, env, rs1, re.mono p1 k1, (Post.bind (RA := fun _ _ a b => a = b) q1).imp ?_⟩
  rintro l H2 ⟨ι2, st2, d2, p2, k2, rs2, rfl, q2⟩
  refine ⟨ι2, st2, env, rs2, (re.mono p1 k1).mono p2 k2, (Post.bind (RA := fun _ _ a b => a = b) q2).imp ?_⟩
  rintro h H3 ⟨ι3, st3, d3, p3, k3, rs3, rfl, q3⟩
  exact ⟨_, ι3, st3, d1, rs3, rd1.mono (p2.trans p3) (k2.trans k3), q3⟩
theorem rf_no {F : Fx} {ι : List Addr} {H : Hp} {fs : Fs} {vs : List (Str × V)} (h : RF F ι H fs vs) {m : String} (n : ∀ p ∈ fs, p.1 ≠ m) : vs.lookup (Str.ofString m) = none := by
  refine (rf_get h).2 ?_
  unfold getF
  rw [List.find?_eq_none.mpr fun p hp => by simpa using n p hp]
  rfl
theorem s_attr (C : Cok X c lv W) {a : Expr} {a' : E} {f : String} {pos : Pos} (ha : SE X c W a a') (hb : attributeBase a (Str.ofString f) X.env (eval a X.env) = eval a X.env) : SE X c W (.Attribute a (Str.ofString f) pos) (.attr a' f) := by
  refine PE.imp (pe_fld ha hb) fun σ H Q h => ?_
  obtain ⟨ι, st, env, rs, re, p⟩ := thenE (a := a') (fun env st => by first | (simp only [evE]; done) | (simp only [evE]; rfl)) h
  refine ⟨ι, st, env, rs, re, p.imp ?_⟩
  rintro x H1 ⟨ι1, st1, d, rs1, rd, q⟩
  unfold attrD at q
  split at q
  · split at q
    · rename_i cl fs hs
      split at q
      · rename_i e he
        cases rd with
        | ref hn =>
          obtain ⟨C', dx, vs, h0, h1, h2, h3, h4⟩ := rs1.at_ hn hs
          obtain ⟨v, h5, h6⟩ := (rf_get h2).1 e he
          have hf : f ∈ c.fld cl := by
            unfold getF at he
            obtain ⟨pr, hp1, hp2⟩ := Option.map_eq_some_iff.mp he
            have := List.find?_some hp1
            have := h4 pr (List.mem_of_find?_eq_some hp1)
            simp_all
          exact ⟨_, C', dx, vs, v, rfl, h1, h3, C.lib.noat cl C' f h0 hf, h5, q.here rs1 h6⟩
      · exact q.elim
    · exact q.elim
  · exact q.elim
/-! f-strings -/
theorem s_fmt {e : Expr} {e' : E} {pos : Pos} (h : SE X c W e e') : PE X (.FormattedValue e (-1) none pos) (fun σ H Q => tE (FX X c) W (evE c e') σ H fun x H1 => ∃ ι1 st1 d y, Rs (FX X c) ι1 st1 H1 ∧ RV (FX X c) ι1 H1 d x ∧ fmtD d = some y ∧ (StrOk y → Q (.str (tS y)) H1)) := by
  refine PE.imp (pe_fmt h) fun σ H Q q => ?_
  obtain ⟨ι, st, env, rs, re, p⟩ := q
  refine ⟨ι, st, env, rs, re, p.imp ?_⟩
  rintro x H1 ⟨ι1, st1, d, y, rs1, rd, hf, q⟩
  unfold fmtD at hf
  split at hf
  · cases hf
    obtain ⟨rfl, o⟩ := rd.str_inv
    exact .inl ⟨_, rfl, by rw [tS_length]; exact o.1, q o⟩
  · split at hf
    · rename_i hl
      cases hf
      have := rd.int_inv; subst this
      refine .inr ⟨_, rfl, hl, ?_⟩
      rw [txtI_tS]
      exact q (txtI_ok hl)
    · cases hf
  · cases hf
end
end Mi

set_option linter.all false
set_option maxRecDepth 100000
/-! M9: calls. -/
namespace Mi
open PySem PySem.Spec L2
open PyProof.Rows hiding St
section
variable {X : Cx} {c : Ctx} {lv : Nat} {W : L2.WX}
/-- a known def runs -/
theorem run_at (C : Cok X c lv W) {run : List D → Sto → R D} {n : Nat} {ks : List String} {pl : List Src} {a : Addr} (ff : FnFact X (FX X c) lv run n ks pl a) {pins : List (Addr × Obj)} {σ : St} {H : Hp} {s : Shared} {Q : VK} {us ws : List Value} {vs zs : List V}
    {ι : List Addr} {st : Sto} {ds es : List D} (I : Inv X pins σ H s) (r : Vals vs us) (rz : Vals zs ws) (rs : Rs (FX X c) ι st H) (rd : RVs (FX X c) ι H ds vs) (re : RVs (FX X c) ι H es zs) (hn : ds.length = n) (hm : es.length = ks.length)
    (q : Post (FX X c) (RV (FX X c)) Q (fun c d H' => W c d σ H') ι H (run (pl.map (Src.pick ds es)) st)) :
    wpAny (model X.prog X.w) X.A (call (.ref a) us ((ks.map Str.ofString).zip ws)) (EP X pins σ Q) X.xe s := by
  obtain ⟨fd, ps, g, gV, fk, hb, po⟩ := ff.ex
  have arg : spI (FX X c) pl.length run (gV vs zs) H Q (fun c d H' => W c d σ H') := ⟨ι, st, _, rs, po ι H ds vs es zs rd re hn hm, by simp, q⟩
  have lu : us.length = n := by rw [← r.length, ← rd.length, hn]
  have lw : ws.length = (ks.map Str.ofString).length := by rw [← rz.length, ← re.length, hm, List.length_map]
  refine wpAny_call (codeAny_mono (fk.run X.A X.stack s H ⟨us, (ks.map Str.ofString).zip ws⟩ (g us ws) (gV vs zs) Q _ (C.room.mono (Nat.le_succ _)) I.env0 (hb.to s us ws I.kIn lu lw) (hb.rel r rz) arg) fun o s' ho => ?_)
  match o, ho with
  | .error e, ho => exact C.takes _ _ (XE.of_call I (fun _ _ _ z => z) ho)
  | .ok (.ret u), ho => exact I.after ho
/-- the arguments, the keywords, then the call -/
theorem args_run {es : List Expr} {es' kes' : List E} {kws : List Keyword} {ks : List String} {pos : Pos} {f : Value} {first : List Value} {K' : List D → List D → Sto → R D}
    (hk : PySem.W.keepIn X.K f = true) (hlen : es.length = es'.length) (ha : SL X c W es es') (hkw : PK X kws (tL (FX X c) W (evEs c kes')))
    (hall : (backToKw pos (keywordEach kws X.env)).all (·.1.isSome) = true) (hks : (backToKw pos (keywordEach kws X.env)).filterMap (·.1) = ks.map Str.ofString)
    (hpl : ((backTo pos (starEach es X.env)).any (·.1) || (backToKw pos (keywordEach kws X.env)).any (·.1.isNone)) = false) (hst : ∀ e r, es = e :: r → starEach (e :: r) X.env = (false, eval e X.env) :: starEach r X.env)
    {pins : List (Addr × Obj)} {σ : St} {H : Hp} {s : Shared} {Q : VK} (I : Inv X pins σ H s) {ι : List Addr} {st : Sto} {env : Env} (rs : Rs (FX X c) ι st H) (re : Re (FX X c) ι H env σ)
    (p : Post (FX X c) (RV (FX X c)) Q (fun c d H' => W c d σ H') ι H ((evEs c es' env st).bind fun xs st => (evEs c kes' env st).bind fun zs st => K' xs zs st))
    (fin : ∀ us ws vs zs ι2 st2 ds qs H2 s2, Inv X pins σ H2 s2 → Vals vs us → Vals zs ws → ι <+: ι2 → Keep ι ι2 H H2 → Rs (FX X c) ι2 st2 H2 → RVs (FX X c) ι2 H2 ds vs → RVs (FX X c) ι2 H2 qs zs →
      Post (FX X c) (RV (FX X c)) Q (fun c d H' => W c d σ H') ι2 H2 (K' ds qs st2) → wpAny (model X.prog X.w) X.A (call f (first ++ us) ((ks.map Str.ofString).zip ws)) (EP X pins σ Q) X.xe s2) :
    wpAny (model X.prog X.w) X.A (callWith pos f first (backTo pos (starEach es X.env)) (backToKw pos (keywordEach kws X.env))) (EP X pins σ Q) X.xe s := by
  cases es with
  | nil =>
    have z : es' = [] := List.length_eq_zero_iff.mp hlen.symm
    subst z
    simp only [evEs, R.bind] at p
    refine PySem.W.callWith_KW0 (h₀ := X.base) I.ok.mod.kin hk hall ?_ hpl
    refine thn (hkw.run pos pins s σ H _ I ⟨ι, st, env, rs, re, Post.bind (RA := RVs (FX X c)) p⟩) ?_
    rintro ws s2 ⟨zs, H2, I2, rz, ι2, st2, qs, p2, k2, rs2, rq, q2⟩
    refine ⟨I2.kIn, ?_⟩
    rw [hks]
    exact fin [] ws [] zs ι2 st2 [] qs H2 s2 I2 .nil rz p2 k2 rs2 .nil rq q2
  | cons e r =>
    refine PySem.W.callWith_KW (h₀ := X.base) I.ok.mod.kin hk hall (thn (ha.run pos pins s σ H _ I ⟨ι, st, env, rs, re, Post.bind (RA := RVs (FX X c)) p⟩) ?_) hpl (hst e r rfl)
    rintro us s1 ⟨vs, H1, I1, r1, ι1, st1, ds, p1, k1, rs1, rd, q1⟩
    refine thn (hkw.run pos pins s1 σ H1 _ I1 ⟨ι1, st1, env, rs1, re.mono p1 k1, Post.bind (RA := RVs (FX X c)) q1⟩) ?_
    rintro ws s2 ⟨zs, H2, I2, rz, ι2, st2, qs, p2, k2, rs2, rq, q2⟩
    refine ⟨I2.kIn, ?_⟩
    rw [hks]
    exact fin us ws vs zs ι2 st2 ds qs H2 s2 I2 r1 rz (p1.trans p2) (k1.trans k2) rs2 (rd.mono p2 k2) rq q2
abbrev SK (X : Cx) (c : Ctx) (W : L2.WX) (kws : List Keyword) (kes' : List E) : Prop := PK X kws (tL (FX X c) W (evEs c kes'))
theorem sk_nil : SK X c W [] [] := ⟨fun pos pins s σ H Q I h => pk_nil.run pos pins s σ H Q I (by
  obtain ⟨ι, st, env, rs, re, p⟩ := h
  simp only [evEs] at p
  exact p ι H _ (pre_refl _) (Keep.refl _) rs .nil)⟩
theorem sk_cons {nm : Option Str} {e : Expr} {kpos : Pos} {kws : List Keyword} {e' : E} {es' : List E} (h : SE X c W e e') (hs : SK X c W kws es') : SK X c W (⟨nm, e, kpos⟩ :: kws) (e' :: es') := ⟨fun pos pins s σ H Q I q => (pk_cons h hs).run pos pins s σ H Q I (by
  obtain ⟨ι, st, env, rs, re, p⟩ := q
  simp only [evEs] at p
  refine ⟨ι, st, env, rs, re, p.bind.imp ?_⟩
  rintro x H1 ⟨ι1, st1, d1, p1, k1, rs1, rd1, q1⟩
  refine ⟨ι1, st1, env, rs1, re.mono p1 k1, (Post.bind (RA := RVs (FX X c)) q1).imp ?_⟩
  rintro y H2 ⟨ι2, st2, d2, p2, k2, rs2, rd2, q2⟩
  exact q2 ι2 H2 _ (pre_refl _) (Keep.refl _) rs2 (.cons (rd1.mono p2 k2) rd2))⟩
/-- how the written arguments lie -/
structure ArgOk (X : Cx) (es : List Expr) (es' : List E) (kws : List Keyword) (ks : List String) (pos : Pos) : Prop where
  len : es.length = es'.length
  all : (backToKw pos (keywordEach kws X.env)).all (·.1.isSome) = true
  ks : (backToKw pos (keywordEach kws X.env)).filterMap (·.1) = ks.map Str.ofString
  pl : ((backTo pos (starEach es X.env)).any (·.1) || (backToKw pos (keywordEach kws X.env)).any (·.1.isNone)) = false
  st : ∀ e r, es = e :: r → starEach (e :: r) X.env = (false, eval e X.env) :: starEach r X.env
theorem s_call (C : Cok X c lv W) {f : String} {es : List Expr} {es' kes' : List E} {kws : List Keyword} {ks : List String} {p pos : Pos} {pl : List Src} (hg : Gl X (Str.ofString f)) (hd : (Str.ofString f == ("__debug__" : Str)) = false)
    (hp : c.plan f es'.length ks = some pl) (ha : SL X c W es es') (hk : SK X c W kws kes') (ao : ArgOk X es es' kws ks pos) : SE X c W (.Call (.Name (Str.ofString f) p) es kws pos) (.call f es' ks kes') := by
  refine ⟨fun pins s σ H Q I h => ?_⟩
  obtain ⟨ι, st, env, rs, re, q⟩ := h
  simp only [evE] at q
  obtain ⟨a, h1, h2, _⟩ := C.lib.fn f _ ks pl hp
  refine wpAny_Call_Name_kw (ld_glob I hg h1 ?_ hd)
  refine args_run (first := []) h2 ao.len ha hk ao.all ao.ks ao.pl ao.st I rs re q ?_
  intro us ws vs zs ι2 st2 ds qs H2 s2 I2 r rz p2 k2 rs2 rd rq q2
  split at q2
  · rename_i pl' hp'
    split at q2
    · rename_i hl
      obtain ⟨a', g1, g2, ff⟩ := C.lib.fn f _ ks pl' hp'
      rw [h1] at g1
      cases g1
      exact run_at C ff I2 r rz rs2 rd rq rfl hl q2
    · exact q2.elim
  · exact q2.elim
/-- a built-in function -/
theorem s_biB (C : Cok X c lv W) {f : String} {id : String} {e : Expr} {es : List Expr} {e' : E} {es' : List E} {p pos : Pos} (hc : ∀ W', CallR X (.builtin id) (rL (FX X c) W' (biD f))) (hg : Gl X (Str.ofString f)) (hm : X.mg (Str.ofString f) = none) (hv : bootBuiltins (Str.ofString f) = some (.builtin id))
    (ha : SL X c W (e :: es) (e' :: es')) (hn : Str.ofString f ≠ "__name__") (hdb : (Str.ofString f == ("__debug__" : Str)) = false) (he : starEach (e :: es) X.env = (false, eval e X.env) :: starEach es X.env) (hpl : (backTo pos (starEach es X.env)).any (·.1) = false) :
    SE X c W (.Call (.Name (Str.ofString f) p) (e :: es) [] pos) (.bi f (e' :: es')) := by
  have R : CallR X (.builtin id) (fun xs H Q => ∃ W', rL (FX X c) W' (biD f) xs H Q) := fun pins s σ H xs us Q I r ⟨W', q⟩ => hc W' pins s σ H xs us Q I r q
  refine PE.imp (pe_callB R hg hm hv ha hn hdb he hpl) fun σ H Q q => ?_
  obtain ⟨ι, st, env, rs, re, p⟩ := listE (es := e' :: es') (g := fun xs st => biD f xs st) (fun env st => by simp only [evE]) q
  refine ⟨ι, st, env, rs, re, p.imp ?_⟩
  rintro xs H1 ⟨ι1, st1, ds, rs1, rd, q⟩
  exact ⟨_, ι1, st1, ds, rs1, rd, q⟩
theorem s_biT (C : Cok X c lv W) {f : String} {id : String} {e : Expr} {es : List Expr} {e' : E} {es' : List E} {p pos : Pos} (hc : ∀ W', CallR X (.type id) (rL (FX X c) W' (biD f))) (hg : Gl X (Str.ofString f)) (hm : X.mg (Str.ofString f) = none) (hv : bootBuiltins (Str.ofString f) = some (.type id))
    (ha : SL X c W (e :: es) (e' :: es')) (hn : Str.ofString f ≠ "__name__") (hdb : (Str.ofString f == ("__debug__" : Str)) = false) (he : starEach (e :: es) X.env = (false, eval e X.env) :: starEach es X.env) (hpl : (backTo pos (starEach es X.env)).any (·.1) = false) :
    SE X c W (.Call (.Name (Str.ofString f) p) (e :: es) [] pos) (.bi f (e' :: es')) := by
  have R : CallR X (.type id) (fun xs H Q => ∃ W', rL (FX X c) W' (biD f) xs H Q) := fun pins s σ H xs us Q I r ⟨W', q⟩ => hc W' pins s σ H xs us Q I r q
  refine PE.imp (pe_callTy R hg hm hv ha hn hdb he hpl) fun σ H Q q => ?_
  obtain ⟨ι, st, env, rs, re, p⟩ := listE (es := e' :: es') (g := fun xs st => biD f xs st) (fun env st => by simp only [evE]) q
  refine ⟨ι, st, env, rs, re, p.imp ?_⟩
  rintro xs H1 ⟨ι1, st1, ds, rs1, rd, q⟩
  exact ⟨_, ι1, st1, ds, rs1, rd, q⟩
def biNames : List (String × Bool) := [("len", true), ("isinstance", true), ("abs", true), ("max", true), ("min", true), ("all", true), ("any", true), ("sum", true), ("sorted", true), ("int", false), ("str", false), ("list", false), ("tuple", false), ("dict", false)]
theorem bi_boot : ∀ f ∈ biNames, bootBuiltins (Str.ofString f.1) = some (if f.2 = true then .builtin f.1 else .type f.1) ∧ Str.ofString f.1 ≠ "__name__" ∧ (Str.ofString f.1 == ("__debug__" : Str)) = false := by decide +kernel
theorem bi_rule (C : Cok X c lv W) (W' : XK) : ∀ f ∈ biNames, CallR X (if f.2 = true then .builtin f.1 else .type f.1) (rL (FX X c) W' (biD f.1)) := by
  intro f hf
  simp only [biNames, List.mem_cons, List.not_mem_nil, or_false] at hf
  rcases hf with rfl | rfl | rfl | rfl | rfl | rfl | rfl | rfl | rfl | rfl | rfl | rfl | rfl | rfl
  · exact len_ok
  · exact isi_ok
  · exact abs_ok
  · exact max_ok C.calm
  · exact min_ok C.calm
  · exact all_ok C.calm
  · exact any_ok C.calm
  · exact sum_ok C.calm
  · exact sorted_ok C.calm
  · exact int_ok
  · exact str_ok
  · exact list_ok C.calm
  · exact tuple_ok
  · exact dict_ok
theorem s_bi (C : Cok X c lv W) {f : String} {b : Bool} {e : Expr} {es : List Expr} {e' : E} {es' : List E} {p pos : Pos} (hf : (f, b) ∈ biNames) (hb : c.bi f = true) (hg : Gl X (Str.ofString f))
    (ha : SL X c W (e :: es) (e' :: es')) (he : starEach (e :: es) X.env = (false, eval e X.env) :: starEach es X.env) (hpl : (backTo pos (starEach es X.env)).any (·.1) = false) :
    SE X c W (.Call (.Name (Str.ofString f) p) (e :: es) [] pos) (.bi f (e' :: es')) := by
  obtain ⟨h1, h2, h3⟩ := bi_boot _ hf
  have hr := fun W' => bi_rule C W' _ hf
  cases b with
  | true => exact s_biB C hr hg (C.lib.bi f hb) h1 ha h2 h3 he hpl
  | false => exact s_biT C hr hg (C.lib.bi f hb) h1 ha h2 h3 he hpl
/-- o.m(..) -/
theorem s_meth (C : Cok X c lv W) {a : Expr} {a' : E} {m : String} {es : List Expr} {es' kes' : List E} {kws : List Keyword} {ks : List String} {apos pos : Pos} (hao : SE X c W a a') (hba : attributeBase a (Str.ofString m) X.env (eval a X.env) = eval a X.env)
    (hline : (apos.endLine == pos.line) = true) (hform : methodCallForm (es.length + kws.length) (backTo pos (starEach es X.env)) (backToKw pos (keywordEach kws X.env)) = true)
    (hkl : kws = [] ↔ kes' = []) (ha : SL X c W es es') (hk : SK X c W kws kes') (ao : ArgOk X es es' kws ks pos) : SE X c W (.Call (.Attribute a (Str.ofString m) apos) es kws pos) (.meth a' m es' ks kes') := by
  refine ⟨fun pins s σ H Q I h => ?_⟩
  obtain ⟨ι, st, env, rs, re, q⟩ := h
  simp only [evE] at q
  have he := mcall_of (t := fun ov => do
      let (f, first) ← holding [ov] (getMethod ov (Str.ofString m) (plainOf a X.env))
      callWith pos f first (backTo pos (starEach es X.env)) (backToKw pos (keywordEach kws X.env))) hba (fun ov => mcall_line hform hline)
  cases hE : evE c a' env st with
  | no => rw [hE] at q; exact q.elim
  | exc cl fs st1 =>
    rw [hE] at q
    refine PySem.W.methodCall_KW (pl := plainOf a X.env) (thn (hao.run pins s σ H (fun _ _ => False) I ⟨ι, st, env, rs, re, by rw [hE]; exact q⟩) ?_) he
    rintro u s1 ⟨x, H1, I1, rx, z⟩
    exact z.elim
  | ok d st1 =>
    rw [hE] at q
    have q : Post (FX X c) (RV (FX X c)) Q (fun c d H' => W c d σ H') ι H (match kindOf st1 d with
      | .own cl => (match c.mplan cl m (es'.length + 1) ks with
        | some pl => (evEs c es' env st1).bind fun xs st => (evEs c kes' env st).bind fun zs st => if xs.length = es'.length ∧ zs.length = ks.length then c.mrun cl m (pl.map (Src.pick (d :: xs) zs)) st else .no
        | none => .no)
      | k => if mtOk k m = true ∧ ks = [] ∧ kes' = [] then (evEs c es' env st1).bind fun xs st => methD k m d xs st else .no) := q
    have recv : ∀ {Z : Sto → Prop}, Z st1 → tE (FX X c) W (evE c a') σ H fun x H1 => ∃ ι1, ι <+: ι1 ∧ Keep ι ι1 H H1 ∧ Rs (FX X c) ι1 st1 H1 ∧ RV (FX X c) ι1 H1 d x ∧ Re (FX X c) ι1 H1 env σ := fun {Z} _ =>
      ⟨ι, st, env, rs, re, by rw [hE]; exact fun ι' H' b p k rs' rd => ⟨ι', p, k, rs', rd, re.mono p k⟩⟩
    have own : ∀ cl, kindOf st1 d = .own cl → wpAny (model X.prog X.w) X.A (eval (.Call (.Attribute a (Str.ofString m) apos) es kws pos) X.env) (EP X pins σ Q) X.xe s := by
      intro cl hK
      rw [hK] at q
      dsimp only at q
      split at q
      · rename_i pl hp
        refine PySem.W.methodCall_KW (pl := plainOf a X.env) (thn (hao.run pins s σ H _ I (recv (Z := fun _ => True) trivial)) ?_) he
        rintro u s1 ⟨x, H1, I1, rx, ι1, p1, k1, rs1, rd, re1⟩
        have hobj : ∃ n fs, d = .ref n ∧ st1[n]? = some (.obj cl fs) := by
          unfold kindOf at hK
          split at hK
          · cases hK
          · split at hK
            · cases hK
            · cases hK
            · rename_i n c' fs hs
              cases hK
              exact ⟨_, fs, rfl, hs⟩
            · cases hK
          · cases hK
        obtain ⟨n, fs, rfl, hs⟩ := hobj
        cases rd with
        | @ref _ o hn =>
          obtain ⟨C', dx, vs, h0, h1, h2, h3, h4⟩ := rs1.at_ hn hs
          cases rx
          obtain ⟨C2, g, e1, e2, e3, ff⟩ := C.lib.mt cl m _ ks pl hp
          rw [show X.mg (Str.ofString cl) = _ from h0] at e1
          cases e1
          refine getmeth_ok I1 h1 h3 e2 (rf_no h2 fun pr hp z => e3 (z ▸ h4 pr hp)) ?_
          refine args_run (first := [.ref o]) (K' := fun xs zs st => if xs.length = es'.length ∧ zs.length = ks.length then c.mrun cl m (pl.map (Src.pick (.ref n :: xs) zs)) st else .no) e2.kp ao.len ha hk ao.all ao.ks ao.pl ao.st I1 rs1 re1 (q.mono p1 k1) ?_
          intro us ws vs' zs ι2 st2 ds qs H2 s2 I2 r rz p2 k2 rs2 rd2 rq q2
          split at q2
          · rename_i hl
            exact run_at C ff (us := .ref o :: us) (vs := .ref o :: vs') I2 (.cons rfl r) rz rs2 (.cons (.ref (pre_get p2 hn)) rd2) rq (by rw [List.length_cons, hl.1]) hl.2 q2
          · exact q2.elim
      · exact q.elim
    have blt : ∀ k, kindOf st1 d = k → (∀ cl, k ≠ .own cl) → wpAny (model X.prog X.w) X.A (eval (.Call (.Attribute a (Str.ofString m) apos) es kws pos) X.env) (EP X pins σ Q) X.xe s := by
      intro k hK hno
      have qq : Post (FX X c) (RV (FX X c)) Q (fun c d H' => W c d σ H') ι H (if mtOk k m = true ∧ ks = [] ∧ kes' = [] then (evEs c es' env st1).bind fun xs st => methD k m d xs st else .no) := by
        rw [hK] at q
        cases k with
        | own cl => exact absurd rfl (hno cl)
        | _ => exact q
      split at qq
      · rename_i hk3
        obtain ⟨hmt, rfl, hke⟩ := hk3
        have hkw : kws = [] := hkl.mpr hke
        subst hkw
        obtain ⟨hkd, id, t1, t2, t3, t4⟩ := mt_known (X := X) (W := fun c d H' => W c d σ H') (fld := c.fld) hmt
        refine wpAny_Call_method_late hba (by unfold methodCallForm at hform; exact hform) hline rfl (thn (hao.run pins s σ H _ I (recv (Z := fun _ => True) trivial)) ?_)
        rintro u s1 ⟨x, H1, I1, rx, ι1, p1, k1, rs1, rd, re1⟩
        obtain ⟨y1, y2⟩ := tyV_is I1 rx (kind_tyV rs1 rd hK hkd)
        refine ⟨kdT k, id, t1, t2, t3, y1, y2, ?_⟩
        have pl0 : (backTo pos (starEach es X.env)).any (·.1) = false := (Bool.or_eq_false_iff.mp ao.pl).1
        refine Calls.callWith_builtin pl0 ?_
        cases es with
        | nil =>
          have z : es' = [] := List.length_eq_zero_iff.mp ao.len.symm
          subst z
          simp only [evEs, R.bind] at qq
          exact PySem.evalArgs_none (t4 pins s1 σ H1 x [] u [] Q I1 rx .nil ⟨ι1, st1, d, [], rs1, rd, .nil, qq.mono p1 k1⟩)
        | cons e r =>
          have hA := ha.run pos pins s1 σ H1 _ I1 ⟨ι1, st1, env, rs1, re1, Post.bind (RA := RVs (FX X c)) (qq.mono p1 k1)⟩
          rw [ao.st e r rfl] at hA ⊢
          refine Calls.evalArgs_plain (thn hA ?_)
          rintro us s2 ⟨vs, H2, I2, r2, ι2, st2, ds, p2, k2, rs2, rd2, q2⟩
          exact t4 pins s2 σ H2 x vs u us Q I2 rx r2 ⟨ι2, st2, d, ds, rs2, rd.mono p2 k2, rd2, q2⟩
      · exact qq.elim
    cases hK : kindOf st1 d with
    | own cl => exact own cl hK
    | _ => exact blt _ hK (by intro cl z; cases z)
end
end Mi

set_option linter.all false
set_option maxRecDepth 100000
/-! M10: f-strings, what is walked, comprehensions. -/
namespace Mi
open PySem PySem.Spec L2
open PyProof.Rows hiding St
section
variable {X : Cx} {c : Ctx} {lv : Nat} {W : L2.WX}
/-! ### f-strings -/
def tF (F : Fx) (W : L2.WX) (m : Env → Sto → R D) : TE := fun σ H Q => tE F W m σ H fun x H1 => ∃ ι1 st1 d y, Rs F ι1 st1 H1 ∧ RV F ι1 H1 d x ∧ fmtD d = some y ∧ (StrOk y → Q (.str (tS y)) H1)
abbrev SF (X : Cx) (c : Ctx) (W : L2.WX) (e : Expr) (e' : E) : Prop := PE X e (tF (FX X c) W (evE c e'))
theorem sf_fmt {e : Expr} {e' : E} {pos : Pos} (h : SE X c W e e') : SF X c W (.FormattedValue e (-1) none pos) e' := s_fmt h
theorem sf_str {x : Str} {j pos} (o : StrOk x.cps.toList) : SF X c W (.Constant (.str x) j pos) (.str x.cps.toList) := by
  refine PE.imp pe_str ?_
  rintro σ H Q ⟨ι, st, env, rs, re, p⟩
  simp only [evE] at p
  obtain ⟨ι1, st1, d, y, rs1, rd, hf, q⟩ := p.here rs (.str _ o)
  have e : tS x.cps.toList = x := by cases x; simp [tS]
  have hy : y = x.cps.toList := by
    have : V.str (tS x.cps.toList) = V.str (tS x.cps.toList) := rfl
    cases d <;> first | (simp [fmtD] at hf; done) | skip
    · exact absurd rd (by intro z; cases z)
    · obtain ⟨h1, _⟩ := rd.str_inv
      simp only [fmtD, Option.some.injEq] at hf
      subst hf
      exact (tS_inj (V.str.inj h1)).symm
  subst hy
  rw [e] at q
  exact q o
inductive SFs (X : Cx) (c : Ctx) (W : L2.WX) : List Expr → List E → Prop where
  | nil : SFs X c W [] []
  | cons {e : Expr} {e' : E} {es : List Expr} {es' : List E} : SF X c W e e' → SFs X c W es es' → SFs X c W (e :: es) (e' :: es')
theorem SFs.pj {es : List Expr} {es' : List E} (h : SFs X c W es es') : PJ X es (es'.map fun e' => tF (FX X c) W (evE c e')) := by
  induction h with
  | nil => exact .nil
  | cons a _ ih => exact .cons a ih
theorem fs_run {σ : St} {Q : Str → Hp → Prop} {env : Env} : ∀ {es' : List E} {acc : List Nat} {ι : List Addr} {st : Sto} {H : Hp}, StrOk acc → Rs (FX X c) ι st H → Re (FX X c) ι H env σ →
    Post (FX X c) (RV (FX X c)) (fun x H' => ∀ y, x = .str y → Q y H') (fun c d H' => W c d σ H') ι H (evFs c es' acc env st) →
    tJs (es'.map fun e' => tF (FX X c) W (evE c e')) (tS acc) σ H Q
  | [], acc, ι, st, H, o, rs, re, p => by
    simp only [evFs] at p
    exact p.here rs (.str acc o) _ rfl
  | e :: es, acc, ι, st, H, o, rs, re, p => by
    simp only [evFs] at p
    refine ⟨ι, st, env, rs, re, p.bind.imp ?_⟩
    rintro x H1 ⟨ι1, st1, d, p1, k1, rs1, rd, q1⟩
    split at q1
    · rename_i y hy
      refine ⟨ι1, st1, d, y, rs1, rd, hy, fun oy => ?_⟩
      split at q1
      · rename_i hl
        have o2 : StrOk (acc ++ y) := ⟨hl, fun k hk => by
          rcases List.mem_append.mp hk with hk | hk
          · exact o.2 k hk
          · exact oy.2 k hk⟩
        refine ⟨tS y, rfl, by rw [← tS_append, tS_length]; exact hl, ?_⟩
        rw [← tS_append]
        exact fs_run o2 rs1 (re.mono p1 k1) q1
      · exact q1.elim
    · exact q1.elim
theorem s_fstr {e1 e2 : Expr} {es : List Expr} {es' : List E} {pos : Pos} (h : SFs X c W (e1 :: e2 :: es) es') : SE X c W (.JoinedStr (e1 :: e2 :: es) pos) (.fstr es') := by
  refine PE.imp (pe_joined h.pj) ?_
  rintro σ H Q ⟨ι, st, env, rs, re, p⟩
  simp only [evE] at p
  have o : StrOk [] := ⟨Nat.zero_le _, fun k hk => by cases hk⟩
  exact fs_run (acc := []) o rs re (p.imp fun x H' q y e => e ▸ q)
/-! ### what is walked -/
structure JOk (F : Fx) (ι : List Addr) (H : Hp) (iv : Iv) (J : L2.It) : Prop where
  sm : ∀ ι' st' H' i d, ι <+: ι' → Keep ι ι' H H' → Rs F ι' st' H' → nextI st' i iv = some (some d) → J.go i H' ∧ ∀ x H'', J.yld i H' x H'' → Same H' H'' ∧ RV F ι' H'' d x
  sp : ∀ ι' st' H' i, ι <+: ι' → Keep ι ι' H H' → Rs F ι' st' H' → nextI st' i iv = some none → J.stop i H'
theorem same_keep {ι : List Addr} {H H' : Hp} (h : Same H H') : Keep ι ι H H' := ⟨fun _ _ => h _ _, fun _ _ _ => h _ _, fun _ _ _ => h _ _, fun _ _ => h _ _, fun _ _ _ => h _ _, fun _ q n => absurd q n⟩
theorem Rs.same {F : Fx} {ι : List Addr} {st : Sto} {H H' : Hp} (r : Rs F ι st H) (h : Same H H') : Rs F ι st H' :=
  r.side (same_keep h) fun b hb => by
    obtain ⟨n, hn⟩ := List.mem_iff_getElem?.mp hb
    obtain ⟨u, hu, _⟩ := r.has hn
    rw [hu, h _ _ hu]
theorem same_new {H : Hp} {T : Addr} {o : HO} (h : H T = none) : Same H (upd H T o) := fun b u e => by rw [upd_ne (ne_of_none e h)]; exact e
def tIt (F : Fx) (W : L2.WX) (m : Env → Sto → R Iv) : TI := fun σ H R => ∃ ι st env, Rs F ι st H ∧ Re F ι H env σ ∧ Post F (fun ι H iv J => JOk F ι H iv J) R (fun c d H' => W c d σ H') ι H (m env st)
abbrev SI (X : Cx) (c : Ctx) (W : L2.WX) (tg e : Expr) (i' : Mi.It) : Prop := PI X tg e (tIt (FX X c) W (itE c i'))
theorem PI.imp {tg e : Expr} {t t' : TI} (h : PI X tg e t) (f : ∀ σ H R, t' σ H R → t σ H R) : PI X tg e t' := ⟨fun pins s σ H R I q => h.run pins s σ H R I (f _ _ _ q)⟩
theorem PI.or {tg e : Expr} {t t' : TI} (h : PI X tg e t) (h' : PI X tg e t') : PI X tg e (fun σ H R => t σ H R ∨ t' σ H R) := ⟨fun pins s σ H R I q => q.elim (h.run pins s σ H R I) (h'.run pins s σ H R I)⟩
/-- the iterator of a list -/
theorem jok_list {F : Fx} {ι : List Addr} {st : Sto} {H : Hp} {d : D} {v : V} {iv : Iv} (rs : Rs F ι st H) (rd : RV F ι H d v) (h : ivL st d = some iv) : ∃ a xs, v = .ref a ∧ SqL F.K H a xs ∧ JOk F ι H iv (Itl F.K a) ∧ JOk F ι H (.enum iv) (Ite F.K a) := by
  have fin : ∀ {a : Addr} {iv : Iv}, (∀ ι' st' H', ι <+: ι' → Keep ι ι' H H' → Rs F ι' st' H' → (∀ i, nextI st' i iv = none) ∨ ∃ ds vs, SqL F.K H' a vs ∧ RVs F ι' H' ds vs ∧ ∀ i, nextI st' i iv = some ds[i]?) → JOk F ι H iv (Itl F.K a) ∧ JOk F ι H (.enum iv) (Ite F.K a) := by
    intro a iv hh
    refine ⟨⟨fun ι' st' H' i e p k r hn => ?_, fun ι' st' H' i p k r hn => ?_⟩, ⟨fun ι' st' H' i e p k r hn => ?_, fun ι' st' H' i p k r hn => ?_⟩⟩
    · rcases hh ι' st' H' p k r with z | ⟨ds, vs, h1, h3, h4⟩
      · rw [z] at hn; cases hn
      · rw [h4] at hn
        obtain ⟨w, w1, w2⟩ := h3.get (Option.some.inj hn)
        refine ⟨⟨vs, w, h1, w1⟩, ?_⟩
        rintro x H'' ⟨rfl, hx⟩
        have := hx vs h1
        rw [w1] at this
        cases this
        exact ⟨Same.refl _, w2⟩
    · rcases hh ι' st' H' p k r with z | ⟨ds, vs, h1, h3, h4⟩
      · rw [z] at hn; cases hn
      · rw [h4] at hn
        refine ⟨vs, h1, ?_⟩
        rw [← h3.length]
        exact List.getElem?_eq_none_iff.mp (Option.some.inj hn)
    · simp only [nextI] at hn
      split at hn
      · rename_i q hq
        cases hn
        rcases hh ι' st' H' p k r with z | ⟨ds, vs, h1, h3, h4⟩
        · rw [z] at hq; cases hq
        · rw [h4] at hq
          obtain ⟨w, w1, w2⟩ := h3.get (Option.some.inj hq)
          refine ⟨⟨vs, w, h1, w1⟩, ?_⟩
          rintro x H'' ⟨T, y, rfl, hT, rfl, hy⟩
          have := hy vs h1
          rw [w1] at this
          cases this
          have kk := same_keep (ι := ι') (same_new (o := .tup [.int (i : Nat), w]) hT)
          exact ⟨same_new hT, .tup (SqT.of upd_same) (.cons (.int _) (.one (w2.mono (pre_refl _) kk))) (by rw [sizeLine_eq]; simp)⟩
      · cases hn
      · cases hn
    · simp only [nextI] at hn
      split at hn
      · cases hn
      · rename_i hq
        rcases hh ι' st' H' p k r with z | ⟨ds, vs, h1, h3, h4⟩
        · rw [z] at hq; cases hq
        · rw [h4] at hq
          refine ⟨vs, h1, ?_⟩
          rw [← h3.length]
          exact List.getElem?_eq_none_iff.mp (Option.some.inj hq)
      · cases hn
  cases rd with
  | @cl ds vs a h1 h2 h3 =>
    cases h
    refine ⟨a, vs, rfl, h1.sq, fin fun ι' st' H' p k r => .inr ⟨ds, vs, (k.cl h1).sq, h2.mono p k, fun i => rfl⟩⟩
  | @ref n a e =>
    simp only [ivL] at h
    split at h
    · rename_i xs hs
      cases h
      obtain ⟨vs, h1, h2, h3⟩ := rs.at_ e hs
      refine ⟨a, vs, rfl, SqL.of h1, fin fun ι' st' H' p k r => ?_⟩
      cases hc : st'[n]? with
      | none => exact .inl fun i => by simp [nextI, hc]
      | some o =>
        cases o with
        | lst ys =>
          obtain ⟨ws, g1, g2, g3⟩ := r.at_ (pre_get p e) hc
          exact .inr ⟨ys, ws, SqL.of g1, g2, fun i => by simp [nextI, hc]⟩
        | _ => exact .inl fun i => by simp [nextI, hc]
    · cases h
  | _ => cases h
theorem jok_tup {F : Fx} {ι : List Addr} {H : Hp} {ds : List D} {vs : List V} {a : Addr} (t : SqT F.K H a vs) (r : RVs F ι H ds vs) : JOk F ι H (.fix ds) (Itt F.K a) := by
  refine ⟨fun ι' st' H' i e p k rs hn => ?_, fun ι' st' H' i p k rs hn => ?_⟩
  · obtain ⟨w, w1, w2⟩ := (r.mono p k).get (Option.some.inj hn)
    refine ⟨⟨vs, w, k.sqT t, w1⟩, ?_⟩
    rintro x H'' ⟨rfl, hx⟩
    have := hx vs (k.sqT t)
    rw [w1] at this
    cases this
    exact ⟨Same.refl _, w2⟩
  · refine ⟨vs, k.sqT t, ?_⟩
    rw [← r.length]
    exact List.getElem?_eq_none_iff.mp (Option.some.inj hn)
theorem jok_str {F : Fx} {ι : List Addr} {H : Hp} {x : List Nat} (o : StrOk x) : JOk F ι H (.fix (x.map fun c => .str [c])) (Its (tS x)) := by
  have sz : (tS x).cps.size = x.length := by simp [tS]
  refine ⟨fun ι' st' H' i e p k rs hn => ?_, fun ι' st' H' i p k rs hn => ?_⟩
  · have h1 : (x.map fun c => D.str [c])[i]? = some e := Option.some.inj hn
    rw [List.getElem?_map] at h1
    obtain ⟨q, hq, rfl⟩ := Option.map_eq_some_iff.mp h1
    have hi := (List.getElem?_eq_some_iff.mp hq).1
    refine ⟨by show i < _; rw [sz]; exact hi, ?_⟩
    rintro y H'' ⟨rfl, q', hq', rfl⟩
    have e1 : (tS x).cps[i]? = some q := by simpa [tS] using hq
    rw [e1] at hq'
    cases hq'
    exact ⟨Same.refl _, .str [q] ⟨by rw [sizeLine_eq]; simp, fun c hc => by rw [List.mem_singleton.mp hc]; exact o.2 q (List.mem_of_getElem? hq)⟩⟩
  · show _ ≤ i
    rw [sz]
    have h1 : (x.map fun c => D.str [c])[i]? = none := Option.some.inj hn
    simpa using h1
theorem jok_range {F : Fx} {ι : List Addr} {H : Hp} (lo : Int) (n : Nat) : JOk F ι H (.fix (rangeL lo n)) (Itr lo n) := by
  have len : (rangeL lo n).length = n := by simp [rangeL]
  refine ⟨fun ι' st' H' i e p k rs hn => ?_, fun ι' st' H' i p k rs hn => ?_⟩
  · have h1 : (rangeL lo n)[i]? = some e := Option.some.inj hn
    have hi := (List.getElem?_eq_some_iff.mp h1).1
    rw [len] at hi
    refine ⟨hi, ?_⟩
    rintro y H'' ⟨rfl, rfl⟩
    have e1 : (rangeL lo n)[i]? = some (.int (lo + (i : Int))) := by simp [rangeL, hi]
    rw [e1] at h1
    cases h1
    exact ⟨Same.refl _, .int _⟩
  · have h1 : (rangeL lo n)[i]? = none := Option.some.inj hn
    rw [List.getElem?_eq_none_iff, len] at h1
    exact h1
theorem si_e {tg e : Expr} {e' : E} (h : SE X c W e e') : SI X c W tg e (.e e') := by
  refine PI.imp (PI.or (pi_list h) (PI.or (pi_tup h) (pi_str h))) ?_
  rintro σ H R ⟨ι, st, env, rs, re, p⟩
  simp only [itE] at p
  cases hE : evE c e' env st with
  | no => rw [hE] at p; exact p.elim
  | exc cl fs st1 => rw [hE] at p; exact .inl ⟨ι, st, env, rs, re, by rw [hE]; exact p⟩
  | ok d st1 =>
    rw [hE] at p
    have pp : Post (FX X c) (fun ι H iv J => JOk (FX X c) ι H iv J) R (fun c d H' => W c d σ H') ι H (match ivOf st1 d with | some iv => .ok iv st1 | none => .no) := p
    split at pp
    · rename_i iv hiv
      cases d with
      | tup ds =>
        cases hiv
        refine .inr (.inl ⟨ι, st, env, rs, re, ?_⟩)
        rw [hE]
        intro ι' H' b q k rs' rd
        cases rd with
        | tup t r z => exact ⟨_, rfl, ⟨_, t⟩, pp ι' H' _ q k rs' (jok_tup t r)⟩
      | str x =>
        cases hiv
        refine .inr (.inr ⟨ι, st, env, rs, re, ?_⟩)
        rw [hE]
        intro ι' H' b q k rs' rd
        obtain ⟨rfl, o⟩ := rd.str_inv
        exact ⟨_, rfl, pp ι' H' _ q k rs' (jok_str o)⟩
      | cl ds =>
        refine .inl ⟨ι, st, env, rs, re, ?_⟩
        rw [hE]
        intro ι' H' b q k rs' rd
        obtain ⟨a, xs, rfl, h1, h2, _⟩ := jok_list (iv := iv) rs' rd (by simpa [ivL, ivOf] using hiv)
        exact ⟨a, rfl, ⟨xs, h1⟩, pp ι' H' _ q k rs' h2⟩
      | ref n =>
        refine .inl ⟨ι, st, env, rs, re, ?_⟩
        rw [hE]
        intro ι' H' b q k rs' rd
        obtain ⟨a, xs, rfl, h1, h2, _⟩ := jok_list (iv := iv) rs' rd (by simpa only [ivL, ivOf] using hiv)
        exact ⟨a, rfl, ⟨xs, h1⟩, pp ι' H' _ q k rs' h2⟩
      | _ => cases hiv
    · exact pp.elim
theorem si_range1 {tg a : Expr} {a' : E} {q pos : Pos} (hg : Gl X "range") (hm : X.mg "range" = none) (h : SL X c W [a] [a']) (hs : starEach [a] X.env = [(false, eval a X.env)]) : SI X c W tg (.Call (.Name "range" q) [a] [] pos) (.range1 [a']) := by
  refine PI.imp (pi_range1 hg hm h hs) ?_
  rintro σ H R ⟨ι, st, env, rs, re, p⟩
  rw [itE] at p
  refine ⟨ι, st, env, rs, re, (Post.bind (RA := RVs (FX X c)) p).imp ?_⟩
  rintro xs H1 ⟨ι1, st1, ds, p1, k1, rs1, rd, q1⟩
  split at q1
  · obtain ⟨v, rfl, rv⟩ := vs1 rd
    have := rv.int_inv; subst this
    split at q1
    · rename_i hl
      exact ⟨_, rfl, hl.1, hl.2, q1 ι1 H1 _ (pre_refl _) (Keep.refl _) rs1 (jok_range 0 _)⟩
    · exact q1.elim
  · exact q1.elim
theorem si_range2 {tg a b : Expr} {a' b' : E} {q pos : Pos} (hg : Gl X "range") (hm : X.mg "range" = none) (h : SL X c W [a, b] [a', b']) (hs : starEach [a, b] X.env = [(false, eval a X.env), (false, eval b X.env)]) (hs2 : starEach [b] X.env = [(false, eval b X.env)]) :
    SI X c W tg (.Call (.Name "range" q) [a, b] [] pos) (.range2 [a', b']) := by
  refine PI.imp (pi_range2 hg hm h hs hs2) ?_
  rintro σ H R ⟨ι, st, env, rs, re, p⟩
  rw [itE] at p
  refine ⟨ι, st, env, rs, re, (Post.bind (RA := RVs (FX X c)) p).imp ?_⟩
  rintro xs H1 ⟨ι1, st1, ds, p1, k1, rs1, rd, q1⟩
  split at q1
  · obtain ⟨v, w, rfl, rv, rw'⟩ := vs2 rd
    have := rv.int_inv; have := rw'.int_inv; subst_vars
    split at q1
    · rename_i hl
      exact ⟨_, _, rfl, hl, q1 ι1 H1 _ (pre_refl _) (Keep.refl _) rs1 (jok_range _ _)⟩
    · exact q1.elim
  · exact q1.elim
theorem si_enum {a : Expr} {a' : E} {q pos tpos : Pos} {elts : List Expr} {kk : Nat} (hg : Gl X "enumerate") (hm : X.mg "enumerate" = none) (h : SE X c W a a') (hs : starEach [a] X.env = [(false, eval a X.env)]) :
    SI X c W (.Tuple elts kk tpos) (.Call (.Name "enumerate" q) [a] [] pos) (.enum a') := by
  refine PI.imp (pi_enum hg hm (pa_cons h pa_nil hs) hs) ?_
  rintro σ H R ⟨ι, st, env, rs, re, p⟩
  simp only [itE] at p
  refine ⟨ι, st, env, rs, re, p.bind.imp ?_⟩
  rintro x H1 ⟨ι1, st1, d, p1, k1, rs1, rd, q1⟩
  split at q1
  · rename_i iv hiv
    obtain ⟨o, xs, rfl, h1, _, h2⟩ := jok_list rs1 rd hiv
    exact ⟨_, _, rfl, h1, q1 ι1 H1 _ (pre_refl _) (Keep.refl _) rs1 h2⟩
  · exact q1.elim
/-- a list's items at a place -/
theorem ivL_at {F : Fx} {ι : List Addr} {st : Sto} {H : Hp} {d : D} {v : V} {iv : Iv} (rs : Rs F ι st H) (rd : RV F ι H d v) (h : ivL st d = some iv) :
    ∃ a xs, v = .ref a ∧ SqL F.K H a xs ∧ ∀ ι' st' H', ι <+: ι' → Keep ι ι' H H' → Rs F ι' st' H' → (∀ i, nextI st' i iv = none) ∨ ∃ ds vs, SqL F.K H' a vs ∧ RVs F ι' H' ds vs ∧ ∀ i, nextI st' i iv = some ds[i]? := by
  cases rd with
  | @cl ds vs a h1 h2 h3 =>
    cases h
    exact ⟨a, vs, rfl, h1.sq, fun ι' st' H' p k r => .inr ⟨ds, vs, (k.cl h1).sq, h2.mono p k, fun i => rfl⟩⟩
  | @ref n a e =>
    simp only [ivL] at h
    split at h
    · rename_i xs hs
      cases h
      obtain ⟨vs, h1, h2, h3⟩ := rs.at_ e hs
      refine ⟨a, vs, rfl, SqL.of h1, fun ι' st' H' p k r => ?_⟩
      cases hc : st'[n]? with
      | none => exact .inl fun i => by simp [nextI, hc]
      | some o =>
        cases o with
        | lst ys =>
          obtain ⟨ws, g1, g2, g3⟩ := r.at_ (pre_get p e) hc
          exact .inr ⟨ys, ws, SqL.of g1, g2, fun i => by simp [nextI, hc]⟩
        | _ => exact .inl fun i => by simp [nextI, hc]
    · cases h
  | _ => cases h
theorem zip_some {st : Sto} {i : Nat} {a b : Iv} {d : D} (h : nextI st i (.zip a b) = some (some d)) : ∃ x y, nextI st i a = some (some x) ∧ nextI st i b = some (some y) ∧ d = .tup [x, y] := by
  simp only [nextI] at h
  split at h <;> first | (cases h; exact ⟨_, _, by assumption, by assumption, rfl⟩) | cases h
theorem zip_none {st : Sto} {i : Nat} {a b : Iv} (h : nextI st i (.zip a b) = some none) : (nextI st i a = some none ∧ ∃ q, nextI st i b = some q) ∨ ((∃ q, nextI st i a = some q) ∧ nextI st i b = some none) := by
  simp only [nextI] at h
  split at h <;> first | (cases h; done) | (rename_i h1 h2; first | exact .inl ⟨h1, _, h2⟩ | exact .inr ⟨⟨_, h1⟩, h2⟩)
theorem jok_zipL {F : Fx} {ι : List Addr} {st : Sto} {H : Hp} {d e : D} {v w : V} {iv jv : Iv} (rs : Rs F ι st H) (rd : RV F ι H d v) (re : RV F ι H e w) (h1 : ivL st d = some iv) (h2 : ivL st e = some jv) :
    ∃ a b xs ys, v = .ref a ∧ w = .ref b ∧ SqL F.K H a xs ∧ SqL F.K H b ys ∧ JOk F ι H (.zip iv jv) (Itz F.K a b) := by
  obtain ⟨a, xs, rfl, a1, a2⟩ := ivL_at rs rd h1
  obtain ⟨b, ys, rfl, b1, b2⟩ := ivL_at rs re h2
  refine ⟨a, b, xs, ys, rfl, rfl, a1, b1, fun ι' st' H' i e p k r hn => ?_, fun ι' st' H' i p k r hn => ?_⟩
  · obtain ⟨x, y, n1, n2, rfl⟩ := zip_some hn
    rcases a2 ι' st' H' p k r with z | ⟨ds, vs, c1, c2, c3⟩
    · rw [z] at n1; cases n1
    · rcases b2 ι' st' H' p k r with z | ⟨es, ws, g1, g2, g3⟩
      · rw [z] at n2; cases n2
      · rw [c3] at n1
        rw [g3] at n2
        obtain ⟨t, t1, t2⟩ := c2.get (Option.some.inj n1)
        obtain ⟨u, u1, u2⟩ := g2.get (Option.some.inj n2)
        refine ⟨⟨vs, ws, t, u, c1, g1, t1, u1⟩, ?_⟩
        rintro q H'' ⟨T, t', u', rfl, hT, rfl, f1, f2⟩
        have e1 := f1 vs c1
        have e2 := f2 ws g1
        rw [t1] at e1
        rw [u1] at e2
        cases e1
        cases e2
        have kk := same_keep (ι := ι') (same_new (o := .tup [t, u]) hT)
        exact ⟨same_new hT, .tup (SqT.of upd_same) (.cons (t2.mono (pre_refl _) kk) (.one (u2.mono (pre_refl _) kk))) (by rw [sizeLine_eq]; simp)⟩
  · rcases a2 ι' st' H' p k r with z | ⟨ds, vs, c1, c2, c3⟩
    · rcases zip_none hn with ⟨n1, _⟩ | ⟨⟨q, n1⟩, _⟩ <;> (rw [z] at n1; cases n1)
    · rcases b2 ι' st' H' p k r with z | ⟨es, ws, g1, g2, g3⟩
      · rcases zip_none hn with ⟨_, q, n1⟩ | ⟨_, n1⟩ <;> (rw [z] at n1; cases n1)
      · refine ⟨vs, ws, c1, g1, ?_⟩
        rcases zip_none hn with ⟨n1, _⟩ | ⟨_, n1⟩
        · rw [c3] at n1
          exact .inl (by rw [← c2.length]; exact List.getElem?_eq_none_iff.mp (Option.some.inj n1))
        · rw [g3] at n1
          exact .inr (by rw [← g2.length]; exact List.getElem?_eq_none_iff.mp (Option.some.inj n1))
theorem jok_zipT {F : Fx} {ι : List Addr} {H : Hp} {ds es : List D} {vs ws : List V} {a b : Addr} (t : SqT F.K H a vs) (r : RVs F ι H ds vs) (t2 : SqT F.K H b ws) (r2 : RVs F ι H es ws) : JOk F ι H (.zip (.fix ds) (.fix es)) (RZ.ItzT F.K a b) := by
  refine ⟨fun ι' st' H' i e p k rs hn => ?_, fun ι' st' H' i p k rs hn => ?_⟩
  · obtain ⟨x, y, n1, n2, rfl⟩ := zip_some hn
    obtain ⟨q, q1, q2⟩ := (r.mono p k).get (Option.some.inj n1)
    obtain ⟨u, u1, u2⟩ := (r2.mono p k).get (Option.some.inj n2)
    refine ⟨⟨vs, ws, q, u, k.sqT t, k.sqT t2, q1, u1⟩, ?_⟩
    rintro z H'' ⟨T, t', u', rfl, hT, rfl, f1, f2⟩
    have e1 := f1 vs (k.sqT t)
    have e2 := f2 ws (k.sqT t2)
    rw [q1] at e1
    rw [u1] at e2
    cases e1
    cases e2
    have kk := same_keep (ι := ι') (same_new (o := .tup [q, u]) hT)
    exact ⟨same_new hT, .tup (SqT.of upd_same) (.cons (q2.mono (pre_refl _) kk) (.one (u2.mono (pre_refl _) kk))) (by rw [sizeLine_eq]; simp)⟩
  · refine ⟨vs, ws, k.sqT t, k.sqT t2, ?_⟩
    rcases zip_none hn with ⟨n1, _⟩ | ⟨_, n1⟩
    · exact .inl (by rw [← r.length]; exact List.getElem?_eq_none_iff.mp (Option.some.inj n1))
    · exact .inr (by rw [← r2.length]; exact List.getElem?_eq_none_iff.mp (Option.some.inj n1))
theorem si_zip {a b : Expr} {a' b' : E} {q pos tpos : Pos} {elts : List Expr} {kk : Nat} (hg : Gl X "zip") (hm : X.mg "zip" = none) (ha : SE X c W a a') (hb : SE X c W b b') (hs : starEach [a, b] X.env = (false, eval a X.env) :: starEach [b] X.env) (hs2 : starEach [b] X.env = (false, eval b X.env) :: starEach [] X.env) (hpl : (backTo pos (starEach [b] X.env)).any (·.1) = false) :
    SI X c W (.Tuple elts kk tpos) (.Call (.Name "zip" q) [a, b] [] pos) (.zip a' b') := by
  refine PI.imp (RZ.pi_zipA hg hm (pa_cons ha (pa_cons hb pa_nil hs2) hs) hs hpl) ?_
  rintro σ H R ⟨ι, st, env, rs, re, p⟩
  simp only [itE] at p
  refine ⟨ι, st, env, rs, re, p.bind.imp ?_⟩
  rintro x H1 ⟨ι1, st1, d, p1, k1, rs1, rd, q1⟩
  refine ⟨ι1, st1, env, rs1, re.mono p1 k1, q1.bind.imp ?_⟩
  rintro y H2 ⟨ι2, st2, e, p2, k2, rs2, rd2, q2⟩
  have rd := rd.mono p2 k2
  split at q2
  · rename_i iv hiv
    unfold zipOf at hiv
    split at hiv
    · cases hiv
      cases rd with
      | tup t r z => cases rd2 with
        | tup t2 r2 z2 => exact ⟨_, _, _, _, rfl, .inr ⟨t, t2, q2 ι2 H2 _ (pre_refl _) (Keep.refl _) rs2 (jok_zipT t r t2 r2)⟩⟩
    · split at hiv
      · rename_i i j hi hj
        cases hiv
        obtain ⟨o, o2, xs, ys, rfl, rfl, h1, h2, h3⟩ := jok_zipL rs2 rd rd2 hi hj
        exact ⟨_, _, _, _, rfl, .inl ⟨h1, h2, q2 ι2 H2 _ (pre_refl _) (Keep.refl _) rs2 h3⟩⟩
      · cases hiv
  · exact q2.elim
/-! ### comprehensions -/
theorem Post.okEx {α β : Type} {F : Fx} {RA : List Addr → Hp → α → β → Prop} {Q : β → Hp → Prop} {W : XK} {ι : List Addr} {H : Hp} {r : R α} (h : Post F RA Q W ι H r) : r ≠ .no := by
  intro e; rw [e] at h; exact h
/-- a comprehension's target, item by item -/
def tG (F : Fx) (W : L2.WX) (m : D → Env → Sto → R Env) : TG := fun v σ H Q => ∃ ι st env d, Rs F ι st H ∧ Re F ι H env σ ∧ RV F ι H d v ∧
  Post F (fun ι H e σ' => Re F ι H e σ') Q (fun c d H' => W c d σ H') ι H (m d env st)
abbrev W0 : L2.WX := fun _ _ _ _ => False
abbrev SG (X : Cx) (c : Ctx) (W : L2.WX) (tg : Expr) (t : Tg) : Prop := PG X tg (tG (FX X c) W (asT c t))
/-- tests of a clause -/
def tP (F : Fx) (W : L2.WX) (m : Env → Sto → R Bool) : TT := fun σ H Q => ∃ ι st env, Rs F ι st H ∧ Re F ι H env σ ∧ Post F (fun _ _ a b => a = b) Q (fun c d H' => W c d σ H') ι H (m env st)
abbrev SP' (X : Cx) (c : Ctx) (W : L2.WX) (ifs : List Expr) (i' : Option E) : Prop := PTs X ifs (tP (FX X c) W (evI c i'))
theorem PTs.imp {ifs : List Expr} {t t' : TT} (h : PTs X ifs t) (f : ∀ σ H Q, t' σ H Q → t σ H Q) : PTs X ifs t' := ⟨fun pins s σ H Q I q => h.run pins s σ H Q I (f _ _ _ q)⟩
theorem sp_none : SP' X c W [] none := by
  refine PTs.imp pts_nil ?_
  rintro σ H Q ⟨ι, st, env, rs, re, p⟩
  simp only [evI] at p
  exact p ι H _ (pre_refl _) (Keep.refl _) rs rfl
theorem sp_some {e : Expr} {e' : E} (h : ST X c W e e') : SP' X c W [e] (some e') := by
  refine PTs.imp (pts_one h) ?_
  rintro σ H Q ⟨ι, st, env, rs, re, p⟩
  simp only [evI] at p
  refine ⟨ι, st, env, rs, re, p.bind.imp ?_⟩
  rintro x H1 ⟨ι1, st1, d1, p1, k1, rs1, rd1, q1⟩
  split at q1
  · have := rd1.bl_inv; subst this
    exact ⟨_, rfl, q1 ι1 H1 _ (pre_refl _) (Keep.refl _) rs1 rfl⟩
  · exact q1.elim
/-- targets: names alone -/
theorem sg_name {i : Nat} {x : Str} {pos : Pos} (hN : X.N.Nodup) (hi : X.N[i]? = some x) (hx : Loc X.env.scope x) (hf : X.fn x = true ∨ X.env.scope.names.lookup x = some .local) : SG X c W (.Name x pos) (.name i) := by
  refine ⟨fun pins s σ H v u Q I r h => (pg_name hN hi hx hf).run pins s σ H v u Q I r ?_⟩
  obtain ⟨ι, st, env, d, rs, re, rd, p⟩ := h
  simp only [asT] at p
  exact p ι H _ (pre_refl _) (Keep.refl _) rs (re.set i rd)
def tGs (F : Fx) (m : List D → Env → Sto → R Env) : TGs := fun vs σ H Q => ∃ ι st env ds, Rs F ι st H ∧ Re F ι H env σ ∧ RVs F ι H ds vs ∧
  Post F (fun ι H e σ' => Re F ι H e σ') Q (fun _ _ _ => False) ι H (m ds env st)
abbrev SGs (X : Cx) (c : Ctx) (tg : List Expr) (t : List Tg) : Prop := PGs X tg (tGs (FX X c) (asTs c t))
theorem sgs_nil : SGs X c [] [] := by
  refine ⟨fun pins s σ H v u Q I r h => pgs_nil.run pins s σ H v u Q I r ?_⟩
  obtain ⟨ι, st, env, d, rs, re, rd, p⟩ := h
  cases rd with
  | nil =>
    simp only [asTs] at p
    exact ⟨rfl, p ι H _ (pre_refl _) (Keep.refl _) rs re⟩
  | cons a b => simp only [asTs] at p; exact p.elim
theorem sgs_cons {e : Expr} {es : List Expr} {t : Tg} {ts : List Tg} (h1 : SG X c W0 e t) (h2 : SGs X c es ts) (hs : (assignEach (e :: es) X.env).map (·.2) = assign e X.env :: (assignEach es X.env).map (·.2)) : SGs X c (e :: es) (t :: ts) := by
  refine ⟨fun pins s σ H v u Q I r h => (pgs_cons h1 h2 hs).run pins s σ H v u Q I r ?_⟩
  obtain ⟨ι, st, env, d, rs, re, rd, p⟩ := h
  cases rd with
  | nil => simp only [asTs] at p; exact p.elim
  | @cons d ds v vs a b =>
    simp only [asTs] at p
    refine ⟨v, vs, rfl, ι, st, env, d, rs, re, a, (Post.bind (RA := fun ι H e σ' => Re (FX X c) ι H e σ') p).imp ?_⟩
    rintro σ' H1 ⟨ι1, st1, env1, p1, k1, rs1, re1, q1⟩
    exact ⟨ι1, st1, env1, ds, rs1, re1, b.mono p1 k1, q1⟩
theorem sg_tup {es : List Expr} {k : Nat} {pos : Pos} {ts : List Tg} (hc : X.calm = true) (h : SGs X c es ts) (hn : (assignEach es X.env).length = ts.length) (hst : (assignEach es X.env).findIdx? (·.1) = none) : SG X c W (.Tuple es k pos) (.tup ts) := by
  refine ⟨fun pins s σ H v u Q I r q => (pg_tup hc h hn hst).run pins s σ H v u Q I r ?_⟩
  obtain ⟨ι, st, env, d, rs, re, rd, p⟩ := q
  simp only [asT] at p
  split at p
  · cases rd with
    | tup t r' z =>
      split at p
      · rename_i hl
        exact ⟨_, _, rfl, t, by rw [← r'.length]; exact hl, ι, st, env, _, rs, re, r', p.calm⟩
      · exact p.elim
  · exact p.elim
/-- the same names are wiped behind a store into some of them -/
theorem wipe_set {σ : St} {i : Nat} {v : Option V} : ∀ {vs : List Nat}, i ∈ vs → L2.wipe (σ.set i v) vs = L2.wipe σ vs
  | [], h => by cases h
  | w :: vs, h => by
    unfold L2.wipe
    by_cases e : w = i
    · subst e
      by_cases hm : w ∈ vs
      · rw [wipe_set hm]
      · have : ∀ {ws : List Nat}, w ∉ ws → L2.wipe (σ.set w v) ws = (L2.wipe σ ws).set w v := by
          intro ws
          induction ws with
          | nil => intro _; rfl
          | cons u us ih =>
            intro hu
            simp only [List.mem_cons, not_or] at hu
            unfold L2.wipe
            rw [ih hu.2, List.set_comm _ _ hu.1]
        rw [this hm, List.set_set]
    · have hm : i ∈ vs := by
        rcases List.mem_cons.mp h with h | h
        · exact absurd h.symm e
        · exact h
      rw [wipe_set hm]
mutual
/-- the names that a target stores -/
def tgIn (own : List Nat) : Tg → Bool
  | .name i => own.contains i
  | .tup ts => tgsIn own ts
  | _ => false
def tgsIn (own : List Nat) : List Tg → Bool
  | [] => true
  | t :: ts => tgIn own t && tgsIn own ts
end
end
end Mi

set_option linter.all false
set_option maxRecDepth 100000
/-! M11: comprehensions. -/
namespace Mi
open PySem PySem.Spec L2
open PyProof.Rows hiding St
section
variable {X : Cx} {c : Ctx} {lv : Nat} {W : L2.WX}
/-- a comprehension's target: of the names own alone -/
def tGo (F : Fx) (own : List Nat) (m : D → Env → Sto → R Env) : TG := fun v σ H Q => ∃ ι st env d, Rs F ι st H ∧ Re F ι H env σ ∧ RV F ι H d v ∧
  Post F (fun ι H e σ' => Re F ι H e σ' ∧ L2.wipe σ' own = L2.wipe σ own) Q (fun _ _ _ => False) ι H (m d env st)
def tGso (F : Fx) (own : List Nat) (m : List D → Env → Sto → R Env) : TGs := fun vs σ H Q => ∃ ι st env ds, Rs F ι st H ∧ Re F ι H env σ ∧ RVs F ι H ds vs ∧
  Post F (fun ι H e σ' => Re F ι H e σ' ∧ L2.wipe σ' own = L2.wipe σ own) Q (fun _ _ _ => False) ι H (m ds env st)
abbrev SGo (X : Cx) (c : Ctx) (own : List Nat) (tg : Expr) (t : Tg) : Prop := PG X tg (tGo (FX X c) own (asT c t))
abbrev SGso (X : Cx) (c : Ctx) (own : List Nat) (tg : List Expr) (t : List Tg) : Prop := PGs X tg (tGso (FX X c) own (asTs c t))
theorem sgo_name {own : List Nat} {i : Nat} {x : Str} {pos : Pos} (ho : i ∈ own) (hN : X.N.Nodup) (hi : X.N[i]? = some x) (hx : Loc X.env.scope x) (hf : X.fn x = true ∨ X.env.scope.names.lookup x = some .local) : SGo X c own (.Name x pos) (.name i) := by
  refine ⟨fun pins s σ H v u Q I r h => (pg_name hN hi hx hf).run pins s σ H v u Q I r ?_⟩
  obtain ⟨ι, st, env, d, rs, re, rd, p⟩ := h
  simp only [asT] at p
  exact p ι H _ (pre_refl _) (Keep.refl _) rs ⟨re.set i rd, wipe_set ho⟩
theorem sgso_nil {own : List Nat} : SGso X c own [] [] := by
  refine ⟨fun pins s σ H v u Q I r h => pgs_nil.run pins s σ H v u Q I r ?_⟩
  obtain ⟨ι, st, env, d, rs, re, rd, p⟩ := h
  cases rd with
  | nil =>
    simp only [asTs] at p
    exact ⟨rfl, p ι H _ (pre_refl _) (Keep.refl _) rs ⟨re, rfl⟩⟩
  | cons a b => simp only [asTs] at p; exact p.elim
theorem sgso_cons {own : List Nat} {e : Expr} {es : List Expr} {t : Tg} {ts : List Tg} (h1 : SGo X c own e t) (h2 : SGso X c own es ts) (hs : (assignEach (e :: es) X.env).map (·.2) = assign e X.env :: (assignEach es X.env).map (·.2)) : SGso X c own (e :: es) (t :: ts) := by
  refine ⟨fun pins s σ H v u Q I r h => (pgs_cons h1 h2 hs).run pins s σ H v u Q I r ?_⟩
  obtain ⟨ι, st, env, d, rs, re, rd, p⟩ := h
  cases rd with
  | nil => simp only [asTs] at p; exact p.elim
  | @cons d ds v vs a b =>
    simp only [asTs] at p
    refine ⟨v, vs, rfl, ι, st, env, d, rs, re, a, (Post.bind (RA := fun ι H e σ' => Re (FX X c) ι H e σ' ∧ L2.wipe σ' own = L2.wipe σ own) p).imp ?_⟩
    rintro σ' H1 ⟨ι1, st1, env1, p1, k1, rs1, ⟨re1, w1⟩, q1⟩
    refine ⟨ι1, st1, env1, ds, rs1, re1, b.mono p1 k1, ?_⟩
    rw [w1]
    exact q1
theorem sgo_tup {own : List Nat} {es : List Expr} {k : Nat} {pos : Pos} {ts : List Tg} (hc : X.calm = true) (h : SGso X c own es ts) (hn : (assignEach es X.env).length = ts.length) (hst : (assignEach es X.env).findIdx? (·.1) = none) : SGo X c own (.Tuple es k pos) (.tup ts) := by
  refine ⟨fun pins s σ H v u Q I r q => (pg_tup hc h hn hst).run pins s σ H v u Q I r ?_⟩
  obtain ⟨ι, st, env, d, rs, re, rd, p⟩ := q
  simp only [asT] at p
  split at p
  · cases rd with
    | tup t r' z =>
      split at p
      · rename_i hl
        exact ⟨_, _, rfl, t, by rw [← r'.length]; exact hl, ι, st, env, _, rs, re, r', p.calm⟩
      · exact p.elim
  · exact p.elim
def RVo (F : Fx) (ι : List Addr) (H : Hp) : Option D → Option V → Prop
  | none, none => True
  | some d, some v => RV F ι H d v
  | _, _ => False
/-- one turn of a comprehension's loop -/
theorem turnC {F : Fx} {Q : VK} {W W' : XK} {ι : List Addr} {H : Hp} {item : R (Option D)} {f : Nat} {i : Nat} {acc : List D} {it : D → Sto → R (Option D)} {iv : Iv} {k : List D → Sto → R D} (Z : List Addr → Prop)
    (h : Post F (RV F) Q W ι H ((match item with
      | .ok none s => loopC it iv f (i + 1) acc s
      | .ok (some x) s => if acc.length < sl then loopC it iv f (i + 1) (acc ++ [x]) s else .no
      | .exc c fs s => .no
      | .no => .no).bind k)) :
    Post F (fun ι H o ov => RVo F ι H o ov ∧ Z ι) (fun ov H1 => ∃ ι1 st1, Z ι1 ∧ ι <+: ι1 ∧ Keep ι ι1 H H1 ∧ Rs F ι1 st1 H1 ∧ match ov with
      | none => Post F (RV F) Q W ι H ((loopC it iv f (i + 1) acc st1).bind k)
      | some v => ∃ x, RV F ι1 H1 x v ∧ acc.length < sl ∧ Post F (RV F) Q W ι H ((loopC it iv f (i + 1) (acc ++ [x]) st1).bind k)) W' ι H item := by
  cases item with
  | no => exact h
  | exc c fs s => exact h.elim
  | ok o s =>
    cases o with
    | none =>
      rintro ι' H' b p kp rs ⟨r, z⟩
      cases b with
      | none => exact ⟨ι', s, z, p, kp, rs, h⟩
      | some v => exact r.elim
    | some x =>
      rintro ι' H' b p kp rs ⟨r, z⟩
      cases b with
      | none => exact r.elim
      | some v =>
        have h' : Post F (RV F) Q W ι H ((if acc.length < sl then loopC it iv f (i + 1) (acc ++ [x]) s else .no).bind k) := h
        split at h'
        · rename_i hl
          exact ⟨ι', s, z, p, kp, rs, x, r, hl, h'⟩
        · exact h'.elim
theorem wipe_idem (σ : St) (vs : List Nat) : ∀ ws : List Nat, (∀ w ∈ ws, w ∈ vs) → L2.wipe (L2.wipe σ ws) vs = L2.wipe σ vs
  | [], _ => rfl
  | w :: ws, h => by
    show L2.wipe ((L2.wipe σ ws).set w none) vs = _
    rw [wipe_set (h w List.mem_cons_self)]
    exact wipe_idem σ vs ws fun x hx => h x (List.mem_cons_of_mem _ hx)
/-- a list that stands beside becomes a cell -/
theorem Rs.adopt {F : Fx} {ι : List Addr} {st : Sto} {H : Hp} {a : Addr} {o : O} (r : Rs F ι st H) (hn : a ∉ ι) (h : RO F (ι ++ [a]) H a o) : Rs F (ι ++ [a]) (st ++ [o]) H := by
  refine ⟨by rw [List.length_append, List.length_append, r.len]; rfl, ?_, fun n o' h' => ?_⟩
  · refine List.nodup_append.mpr ⟨r.nd, by simp, fun x hx y hy => ?_⟩
    rw [List.mem_singleton] at hy
    subst hy
    rintro rfl
    exact hn hx
  · by_cases hl : n < st.length
    · rw [List.getElem?_append_left hl] at h'
      obtain ⟨b, hb, q⟩ := r.cell n o' h'
      exact ⟨b, pre_get (List.prefix_append _ _) hb, q.monoT (List.prefix_append _ _) (KeepT.refl H) rfl⟩
    · rw [List.getElem?_append_right (by omega)] at h'
      have hz : n - st.length = 0 := by
        have := (List.getElem?_eq_some_iff.mp h').1
        simp at this
        omega
      rw [hz] at h'
      simp at h'
      subst h'
      refine ⟨a, ?_, h⟩
      rw [List.getElem?_append_right (by rw [r.len]; omega), r.len, hz]
      rfl
/-- a write beside the cells -/
theorem keepT_put {H : Hp} {a : Addr} {o u : HO} (h : H a = some u) (c : Cell u) : KeepT H (upd H a o) :=
  ⟨fun _ _ q => upd_old (.inr ⟨u, h, c⟩) q id, fun _ _ _ q => upd_old (.inr ⟨u, h, c⟩) q id, fun _ _ _ q => upd_old (.inr ⟨u, h, c⟩) q id⟩
theorem Rs.beside {F : Fx} {ι : List Addr} {st : Sto} {H : Hp} {a : Addr} {o u : HO} (r : Rs F ι st H) (hn : a ∉ ι) (h : H a = some u) (c : Cell u) : Rs F ι st (upd H a o) :=
  ⟨r.len, r.nd, fun n o' h' => by
    obtain ⟨b, hb, q⟩ := r.cell n o' h'
    exact ⟨b, hb, q.monoT (pre_refl _) (keepT_put h c) (upd_ne fun z => hn (z ▸ List.mem_of_getElem? hb))⟩⟩
theorem Keep.beside {ι ι' : List Addr} {H H' : Hp} {a : Addr} {o u : HO} (k : Keep ι ι' H H') (hn : H a = none) (h : H' a = some u) (c : Cell u) : Keep ι ι' H (upd H' a o) :=
  ⟨fun _ _ q => upd_old (.inr ⟨u, h, c⟩) (k.tup _ _ q) id, fun _ _ _ q => upd_old (.inr ⟨u, h, c⟩) (k.frl _ _ _ q) id, fun _ _ _ q => upd_old (.inr ⟨u, h, c⟩) (k.frt _ _ _ q) id,
    fun _ _ q => upd_old (.inr ⟨u, h, c⟩) (k.xd _ _ q) id, fun b v m q => by rw [upd_ne (ne_of_none q hn)]; exact k.out b v m q, k.new⟩
theorem lc_imp {it' : Mi.It} {t : Tg} {i' : Option E} {e' : E} {own : List Nat} {σ : St} {H : Hp} {Q : VK} (h : tE (FX X c) W (evE c (.comp e' t it' i' own)) σ H Q) :
    tLc (tIt (FX X c) W (itE c it')) (tGo (FX X c) own (asT c t)) (tP (FX X c) W0 (evI c i')) (tE (FX X c) W0 (evE c e')) own σ H Q := by
  obtain ⟨ι, st, env, rs, re, p⟩ := h
  simp only [evE] at p
  refine ⟨ι, st, env, rs, re, (Post.bind (RA := fun ι H iv J => JOk (FX X c) ι H iv J) p).imp ?_⟩
  rintro J H1 ⟨ι1, st1, iv, p1, k1, rs1, jok, q1⟩
  have re1 := re.mono p1 k1
  intro D hD
  have hDι : D ∉ ι1 := rs1.fresh hD
  generalize hitem : (fun d st => (asT c t d (wipeE env own) st).bind fun env1 st => (evI c i' env1 st).bind fun b st => if b = true then (evE c e' env1 st).bind fun y st => .ok (some y) st else .ok none st) = item at q1
  refine ⟨fun i m H => ∃ ι' st' acc vs, ι1 <+: ι' ∧ Keep ι1 ι' H1 H ∧ Rs (FX X c) ι' st' H ∧ D ∉ ι' ∧ H D = some (.lst vs) ∧ RVs (FX X c) ι' H acc vs ∧ acc.length ≤ sizeLine ∧
    Post (FX X c) (RV (FX X c)) Q (fun c d H' => W c d σ H') ι1 H1 ((loopC item iv m i acc st').bind fun xs st => alloc (.lst xs) st), ⟨_, ι1, st1, [], [], pre_refl _, Keep.side hD, rs1.tup hD, hDι, upd_same, .nil, Nat.zero_le _, q1⟩, ?_⟩
  rintro i m H2 ⟨ι2, st2, acc, vs, p2, k2, rs2, hn2, hD2, rv2, hl2, q2⟩
  cases m with
  | zero => exact q2.elim
  | succ m =>
    have q2' := q2
    unfold loopC at q2'
    cases hx : nextI st2 i iv with
    | none => rw [hx] at q2'; exact q2'.elim
    | some o =>
      rw [hx] at q2'
      cases o with
      | none =>
        left
        refine ⟨jok.sp ι2 st2 H2 i p2 k2 rs2 hx, ?_⟩
        have q3 : Post (FX X c) (RV (FX X c)) Q (fun c d H' => W c d σ H') ι1 H1 (alloc (.lst acc) st2) := q2'
        refine q3 (ι2 ++ [D]) H2 (.ref D) (p2.trans (List.prefix_append _ _)) ⟨k2.tup, k2.frl, k2.frt, k2.xd, k2.out, fun x hx1 hx2 => ?_⟩ (rs2.adopt hn2 ⟨vs, hD2, rv2.monoT (List.prefix_append _ _) (KeepT.refl _), hl2⟩) (.ref (by rw [List.getElem?_append_right (by rw [rs2.len]; omega), rs2.len]; simp))
        rcases List.mem_append.mp hx1 with hx1 | hx1
        · exact k2.new x hx1 hx2
        · rw [List.mem_singleton.mp hx1]; exact hD
      | some d =>
        right
        obtain ⟨go, yl⟩ := jok.sm ι2 st2 H2 i d p2 k2 rs2 hx
        refine ⟨go, _, fun H' h => ⟨m, Nat.lt_succ_self m, h⟩, fun x H3 hy => ?_⟩
        obtain ⟨sm, rd⟩ := yl x H3 hy
        have k3 : Keep ι2 ι2 H2 H3 := same_keep sm
        have rs3 := rs2.same sm
        have q3 := turnC (W' := fun _ _ _ => False) (k := fun xs st => alloc (.lst xs) st) (fun ι => D ∉ ι ∧ ι2 <+: ι) q2'
        rw [← hitem] at q3
        have q3 := Post.mono q3 p2 (k2.trans k3)
        refine ⟨ι2, st2, _, d, rs3, ((re1.mono p2 k2).mono (pre_refl _) k3).wipe _, rd, (Post.bind (RA := fun ι H e σ' => Re (FX X c) ι H e σ' ∧ L2.wipe σ' own = L2.wipe (L2.wipe σ own) own) q3).imp ?_⟩
        rintro σ4 H4 ⟨ι4, st4, env4, p4, k4, rs4, ⟨re4, w4⟩, q4⟩
        refine ⟨by rw [w4]; exact wipe_idem _ _ _ fun _ h => h, ι4, st4, env4, rs4, re4, (Post.bind (RA := fun _ _ a b => a = b) q4).imp ?_⟩
        rintro b H5 ⟨ι5, st5, bb, p5, k5, rs5, eb, q5⟩
        subst eb
        have hD3 : H3 D = some (.lst vs) := sm _ _ hD2
        have hD4 := k4.out D _ hn2 hD3
        have hn4 : D ∉ ι4 := fun z => by have := k4.new D z hn2; rw [hD3] at this; cases this
        have hD5 := k5.out D _ hn4 hD4
        have hn5 : D ∉ ι5 := fun z => by have := k5.new D z hn4; rw [hD4] at this; cases this
        have kT5 : KeepT H2 H5 := ((k3.trans k4).trans k5).t
        cases bb with
        | true =>
          rw [if_pos rfl] at q5
          refine iteT ⟨ι5, st5, env4, rs5, re4.mono p5 k5, (Post.bind (RA := RV (FX X c)) q5).imp ?_⟩
          rintro y H6 ⟨ι6, st6, dy, p6, k6, rs6, ry, q6⟩
          have hD6 := k6.out D _ hn5 hD5
          have hn6 : D ∉ ι6 := fun z => by have := k6.new D z hn5; rw [hD5] at this; cases this
          obtain ⟨ι7, st7, ⟨hn7, p27⟩, p7, k7, rs7, x', rx', hl7, rest⟩ := q6 ι6 H6 (some y) (pre_refl _) (Keep.refl _) rs6 ⟨ry, hn6, (p4.trans p5).trans p6⟩
          rw [hitem] at rest
          have kT6 : KeepT H2 H6 := (((k3.trans k4).trans k5).trans k6).t
          have kP : KeepT H6 (upd H6 D (.lst (vs ++ [y]))) := keepT_put hD6 trivial
          have hlen : acc.length + 1 ≤ sizeLine := hl7
          refine ⟨vs, hD6, by rw [← rv2.length]; exact hlen, ι7, st7, acc ++ [x'], vs ++ [y], p7, k7.beside hD hD6 trivial, rs7.beside hn7 hD6 trivial, hn7, upd_same, ?_, by rw [List.length_append]; exact hlen, rest⟩
          exact ((rv2.monoT p27 kT6).append (.one rx')).monoT (pre_refl _) kP
        | false =>
          rw [if_neg Bool.false_ne_true] at q5
          obtain ⟨ι7, st7, ⟨hn7, p27⟩, p7, k7, rs7, rest⟩ := q5 ι5 H5 none (pre_refl _) (Keep.refl _) rs5 ⟨trivial, hn5, p4.trans p5⟩
          rw [hitem] at rest
          exact iteF ⟨ι7, st7, acc, vs, p7, k7, rs7, hn7, hD5, rv2.monoT p27 kT5, hl2, rest⟩
theorem s_comp (C : Cok X c lv W) {elt tg iter : Expr} {ifs : List Expr} {scope : Scope} {pos : Pos} {own : List (Str × Nat)} {e' : E} {t : Tg} {it' : Mi.It} {i' : Option E} (hi : SI X c W tg iter it') (ok : BlkOk X.N X.env.scope scope own)
    (hg : ∀ (s : Shared) (H : Hp) (cc : Addr) (cl : List (Str × Addr)) (fp : List Addr), SGo (X.blk s H scope (compEnvC scope cl cc X.env) fp) c (own.map (·.2)) tg t)
    (ht : ∀ (s : Shared) (H : Hp) (cc : Addr) (cl : List (Str × Addr)) (fp : List Addr), SP' (X.blk s H scope (compEnvC scope cl cc X.env) fp) c W0 ifs i')
    (he : ∀ (s : Shared) (H : Hp) (cc : Addr) (cl : List (Str × Addr)) (fp : List Addr), SE (X.blk s H scope (compEnvC scope cl cc X.env) fp) c W0 elt e') (hs : ∀ x, foldedSetIterable iter X.env x = pure x) :
    SE X c W (.ListComp elt [⟨tg, iter, ifs, 0⟩] scope pos) (.comp e' t it' i' (own.map (·.2))) :=
  PE.imp (pe_lc (g := tGo (FX X c) (own.map (·.2)) (asT c t)) (tt := tP (FX X c) W0 (evI c i')) (te := tE (FX X c) W0 (evE c e')) C.calm C.nd hi ok hg ht he hs) fun σ H Q h => lc_imp h
end
end Mi

set_option linter.all false
set_option maxRecDepth 100000
/-! M12: statements. -/
namespace Mi
open PySem PySem.Spec L2
open PyProof.Rows hiding St
def PostS (F : Fx) (E : Ends) (W : L2.WX) (ι : List Addr) (H : Hp) : RS → Prop
  | .next e st => ∀ ι' H' σ', ι <+: ι' → Keep ι ι' H H' → Rs F ι' st H' → Re F ι' H' e σ' → E.nx σ' H'
  | .brk e st => ∀ ι' H' σ', ι <+: ι' → Keep ι ι' H H' → Rs F ι' st H' → Re F ι' H' e σ' → E.bk σ' H'
  | .cont e st => ∀ ι' H' σ', ι <+: ι' → Keep ι ι' H H' → Rs F ι' st H' → Re F ι' H' e σ' → E.ct σ' H'
  | .ret d st => ∀ ι' H' v, ι <+: ι' → Keep ι ι' H H' → Rs F ι' st H' → RV F ι' H' d v → E.rt v H'
  | .exc c fs e st => ∀ ι' H' C dx σ', ι <+: ι' → Keep ι ι' H H' → Rs F ι' st H' → Re F ι' H' e σ' → F.mg (Str.ofString c) = some (.ref C) → XF F ι' H' fs dx → W (.ref C) dx σ' H'
  | .no => False
def tSt (F : Fx) (W : L2.WX) (m : Env → Sto → RS) : TS := fun E σ H => ∃ ι st env, Rs F ι st H ∧ Re F ι H env σ ∧ PostS F E W ι H (m env st)
abbrev SS (X : Cx) (c : Ctx) (W : L2.WX) (s : Stmt) (s' : S) : Prop := PS X s (tSt (FX X c) W (exS c s'))
abbrev SSs (X : Cx) (c : Ctx) (W : L2.WX) (s : List Stmt) (s' : List S) : Prop := PSs X s (tSt (FX X c) W (exSs c s'))
section
variable {F : Fx} {E E' : Ends} {W : L2.WX} {ι ι' : List Addr} {H H' : Hp} {r : RS} {σ : St} {env : Env}
theorem PostS.mono (h : PostS F E W ι H r) (p : ι <+: ι') (k : Keep ι ι' H H') : PostS F E W ι' H' r := by
  cases r with
  | next e st => exact fun i h' b q k' => h i h' b (p.trans q) (k.trans k')
  | brk e st => exact fun i h' b q k' => h i h' b (p.trans q) (k.trans k')
  | cont e st => exact fun i h' b q k' => h i h' b (p.trans q) (k.trans k')
  | ret e st => exact fun i h' b q k' => h i h' b (p.trans q) (k.trans k')
  | exc c fs e st => exact fun i h' C dx σ' q k' => h i h' C dx σ' (p.trans q) (k.trans k')
  | no => exact h
/-- behind an expression's part -/
theorem PostS.of {α β : Type} {RA : List Addr → Hp → α → β → Prop} {a : R α} {k : α → Sto → RS} (re : Re F ι H env σ) (h : PostS F E W ι H (a.st env k)) :
    Post F RA (fun b H1 => ∃ ι1 st1 x, ι <+: ι1 ∧ Keep ι ι1 H H1 ∧ Rs F ι1 st1 H1 ∧ RA ι1 H1 x b ∧ PostS F E W ι1 H1 (k x st1)) (fun c d H' => W c d σ H') ι H a := by
  cases a with
  | ok x st => exact fun i h' b q k' rs ra => ⟨i, st, x, q, k', rs, ra, PostS.mono h q k'⟩
  | exc c fs st => exact fun i h' C dx q k' rs hm hx => h i h' C dx σ q k' rs (re.mono q k') hm hx
  | no => exact h
theorem PostS.nx {st : Sto} {e : Env} (h : PostS F E W ι H (.next e st)) (rs : Rs F ι st H) (re : Re F ι H e σ) : E.nx σ H := h ι H σ (pre_refl _) (Keep.refl _) rs re
end
section
variable {X : Cx} {c : Ctx} {lv : Nat} {W : L2.WX}
theorem ss_nil : SSs X c W [] [] := by
  refine PSs.imp pss_nil ?_
  rintro E σ H ⟨ι, st, env, rs, re, p⟩
  simp only [exSs] at p
  exact p.nx rs re
theorem ss_cons {s : Stmt} {r : List Stmt} {s' : S} {r' : List S} (h1 : SS X c W s s') (h2 : SSs X c W r r') : SSs X c W (s :: r) (s' :: r') := by
  refine PSs.imp (pss_cons h1 h2) ?_
  rintro E σ H ⟨ι, st, env, rs, re, p⟩
  simp only [exSs] at p
  refine ⟨ι, st, env, rs, re, ?_⟩
  split at p
  · rename_i e st1 he
    rw [he]
    exact fun i h' b q k rs' re' => ⟨i, st1, e, rs', re', p.mono q k⟩
  · rename_i hn
    cases hx : exS c s' env st with
    | next e st1 => exact absurd hx (hn e st1)
    | _ => rw [hx] at p; exact p
theorem ss_ex {e : Expr} {e' : E} {pos : Pos} (h : SE X c W e e') (hs : swapsWith e none pos.line X.env = pure false) : SS X c W (.Expr e pos) (.ex e') := by
  refine PS.imp (ps_expr h hs) ?_
  rintro E σ H ⟨ι, st, env, rs, re, p⟩
  simp only [exS] at p
  refine ⟨ι, st, env, rs, re, (PostS.of re p).imp ?_⟩
  rintro x H1 ⟨ι1, st1, d, p1, k1, rs1, rd, q⟩
  exact q.nx rs1 (re.mono p1 k1)
theorem ss_doc {x j pos pos'} : SS X c W (.Expr (.Constant (.str x) j pos) pos') .pass := by
  refine PS.imp ps_doc ?_
  rintro E σ H ⟨ι, st, env, rs, re, p⟩
  simp only [exS] at p
  exact p.nx rs re
theorem ss_pass {pos : Pos} : SS X c W (.Pass pos) .pass := by
  refine PS.imp ps_pass ?_
  rintro E σ H ⟨ι, st, env, rs, re, p⟩
  simp only [exS] at p
  exact p.nx rs re
theorem ss_brk {pos : Pos} : SS X c W (.Break pos) .brk := by
  refine PS.imp ps_break ?_
  rintro E σ H ⟨ι, st, env, rs, re, p⟩
  simp only [exS] at p
  exact p ι H σ (pre_refl _) (Keep.refl _) rs re
theorem ss_cont {pos : Pos} : SS X c W (.Continue pos) .cont := by
  refine PS.imp ps_continue ?_
  rintro E σ H ⟨ι, st, env, rs, re, p⟩
  simp only [exS] at p
  exact p ι H σ (pre_refl _) (Keep.refl _) rs re
theorem ss_ret {e : Expr} {e' : E} {pos : Pos} (h : SE X c W e e') : SS X c W (.Return (some e) pos) (.ret e') := by
  refine PS.imp (ps_ret h) ?_
  rintro E σ H ⟨ι, st, env, rs, re, p⟩
  simp only [exS] at p
  refine ⟨ι, st, env, rs, re, (PostS.of re p).imp ?_⟩
  rintro x H1 ⟨ι1, st1, d, p1, k1, rs1, rd, q⟩
  exact q ι1 H1 x (pre_refl _) (Keep.refl _) rs1 rd
theorem ss_retN {pos : Pos} : SS X c W (.Return none pos) .retN := by
  refine PS.imp ps_retN ?_
  rintro E σ H ⟨ι, st, env, rs, re, p⟩
  simp only [exS] at p
  exact p ι H .non (pre_refl _) (Keep.refl _) rs .non
theorem ss_if {t : Expr} {a b : List Stmt} {t' : E} {a' b' : List S} {pos : Pos} (ht : ST X c W t t') (ha : SSs X c W a a') (hb : SSs X c W b b') : SS X c W (.If t a b pos) (.iff t' a' b') := by
  refine PS.imp (ps_if ht ha hb) ?_
  rintro E σ H ⟨ι, st, env, rs, re, p⟩
  simp only [exS] at p
  refine ⟨ι, st, env, rs, re, (PostS.of re p).imp ?_⟩
  rintro x H1 ⟨ι1, st1, d, p1, k1, rs1, rd, q⟩
  split at q
  · have := rd.bl_inv; subst this
    exact ⟨true, rfl, iteT ⟨ι1, st1, env, rs1, re.mono p1 k1, q⟩⟩
  · have := rd.bl_inv; subst this
    exact ⟨false, rfl, iteF ⟨ι1, st1, env, rs1, re.mono p1 k1, q⟩⟩
  · exact q.elim
/-! ### stores -/
theorem ss_asg {tg e : Expr} {t : Tg} {e' : E} {pos : Pos} (he : SE X c W e e') (hg : SG X c W tg t) (hs : swapsWithSole [tg] e pos.line X.env = pure false) (hw : swappedStores [tg] e X.env = pure none) (h1 : (assignEach [tg] X.env).map (·.2) = [assign tg X.env]) :
    SS X c W (.Assign [tg] e pos) (.asg t e') := by
  refine PS.imp (ps_asg he hg hs hw h1) ?_
  rintro E σ H ⟨ι, st, env, rs, re, p⟩
  simp only [exS] at p
  refine ⟨ι, st, env, rs, re, (PostS.of re p).imp ?_⟩
  rintro x H1 ⟨ι1, st1, d, p1, k1, rs1, rd, q⟩
  refine ⟨ι1, st1, env, d, rs1, re.mono p1 k1, rd, (PostS.of (re.mono p1 k1) q).imp ?_⟩
  rintro σ2 H2 ⟨ι2, st2, env2, p2, k2, rs2, re2, q2⟩
  exact q2.nx rs2 re2
theorem ss_set (C : Cok X c lv W) {i : Nat} {x : Str} {e : Expr} {e' : E} {p' pos : Pos} (hi : X.N[i]? = some x) (hx : Loc X.env.scope x) (he : SE X c W e e') (hs : swapsWith e (some (.Name x p')) pos.line X.env = pure false) (hf : X.fn x = true ∨ X.env.scope.names.lookup x = some .local) :
    SS X c W (.Assign [.Name x p'] e pos) (.asg (.name i) e') := by
  refine PS.imp (ps_set C.nd hi hx he hs hf) ?_
  rintro E σ H ⟨ι, st, env, rs, re, p⟩
  simp only [exS, asT] at p
  refine ⟨ι, st, env, rs, re, (PostS.of re p).imp ?_⟩
  rintro x H1 ⟨ι1, st1, d, p1, k1, rs1, rd, q⟩
  have q' : PostS (FX X c) E W ι1 H1 (.next (env.set i (some d)) st1) := q
  exact q'.nx rs1 ((re.mono p1 k1).set i rd)
theorem ss_setLc (C : Cok X c lv W) {i : Nat} {x : Str} {p' spos : Pos} {elt tg iter : Expr} {ifs : List Expr} {scope : Scope} {pos : Pos} {own : List (Str × Nat)} {e' : E} {t : Tg} {it' : Mi.It} {i' : Option E} (hx : X.N[i]? = some x) (hxl : X.env.scope.names.lookup x = some .local)
    (hsw : swapsWith (.ListComp elt [⟨tg, iter, ifs, 0⟩] scope pos) (some (.Name x p')) spos.line X.env = pure true) (hi : SI X c W tg iter it') (ok : BlkOk X.N X.env.scope scope own)
    (hg : ∀ (s : Shared) (H : Hp) (cc : Addr) (cl : List (Str × Addr)) (fp : List Addr), SGo (X.blk s H scope (compEnvC scope cl cc X.env) fp) c (own.map (·.2)) tg t)
    (ht : ∀ (s : Shared) (H : Hp) (cc : Addr) (cl : List (Str × Addr)) (fp : List Addr), SP' (X.blk s H scope (compEnvC scope cl cc X.env) fp) c W0 ifs i')
    (he : ∀ (s : Shared) (H : Hp) (cc : Addr) (cl : List (Str × Addr)) (fp : List Addr), SE (X.blk s H scope (compEnvC scope cl cc X.env) fp) c W0 elt e') (hs : ∀ x, foldedSetIterable iter X.env x = pure x) :
    SS X c W (.Assign [.Name x p'] (.ListComp elt [⟨tg, iter, ifs, 0⟩] scope pos) spos) (.asg (.name i) (.comp e' t it' i' (own.map (·.2)))) := by
  refine PS.imp (ps_setLc (g := tGo (FX X c) (own.map (·.2)) (asT c t)) (tt := tP (FX X c) W0 (evI c i')) (te := tE (FX X c) W0 (evE c e')) C.calm C.nd hx hxl hsw hi ok hg ht he hs) ?_
  rintro E σ H ⟨ι, st, env, rs, re, p⟩
  rw [exS] at p
  refine lc_imp (W := W) ⟨ι, st, env, rs, re, (PostS.of re p).imp ?_⟩
  rintro x H1 ⟨ι1, st1, d, p1, k1, rs1, rd, q⟩
  have q' : PostS (FX X c) E W ι1 H1 (.next (env.set i (some d)) st1) := by
    simp only [asT] at q
    exact q
  exact q'.nx rs1 ((re.mono p1 k1).set i rd)
theorem ss_par (C : Cok X c lv W) {i j : Nat} {x y : Str} {a b : Expr} {a' b' : E} {px py pt : Pos} {kt k2 pt2} {pos : Pos} (hi : X.N[i]? = some x) (hj : X.N[j]? = some y) (hij : i ≠ j)
    (hx : X.env.scope.names.lookup x = some .local) (hy : X.env.scope.names.lookup y = some .local) (ha : SL X c W [a, b] [a', b'])
    (hw : swappedStores [.Tuple [.Name x px, .Name y py] kt pt] (.Tuple [a, b] k2 pt2) X.env = pure (some [x, y]))
    (hs : swapsWithSole [.Tuple [.Name x px, .Name y py] kt pt] (.Tuple [a, b] k2 pt2) pos.line X.env = pure false) :
    SS X c W (.Assign [.Tuple [.Name x px, .Name y py] kt pt] (.Tuple [a, b] k2 pt2) pos) (.asg (.tup [.name i, .name j]) (.tup [a', b'])) := by
  refine PS.imp (ps_par C.calm C.nd hi hj hij hx hy ha hw hs) ?_
  rintro E σ H ⟨ι, st, env, rs, re, p⟩
  simp only [exS, evE] at p
  have p' : PostS (FX X c) E W ι H ((evEs c [a', b'] env st).st env fun xs st => (if xs.length ≤ sl then R.ok (D.tup xs) st else R.no).st env fun x st => (asT c (.tup [.name i, .name j]) x env st).st env fun env st => .next env st) := by
    revert p
    generalize evEs c [a', b'] env st = r
    intro p
    cases r <;> exact p
  refine ⟨ι, st, env, rs, re, (PostS.of (RA := RVs (FX X c)) re p').imp ?_⟩
  rintro xs H1 ⟨ι1, st1, ds, p1, k1, rs1, rd, q⟩
  split at q
  · have q : PostS (FX X c) E W ι1 H1 ((asT c (.tup [.name i, .name j]) (.tup ds) env st1).st env fun env st => .next env st) := q
    simp only [asT] at q
    split at q
    · rename_i hl
      cases rd with
      | nil => cases hl
      | cons r1 t1 => cases t1 with
        | nil => cases hl
        | cons r2 t2 => cases t2 with
          | cons _ _ => simp at hl
          | nil =>
            simp only [asTs, asT] at q
            have q' : PostS (FX X c) E W ι1 H1 (.next ((env.set i (some _)).set j (some _)) st1) := q
            exact ⟨_, _, rfl, q'.nx rs1 (((re.mono p1 k1).set i r1).set j r2)⟩
    · exact q.elim
  · exact q.elim
/-- a store at a place, by values -/
theorem rk_put {F : Fx} {ι : List Addr} {H : Hp} {d : D} {k : Key} {e : D} {w : V} (hk : RKey d k) (r : RV F ι H e w) {kvs : List (D × D)} {ks : List (Key × V)} (h : RK F ι H kvs ks) : RK F ι H (putK kvs d e) (L2.putK ks k w) := by
  have any : ∀ {kvs : List (D × D)} {ks : List (Key × V)}, RK F ι H kvs ks → (kvs.any fun p => keyEq p.1 d) = ks.any fun kv => decide (kv.1 = k) := by
    intro kvs ks h
    induction h with
    | nil => rfl
    | cons e t ih => rw [List.any_cons, List.any_cons, ih, e.1.eq hk]
  have repl : ∀ {kvs : List (D × D)} {ks : List (Key × V)}, RK F ι H kvs ks → RK F ι H (kvs.map (fun p => if keyEq p.1 d = true then (p.1, e) else p)) (ks.map fun kv => if kv.1 = k then (kv.1, w) else kv) := by
    intro kvs ks h
    induction h with
    | nil => exact .nil
    | cons q t ih =>
      rw [List.map_cons, List.map_cons]
      refine .cons ?_ ih
      rw [q.1.eq hk]
      split
      · rename_i z
        rw [if_pos (by simpa using z)]
        exact ⟨q.1, r⟩
      · rename_i z
        rw [if_neg (by simpa using z)]
        exact q
  have app : ∀ {kvs : List (D × D)} {ks : List (Key × V)}, RK F ι H kvs ks → RK F ι H (kvs ++ [(d, e)]) (ks ++ [(k, w)]) := by
    intro kvs ks h
    induction h with
    | nil => exact .cons ⟨hk, r⟩ .nil
    | cons q t ih => exact .cons q ih
  unfold putK L2.putK
  rw [any h]
  split
  · exact repl h
  · exact app h
theorem len_putK (kvs : List (D × D)) (k v : D) : (putK kvs k v).length ≤ kvs.length + 1 := by
  unfold putK
  split
  · rw [List.length_map]; omega
  · simp
theorem RK.monoT {F : Fx} {ι ι' : List Addr} {H H' : Hp} {kvs : List (D × D)} {ks : List (Key × V)} (p : ι <+: ι') (k : KeepT H H') (h : RK F ι H kvs ks) : RK F ι' H' kvs ks := Paired.mapP h fun _ _ z => ⟨z.1, z.2.monoT p k⟩
/-- what is wanted behind it -/
def rSet (F : Fx) (W : XK) : V → V → V → Hp → (Hp → Prop) → Prop := fun o i v H Q => ∃ ι st a b d, Rs F ι st H ∧ RV F ι H a o ∧ RV F ι H b i ∧ RV F ι H d v ∧ Post F (fun _ _ _ (_ : Unit) => True) (fun _ H' => Q H') W ι H (setD a b d st)
theorem set_ok {W' : XK} (hu : X.A.units + 64 < cLine) : PSet X (rSet (FX X c) W') := by
  rintro pins s σ H o i v ov iv u Q I ro ri rv ⟨ι, st, a, b, d, rs, ra, rb, rd, p⟩
  unfold setD at p
  split at p
  · rename_i n b
    cases ra with
    | @ref _ l hn =>
      split at p
      · rename_i xs j hs
        obtain ⟨vs, h1, h2, h3⟩ := rs.at_ hn hs
        have := rb.int_inv; subst this
        split at p
        · rename_i k hk
          have k0 := rs.keepSet (u := .lst (vs.set k v)) hn
          refine set_list pins s σ H _ _ v ov iv u Q I ro ri rv ⟨l, vs, j, k, rfl, rfl, h1, by rw [← h2.length]; exact hk, ?_⟩
          exact p ι _ () (pre_refl _) k0 (rs.set hn ⟨_, upd_same, (h2.mono (pre_refl _) k0).set (rd.mono (pre_refl _) k0) k, by rw [List.length_set]; exact h3⟩) trivial
        · exact p.elim
      · rename_i kvs k hs
        split at p
        · rename_i hk
          obtain ⟨ks, h1, h2, h3⟩ := rs.at_ hn hs
          obtain ⟨key, k1, rfl⟩ := key_of_rv rb hk.1
          cases ro
          have hl : ks.length < sizeLine := by rw [← Paired.length h2]; exact hk.2
          have k0 := rs.keepSet (u := .dK (L2.putK ks key v)) hn
          refine d_setItem (by omega) I (DPut.k h1 hl) ri rv fun s' I' => ⟨_, I', ?_⟩
          refine p ι _ () (pre_refl _) k0 (rs.set hn ⟨_, upd_same, RK.monoT (pre_refl _) k0.t (rk_put k1 rd h2), ?_⟩) trivial
          exact Nat.le_trans (len_putK _ _ _) hk.2
        · exact p.elim
      · exact p.elim
  · exact p.elim
theorem sg_sub (C : Cok X c lv W) {o i : Expr} {o' i' : E} {pos : Pos} (ho : SE X c W o o') (hi : SE X c W i i')
    (ha : ∀ v, assign (.Subscript o i pos) X.env v = (do
      let ov ← holding [v] (eval o X.env)
      let iv ← holding [v, ov] (eval i X.env)
      standAt pos
      holding [v, ov, iv] (setItem ov iv v)
      release [v, ov, iv] [])) : SG X c W (.Subscript o i pos) (.sub o' i') := by
  have S : PSet X (fun o i v H Q => ∃ W', rSet (FX X c) W' o i v H Q) := fun pins s σ H o i v ov iv u Q I a b d ⟨W', q⟩ => set_ok C.room.units pins s σ H o i v ov iv u Q I a b d q
  refine ⟨fun pins s σ H v u Q I r h => (pg_sub ho hi S ha).run pins s σ H v u Q I r ?_⟩
  obtain ⟨ι, st, env, d, rs, re, rd, p⟩ := h
  simp only [asT] at p
  refine ⟨ι, st, env, rs, re, (Post.bind (RA := RV (FX X c)) p).imp ?_⟩
  rintro x H1 ⟨ι1, st1, d1, p1, k1, rs1, rd1, q1⟩
  refine ⟨ι1, st1, env, rs1, re.mono p1 k1, (Post.bind (RA := RV (FX X c)) q1).imp ?_⟩
  rintro y H2 ⟨ι2, st2, d2, p2, k2, rs2, rd2, q2⟩
  have k12 := k1.trans k2
  have p12 := p1.trans p2
  refine ⟨_, ι2, st2, d1, d2, d, rs2, rd1.mono p2 k2, rd2, rd.mono p12 k12, (Post.bind (RA := fun _ _ _ (_ : Unit) => True) q2).imp ?_⟩
  rintro _ H3 ⟨ι3, st3, _, p3, k3, rs3, _, q3⟩
  exact q3 ι3 H3 σ (pre_refl _) (Keep.refl _) rs3 (re.mono (p12.trans p3) (k12.trans k3))
theorem ss_fld (C : Cok X c lv W) {o e : Expr} {o' e' : E} {f : String} {p' pos : Pos} (ho : SE X c W o o') (he : SE X c W e e') (hs : swapsWith e (some (.Attribute o (Str.ofString f) p')) pos.line X.env = pure false) : SS X c W (.Assign [.Attribute o (Str.ofString f) p'] e pos) (.asg (.fld o' f) e') := by
  refine PS.imp (L2.ps_fld ho he hs) ?_
  rintro E σ H ⟨ι, st, env, rs, re, p⟩
  simp only [exS, asT] at p
  refine ⟨ι, st, env, rs, re, (PostS.of re p).imp ?_⟩
  rintro y H1 ⟨ι1, st1, d, p1, k1, rs1, rd, q⟩
  have q' : PostS (FX X c) E W ι1 H1 ((evE c o' env st1).st env fun x st => (fldD c.fld x f d st).st env fun _ st => .next env st) := by
    revert q
    generalize evE c o' env st1 = r
    intro q
    cases r with
    | ok x s =>
      have q : PostS (FX X c) E W ι1 H1 (((fldD c.fld x f d s).bind fun _ st => .ok env st).st env fun env st => .next env st) := q
      show PostS (FX X c) E W ι1 H1 ((fldD c.fld x f d s).st env fun _ st => .next env st)
      revert q
      generalize fldD c.fld x f d s = r2
      intro q
      cases r2 <;> exact q
    | exc _ _ _ => exact q
    | no => exact q
  refine ⟨ι1, st1, env, rs1, re.mono p1 k1, (PostS.of (re.mono p1 k1) q').imp ?_⟩
  rintro x H2 ⟨ι2, st2, d2, p2, k2, rs2, rd2, q2⟩
  unfold fldD at q2
  split at q2
  · rename_i n
    split at q2
    · rename_i cl fs hn
      split at q2
      · rename_i hl
        cases rd2 with
        | @ref _ a ha =>
          obtain ⟨C', dx, vs, h0, h1, h2, h3, h4⟩ := rs2.at_ ha hn
          refine ⟨a, C', dx, vs, rfl, h1, h3, C.lib.noat cl C' f h0 hl.2, by rw [← rf_len h2]; exact hl.1, ?_⟩
          have k3 := rs2.keepSet (u := .ins C' dx (L2.putF (Str.ofString f) y vs)) ha
          have q2' : PostS (FX X c) E W ι2 H2 (.next env (st2.set n (.obj cl (putF f d fs)))) := q2
          refine q2' ι2 _ σ (pre_refl _) k3 (rs2.set ha ⟨C', dx, _, h0, upd_same, ?_, h3, ?_⟩) (((re.mono p1 k1).mono p2 k2).mono (pre_refl _) k3)
          · exact Paired.mapP (rf_put (rd.mono p2 k2) h2) fun _ _ z => ⟨z.1, z.2.mono (pre_refl _) k3⟩
          · intro pr hp
            have gen : ∀ {fs : Fs}, pr ∈ putF f d fs → pr.1 = f ∨ ∃ q ∈ fs, q.1 = pr.1 := by
              intro fs
              induction fs with
              | nil => intro h; simp [putF] at h; exact .inl (by rw [h])
              | cons g r ih =>
                intro h
                obtain ⟨g, x⟩ := g
                unfold putF at h
                split at h
                · rcases List.mem_cons.mp h with h | h
                  · exact .inr ⟨(g, x), List.mem_cons_self, by rw [h]⟩
                  · exact .inr ⟨pr, List.mem_cons_of_mem _ h, rfl⟩
                · rcases List.mem_cons.mp h with h | h
                  · exact .inr ⟨(g, x), List.mem_cons_self, by rw [h]⟩
                  · rcases ih h with h | ⟨q, q1, q2⟩
                    · exact .inl h
                    · exact .inr ⟨q, List.mem_cons_of_mem _ q1, q2⟩
            rcases gen hp with h | ⟨q, q1, q2⟩
            · rw [h]; exact hl.2
            · rw [← q2]; exact h4 q q1
      · exact q2.elim
    · exact q2.elim
  · exact q2.elim
/-! ### augmented -/
theorem aug_ok {W' : XK} (op : Operator) : PIp X op (r2 (FX X c) W' (augD op)) := by
  rintro pins s σ H x y v u Q I rx ry ⟨ι, st, a, b, rs, ra, rb, p⟩
  unfold augD at p
  split at p
  · have := ra.int_inv; have := rb.int_inv; subst_vars
    exact iop_add pins s σ H _ _ v u Q I rx ry ⟨_, _, rfl, rfl, Post.here p rs (.int _)⟩
  · have := ra.int_inv; have := rb.int_inv; subst_vars
    exact iop_sub pins s σ H _ _ v u Q I rx ry ⟨_, _, rfl, rfl, Post.here p rs (.int _)⟩
  · have := ra.int_inv; have := rb.int_inv; subst_vars
    split at p
    · rename_i h
      exact iop_mul pins s σ H _ _ v u Q I rx ry ⟨_, _, rfl, rfl, h, Post.here p rs (.int _)⟩
    · exact p.elim
  · have := ra.int_inv; have := rb.int_inv; subst_vars
    split at p
    · rename_i h
      exact iop_fdiv pins s σ H _ _ v u Q I rx ry ⟨_, _, rfl, rfl, h, Post.here p rs (.int _)⟩
    · exact p.elim
  · have := ra.int_inv; have := rb.int_inv; subst_vars
    split at p
    · rename_i h
      exact iop_mod pins s σ H _ _ v u Q I rx ry ⟨_, _, rfl, rfl, h, Post.here p rs (.int _)⟩
    · exact p.elim
  · obtain ⟨rfl, o1⟩ := ra.str_inv
    obtain ⟨rfl, o2⟩ := rb.str_inv
    unfold okS at p
    split at p
    · rename_i hl
      have hl' := hl
      rw [List.length_append] at hl'
      refine iop_add_str pins s σ H _ _ v u Q I rx ry ⟨_, _, rfl, rfl, by rw [tS_length, tS_length]; exact hl', ?_⟩
      rw [← tS_append]
      refine Post.here p rs (.str _ ⟨hl, fun k hk => ?_⟩)
      rcases List.mem_append.mp hk with hk | hk
      · exact o1.2 k hk
      · exact o2.2 k hk
    · exact p.elim
  · exact p.elim
theorem get_ok {W' : XK} (hu : X.A.units + 64 < cLine) : PGet X (r2 (FX X c) W' getD) := by
  rintro pins s σ H o i ov iv Q I ro ri ⟨ι, st, a, b, rs, ra, rb, p⟩
  unfold getD at p
  split at p
  · rename_i n b
    cases ra with
    | @ref _ l hn =>
      cases ro
      split at p
      · rename_i xs j hs
        obtain ⟨vs, h1, h2, h3⟩ := rs.at_ hn hs
        have := rb.int_inv; subst this
        obtain ⟨tk, rfl⟩ := ri
        split at p
        · rename_i d hd
          obtain ⟨w, w1, w2⟩ := atD_get h2 hd
          obtain ⟨its, m, r, e, z⟩ := I.lst h1
          have hl : s.heap.IsList l its.toArray := ⟨_, e, rfl, m, rfl⟩
          unfold atI ixN at w1
          obtain ⟨k, k1, k2⟩ := Option.bind_eq_some_iff.mp w1
          obtain ⟨u, u1, u2⟩ := r.get k2
          have sz : vs.length = its.length := r.length
          have zz : sizeLine = 16777216 := sizeLine_eq
          split at k1
          · split at k1
            · cases k1
              exact wpAny_getItem_list (x := u) hl (by assumption) (by omega) (by simpa using u1) (show EP X pins σ Q u s from ⟨w, H, I, u2, Post.here p rs w2⟩)
            · cases k1
          · split at k1
            · cases k1
              refine wpAny_getItem_list_neg (x := u) hl (by omega) (by simp only [List.size_toArray]; omega) (by omega) ?_ (show EP X pins σ Q u s from ⟨w, H, I, u2, Post.here p rs w2⟩)
              simp only [List.size_toArray, ← sz]
              simpa using u1
            · cases k1
        · exact p.elim
      · rename_i kvs k hs
        split at p
        · rename_i hk
          split at p
          · rename_i d hd
            obtain ⟨ks, h1, h2, h3⟩ := rs.at_ hn hs
            obtain ⟨key, k1, rfl⟩ := key_of_rv rb hk
            obtain ⟨w, k5, k6⟩ := (rk_get k1 h2).1 _ hd
            have g : DGet H l (kV key) (some w) := .inl ⟨ks, key, .inl h1, rfl, k5.symm⟩
            exact d_getItem (by omega) I g ri fun w' s' I' r' => ⟨w, H, I', r', Post.here p rs k6⟩
          · exact p.elim
        · exact p.elim
      · exact p.elim
  · exact p.elim
theorem ss_aug (C : Cok X c lv W) {i : Nat} {x : Str} {e : Expr} {e' : E} {op : Operator} {p' pos : Pos} (hi : X.N[i]? = some x) (hx : Loc X.env.scope x) (he : SE X c W e e') (hf : X.fn x = true ∨ X.env.scope.names.lookup x = some .local) :
    SS X c W (.AugAssign (.Name x p') op e pos) (.aug i op e') := by
  have S : PIp X op (fun x y H Q => ∃ W', r2 (FX X c) W' (augD op) x y H Q) := fun pins s σ H x y v u Q I a b ⟨W', q⟩ => aug_ok op pins s σ H x y v u Q I a b q
  refine PS.imp (ps_aug C.nd hi hx he S hf) ?_
  rintro E σ H ⟨ι, st, env, rs, re, p⟩
  simp only [exS] at p
  split at p
  · rename_i d hd
    obtain ⟨v, h1, h2⟩ := re.slot i d hd
    refine ⟨v, h1, ι, st, env, rs, re, (PostS.of re p).imp ?_⟩
    rintro y H1 ⟨ι1, st1, d1, p1, k1, rs1, rd1, q1⟩
    refine ⟨_, ι1, st1, d, d1, rs1, h2.mono p1 k1, rd1, (PostS.of (re.mono p1 k1) q1).imp ?_⟩
    rintro z H2 ⟨ι2, st2, d2, p2, k2, rs2, rd2, q2⟩
    exact q2.nx rs2 (((re.mono p1 k1).mono p2 k2).set i rd2)
  · exact p.elim
theorem ss_augS (C : Cok X c lv W) {o i e : Expr} {o' i' e' : E} {op : Operator} {tpos pos : Pos} (ho : SE X c W o o') (hi : SE X c W i i') (he : SE X c W e e')
    (ha : ∀ ov iv new, augStore i ov iv new = (do holding [new, ov, iv] (setItem ov iv new); release [new, ov, iv] []; pure .next)) : SS X c W (.AugAssign (.Subscript o i tpos) op e pos) (.augS o' i' op e') := by
  have S : PIp X op (fun x y H Q => ∃ W', r2 (FX X c) W' (augD op) x y H Q) := fun pins s σ H x y v u Q I a b ⟨W', q⟩ => aug_ok op pins s σ H x y v u Q I a b q
  have G : PGet X (fun x y H Q => ∃ W', r2 (FX X c) W' getD x y H Q) := fun pins s σ H x y v u Q I a b ⟨W', q⟩ => get_ok C.room.units pins s σ H x y v u Q I a b q
  have T : PSet X (fun o i v H Q => ∃ W', rSet (FX X c) W' o i v H Q) := fun pins s σ H o i v ov iv u Q I a b d ⟨W', q⟩ => set_ok C.room.units pins s σ H o i v ov iv u Q I a b d q
  refine PS.imp (ps_augS ho hi G he S T ha) ?_
  rintro E σ H ⟨ι, st, env, rs, re, p⟩
  simp only [exS] at p
  refine ⟨ι, st, env, rs, re, (PostS.of re p).imp ?_⟩
  rintro x H1 ⟨ι1, st1, d1, p1, k1, rs1, rd1, q1⟩
  have re1 := re.mono p1 k1
  refine ⟨ι1, st1, env, rs1, re1, (PostS.of re1 q1).imp ?_⟩
  rintro y H2 ⟨ι2, st2, d2, p2, k2, rs2, rd2, q2⟩
  have re2 := re1.mono p2 k2
  refine ⟨_, ι2, st2, d1, d2, rs2, rd1.mono p2 k2, rd2, (PostS.of re2 q2).imp ?_⟩
  rintro z H3 ⟨ι3, st3, d3, p3, k3, rs3, rd3, q3⟩
  have re3 := re2.mono p3 k3
  refine ⟨ι3, st3, env, rs3, re3, (PostS.of re3 q3).imp ?_⟩
  rintro w H4 ⟨ι4, st4, d4, p4, k4, rs4, rd4, q4⟩
  have re4 := re3.mono p4 k4
  refine ⟨_, ι4, st4, d3, d4, rs4, rd3.mono p4 k4, rd4, (PostS.of re4 q4).imp ?_⟩
  rintro r H5 ⟨ι5, st5, d5, p5, k5, rs5, rd5, q5⟩
  have re5 := re4.mono p5 k5
  have p25 := (p3.trans p4).trans p5
  have k25 := (k3.trans k4).trans k5
  refine ⟨_, ι5, st5, d1, d2, d5, rs5, (rd1.mono p2 k2).mono p25 k25, rd2.mono p25 k25, rd5, (PostS.of (RA := fun _ _ _ (_ : Unit) => True) re5 q5).imp ?_⟩
  rintro _ H6 ⟨ι6, st6, _, p6, k6, rs6, _, q6⟩
  exact q6.nx rs6 (re5.mono p6 k6)
/-! ### loops -/
/-- the ends of a loop's body -/
theorem loop_ends {F : Fx} {E : Ends} {ι ι1 : List Addr} {H H1 : Hp} {o : RS} {N : St → Hp → Prop} {k : Env → Sto → RS} (p : ι <+: ι1) (kp : Keep ι ι1 H H1)
    (h : PostS F E W ι H (match o with
      | .next e s => k e s
      | .cont e s => k e s
      | .brk e s => .next e s
      | .ret d s => .ret d s
      | .exc c fs e s => .exc c fs e s
      | .no => .no))
    (hN : ∀ e s ι' H' σ', ι <+: ι' → Keep ι ι' H H' → Rs F ι' s H' → Re F ι' H' e σ' → PostS F E W ι H (k e s) → N σ' H') :
    PostS F { E with nx := N, ct := N, bk := E.nx } W ι1 H1 o := by
  cases o with
  | next e s => exact fun ι' H' σ' q k' rs re => hN e s ι' H' σ' (p.trans q) (kp.trans k') rs re h
  | cont e s => exact fun ι' H' σ' q k' rs re => hN e s ι' H' σ' (p.trans q) (kp.trans k') rs re h
  | brk e s => exact fun ι' H' σ' q k' rs re => h ι' H' σ' (p.trans q) (kp.trans k') rs re
  | ret d s => exact fun ι' H' v q k' rs rd => h ι' H' v (p.trans q) (kp.trans k') rs rd
  | exc c fs e s => exact fun ι' H' C dx σ' q k' => h ι' H' C dx σ' (p.trans q) (kp.trans k')
  | no => exact h
theorem ss_while (hp : PassesOwn (model X.prog X.w) X.A X.env X.xe) {t : Expr} {b : List Stmt} {t' : E} {b' : List S} {pos : Pos} (ht : ST X c W t t') (hb : SSs X c W b b') : SS X c W (.While t b [] pos) (.whil t' b') := by
  refine PS.imp (ps_while hp ht hb) ?_
  rintro E σ H ⟨ι, st, env, rs, re, p⟩
  rw [exS] at p
  generalize 1048576 = f at p
  refine ⟨fun m σ' H' => ∃ ι' st' env', ι <+: ι' ∧ Keep ι ι' H H' ∧ Rs (FX X c) ι' st' H' ∧ Re (FX X c) ι' H' env' σ' ∧ PostS (FX X c) E W ι H (whileS (evE c t') (exSs c b') m env' st'), ⟨f, ι, st, env, pre_refl _, Keep.refl _, rs, re, p⟩, ?_⟩
  rintro m σ1 H1 ⟨ι1, st1, env1, p1, k1, rs1, re1, q1⟩
  cases m with
  | zero => exact q1.elim
  | succ m =>
    refine ⟨ι1, st1, env1, rs1, re1, ?_⟩
    unfold whileS at q1
    cases hE : evE c t' env1 st1 with
    | no => rw [hE] at q1; exact q1.elim
    | exc cl fs s =>
      rw [hE] at q1
      exact fun ι' H' C dx q k' rs' hm hx => q1 ι' H' C dx σ1 (p1.trans q) (k1.trans k') rs' (re1.mono q k') hm hx
    | ok d s =>
      rw [hE] at q1
      rintro ι2 H2 v p2 k2 rs2 rd
      have p12 := p1.trans p2
      have k12 := k1.trans k2
      have re2 := re1.mono p2 k2
      cases d with
      | bl b =>
        have := rd.bl_inv; subst this
        cases b with
        | true =>
          refine ⟨true, rfl, iteT ⟨fun σ' H' => ∃ ι' st' env', ι <+: ι' ∧ Keep ι ι' H H' ∧ Rs (FX X c) ι' st' H' ∧ Re (FX X c) ι' H' env' σ' ∧ PostS (FX X c) E W ι H (whileS (evE c t') (exSs c b') m env' st'), fun σ' H' h => ⟨m, Nat.lt_succ_self m, h⟩, ι2, s, env1, rs2, re2, ?_⟩⟩
          exact loop_ends p12 k12 q1 fun e s' ι' H' σ' q k' rs' re' h => ⟨ι', s', e, q, k', rs', re', h⟩
        | false =>
          exact ⟨false, rfl, iteF (q1 ι2 H2 σ1 p12 k12 rs2 re2)⟩
      | _ => exact q1.elim
theorem ss_for (C : Cok X c lv W) (hp : PassesOwn (model X.prog X.w) X.A X.env X.xe) {tg iter : Expr} {t : Tg} {it' : Mi.It} {b : List Stmt} {b' : List S} {pos : Pos} (hi : SI X c W tg iter it') (hg : SG X c W tg t) (hb : SSs X c W b b') (hs : ∀ x, foldedSetIterable iter X.env x = pure x) :
    SS X c W (.For tg iter b [] pos) (.fr t it' b') := by
  refine PS.imp (ps_for hp C.calm hi hg hb hs) ?_
  rintro E σ H ⟨ι, st, env, rs, re, p⟩
  simp only [exS] at p
  refine ⟨ι, st, env, rs, re, (PostS.of (RA := fun ι H iv J => JOk (FX X c) ι H iv J) re p).imp ?_⟩
  rintro J H1 ⟨ι1, st1, iv, p1, k1, rs1, jok, q1⟩
  generalize hbody : (fun d env st => (asT c t d env st).st env fun env st => exSs c b' env st) = body at q1
  refine ⟨fun i m σ' H' => ∃ ι' st' env', ι1 <+: ι' ∧ Keep ι1 ι' H1 H' ∧ Rs (FX X c) ι' st' H' ∧ Re (FX X c) ι' H' env' σ' ∧ PostS (FX X c) E W ι1 H1 (loopS body iv m i env' st'), ⟨_, ι1, st1, env, pre_refl _, Keep.refl _, rs1, re.mono p1 k1, q1⟩, ?_⟩
  rintro i m σ2 H2 ⟨ι2, st2, env2, p2, k2, rs2, re2, q2⟩
  cases m with
  | zero => exact q2.elim
  | succ m =>
    unfold loopS at q2
    cases hx : nextI st2 i iv with
    | none => rw [hx] at q2; exact q2.elim
    | some o =>
      rw [hx] at q2
      cases o with
      | none => exact .inl ⟨jok.sp ι2 st2 H2 i p2 k2 rs2 hx, q2 ι2 H2 σ2 p2 k2 rs2 re2⟩
      | some d =>
        right
        obtain ⟨go, yl⟩ := jok.sm ι2 st2 H2 i d p2 k2 rs2 hx
        refine ⟨go, fun σ' H' => ∃ ι' st' env', ι1 <+: ι' ∧ Keep ι1 ι' H1 H' ∧ Rs (FX X c) ι' st' H' ∧ Re (FX X c) ι' H' env' σ' ∧ PostS (FX X c) E W ι1 H1 (loopS body iv m (i + 1) env' st'), fun σ' H' h => ⟨m, Nat.lt_succ_self m, h⟩, fun x H3 hy => ?_⟩
        obtain ⟨sm, rd⟩ := yl x H3 hy
        have k3 : Keep ι2 ι2 H2 H3 := same_keep sm
        have rs3 := rs2.same sm
        have re3 := re2.mono (pre_refl _) k3
        have q3 := loop_ends (N := fun σ' H' => ∃ ι' st' env', ι1 <+: ι' ∧ Keep ι1 ι' H1 H' ∧ Rs (FX X c) ι' st' H' ∧ Re (FX X c) ι' H' env' σ' ∧ PostS (FX X c) E W ι1 H1 (loopS body iv m (i + 1) env' st')) p2 (k2.trans k3) q2 fun e s' ι' H' σ' q k' rs' re' h => ⟨ι', s', e, q, k', rs', re', h⟩
        rw [← hbody] at q3
        refine ⟨ι2, st2, env2, d, rs3, re3, rd, (PostS.of re3 q3).imp ?_⟩
        rintro σ4 H4 ⟨ι4, st4, env4, p4, k4, rs4, re4, q4⟩
        rw [← hbody]
        exact ⟨ι4, st4, env4, rs4, re4, q4⟩
end
end Mi

set_option linter.all false
set_option maxRecDepth 100000
/-! M13: a checker that a written expression is the evaluator's one. -/
namespace Mi
open PySem PySem.Spec L2
open PyProof.Rows hiding St
/-- a scope and the names that may be stored in cells -/
structure Sc where
  scope : Scope
  cells : List Str
def visB (sc : Scope) (x : Str) : Bool := match sc.names.lookup x with | some .local => true | some .cell => true | some .free => true | _ => false
def glB (sc : Scope) (x : Str) : Bool := match sc.names.lookup x with | some .globalImplicit => true | _ => false
def stB (sc : Sc) (x : Str) : Bool := match sc.scope.names.lookup x with | some .local => true | some .cell => sc.cells.contains x | _ => false
def plainN (x : Str) : Bool := (x == ("__debug__" : Str)) == false && (x == ("__classdict__" : Str)) == false
def noStar : Expr → Bool
  | .Starred _ _ => false
  | _ => true
def noSlice : Expr → Bool
  | .Slice _ _ _ _ => false
  | _ => true
def noSuper : Expr → Bool
  | .Call _ _ _ _ => false
  | _ => true
def noSet : Expr → Bool
  | .Set _ _ _ => false
  | _ => true
def all2 {α β : Type} (f : α → β → Bool) : List α → List β → Bool
  | [], [] => true
  | x :: xs, y :: ys => f x y && all2 f xs ys
  | _, _ => false
abbrev Rc := Sc → Expr → E → Bool
def ckO (f : Expr → E → Bool) : Option Expr → Option E → Bool
  | none, none => true
  | some a, some b => f a b
  | _, _ => false
def kwB (f : Expr → E → Bool) : List Keyword → List String → List E → Bool
  | [], [], [] => true
  | ⟨some n, v, _⟩ :: r, k :: ks, e :: es => decide (n = Str.ofString k) && f v e && kwB f r ks es
  | _, _, _ => false
def argB (f : Expr → E → Bool) (a : Expr) (e : E) : Bool := noStar a && f a e
def gnm (sc : Scope) (f : String) (x : Str) : Bool := decide (x = Str.ofString f) && glB sc x && plainN x
def bltGl (P : Prog) (sc : Scope) (f : String) (x : Str) : Bool := gnm sc f x && P.bi.contains f
def ckIt (P : Prog) (sc : Sc) (rec : Rc) (tg iter : Expr) : It → Bool
  | .e e => noSet iter && rec sc iter e
  | .range1 es => (match iter with | .Call (.Name x _) [a] [] _ => bltGl P sc.scope "range" x && all2 (argB (rec sc)) [a] es | _ => false)
  | .range2 es => (match iter with | .Call (.Name x _) [a, b] [] _ => bltGl P sc.scope "range" x && all2 (argB (rec sc)) [a, b] es | _ => false)
  | .enum e => (match tg, iter with | .Tuple _ _ _, .Call (.Name x _) [a] [] _ => bltGl P sc.scope "enumerate" x && argB (rec sc) a e | _, _ => false)
  | .zip a b => (match tg, iter with | .Tuple _ _ _, .Call (.Name x _) [p, q] [] _ => bltGl P sc.scope "zip" x && argB (rec sc) p a && argB (rec sc) q b | _, _ => false)
  | _ => false
/-- a comprehension's target, of the places own -/
def ckTo (N : List Str) (sc : Sc) (own : List Nat) : Nat → Expr → Tg → Bool
  | 0, _, _ => false
  | n + 1, e, t => match t, e with
    | .name i, .Name x _ => own.contains i && decide (N[i]? = some x) && stB sc x
    | .tup ts, .Tuple es _ _ => all2 (fun a b => noStar a && ckTo N sc own n a b) es ts
    | _, _ => false
def blkSc (scope : Scope) (sc : Sc) : Sc := ⟨relS scope sc.scope, (scope.names.filter fun p => match p.2 with | .cell => true | _ => false).map (·.1)⟩
def ownP (N : List Str) (own : List Nat) : List (Str × Nat) := own.map fun i => ((N[i]?).getD "", i)
def fpart (f : Expr → E → Bool) (e : Expr) (e' : E) : Bool := match e with
  | .FormattedValue v c none _ => decide (c = -1) && f v e'
  | .Constant (.str s) _ _ => (match e' with | .str x => decide (s.cps.toList = x) && decide (x.length ≤ sizeLine) && x.all (· < 1114112) | _ => false)
  | _ => false
def ifsB (f : Expr → E → Bool) : List Expr → Option E → Bool
  | [], none => true
  | [e], some e' => f e e'
  | _, _ => false
def ckComp (P : Prog) (N : List Str) (sc : Sc) (rec recT : Rc) (elt : Expr) (gs : List Comprehension) (scope : Scope) (e : E) (t : Tg) (it : It) (ifs : Option E) (own : List Nat) : Bool := match gs with
  | [⟨tg, iter, is, a⟩] => decide (a = 0) && ckIt P sc rec tg iter it && noSet iter && blkC N sc.scope scope (ownP N own) && ckTo N (blkSc scope sc) own 4 tg t && ifsB (recT (blkSc scope sc)) is ifs && rec (blkSc scope sc) elt e
  | _ => false
def tyL : List String := ["int", "str", "list", "tuple", "dict", "bool"]
theorem ty_boot : ∀ n ∈ tyL, bootBuiltins (Str.ofString n) = some (.type n) ∧ Str.ofString n ≠ "__name__" := by decide +kernel
def ck0 (P : Prog) (N : List Str) (rec recT : Rc) (sc : Sc) (e : Expr) : E → Bool
  | .var i => (match e with | .Name x _ => decide (N[i]? = some x) && visB sc.scope x && plainN x | _ => false)
  | .non => (match e with | .Constant .none _ _ => true | _ => false)
  | .bl b => (match e with | .Constant (.bool d) _ _ => b == d | _ => false)
  | .int i => (match e with | .Constant (.int j) _ _ => decide (j = i) | _ => false)
  | .str x => (match e with | .Constant (.str s) _ _ => decide (s.cps.toList = x) && decide (x.length ≤ sizeLine) && x.all (· < 1114112) | _ => false)
  | .glob f => (match e with | .Name x _ => gnm sc.scope f x | _ => false)
  | .ty n => (match e with | .Name x _ => bltGl P sc.scope n x && tyL.contains n | _ => false)
  | .bin o a b => (match e with | .BinOp x p y _ => decide (p = o) && rec sc x a && rec sc y b | _ => false)
  | .neg a => (match e with | .UnaryOp .USub x _ => rec sc x a | _ => false)
  | .not a => (match e with | .UnaryOp .Not x _ => rec sc x a | _ => false)
  | .and a b => (match e with
    | .BoolOp .And [x, y] p => rec sc x a && rec sc y b
    | .BoolOp .And (x :: y :: z :: r) p => rec sc x a && rec sc (.BoolOp .And (y :: z :: r) p) b
    | _ => false)
  | .or a b => (match e with
    | .BoolOp .Or [x, y] p => rec sc x a && rec sc y b
    | .BoolOp .Or (x :: y :: z :: r) p => rec sc x a && rec sc (.BoolOp .Or (y :: z :: r) p) b
    | _ => false)
  | .ite t a b => (match e with | .IfExp x y z _ => recT sc x t && rec sc y a && rec sc z b | _ => false)
  | .cmp o a b => (match e with | .Compare x [p] [y] _ => decide (p = o) && rec sc x a && rec sc y b && !behindInMarks p y | _ => false)
  | .cmp2 o q a b d => (match e with | .Compare x [p, r] [y, z] _ => decide (p = o) && decide (r = q) && rec sc x a && rec sc y b && rec sc z d && !lastMarks [p, r] [y, z] | _ => false)
  | .attr a f => (match e with | .Attribute x s _ => decide (s = Str.ofString f) && rec sc x a && noSuper x | _ => false)
  | .ix a b => (match e with | .Subscript x y _ => rec sc x a && rec sc y b && noSlice y | _ => false)
  | .sl a lo hi => (match e with | .Subscript x (.Slice l h none _) _ => rec sc x a && ckO (rec sc) l lo && ckO (rec sc) h hi | _ => false)
  | .lst es => (match e with | .List xs _ => all2 (argB (rec sc)) xs es | _ => false)
  | .tup es => (match e with | .Tuple xs _ _ => all2 (argB (rec sc)) xs es | _ => false)
  | .comp e1 t it ifs own => (match e with | .ListComp elt gs scope _ => ckComp P N sc rec recT elt gs scope e1 t it ifs own | _ => false)
  | .fstr es => (match e with | .JoinedStr (x :: y :: r) _ => all2 (fpart (rec sc)) (x :: y :: r) es | _ => false)
  | .call f es ks kes => (match e with | .Call (.Name x _) xs kws _ => gnm sc.scope f x && ((P.plans.lookup f).bind fun p => p.lookup (es.length, ks)).isSome && all2 (argB (rec sc)) xs es && kwB (rec sc) kws ks kes | _ => false)
  | .bi f es => (match e with | .Call (.Name x _) (y :: ys) [] _ => bltGl P sc.scope f x && (biNames.any fun p => p.1 == f) && all2 (argB (rec sc)) (y :: ys) es | _ => false)
  | .meth a m es ks kes => (match e with | .Call (.Attribute x s ap) xs kws pos => decide (s = Str.ofString m) && rec sc x a && noSuper x && (ap.endLine == pos.line) && decide (xs.length + kws.length < 29) && all2 (argB (rec sc)) xs es && kwB (rec sc) kws ks kes | _ => false)
  | _ => false
/-- what is a test by its value -/
def plainT : Expr → Bool
  | .UnaryOp .Not _ _ => false
  | .BoolOp _ _ _ => false
  | .IfExp _ _ _ _ => false
  | .Compare _ _ _ _ => false
  | _ => true
/-- and, or as tests -/
def ckW (recT : Rc) (sc : Sc) (op : PySem.BoolOp) : List Expr → E → Bool
  | [], _ => false
  | [x], e => recT sc x e
  | x :: y :: r, .and a b => (match op with | .And => true | _ => false) && recT sc x a && ckW recT sc op (y :: r) b
  | x :: y :: r, .or a b => (match op with | .Or => true | _ => false) && recT sc x a && ckW recT sc op (y :: r) b
  | _, _ => false
def ckT0 (P : Prog) (N : List Str) (rec recT : Rc) (sc : Sc) (e : Expr) (e' : E) : Bool := match e, e' with
  | .UnaryOp .Not x _, .not a => recT sc x a
  | .BoolOp op xs _, a => ckW recT sc op xs a
  | .IfExp x y z _, .ite t a b => recT sc x t && recT sc y a && recT sc z b
  | .Compare x [p] [y] _, .cmp o a b => decide (p = o) && rec sc x a && rec sc y b && !behindInMarks p y
  | .Compare x [p, r] [y, z] _, .cmp2 o q a b d => decide (p = o) && decide (r = q) && rec sc x a && rec sc y b && rec sc z d && !lastMarks [p, r] [y, z]
  | e, e' => plainT e && rec sc e e'
def ckP (P : Prog) (N : List Str) : Nat → Rc × Rc
  | 0 => (fun _ _ _ => false, fun _ _ _ => false)
  | n + 1 => (ck0 P N (ckP P N n).1 (ckP P N n).2, ckT0 P N (ckP P N n).1 (ckP P N n).2)

/-! ### what stands behind it -/
structure CkOk (X : Cx) (P : Prog) (c : Ctx) (lv : Nat) (W : L2.WX) (N : List Str) (sc : Sc) : Prop where
  cok : Cok X c lv W
  ctx : ∃ run mrun, c = P.ctx run mrun
  hsc : X.env.scope = sc.scope
  hN : X.N = N
  cells : ∀ x ∈ sc.cells, X.fn x = true
  kind : sc.scope.kind = .function
section
variable {X : Cx} {P : Prog} {c : Ctx} {lv : Nat} {W : L2.WX} {N : List Str} {sc : Sc}
theorem visB_ok {sc : Scope} {x : Str} (h : visB sc x = true) : Vis sc x := by
  unfold visB at h
  split at h
  · exact .inl (by assumption)
  · exact .inr (.inl (by assumption))
  · exact .inr (.inr (by assumption))
  · cases h
theorem glB_ok (hs : X.env.scope = sc.scope) {x : Str} (h : glB sc.scope x = true) : Gl X x := by
  unfold glB at h
  split at h
  · show X.env.scope.names.lookup x = _
    rw [hs]; assumption
  · cases h
theorem stB_ok (C : CkOk X P c lv W N sc) {x : Str} (h : stB sc x = true) : Loc X.env.scope x ∧ (X.fn x = true ∨ X.env.scope.names.lookup x = some .local) := by
  rw [C.hsc]
  unfold stB at h
  split at h
  · exact ⟨.inl (by assumption), .inr (by assumption)⟩
  · exact ⟨.inr (by assumption), .inl (C.cells _ (by simpa using h))⟩
  · cases h
theorem plainN_ok {x : Str} (h : plainN x = true) : (x == ("__debug__" : Str)) = false ∧ (x == ("__classdict__" : Str)) = false := by
  unfold plainN at h
  simpa using h
theorem star_cons {e : Expr} {es : List Expr} (h : noStar e = true) (env : PySem.Env) : starEach (e :: es) env = (false, eval e env) :: starEach es env := by
  cases e <;> first | rfl | (simp [noStar] at h)
theorem asg_cons {e : Expr} {es : List Expr} (h : noStar e = true) (env : PySem.Env) : assignEach (e :: es) env = (false, assign e env) :: assignEach es env := by
  cases e <;> first | rfl | (simp [noStar] at h)
theorem base_of {e : Expr} (h : noSuper e = true) (s : Str) (env : PySem.Env) (w : Sem Value) : attributeBase e s env w = w := by
  cases e <;> first | rfl | (simp [noSuper] at h)
theorem plainIx_of {e : Expr} (h : noSlice e = true) : PlainIx e := by
  intro o i
  cases e <;> first | rfl | (simp [noSlice] at h)
theorem aug_of {i : Expr} (h : noSlice i = true) (ov iv new : Value) : augStore i ov iv new = (do holding [new, ov, iv] (setItem ov iv new); release [new, ov, iv] []; pure .next) := by
  cases i <;> first | rfl | (simp [noSlice] at h)
theorem asub_of {o i : Expr} {pos : Pos} (h : noSlice i = true) (env : PySem.Env) (v : Value) : assign (.Subscript o i pos) env v = (do
      let ov ← holding [v] (eval o env)
      let iv ← holding [v, ov] (eval i env)
      standAt pos
      holding [v, ov, iv] (setItem ov iv v)
      release [v, ov, iv] []) := by
  cases i <;> first | rfl | (simp [noSlice] at h)
theorem noSet_of {e : Expr} (h : noSet e = true) (env : PySem.Env) (x : Value) : foldedSetIterable e env x = pure x := by
  cases e <;> first | rfl | (simp [noSet] at h)
/-- the arguments -/
theorem sl_of {f : Expr → E → Bool} (hf : ∀ a e, f a e = true → SE X c W a e) : ∀ {xs : List Expr} {es : List E}, all2 (argB f) xs es = true → SL X c W xs es ∧ xs.length = es.length ∧ ∀ x ∈ xs, noStar x = true
  | [], [], _ => ⟨sl_nil, rfl, by simp⟩
  | x :: xs, e :: es, h => by
    simp only [all2, argB, Bool.and_eq_true] at h
    obtain ⟨i1, i2, i3⟩ := sl_of hf h.2
    refine ⟨sl_cons (hf _ _ h.1.2) i1 (star_cons h.1.1 _), by simp [i2], fun y hy => ?_⟩
    rcases List.mem_cons.mp hy with rfl | hy
    · exact h.1.1
    · exact i3 y hy
  | [], _ :: _, h => by cases h
  | _ :: _, [], h => by cases h
theorem star_any (pos : Pos) (env : PySem.Env) : ∀ {xs : List Expr}, (∀ x ∈ xs, noStar x = true) → (backTo pos (starEach xs env)).any (·.1) = false ∧ (backTo pos (starEach xs env)).all (!·.1) = true
  | [], _ => ⟨rfl, rfl⟩
  | x :: xs, h => by
    have ih := star_any pos env (xs := xs) fun y hy => h y (List.mem_cons_of_mem _ hy)
    rw [star_cons (h x List.mem_cons_self)]
    simp only [backTo, List.map_cons, List.any_cons, List.all_cons, Bool.false_or, Bool.not_false, Bool.true_and]
    exact ih
theorem sk_of {f : Expr → E → Bool} (hf : ∀ a e, f a e = true → SE X c W a e) (pos : Pos) (env : PySem.Env) : ∀ {kws : List Keyword} {ks : List String} {es : List E}, kwB f kws ks es = true →
    SK X c W kws es ∧ (backToKw pos (keywordEach kws env)).all (·.1.isSome) = true ∧ (backToKw pos (keywordEach kws env)).filterMap (·.1) = ks.map Str.ofString ∧ (backToKw pos (keywordEach kws env)).any (·.1.isNone) = false ∧ kws.length = es.length
  | [], [], [], _ => ⟨sk_nil, rfl, rfl, rfl, rfl⟩
  | ⟨some n, v, _⟩ :: r, k :: ks, e :: es, h => by
    simp only [kwB, Bool.and_eq_true, decide_eq_true_eq] at h
    obtain ⟨i1, i2, i3, i4, i5⟩ := sk_of hf pos env h.2
    refine ⟨sk_cons (hf _ _ h.1.2) i1, ?_, ?_, ?_, by simp [i5]⟩
    · simpa [backToKw, keywordEach] using i2
    · rw [List.map_cons, ← i3, ← h.1.1]
      rfl
    · simpa [backToKw, keywordEach] using i4
  | ⟨none, _, _⟩ :: _, _, _, h => by simp [kwB] at h
  | [], _ :: _, _, h => by simp [kwB] at h
  | [], [], _ :: _, h => by simp [kwB] at h
  | ⟨some _, _, _⟩ :: _, [], _, h => by simp [kwB] at h
  | ⟨some _, _, _⟩ :: _, _ :: _, [], h => by simp [kwB] at h
theorem ao_of {es : List Expr} {es' : List E} {kws : List Keyword} {ks : List String} {pos : Pos} (hl : es.length = es'.length) (hn : ∀ x ∈ es, noStar x = true)
    (h2 : (backToKw pos (keywordEach kws X.env)).all (·.1.isSome) = true) (h3 : (backToKw pos (keywordEach kws X.env)).filterMap (·.1) = ks.map Str.ofString) (h4 : (backToKw pos (keywordEach kws X.env)).any (·.1.isNone) = false) : ArgOk X es es' kws ks pos :=
  ⟨hl, h2, h3, by rw [(star_any pos X.env hn).1, h4]; rfl, fun e r he => star_cons (hn e (by rw [he]; exact List.mem_cons_self)) _⟩
end
/-- what a pair of checks is worth -/
structure Sound (P : Prog) (N : List Str) (rec recT : Rc) : Prop where
  e : ∀ {X c lv W sc}, CkOk X P c lv W N sc → ∀ a b, rec sc a b = true → SE X c W a b
  t : ∀ {X c lv W sc}, CkOk X P c lv W N sc → ∀ a b, recT sc a b = true → ST X c W a b
section
variable {X : Cx} {P : Prog} {c : Ctx} {lv : Nat} {W : L2.WX} {N : List Str} {sc : Sc} {rec recT : Rc}
theorem gnm_ok (C : CkOk X P c lv W N sc) {f : String} {x : Str} (h : gnm sc.scope f x = true) : x = Str.ofString f ∧ Gl X (Str.ofString f) ∧ (Str.ofString f == ("__debug__" : Str)) = false := by
  unfold gnm at h
  simp only [Bool.and_eq_true, decide_eq_true_eq] at h
  obtain ⟨⟨rfl, h2⟩, h3⟩ := h
  exact ⟨rfl, glB_ok C.hsc h2, (plainN_ok h3).1⟩
theorem bltGl_ok (C : CkOk X P c lv W N sc) {f : String} {x : Str} (h : bltGl P sc.scope f x = true) : x = Str.ofString f ∧ Gl X (Str.ofString f) ∧ (Str.ofString f == ("__debug__" : Str)) = false ∧ c.bi f = true := by
  unfold bltGl at h
  simp only [Bool.and_eq_true] at h
  obtain ⟨h1, h2, h3⟩ := gnm_ok C h.1
  obtain ⟨run, mrun, rfl⟩ := C.ctx
  exact ⟨h1, h2, h3, h.2⟩
/-- the block of a comprehension -/
theorem blk_ok (C : CkOk X P c lv W N sc) {scope : Scope} {own : List (Str × Nat)} (ok : BlkOk X.N X.env.scope scope own) (s : Shared) (H : Hp) (cc : Addr) (cl : List (Str × Addr)) (fp : List Addr) : CkOk (X.blk s H scope (compEnvC scope cl cc X.env) fp) P c lv W0 N (blkSc scope sc) := by
  refine ⟨⟨C.cok.calm, C.cok.room, C.cok.nd, fun u s' ⟨_, _, _, _, _, _, _, _, _, _, _, _, _, _, _, _, w⟩ => w, ?_⟩, C.ctx, ?_, C.hN, ?_, ok.kind⟩
  · refine ⟨C.cok.lib.glob, fun f n ks pl h => ?_, fun cl m n ks pl h => ?_, C.cok.lib.make, C.cok.lib.noat, C.cok.lib.bi⟩
    · obtain ⟨a, h1, h2, h3⟩ := C.cok.lib.fn f n ks pl h
      exact ⟨a, h1, h2, ⟨h3.ex⟩⟩
    · obtain ⟨a, b, h1, h2, h3, h4⟩ := C.cok.lib.mt cl m n ks pl h
      exact ⟨a, b, h1, h2, h3, ⟨h4.ex⟩⟩
  · show relabel scope X.env = relS scope sc.scope
    rw [← C.hsc]
    rfl
  · intro x hx
    show (scope.names.lookup x == some .cell) = true
    simp only [blkSc, List.mem_map, List.mem_filter] at hx
    obtain ⟨⟨y, k⟩, ⟨h1, h2⟩, rfl⟩ := hx
    have := ok.uniq _ h1
    cases k <;> simp at h2
    rw [this]
    rfl
theorem own_map (N : List Str) (own : List Nat) : (ownP N own).map (·.2) = own := by
  unfold ownP
  rw [List.map_map]
  induction own with
  | nil => rfl
  | cons a l ih => rw [List.map_cons, ih]; rfl
theorem so_of {f : Expr → E → Bool} (hf : ∀ a e, f a e = true → SE X c W a e) {l : Option Expr} {l' : Option E} (h : ckO f l l' = true) : SO X c W l l' := by
  cases l with
  | none => cases l' with
    | none => exact so_none
    | some _ => cases h
  | some a => cases l' with
    | none => cases h
    | some b => exact so_some (hf _ _ h)
theorem arg_one {f : Expr → E → Bool} {a : Expr} {e : E} (h : argB f a e = true) : noStar a = true ∧ f a e = true := by
  simpa [argB] using h
theorem it_ok (S : Sound P N rec recT) (C : CkOk X P c lv W N sc) {tg iter : Expr} {i : It} (h : ckIt P sc rec tg iter i = true) : SI X c W tg iter i := by
  have hf := fun a e => S.e C a e
  cases i with
  | e e =>
    simp only [ckIt, Bool.and_eq_true] at h
    exact si_e (S.e C _ _ h.2)
  | range1 es =>
    simp only [ckIt] at h
    split at h
    · rename_i x q a pos
      simp only [Bool.and_eq_true] at h
      obtain ⟨rfl, h2, h3, h4⟩ := bltGl_ok C h.1
      obtain ⟨hl, hn, hs⟩ := sl_of hf h.2
      cases es with
      | nil => simp at hn
      | cons e es => cases es with
        | cons _ _ => simp at hn
        | nil => exact si_range1 h2 (C.cok.lib.bi _ h4) hl (star_cons (hs _ List.mem_cons_self) _)
    · cases h
  | range2 es =>
    simp only [ckIt] at h
    split at h
    · rename_i x q a b pos
      simp only [Bool.and_eq_true] at h
      obtain ⟨rfl, h2, h3, h4⟩ := bltGl_ok C h.1
      obtain ⟨hl, hn, hs⟩ := sl_of hf h.2
      have sb : starEach [b] X.env = [(false, eval b X.env)] := star_cons (hs _ (by simp)) _
      cases es with
      | nil => simp at hn
      | cons e es => cases es with
        | nil => simp at hn
        | cons e2 es => cases es with
          | cons _ _ => simp at hn
          | nil => exact si_range2 h2 (C.cok.lib.bi _ h4) hl (by rw [star_cons (hs _ List.mem_cons_self), sb]) sb
    · cases h
  | enum e =>
    simp only [ckIt] at h
    split at h
    · rename_i x q a pos
      simp only [Bool.and_eq_true] at h
      obtain ⟨rfl, h2, h3, h4⟩ := bltGl_ok C h.1
      obtain ⟨k1, k2⟩ := arg_one h.2
      exact si_enum h2 (C.cok.lib.bi _ h4) (S.e C _ _ k2) (star_cons k1 _)
    · cases h
  | zip a b =>
    simp only [ckIt] at h
    split at h
    · rename_i x q p1 p2 pos
      simp only [Bool.and_eq_true] at h
      obtain ⟨rfl, h2, h3, h4⟩ := bltGl_ok C h.1.1
      obtain ⟨k1, k2⟩ := arg_one h.1.2
      obtain ⟨k3, k4⟩ := arg_one h.2
      exact si_zip h2 (C.cok.lib.bi _ h4) (S.e C _ _ k2) (S.e C _ _ k4) (star_cons k1 _) (star_cons k3 _) (star_any pos X.env (xs := [p2]) (by simpa using k3)).1
    · cases h
  | items e => cases h
  | vals e => cases h
theorem to_ok (C : CkOk X P c lv W N sc) {own : List Nat} : ∀ (n : Nat) {e : Expr} {t : Tg}, ckTo N sc own n e t = true → SGo X c own e t
  | 0, _, _, h => by cases h
  | n + 1, e, t, h => by
    unfold ckTo at h
    split at h
    · simp only [Bool.and_eq_true, decide_eq_true_eq] at h
      obtain ⟨s1, s2⟩ := stB_ok C h.2
      exact sgo_name (by simpa using h.1.1) C.cok.nd (by rw [C.hN]; exact h.1.2) s1 s2
    · rename_i ts es _ _
      have go : ∀ {es : List Expr} {ts : List Tg}, all2 (fun a b => noStar a && ckTo N sc own n a b) es ts = true → SGso X c own es ts ∧ (assignEach es X.env).length = ts.length ∧ (assignEach es X.env).findIdx? (·.1) = none := by
        intro es
        induction es with
        | nil =>
          intro ts h
          cases ts with
          | nil => exact ⟨sgso_nil, rfl, rfl⟩
          | cons _ _ => cases h
        | cons e es ih =>
          intro ts h
          cases ts with
          | nil => cases h
          | cons t ts =>
            simp only [all2, Bool.and_eq_true] at h
            obtain ⟨i1, i2, i3⟩ := ih h.2
            have ea := asg_cons (es := es) h.1.1 X.env
            refine ⟨sgso_cons (to_ok C n h.1.2) i1 (by rw [ea]; rfl), by rw [ea]; simp [i2], by rw [ea, List.findIdx?_cons, i3]; rfl⟩
      obtain ⟨g1, g2, g3⟩ := go h
      exact sgo_tup C.cok.calm g1 g2 g3
    · cases h
theorem ifs_ok (S : Sound P N rec recT) (C : CkOk X P c lv W N sc) {is : List Expr} {i : Option E} (h : ifsB (recT sc) is i = true) : SP' X c W is i := by
  unfold ifsB at h
  split at h
  · exact sp_none
  · exact sp_some (S.t C _ _ h)
  · cases h
theorem fs_ok (S : Sound P N rec recT) (C : CkOk X P c lv W N sc) : ∀ {es : List Expr} {es' : List E}, all2 (fpart (rec sc)) es es' = true → SFs X c W es es'
  | [], [], _ => .nil
  | [], _ :: _, h => by cases h
  | _ :: _, [], h => by cases h
  | e :: es, e' :: es', h => by
    simp only [all2, Bool.and_eq_true] at h
    refine .cons ?_ (fs_ok S C h.2)
    have h := h.1
    unfold fpart at h
    split at h
    · simp only [Bool.and_eq_true, decide_eq_true_eq] at h
      obtain ⟨hc, hv⟩ := h
      subst hc
      exact sf_fmt (S.e C _ _ hv)
    · split at h
      · simp only [Bool.and_eq_true, decide_eq_true_eq, List.all_eq_true] at h
        obtain ⟨⟨hx, h2⟩, h3⟩ := h
        subst hx
        exact sf_str ⟨h2, h3⟩
      · cases h
    · cases h
end
end Mi

set_option linter.all false
set_option maxRecDepth 100000
/-! M14: the checker of expressions is sound. -/
namespace Mi
open PySem PySem.Spec L2
open PyProof.Rows hiding St
section
variable {X : Cx} {P : Prog} {c : Ctx} {lv : Nat} {W : L2.WX} {N : List Str} {sc : Sc} {rec recT : Rc}
theorem comp_parts (S : Sound P N rec recT) (C : CkOk X P c lv W N sc) {elt : Expr} {gs : List Comprehension} {scope : Scope} {e : E} {t : Tg} {it : It} {ifs : Option E} {own : List Nat} (h : ckComp P N sc rec recT elt gs scope e t it ifs own = true) :
    ∃ tg iter is, gs = [⟨tg, iter, is, 0⟩] ∧ SI X c W tg iter it ∧ BlkOk X.N X.env.scope scope (ownP N own) ∧
      (∀ (s : Shared) (H : Hp) (cc : Addr) (cl : List (Str × Addr)) (fp : List Addr), SGo (X.blk s H scope (compEnvC scope cl cc X.env) fp) c ((ownP N own).map (·.2)) tg t) ∧
      (∀ (s : Shared) (H : Hp) (cc : Addr) (cl : List (Str × Addr)) (fp : List Addr), SP' (X.blk s H scope (compEnvC scope cl cc X.env) fp) c W0 is ifs) ∧
      (∀ (s : Shared) (H : Hp) (cc : Addr) (cl : List (Str × Addr)) (fp : List Addr), SE (X.blk s H scope (compEnvC scope cl cc X.env) fp) c W0 elt e) ∧ (∀ x, foldedSetIterable iter X.env x = pure x) := by
  unfold ckComp at h
  split at h
  · rename_i tg iter is a
    simp only [Bool.and_eq_true, decide_eq_true_eq] at h
    obtain ⟨⟨⟨⟨⟨⟨ha, h1⟩, h2⟩, h3⟩, h4⟩, h5⟩, h6⟩ := h
    subst ha
    have ok : BlkOk X.N X.env.scope scope (ownP N own) := by
      rw [C.hN, C.hsc]
      exact blkOk_by h3
    refine ⟨tg, iter, is, rfl, it_ok S C h1, ok, fun s H cc cl fp => ?_, fun s H cc cl fp => ifs_ok S (blk_ok C ok s H cc cl fp) h5, fun s H cc cl fp => S.e (blk_ok C ok s H cc cl fp) _ _ h6, fun x => noSet_of h2 _ x⟩
    rw [own_map]
    exact to_ok (blk_ok C ok s H cc cl fp) 4 h4
  · cases h
theorem ck0_ok (S : Sound P N rec recT) (C : CkOk X P c lv W N sc) {e : Expr} {e' : E} (h : ck0 P N rec recT sc e e' = true) : SE X c W e e' := by
  have hf := fun a e => S.e C a e
  cases e' with
  | var i =>
    simp only [ck0] at h
    split at h
    · simp only [Bool.and_eq_true, decide_eq_true_eq] at h
      obtain ⟨p1, p2⟩ := plainN_ok h.2
      exact s_var (by rw [C.hN]; exact h.1.1) (by rw [C.hsc]; exact visB_ok h.1.2) p1 p2
    · cases h
  | non =>
    simp only [ck0] at h
    split at h
    · exact s_non
    · cases h
  | bl b =>
    simp only [ck0] at h
    split at h
    · have := eq_of_beq h
      subst this
      exact s_bl
    · cases h
  | int i =>
    simp only [ck0] at h
    split at h
    · have := of_decide_eq_true h
      subst this
      exact s_int
    · cases h
  | str x =>
    simp only [ck0] at h
    split at h
    · simp only [Bool.and_eq_true, decide_eq_true_eq, List.all_eq_true] at h
      obtain ⟨⟨hx, h2⟩, h3⟩ := h
      subst hx
      exact s_str ⟨h2, h3⟩
    · cases h
  | glob f =>
    simp only [ck0] at h
    split at h
    · obtain ⟨rfl, h1, h2⟩ := gnm_ok C h
      exact s_glob C.cok h1 h2
    · cases h
  | ty n =>
    simp only [ck0] at h
    split at h
    · simp only [Bool.and_eq_true] at h
      obtain ⟨rfl, h1, h2, h3⟩ := bltGl_ok C h.1
      obtain ⟨b1, b2⟩ := ty_boot _ (List.contains_iff_mem.mp h.2)
      exact s_ty h1 (C.cok.lib.bi _ h3) b1 b2 h2
    · cases h
  | bin o a b =>
    simp only [ck0] at h
    split at h
    · simp only [Bool.and_eq_true, decide_eq_true_eq] at h
      obtain ⟨⟨ho, h1⟩, h2⟩ := h
      subst ho
      exact s_bin (hf _ _ h1) (hf _ _ h2)
    · cases h
  | neg a =>
    simp only [ck0] at h
    split at h
    · exact s_neg (hf _ _ h)
    · cases h
  | not a =>
    simp only [ck0] at h
    split at h
    · exact s_not (hf _ _ h)
    · cases h
  | and a b =>
    simp only [ck0] at h
    split at h
    · simp only [Bool.and_eq_true] at h
      exact s_and (hf _ _ h.1) (pe_one (hf _ _ h.2))
    · simp only [Bool.and_eq_true] at h
      exact s_and (hf _ _ h.1) (hf _ _ h.2)
    · cases h
  | or a b =>
    simp only [ck0] at h
    split at h
    · simp only [Bool.and_eq_true] at h
      exact s_or (hf _ _ h.1) (pe_one (hf _ _ h.2))
    · simp only [Bool.and_eq_true] at h
      exact s_or (hf _ _ h.1) (hf _ _ h.2)
    · cases h
  | ite t a b =>
    simp only [ck0] at h
    split at h
    · simp only [Bool.and_eq_true] at h
      exact s_ite (S.t C _ _ h.1.1) (hf _ _ h.1.2) (hf _ _ h.2)
    · cases h
  | cmp o a b =>
    simp only [ck0] at h
    split at h
    · simp only [Bool.and_eq_true, decide_eq_true_eq, Bool.not_eq_true'] at h
      obtain ⟨⟨⟨ho, h1⟩, h2⟩, h3⟩ := h
      subst ho
      exact s_cmp C.cok (hf _ _ h1) (hf _ _ h2) h3
    · cases h
  | cmp2 o q a b d =>
    simp only [ck0] at h
    split at h
    · simp only [Bool.and_eq_true, decide_eq_true_eq, Bool.not_eq_true'] at h
      obtain ⟨⟨⟨⟨⟨ho, hq⟩, h1⟩, h2⟩, h3⟩, h4⟩ := h
      subst ho
      subst hq
      exact s_cmp2 C.cok (hf _ _ h1) (hf _ _ h2) (hf _ _ h3) h4
    · cases h
  | attr a f =>
    simp only [ck0] at h
    split at h
    · simp only [Bool.and_eq_true, decide_eq_true_eq] at h
      obtain ⟨⟨hs, h1⟩, h2⟩ := h
      subst hs
      exact s_attr C.cok (hf _ _ h1) (base_of h2 _ _ _)
    · cases h
  | ix a b =>
    simp only [ck0] at h
    split at h
    · simp only [Bool.and_eq_true] at h
      exact s_ix C.cok (hf _ _ h.1.1) (hf _ _ h.1.2) (plainIx_of h.2)
    · cases h
  | sl a lo hi =>
    simp only [ck0] at h
    split at h
    · simp only [Bool.and_eq_true] at h
      exact s_sl (hf _ _ h.1.1) (so_of hf h.1.2) (so_of hf h.2)
    · cases h
  | lst es =>
    simp only [ck0] at h
    split at h
    · exact s_lst (sl_of hf h).1
    · cases h
  | tup es =>
    simp only [ck0] at h
    split at h
    · exact s_tup (sl_of hf h).1
    · cases h
  | comp e1 t it ifs own =>
    simp only [ck0] at h
    split at h
    · obtain ⟨tg, iter, is, rfl, h1, ok, h2, h3, h4, h5⟩ := comp_parts S C h
      have q := s_comp C.cok h1 ok h2 h3 h4 h5 (pos := by assumption)
      rw [own_map] at q
      exact q
    · cases h
  | fstr es =>
    simp only [ck0] at h
    split at h
    · exact s_fstr (fs_ok S C h)
    · cases h
  | call f es ks kes =>
    simp only [ck0] at h
    split at h
    · simp only [Bool.and_eq_true] at h
      obtain ⟨⟨⟨h1, h2⟩, h3⟩, h4⟩ := h
      obtain ⟨rfl, g1, g2⟩ := gnm_ok C h1
      obtain ⟨pl, hpl⟩ := Option.isSome_iff_exists.mp h2
      obtain ⟨l1, l2, l3⟩ := sl_of hf h3
      rename_i p xs kws pos
      obtain ⟨k1, k2, k3, k4, k5⟩ := sk_of hf pos X.env h4
      refine s_call C.cok g1 g2 (pl := pl) ?_ l1 k1 (ao_of l2 l3 k2 k3 k4)
      obtain ⟨run, mrun, rfl⟩ := C.ctx
      exact hpl
    · cases h
  | bi f es =>
    simp only [ck0] at h
    split at h
    · simp only [Bool.and_eq_true] at h
      obtain ⟨⟨h1, h2⟩, h3⟩ := h
      obtain ⟨rfl, g1, g2, g3⟩ := bltGl_ok C h1
      obtain ⟨⟨f', b⟩, hm, hb⟩ := List.any_eq_true.mp h2
      have : f' = f := eq_of_beq hb
      subst this
      obtain ⟨l1, l2, l3⟩ := sl_of hf h3
      rename_i p y ys pos
      cases es with
      | nil => simp at l2
      | cons e' es' => exact s_bi C.cok hm g3 g1 l1 (star_cons (l3 _ List.mem_cons_self) _) (star_any pos X.env fun x hx => l3 x (List.mem_cons_of_mem _ hx)).1
    · cases h
  | meth a m es ks kes =>
    simp only [ck0] at h
    split at h
    · simp only [Bool.and_eq_true, decide_eq_true_eq] at h
      obtain ⟨⟨⟨⟨⟨⟨hs, h1⟩, h2⟩, h3⟩, h4⟩, h5⟩, h6⟩ := h
      subst hs
      rename_i x ap xs kws pos
      obtain ⟨l1, l2, l3⟩ := sl_of hf h5
      obtain ⟨k1, k2, k3, k4, k5⟩ := sk_of hf pos X.env h6
      refine s_meth C.cok (hf _ _ h1) (base_of h2 _ _ _) h3 ?_ ?_ l1 k1 (ao_of l2 l3 k2 k3 k4)
      · unfold methodCallForm
        rw [(star_any pos X.env l3).2, k2]
        simp only [Bool.true_and, decide_eq_true_eq]
        split <;> omega
      · constructor
        · rintro rfl
          exact List.length_eq_zero_iff.mp k5.symm
        · rintro rfl
          exact List.length_eq_zero_iff.mp k5
    · cases h
  | _ => cases h
theorem plainT_is {e : Expr} (h : plainT e = true) (env : PySem.Env) (w : Sem Value) : isTrue e env w = (do let v ← w; standAt e.pos; holding [v] (truthy v)) := by
  cases e <;> first | rfl | (simp [plainT] at h; done) | (rename_i op a p; cases op <;> first | rfl | (simp [plainT] at h))
theorem st_of {e : Expr} {e' : E} (h : SE X c W e e') (hp : plainT e = true) : ST X c W e e' := by
  refine PT.imp (pt_val h fun w => plainT_is hp _ w) ?_
  rintro σ H Q ⟨ι, st, env, rs, re, p⟩
  exact ⟨ι, st, env, rs, re, p.imp fun x H1 ⟨b, h1, h2⟩ => ⟨b, h1, h2⟩⟩
theorem ckW_ok (S : Sound P N rec recT) (C : CkOk X P c lv W N sc) {op : PySem.BoolOp} {pos : Pos} : ∀ {xs : List Expr} {e : E}, ckW recT sc op xs e = true → SW X c W (.BoolOp op xs pos) e
  | [], _, h => by cases h
  | [x], e, h => by
    have q := S.t C _ _ (show recT sc x e = true by unfold ckW at h; exact h)
    cases op with
    | And => exact pw_and1 q
    | Or => exact pw_or1 q
  | x :: y :: r, e, h => by
    cases e with
    | and a b =>
      simp only [ckW, Bool.and_eq_true] at h
      cases op with
      | And => exact sw_and (S.t C _ _ h.1.2) (ckW_ok S C h.2)
      | Or => simp at h
    | or a b =>
      simp only [ckW, Bool.and_eq_true] at h
      cases op with
      | Or => exact sw_or (S.t C _ _ h.1.2) (ckW_ok S C h.2)
      | And => simp at h
    | _ => simp [ckW] at h
theorem ckT0_ok (S : Sound P N rec recT) (C : CkOk X P c lv W N sc) {e : Expr} {e' : E} (h : ckT0 P N rec recT sc e e' = true) : ST X c W e e' := by
  have hf := fun a e => S.e C a e
  unfold ckT0 at h
  split at h
  · exact st_not (S.t C _ _ h)
  · exact (ckW_ok S C h).pt
  · simp only [Bool.and_eq_true] at h
    exact st_ite (S.t C _ _ h.1.1) (S.t C _ _ h.1.2) (S.t C _ _ h.2)
  · simp only [Bool.and_eq_true, decide_eq_true_eq, Bool.not_eq_true'] at h
    obtain ⟨⟨⟨ho, h1⟩, h2⟩, h3⟩ := h
    subst ho
    exact st_cmp C.cok (hf _ _ h1) (hf _ _ h2) h3
  · simp only [Bool.and_eq_true, decide_eq_true_eq, Bool.not_eq_true'] at h
    obtain ⟨⟨⟨⟨⟨ho, hq⟩, h1⟩, h2⟩, h3⟩, h4⟩ := h
    subst ho
    subst hq
    exact st_cmp2 C.cok (hf _ _ h1) (hf _ _ h2) (hf _ _ h3) h4
  · simp only [Bool.and_eq_true] at h
    exact st_of (hf _ _ h.2) h.1
theorem ck_sound : ∀ n : Nat, Sound P N (ckP P N n).1 (ckP P N n).2
  | 0 => ⟨fun _ _ _ h => (Bool.false_ne_true h).elim, fun _ _ _ h => (Bool.false_ne_true h).elim⟩
  | n + 1 => ⟨fun C _ _ h => ck0_ok (ck_sound n) C h, fun C _ _ h => ckT0_ok (ck_sound n) C h⟩
end
end Mi

set_option linter.all false
set_option maxRecDepth 100000
/-! M15: the checker of statements. -/
namespace Mi
open PySem PySem.Spec L2
open PyProof.Rows hiding St
def compScope : Expr → Option Scope
  | .ListComp _ _ s _ => some s
  | .SetComp _ _ s _ => some s
  | .DictComp _ _ _ s _ => some s
  | _ => none
/-- whether a comprehension's value goes straight to a name -/
def swapB (sc : Scope) (value : Expr) (x : Str) (tl line : Nat) : Bool := match compScope value with
  | none => false
  | some s => (match sc.names.lookup x with | some .local => true | _ => false) && tl == value.pos.line && !(s.names.any fun (n, k) => n == x && (k == .local || k == .cell))
def noTup : Expr → Bool
  | .Tuple _ _ _ => false
  | .List _ _ => false
  | _ => true
def swpN (sc : Scope) (ts : List Expr) : List Str := ts.filterMap fun
    | .Name id pos => (match sc.names.lookup id with | some .local => if pos.line == (ts.head?.map (·.pos.line)).getD 0 then some id else none | _ => none)
    | _ => none
def swp (sc : Scope) (ts vs : List Expr) : Option (Option (List Str)) :=
  if !(ts.length == 2 || ts.length == 3) || vs.length != ts.length then some none
  else if vs.any (fun | .Starred .. => true | _ => false) then some none
  else if (swpN sc ts).length != ts.length || (swpN sc ts).eraseDups.length != (swpN sc ts).length then some none
  else if vs.all (foldedForSure 8) then some none
  else if vs.all (constantsAlone 8) then none
  else some (some (swpN sc ts))
section
variable {X : Cx} {P : Prog} {c : Ctx} {lv : Nat} {W : L2.WX} {N : List Str} {sc : Sc}
theorem kind_fn (C : CkOk X P c lv W N sc) : X.env.blockKind = .function := by
  unfold PySem.Env.blockKind
  rw [C.hsc, C.kind]
  rfl
theorem sw_none (C : CkOk X P c lv W N sc) {v : Expr} (h : compScope v = none) (t : Option Expr) (line : Nat) : swapsWith v t line X.env = pure false := by
  cases v <;> first | rfl | cases h
theorem sw_name (C : CkOk X P c lv W N sc) {v : Expr} {x : Str} {p : Pos} (line : Nat) : swapsWith v (some (.Name x p)) line X.env = pure (swapB sc.scope v x p.line line) := by
  have key : ∀ s : Scope, (X.env.blockKind == .function && X.env.kindOf x == some .local && p.line == v.pos.line && !(s.names.any fun (n, k) => n == x && (k == .local || k == .cell))) =
      ((match sc.scope.names.lookup x with | some .local => true | _ => false) && p.line == v.pos.line && !(s.names.any fun (n, k) => n == x && (k == .local || k == .cell))) := by
    intro s
    rw [kind_fn C]
    have : X.env.kindOf x = sc.scope.names.lookup x := by unfold PySem.Env.kindOf; rw [C.hsc]
    rw [this]
    cases h : sc.scope.names.lookup x with
    | none => rfl
    | some k => cases k <;> rfl
  cases v <;> first | rfl | (exact congrArg pure (key _))
theorem sw_other {v t : Expr} (h : (match t with | .Name _ _ => false | _ => true) = true) (line : Nat) (env : PySem.Env) : swapsWith v (some t) line env = pure false := by
  cases t <;> first | (simp at h; done) | (cases v <;> rfl)
theorem sole_other {v t : Expr} (h : (match t with | .Name _ _ => false | _ => true) = true) (line : Nat) (env : PySem.Env) : swapsWithSole [t] v line env = pure false := sw_other h line env
theorem swp_no {t v : Expr} (h : noTup t = true ∨ noTup v = true) (env : PySem.Env) : swappedStores [t] v env = pure none := by
  rcases h with h | h
  · cases t <;> first | (simp [noTup] at h; done) | (cases v <;> rfl)
  · cases v <;> first | (simp [noTup] at h; done) | (cases t <;> rfl)
theorem swp_eq (C : CkOk X P c lv W N sc) {ts vs : List Expr} {k k2 : Nat} {p p2 : Pos} {o : Option (List Str)} (h : swp sc.scope ts vs = some o) : swappedStores [.Tuple ts k p] (.Tuple vs k2 p2) X.env = pure o := by
  have kn : ∀ x, X.env.kindOf x = sc.scope.names.lookup x := fun x => by unfold PySem.Env.kindOf; rw [C.hsc]
  have nm : (ts.filterMap fun
    | .Name id pos => if X.env.kindOf id == some .local && pos.line == (ts.head?.map (·.pos.line)).getD 0 then some id else none
    | _ => none) = swpN sc.scope ts := by
    unfold swpN
    congr 1
    funext e
    cases e with
    | Name id pos =>
      simp only [kn]
      cases h : sc.scope.names.lookup id with
      | none => rfl
      | some k => cases k <;> rfl
    | _ => rfl
  have bk := kind_fn C
  have e : swappedStores [.Tuple ts k p] (.Tuple vs k2 p2) X.env = (do
      if !(ts.length == 2 || ts.length == 3) || vs.length != ts.length || X.env.blockKind != .function then return none
      if vs.any fun | .Starred .. => true | _ => false then return none
      if (swpN sc.scope ts).length != ts.length || (swpN sc.scope ts).eraseDups.length != (swpN sc.scope ts).length then return none
      if vs.all (foldedForSure 8) then return none
      if vs.all (constantsAlone 8) then unsupported "assign.tuple-of-constant-expressions:order-of-the-stores"
      return some (swpN sc.scope ts)) := by
    rw [← nm]
    rfl
  rw [e, bk]
  unfold swp at h
  split at h
  · rename_i q
    cases h
    rw [if_pos (by simpa using q)]
  · rename_i q
    rw [if_neg (by simpa using q)]
    split at h
    · rename_i q2
      cases h
      simp only [q2, if_true]
      try rfl
    · rename_i q2
      simp only [q2]
      split at h
      · rename_i q3
        cases h
        simp only [q3, if_true]
        try rfl
      · rename_i q3
        simp only [q3]
        split at h
        · rename_i q4
          cases h
          simp only [q4, if_true]
          try rfl
        · rename_i q4
          simp only [q4]
          split at h
          · cases h
          · rename_i q5
            cases h
            simp only [q5]
            try rfl
end
/-- targets -/
def ckTg (P : Prog) (N : List Str) (rec : Rc) (sc : Sc) : Nat → Expr → Tg → Bool
  | 0, _, _ => false
  | n + 1, e, t => match t, e with
    | .name i, .Name x _ => decide (N[i]? = some x) && stB sc x
    | .tup ts, .Tuple es _ _ => all2 (fun a b => noStar a && ckTg P N rec sc n a b) es ts
    | .sub a b, .Subscript o i _ => noSlice i && rec sc o a && rec sc i b
    | _, _ => false
section
variable {X : Cx} {P : Prog} {c : Ctx} {lv : Nat} {W : L2.WX} {N : List Str} {sc : Sc} {rec recT : Rc}
theorem CkOk.w0 (C : CkOk X P c lv W N sc) : CkOk X P c lv W0 N sc :=
  ⟨⟨C.cok.calm, C.cok.room, C.cok.nd, fun u s' ⟨_, _, _, _, _, _, _, _, _, _, _, _, _, _, _, _, w⟩ => w.elim, C.cok.lib⟩, C.ctx, C.hsc, C.hN, C.cells, C.kind⟩
theorem tg_ok (S : Sound P N rec recT) : ∀ (n : Nat) {W : L2.WX} {e : Expr} {t : Tg}, CkOk X P c lv W N sc → ckTg P N rec sc n e t = true → SG X c W e t
  | 0, _, _, _, _, h => by cases h
  | n + 1, W, e, t, C, h => by
    unfold ckTg at h
    split at h
    · simp only [Bool.and_eq_true, decide_eq_true_eq] at h
      obtain ⟨s1, s2⟩ := stB_ok C h.2
      exact sg_name C.cok.nd (by rw [C.hN]; exact h.1) s1 s2
    · have go : ∀ {es : List Expr} {ts : List Tg}, all2 (fun a b => noStar a && ckTg P N rec sc n a b) es ts = true → SGs X c es ts ∧ (assignEach es X.env).length = ts.length ∧ (assignEach es X.env).findIdx? (·.1) = none := by
        intro es
        induction es with
        | nil =>
          intro ts h
          cases ts with
          | nil => exact ⟨sgs_nil, rfl, rfl⟩
          | cons _ _ => cases h
        | cons e es ih =>
          intro ts h
          cases ts with
          | nil => cases h
          | cons t ts =>
            simp only [all2, Bool.and_eq_true] at h
            obtain ⟨i1, i2, i3⟩ := ih h.2
            have ea := asg_cons (es := es) h.1.1 X.env
            refine ⟨sgs_cons (tg_ok S n C.w0 h.1.2) i1 (by rw [ea]; rfl), by rw [ea]; simp [i2], by rw [ea, List.findIdx?_cons, i3]; rfl⟩
      obtain ⟨g1, g2, g3⟩ := go h
      exact sg_tup C.cok.calm g1 g2 g3
    · simp only [Bool.and_eq_true] at h
      exact sg_sub C.cok (S.e C _ _ h.1.2) (S.e C _ _ h.2) (asub_of h.1.1 _)
    · cases h
end
def ckAsg (P : Prog) (N : List Str) (rec recT : Rc) (sc : Sc) (tg v : Expr) (line : Nat) (t : Tg) (e : E) : Bool := match t, tg with
  | .name i, .Name x p => decide (N[i]? = some x) && stB sc x && (if swapB sc.scope v x p.line line = true then
      (match v, e with
      | .ListComp elt gs scope _, .comp e1 t1 it ifs own => (match sc.scope.names.lookup x with | some .local => true | _ => false) && ckComp P N sc rec recT elt gs scope e1 t1 it ifs own
      | _, _ => false) else rec sc v e)
  | .fld o f, .Attribute a s _ => decide (s = Str.ofString f) && rec sc a o && rec sc v e && (compScope v).isNone
  | .sub a b, .Subscript o i _ => ckTg P N rec sc 4 tg t && rec sc v e
  | .tup ts, .Tuple es _ _ => (match v, e with
    | .Tuple vs _ _, .tup es' => (match swp sc.scope es vs with
      | some none => ckTg P N rec sc 4 tg t && rec sc v e
      | some (some _) => (match es, vs, ts, es' with
        | [.Name x _, .Name y _], [a, b], [.name i, .name j], [a', b'] => decide (swp sc.scope es vs = some (some [x, y])) && decide (N[i]? = some x) && decide (N[j]? = some y) && decide (i ≠ j) && (match sc.scope.names.lookup x with | some .local => true | _ => false) && (match sc.scope.names.lookup y with | some .local => true | _ => false) && argB (rec sc) a a' && argB (rec sc) b b'
        | _, _, _, _ => false)
      | none => false)
    | v, e => noTup v && ckTg P N rec sc 4 tg t && rec sc v e)
  | _, _ => false
abbrev RcS := Sc → List Stmt → List S → Bool
def ckS0 (P : Prog) (N : List Str) (rec recT : Rc) (recS : RcS) (sc : Sc) (s : Stmt) : S → Bool
  | .ex e => (match s with | .Expr v _ => (compScope v).isNone && rec sc v e | _ => false)
  | .pass => (match s with | .Pass _ => true | .Expr (.Constant (.str _) _ _) _ => true | _ => false)
  | .brk => (match s with | .Break _ => true | _ => false)
  | .cont => (match s with | .Continue _ => true | _ => false)
  | .ret e => (match s with | .Return (some v) _ => rec sc v e | _ => false)
  | .retN => (match s with | .Return none _ => true | _ => false)
  | .iff t a b => (match s with | .If x p q _ => recT sc x t && recS sc p a && recS sc q b | _ => false)
  | .whil t b => (match s with | .While x p [] _ => recT sc x t && recS sc p b | _ => false)
  | .fr t it b => (match s with | .For tg iter p [] _ => noSet iter && ckIt P sc rec tg iter it && ckTg P N rec sc 4 tg t && recS sc p b | _ => false)
  | .asg t e => (match s with | .Assign [tg] v pos => noStar tg && ckAsg P N rec recT sc tg v pos.line t e | _ => false)
  | .aug i o e => (match s with | .AugAssign (.Name x _) p v _ => decide (p = o) && decide (N[i]? = some x) && stB sc x && rec sc v e | _ => false)
  | .augS a b o e => (match s with | .AugAssign (.Subscript x y _) p v _ => decide (p = o) && noSlice y && rec sc x a && rec sc y b && rec sc v e | _ => false)
  | _ => false
def ckSs (P : Prog) (N : List Str) : Nat → RcS
  | 0 => fun _ _ _ => false
  | n + 1 => fun sc => all2 (ckS0 P N (ckP P N 30).1 (ckP P N 30).2 (ckSs P N n) sc)
section
variable {X : Cx} {P : Prog} {c : Ctx} {lv : Nat} {W : L2.WX} {N : List Str} {sc : Sc} {rec recT : Rc} {recS : RcS}
theorem loc_ok {sc : Scope} {x : Str} (h : (match sc.names.lookup x with | some .local => true | _ => false) = true) : sc.names.lookup x = some .local := by
  split at h
  · assumption
  · cases h
theorem ckAsg_ok (S : Sound P N rec recT) (C : CkOk X P c lv W N sc) {tg v : Expr} {pos : Pos} {t : Tg} {e : E} (hs : noStar tg = true) (h : ckAsg P N rec recT sc tg v pos.line t e = true) : SS X c W (.Assign [tg] v pos) (.asg t e) := by
  have a1 : (assignEach [tg] X.env).map (·.2) = [assign tg X.env] := by rw [asg_cons hs]; rfl
  unfold ckAsg at h
  split at h
  · rename_i i x p
    simp only [Bool.and_eq_true, decide_eq_true_eq] at h
    obtain ⟨s1, s2⟩ := stB_ok C h.1.2
    have hi : X.N[i]? = some x := by rw [C.hN]; exact h.1.1
    have h2 := h.2
    split at h2
    · rename_i hsw
      split at h2
      · rename_i elt gs scope cp e1 t1 it ifs own
        simp only [Bool.and_eq_true] at h2
        obtain ⟨tg, iter, is, rfl, h1, ok, h3, h4, h5, h6⟩ := comp_parts S C h2.2
        have q := ss_setLc C.cok hi (by rw [C.hsc]; exact loc_ok h2.1) (by rw [sw_name C, hsw]) h1 ok h3 h4 h5 h6 (p' := p) (spos := pos) (pos := cp)
        rw [own_map] at q
        exact q
      · cases h2
    · rename_i hsw
      exact ss_set C.cok hi s1 (S.e C _ _ h2) (by rw [sw_name C, Bool.eq_false_iff.mpr hsw]) s2
  · simp only [Bool.and_eq_true, decide_eq_true_eq] at h
    obtain ⟨⟨⟨hsn, h1⟩, h2⟩, h3⟩ := h
    subst hsn
    exact ss_fld C.cok (S.e C _ _ h1) (S.e C _ _ h2) (sw_none C (Option.isNone_iff_eq_none.mp h3) _ _)
  · simp only [Bool.and_eq_true] at h
    exact ss_asg (S.e C _ _ h.2) (tg_ok S 4 C h.1) (sole_other (by rfl) _ _) (swp_no (.inl rfl) _) a1
  · rename_i ts es k tp
    split at h
    · rename_i vs k2 p2 es'
      split at h
      · rename_i hw
        simp only [Bool.and_eq_true] at h
        exact ss_asg (S.e C _ _ h.2) (tg_ok S 4 C h.1) (sole_other (by rfl) _ _) (swp_eq C hw) a1
      · split at h
        · simp only [Bool.and_eq_true, decide_eq_true_eq] at h
          obtain ⟨⟨⟨⟨⟨⟨⟨h1, h2⟩, h3⟩, h4⟩, h5⟩, h6⟩, h7⟩, h8⟩ := h
          obtain ⟨g1, g2⟩ := arg_one h7
          obtain ⟨g3, g4⟩ := arg_one h8
          exact ss_par C.cok (by rw [C.hN]; exact h2) (by rw [C.hN]; exact h3) h4 (by rw [C.hsc]; exact loc_ok h5) (by rw [C.hsc]; exact loc_ok h6)
            (sl_cons (S.e C _ _ g2) (sl_cons (S.e C _ _ g4) sl_nil (star_cons g3 _)) (star_cons g1 _)) (swp_eq C h1) (sole_other (by rfl) _ _)
        · cases h
      · cases h
    · simp only [Bool.and_eq_true] at h
      exact ss_asg (S.e C _ _ h.2) (tg_ok S 4 C h.1.2) (sole_other (by rfl) _ _) (swp_no (.inr h.1.1) _) a1
  · cases h
structure SoundS (P : Prog) (N : List Str) (recS : RcS) : Prop where
  s : ∀ {X c lv W sc}, CkOk X P c lv W N sc → PassesOwn (model X.prog X.w) X.A X.env X.xe → ∀ a b, recS sc a b = true → SSs X c W a b
theorem ckS0_ok (S : Sound P N rec recT) (R : SoundS P N recS) (C : CkOk X P c lv W N sc) (hp : PassesOwn (model X.prog X.w) X.A X.env X.xe) {s : Stmt} {s' : Mi.S} (h : ckS0 P N rec recT recS sc s s' = true) : SS X c W s s' := by
  cases s' with
  | ex e =>
    simp only [ckS0] at h
    split at h
    · simp only [Bool.and_eq_true] at h
      exact ss_ex (S.e C _ _ h.2) (sw_none C (Option.isNone_iff_eq_none.mp h.1) _ _)
    · cases h
  | pass =>
    simp only [ckS0] at h
    split at h
    · exact ss_pass
    · exact ss_doc
    · cases h
  | brk =>
    simp only [ckS0] at h
    split at h
    · exact ss_brk
    · cases h
  | cont =>
    simp only [ckS0] at h
    split at h
    · exact ss_cont
    · cases h
  | ret e =>
    simp only [ckS0] at h
    split at h
    · exact ss_ret (S.e C _ _ h)
    · cases h
  | retN =>
    simp only [ckS0] at h
    split at h
    · exact ss_retN
    · cases h
  | iff t a b =>
    simp only [ckS0] at h
    split at h
    · simp only [Bool.and_eq_true] at h
      exact ss_if (S.t C _ _ h.1.1) (R.s C hp _ _ h.1.2) (R.s C hp _ _ h.2)
    · cases h
  | whil t b =>
    simp only [ckS0] at h
    split at h
    · simp only [Bool.and_eq_true] at h
      exact ss_while hp (S.t C _ _ h.1) (R.s C hp _ _ h.2)
    · cases h
  | fr t it b =>
    simp only [ckS0] at h
    split at h
    · simp only [Bool.and_eq_true] at h
      obtain ⟨⟨⟨h1, h2⟩, h3⟩, h4⟩ := h
      exact ss_for C.cok hp (it_ok S C h2) (tg_ok S 4 C h3) (R.s C hp _ _ h4) fun x => noSet_of h1 _ x
    · cases h
  | asg t e =>
    simp only [ckS0] at h
    split at h
    · simp only [Bool.and_eq_true] at h
      exact ckAsg_ok S C h.1 h.2
    · cases h
  | aug i o e =>
    simp only [ckS0] at h
    split at h
    · simp only [Bool.and_eq_true, decide_eq_true_eq] at h
      obtain ⟨⟨⟨ho, h1⟩, h2⟩, h3⟩ := h
      subst ho
      obtain ⟨s1, s2⟩ := stB_ok C h2
      exact ss_aug C.cok (by rw [C.hN]; exact h1) s1 (S.e C _ _ h3) s2
    · cases h
  | augS a b o e =>
    simp only [ckS0] at h
    split at h
    · simp only [Bool.and_eq_true, decide_eq_true_eq] at h
      obtain ⟨⟨⟨⟨ho, h1⟩, h2⟩, h3⟩, h4⟩ := h
      subst ho
      exact ss_augS C.cok (S.e C _ _ h2) (S.e C _ _ h3) (S.e C _ _ h4) (aug_of h1)
    · cases h
  | _ => cases h
theorem ckSs_ok : ∀ n : Nat, SoundS P N (ckSs P N n)
  | 0 => ⟨fun _ _ _ _ h => (Bool.false_ne_true h).elim⟩
  | n + 1 => ⟨fun {X c lv W sc} C hp a => by
    induction a with
    | nil =>
      intro b h
      cases b with
      | nil => exact ss_nil
      | cons _ _ => cases h
    | cons x xs ih =>
      intro b h
      cases b with
      | nil => cases h
      | cons y ys =>
        have h' : (ckS0 P N (ckP P N 30).1 (ckP P N 30).2 (ckSs P N n) sc x y && all2 (ckS0 P N (ckP P N 30).1 (ckP P N 30).2 (ckSs P N n) sc) xs ys) = true := h
        rw [Bool.and_eq_true] at h'
        exact ss_cons (ckS0_ok (ck_sound 30) (ckSs_ok n) C hp h'.1) (ih ys h'.2)⟩
end
end Mi

set_option linter.all false
set_option maxRecDepth 100000
/-! M16: the module's defs keep the evaluator's promises; a law's end. -/
namespace Mi
open PySem PySem.Spec L2
open PyProof.Rows hiding St
def cellsOf (sc : Scope) : List Str := (sc.names.filter fun p => match p.2 with | .cell => true | _ => false).map (·.1)
structure DefOk (K : PySem.W.Frag) (mg : Str → Option Value) (P : Prog) (fld : String → List String) (fnn : Fn) (p : Plans) (a : Addr) : Prop where
  ex : ∃ (x qual : Str) (params : Arguments) (body : List Stmt) (scope : Scope) (dvs : List V) (kws : List (Str × V)) (fd : FuncData) (N ps : List Str), FunD K x qual params body scope dvs kws a fd ∧ FnScope N ps scope ∧ N.length = fnn.slots ∧
    ckSs P N 30 ⟨scope, cellsOf scope⟩ body fnn.body = true ∧ ∀ n ks pl, p.lookup (n, ks) = some pl → pl.length = ps.length ∧ ∃ g gV, KBn K fd ps n (ks.map Str.ofString) g gV ∧ PlanOk ⟨K, mg, fld⟩ pl n ks.length gV
abbrev Prog.fldf (P : Prog) : String → List String := fun c => (P.fld.lookup c).getD []
structure ModOk (K : PySem.W.Frag) (mg : Str → Option Value) (P : Prog) : Prop where
  glob : ∀ x d, P.g.lookup x = some d → ∃ u v, mg (Str.ofString x) = some u ∧ RelV v u ∧ ∀ ι H, RV ⟨K, mg, P.fldf⟩ ι H d v
  bi : ∀ x, P.bi.contains x = true → mg (Str.ofString x) = none
  fn : ∀ f p, P.plans.lookup f = some p → ∃ fnn a, P.fns.lookup f = some fnn ∧ mg (Str.ofString f) = some (.ref a) ∧ DefOk K mg P P.fldf fnn p a
  mt : ∀ cl m p, P.mplans.lookup (cl, m) = some p → ∃ fnn C a, P.mts.lookup (cl, m) = some fnn ∧ mg (Str.ofString cl) = some (.ref C) ∧ Meth K C (Str.ofString m) a ∧ m ∉ P.fldf cl ∧ DefOk K mg P P.fldf fnn p a
  make : ∀ cl n pl, ((P.mplans.lookup (cl, "__init__")).bind fun p => p.lookup (n, [])) = some pl → ∃ C, mg (Str.ofString cl) = some (.ref C) ∧ Cls K C ∧ PySem.W.makesIn K C = true ∧ PySem.W.keepIn K (.ref C) = true
  noat : ∀ cl C f, mg (Str.ofString cl) = some (.ref C) → f ∈ P.fldf cl → NoAttr K C (Str.ofString f)
section
variable {prog : Program} {w : World} {K : PySem.W.Frag} {mg : Str → Option Value} {base : Heap} {P : Prog}
theorem vs_len {F : Fx} {n : Nat} {run : List D → Sto → R D} {vs : List V} {H : Hp} {Q : VK} {E : XK} (h : spI F n run vs H Q E) : vs.length = n := by
  obtain ⟨ι, st, ds, rs, rd, hl, p⟩ := h
  rw [← rd.length, hl]
theorem fn_zero {F : Fx} {k : Nat} {a : Addr} {fd : FuncData} {ps : List Str} {n : Nat} {CX : CXT} {run : List D → Sto → R D} (hn : n = ps.length) (h : ∀ ds st, run ds st = .no) : FnOk prog w K mg base CX k a fd ps (spI F n run) :=
  ⟨fun vs H Q E q => by rw [vs_len q, hn], fun _ _ _ _ _ _ _ _ _ _ _ _ _ q => by
    obtain ⟨ι, st, ds, rs, rd, hl, p⟩ := q
    rw [h] at p
    exact p.elim⟩
theorem re_start {F : Fx} {ι : List Addr} {H : Hp} {ds : List D} {vs : List V} (r : RVs F ι H ds vs) (N : List Str) : Re F ι H (ds.map some ++ List.replicate (N.length - ds.length) none) (L2.start N vs) := by
  have hl := r.length
  refine ⟨by simp [L2.start, hl], fun i d h => ?_⟩
  unfold L2.start
  by_cases hi : i < ds.length
  · rw [List.getElem?_append_left (by rw [List.length_map]; exact hi), List.getElem?_map] at h
    obtain ⟨d', h1, h2⟩ := Option.map_eq_some_iff.mp h
    cases h2
    obtain ⟨v, h3, h4⟩ := r.get h1
    exact ⟨v, by rw [List.getElem?_append_left (by rw [List.length_map, ← hl]; exact hi), List.getElem?_map, h3]; rfl, h4⟩
  · rw [List.getElem?_append_right (by rw [List.length_map]; omega)] at h
    have := List.mem_of_getElem? h
    rw [List.mem_replicate] at this
    cases this.2
/-- one def's body, over what its calls promise -/
theorem body_ok {c : Ctx} {k : Nat} {fnn : Fn} {a : Addr} {x qual : Str} {params : Arguments} {body : List Stmt} {scope : Scope} {dvs : List V} {kws : List (Str × V)} {fd : FuncData} {N ps : List Str} (hc : ∃ run mrun, c = P.ctx run mrun)
    (F : FunD K x qual params body scope dvs kws a fd) (S : FnScope N ps scope) (hN : N.length = fnn.slots) (ck : ckSs P N 30 ⟨scope, cellsOf scope⟩ body fnn.body = true)
    (lib : ∀ X : Cx, X.prog = prog → X.w = w → X.K = K → X.mg = mg → X.base = base → Lib X c k) {n : Nat} (hl : n = ps.length) : FnOk prog w K mg base (L2.CX prog w) (k + 2) a fd ps (spI ⟨K, mg, P.fldf⟩ n (runF c fnn)) := by
  refine F.ok (N := N) (k := k + 1) S (fun vs H Q E h => by rw [vs_len h, hl]) fun cdv A outer s H vs Q E hr h => ?_
  generalize hX : cxOf (L2.CX prog w) prog w K mg base N qual scope a cdv A outer s H E = X
  have tk : Takes X (fun cls d _ H => E cls d H) := by subst hX; exact takes_of rfl rfl rfl rfl
  have C : CkOk X P c k (fun cls d _ H => E cls d H) N ⟨scope, cellsOf scope⟩ := by
    refine ⟨⟨?_, ?_, ?_, tk, ?_⟩, hc, ?_, ?_, ?_, S.kind⟩
    · subst hX; rfl
    · subst hX; exact hr
    · subst hX; exact S.nd
    · exact lib X (by subst hX; rfl) (by subst hX; rfl) (by subst hX; rfl) (by subst hX; rfl) (by subst hX; rfl)
    · subst hX; rfl
    · subst hX; rfl
    · subst hX; exact fun _ _ => rfl
  have hps : PassesOwn (model X.prog X.w) X.A X.env X.xe := by subst hX; exact passes_of rfl
  refine ⟨_, (ckSs_ok 30).s C hps _ _ ck, ?_⟩
  have fx' : FX X c = ⟨K, mg, P.fldf⟩ := by
    obtain ⟨run, mrun, rfl⟩ := hc
    subst hX
    rfl
  rw [fx']
  obtain ⟨ι, st, ds, rs, rd, hl2, q⟩ := h
  refine ⟨ι, st, _, rs, re_start rd N, ?_⟩
  unfold runF at q
  rw [hN]
  generalize exSs c fnn.body _ st = o at q
  cases o with
  | next e s => exact fun ι' H' σ' p k rs' _ => q ι' H' .non p k rs' .non
  | ret d s => exact q
  | brk e s => exact q.elim
  | cont e s => exact q.elim
  | exc cl fs e s => exact fun ι' H' C dx σ' p k rs' _ hm hx => q ι' H' C dx p k rs' hm hx
  | no => exact q.elim
/-- .. of the table -/
theorem def_step {c : Ctx} {k : Nat} {fnn : Fn} {p : Plans} {a : Addr} (hc : ∃ run mrun, c = P.ctx run mrun) (D : DefOk K mg P P.fldf fnn p a)
    (lib : ∀ X : Cx, X.prog = prog → X.w = w → X.K = K → X.mg = mg → X.base = base → Lib X c k) {n : Nat} {ks : List String} {pl : List Src} (hp : p.lookup (n, ks) = some pl) :
    ∃ fd ps g gV, FnOk prog w K mg base (L2.CX prog w) (k + 2) a fd ps (spI ⟨K, mg, P.fldf⟩ pl.length (runF c fnn)) ∧ KBn K fd ps n (ks.map Str.ofString) g gV ∧ PlanOk ⟨K, mg, P.fldf⟩ pl n ks.length gV ∧ PySem.W.keepIn K (.ref a) = true := by
  obtain ⟨x, qual, params, body, scope, dvs, kws, fd, N, ps, F, S, hN, ck, hpl⟩ := D.ex
  obtain ⟨hl, g, gV, kb, po⟩ := hpl n ks pl hp
  exact ⟨fd, ps, g, gV, body_ok hc F S hN ck lib hl, kb, po, F.kp⟩
/-- the library at every depth -/
def stepF (P : Prog) : Nat → Fn → List D → Sto → R D
  | 0, _, _, _ => .no
  | k + 1, fnn, ds, st => runF (P.ctx (callF P k) (callM P k)) fnn ds st
theorem lib_step (M : ModOk K mg P) (k : Nat) (ih : ∀ j, j < k → ∀ (X : Cx), X.prog = prog → X.w = w → X.K = K → X.mg = mg → X.base = base → Lib X (P.ctx (callF P j) (callM P j)) (2 * j)) (X : Cx) (e1 : X.prog = prog) (e2 : X.w = w) (e3 : X.K = K) (e4 : X.mg = mg) (e5 : X.base = base) :
    Lib X (P.ctx (callF P k) (callM P k)) (2 * k) := by
  subst e1 e2 e3 e4 e5
  have fact : ∀ {run : List D → Sto → R D} {fnn : Fn} {p : Plans} {a : Addr}, DefOk X.K X.mg P P.fldf fnn p a → (∀ ds st, run ds st = stepF P k fnn ds st) → ∀ {n ks pl}, p.lookup (n, ks) = some pl →
      FnFact X (fx X P.fldf) (2 * k) run n ks pl a ∧ PySem.W.keepIn X.K (.ref a) = true := by
    intro run fnn p a D hrun n ks pl hp
    cases k with
    | zero =>
      obtain ⟨x, qual, params, body, scope, dvs, kws, fd, N, ps, F, S, hN, ck, hpl⟩ := D.ex
      obtain ⟨hl, g, gV, kb, po⟩ := hpl n ks pl hp
      exact ⟨⟨fd, ps, g, gV, fn_zero hl (fun ds st => hrun ds st), kb, po⟩, F.kp⟩
    | succ k =>
      obtain ⟨fd, ps, g, gV, h1, h2, h3, h4⟩ := def_step (c := P.ctx (callF P k) (callM P k)) (k := 2 * k) (prog := X.prog) (w := X.w) (base := X.base) ⟨_, _, rfl⟩ D (ih k (Nat.lt_succ_self k)) hp
      have er : run = runF (P.ctx (callF P k) (callM P k)) fnn := funext fun ds => funext fun st => hrun ds st
      rw [er]
      exact ⟨⟨fd, ps, g, gV, h1, h2, h3⟩, h4⟩
  refine ⟨M.glob, fun f n ks pl h => ?_, fun cl m n ks pl h => ?_, M.make, M.noat, M.bi⟩
  · obtain ⟨p, h1, h2⟩ := Option.bind_eq_some_iff.mp h
    obtain ⟨fnn, a, g1, g2, D⟩ := M.fn f p h1
    have hr : ∀ ds st, callF P k f ds st = stepF P k fnn ds st := fun ds st => by
      cases k with
      | zero => rfl
      | succ k =>
        show callF P (k + 1) f ds st = _
        unfold callF
        rw [g1]
        rfl
    obtain ⟨q1, q2⟩ := fact (run := callF P k f) D hr h2
    exact ⟨a, g2, q2, q1⟩
  · obtain ⟨p, h1, h2⟩ := Option.bind_eq_some_iff.mp h
    obtain ⟨fnn, C, a, g1, g2, g3, g4, D⟩ := M.mt cl m p h1
    have hr : ∀ ds st, callM P k cl m ds st = stepF P k fnn ds st := fun ds st => by
      cases k with
      | zero => rfl
      | succ k =>
        show callM P (k + 1) cl m ds st = _
        unfold callM
        rw [g1]
        rfl
    obtain ⟨q1, q2⟩ := fact (run := callM P k cl m) D hr h2
    exact ⟨C, a, g2, g3, g4, q1⟩
theorem lib_at (M : ModOk K mg P) (k : Nat) : ∀ (X : Cx), X.prog = prog → X.w = w → X.K = K → X.mg = mg → X.base = base → Lib X (P.ctx (callF P k) (callM P k)) (2 * k) := by
  induction k using Nat.strongRecOn with
  | ind k ih => exact fun X a b c d e => lib_step M k ih X a b c d e
/-! ### facts of the top, by one run -/
def dB0 (K : PySem.W.Frag) (rec : D → Value → Bool) : D → Value → Bool
  | .non, .none => true
  | .bl b, .bool c => b == c
  | .int i, .int j _ => decide (i = j)
  | .str x, .str y _ => decide (y.cps.toList = x) && decide (x.length ≤ sizeLine) && x.all (· < 1114112)
  | .tup ds, .ref a => (match K.lookup a with
    | some ⟨.type c, none, .seq its _, _⟩ => decide (c = "tuple") && decide (its.size ≤ sizeLine) && all2 rec ds its.toList
    | _ => false)
  | .cl ds, .ref a => (match K.lookup a with
    | some ⟨.type c, none, .seq its _, _⟩ => decide (c = "list") && decide (its.size ≤ sizeLine) && all2 rec ds its.toList
    | _ => false)
  | .fn x, .ref a => decide (PySem.W.nsIn K mainGlobals (Str.ofString x) = some (some (.ref a)))
  | .ty n, .type m => decide (n = m)
  | _, _ => false
def dB (K : PySem.W.Frag) : Nat → D → Value → Bool
  | 0 => fun _ _ => false
  | n + 1 => dB0 K (dB K n)
theorem dB0_ok {h : Heap} {fld : String → List String} (X : K.In h) (G : h.Ns mainGlobals mg) {rec : D → Value → Bool} (hr : ∀ d u, rec d u = true → ∃ v, RelV v u ∧ ∀ ι H, RV ⟨K, mg, fld⟩ ι H d v) {d : D} {u : Value} (h : dB0 K rec d u = true) : ∃ v, RelV v u ∧ ∀ ι H, RV ⟨K, mg, fld⟩ ι H d v := by
  have many : ∀ {ds : List D} {us : List Value}, all2 rec ds us = true → ∃ vs, Vals vs us ∧ ∀ ι H, RVs ⟨K, mg, fld⟩ ι H ds vs := by
    intro ds
    induction ds with
    | nil =>
      intro us h
      cases us with
      | nil => exact ⟨[], .nil, fun _ _ => .nil⟩
      | cons _ _ => cases h
    | cons d ds ih =>
      intro us h
      cases us with
      | nil => cases h
      | cons u us =>
        simp only [all2, Bool.and_eq_true] at h
        obtain ⟨v, h1, h2⟩ := hr _ _ h.1
        obtain ⟨vs, h3, h4⟩ := ih h.2
        exact ⟨v :: vs, .cons h1 h3, fun ι H => .cons (h2 ι H) (h4 ι H)⟩
  unfold dB0 at h
  split at h
  · exact ⟨.non, rfl, fun _ _ => .non⟩
  · cases eq_of_beq h
    exact ⟨.bl _, rfl, fun _ _ => .bl _⟩
  · cases of_decide_eq_true h
    exact ⟨.int _, ⟨_, rfl⟩, fun _ _ => .int _⟩
  · rename_i x y t
    simp only [Bool.and_eq_true, decide_eq_true_eq, List.all_eq_true] at h
    obtain ⟨⟨hx, h2⟩, h3⟩ := h
    subst hx
    have e : tS y.cps.toList = y := by cases y; simp [tS]
    refine ⟨.str y, ⟨_, rfl⟩, fun ι H => ?_⟩
    have := RV.str (F := ⟨K, mg, fld⟩) (ι := ι) (H := H) y.cps.toList ⟨h2, h3⟩
    rw [e] at this
    exact this
  · rename_i ds a
    split at h
    · rename_i c its m sl hk
      simp only [Bool.and_eq_true, decide_eq_true_eq] at h
      obtain ⟨⟨h1, h2⟩, h3⟩ := h
      subst h1
      obtain ⟨vs, r, q⟩ := many h3
      have hl : ds.length ≤ sizeLine := by
        rw [(q [] fun _ => none).length, r.length]
        simpa using h2
      exact ⟨.ref a, rfl, fun ι H => .tup (.inr ⟨_, its, m, hk, rfl, rfl, h2, r⟩) (q ι H) hl⟩
    · cases h
  · rename_i ds a
    split at h
    · rename_i c its m sl hk
      simp only [Bool.and_eq_true, decide_eq_true_eq] at h
      obtain ⟨⟨h1, h2⟩, h3⟩ := h
      subst h1
      obtain ⟨vs, r, q⟩ := many h3
      have hl : ds.length ≤ sizeLine := by
        rw [(q [] fun _ => none).length, r.length]
        simpa using h2
      exact ⟨.ref a, rfl, fun ι H => .cl (.inr ⟨_, its, m, hk, rfl, rfl, rfl, h2, r⟩) (q ι H) hl⟩
    · cases h
  · rename_i x a
    exact ⟨.ref a, rfl, fun ι H => .fn (PySem.W.mg_of X G (of_decide_eq_true h))⟩
  · have e := of_decide_eq_true h
    subst e
    exact ⟨.ty _, rfl, fun _ _ => .ty _⟩
  · cases h
theorem dB_ok {h : Heap} {fld : String → List String} (X : K.In h) (G : h.Ns mainGlobals mg) : ∀ (n : Nat) (d : D) (u : Value), dB K n d u = true → ∃ v, RelV v u ∧ ∀ ι H, RV ⟨K, mg, fld⟩ ι H d v
  | 0, _, _, h => (Bool.false_ne_true h).elim
  | n + 1, _, _, h => dB0_ok X G (fun d u => dB_ok X G n d u) h
def gB (K : PySem.W.Frag) (p : String × D) : Bool := match PySem.W.nsIn K mainGlobals (Str.ofString p.1) with
  | some (some u) => dB K 8 p.2 u
  | _ => false
theorem gB_ok {h : Heap} {fld : String → List String} (X : K.In h) (G : h.Ns mainGlobals mg) {p : String × D} (c : gB K p = true) : ∃ u v, mg (Str.ofString p.1) = some u ∧ RelV v u ∧ ∀ ι H, RV ⟨K, mg, fld⟩ ι H p.2 v := by
  unfold gB at c
  split at c
  · rename_i u hu
    obtain ⟨v, h1, h2⟩ := dB_ok (fld := fld) X G 8 _ _ c
    exact ⟨u, v, PySem.W.mg_of X G hu, h1, h2⟩
  · cases c
def okM (g : List (String × D)) (fa : List He.Fa) (fn : List He.DefD) (K : PySem.W.Frag) : Bool := (g.all (gB K)) && (fa.all fun f => f.ok K) && fn.all fun d => d.ok K
abbrev AlM : Type := Bool × List He.FnW
def obsM (g : List (String × D)) (fa : List He.Fa) (fn : List He.DefD) (K : PySem.W.Frag) : AlM := (okM g fa fn K, fn.map fun d => He.fnW K d.at_)
def SaysM (g : List (String × D)) (fa : List He.Fa) (fn : List He.DefD) (K : PySem.W.Frag) : Prop := obsM g fa fn K = (true, fn.map He.DefD.val)
def obsMG (n : Nat) (g : List (String × D)) (fa : List He.Fa) (fn : List He.DefD) (get : Addr → Option Obj) : AlM := obsM g fa fn (He.frG get (He.asD get n))
def hookM (n : Nat) (g : List (String × D)) (fa : List He.Fa) (fn : List He.DefD) : PySem.W.Hook where
  α := AlM
  obs := fun s => obsMG n g fa fn s.heap.get?
  val := fun _ => (true, fn.map He.DefD.val)
  says := fun _ h => ∃ K : PySem.W.Frag, K.In h ∧ SaysM g fa fn K
  of := fun _ _ e => ⟨_, He.frG_in, e⟩
  keeps := fun _ _ _ ⟨K, hK, c⟩ k => ⟨K, PySem.W.Frag.In.keeps hK k, c⟩
theorem obsMG_eq {n : Nat} {g : List (String × D)} {fa : List He.Fa} {fn : List He.DefD} {get : Addr → Option Obj} {s : Shared} (h : ∀ a, get a = s.heap.get? a) : obsMG n g fa fn get = (hookM n g fa fn).obs s := by
  have e : get = s.heap.get? := funext h
  rw [e] <;> rfl
section
variable {g : List (String × D)} {fa : List He.Fa} {fn : List He.DefD}
theorem SaysM.gl (c : SaysM g fa fn K) {p : String × D} (h : p ∈ g) : gB K p = true := by
  have c1 : okM g fa fn K = true := congrArg (fun z : AlM => z.1) c
  unfold okM at c1
  simp only [Bool.and_eq_true, List.all_eq_true] at c1
  exact c1.1.1 _ h
theorem SaysM.fact (c : SaysM g fa fn K) {f : He.Fa} (h : f ∈ fa) : f.ok K = true := by
  have c1 : okM g fa fn K = true := congrArg (fun z : AlM => z.1) c
  unfold okM at c1
  simp only [Bool.and_eq_true, List.all_eq_true] at c1
  exact c1.1.2 _ h
theorem SaysM.def_ (c : SaysM g fa fn K) (i : Nat) {d : He.DefD} (h : fn[i]? = some d) : ∃ fd, FunD K d.name d.qual d.params d.body d.scope (d.dvs K) (d.kws K) (He.fAd K d.at_) fd := by
  have c1 : okM g fa fn K = true := congrArg (fun z : AlM => z.1) c
  unfold okM at c1
  simp only [Bool.and_eq_true, List.all_eq_true] at c1
  have e : fn.map (fun d => He.fnW K d.at_) = fn.map He.DefD.val := congrArg (fun z : AlM => z.2) c
  have e2 : (fn.map fun d => He.fnW K d.at_)[i]? = (fn.map He.DefD.val)[i]? := by rw [e]
  rw [List.getElem?_map, List.getElem?_map, h] at e2
  exact He.DefD.funD (Option.some.inj e2) (c1.2 d (List.mem_of_getElem? h))
end
/-! ### the end -/
theorem cl_of {H : Hp} {a : Addr} {xs : List V} (hO : Only H) (h : SqL K H a xs) : CL K H a xs := by
  rcases h with (h | ⟨o, h⟩) | h
  · rcases hO a with z | ⟨o, ys, z⟩ <;> (rw [h] at z; cases z)
  · exact .inl ⟨o, h⟩
  · exact .inr h
/-- a whole number as a script has it -/
def SmallZ (z : Int) : Prop := Builtin.Int.intBits z ≤ 1048576
theorem law_sp {run : List D → Sto → R D} (hrun : ∀ ns : List Int, ns.length ≤ 63 → (∀ z ∈ ns, SmallZ z) → ∃ st, run [.cl (ns.map .int)] [] = .ok (.bl true) st) {fld : String → List String} (H : Hp) (a : Addr) (ns : List Int) (hl : ns.length ≤ 63) (hz : ∀ z ∈ ns, SmallZ z) (hO : Only H) (hS : SqL K H a (ns.map V.int)) :
    spI ⟨K, mg, fld⟩ 1 run [.ref a] H (fun v _ => v = .bl true) fun _ _ _ => False := by
  have intsR : ∀ ns : List Int, RVs ⟨K, mg, fld⟩ [] H (ns.map D.int) (ns.map V.int) := by
    intro ns
    induction ns with
    | nil => exact .nil
    | cons n ns ih => exact .cons (.int n) ih
  obtain ⟨st, e⟩ := hrun ns hl hz
  refine ⟨[], [], [.cl (ns.map .int)], ⟨rfl, List.nodup_nil, fun n o h => by simp at h⟩, .one (.cl (cl_of hO hS) (intsR ns) (by rw [List.length_map, sizeLine_eq]; omega)), rfl, ?_⟩
  rw [e]
  intro ι' H' b _ _ _ r
  exact r.bl_inv
/-- the goal behind the head: from the law's run by the evaluator -/
theorem walk_M {l : PySem.W.OpenLaw} {k : Nat} {q : Program} {loose : List Str} {xp : (Str → Option Value) → Heap → Prop} {yp : World → Heap → Prop} {d : DefRec} {y : Str} {run : List D → Sto → R D} (hn : l.most = some 63) (hdf : d.params.defaults = []) (hr : Room k callerA)
    (hrun : ∀ ns : List Int, ns.length ≤ 63 → (∀ z ∈ ns, SmallZ z) → ∃ st, run [.cl (ns.map .int)] [] = .ok (.bl true) st)
    (known : ∀ (w : World) (mg : Str → Option Value) (fa : Addr) (h : Heap), yp w h → h.Ns mainGlobals mg → mg d.name = some (.ref fa) →
      ∃ (K : PySem.W.Frag) (fd : FuncData) (fld : String → List String), K.In h ∧ (∀ (s : Shared) (u : Value), BindsTo s fd ⟨[u], []⟩ [(y, u)]) ∧ ∀ base : Heap, FnOk l.prog w K mg base (L2.CX l.prog w) k fa fd [y] (spI ⟨K, mg, fld⟩ 1 run)) :
    PySem.W.WalkO q loose xp yp l.row.toRowW d [] (fun f vs => PySem.call f vs) := by
  refine Att.attach_callB hn hdf fun w _ _ mg _ fa _ _ _ _ a _ ns G Y _ _ _ atLaw obj zs hlen bits gens => ?_
  obtain ⟨K, fd, fld, KX, bd, F⟩ := known w mg fa _ Y G.T.g atLaw
  exact law_call KX G.T.g G.T.b G.T.builtins G.T.nolimit gens obj zs (Nat.le_trans hlen (by rw [sizeLine_eq]; omega)) hr (fun base _ _ => F base) bd (fun H hO hS => law_sp hrun H a ns hlen bits hO hS) fun H e s' x => by
    obtain ⟨_, _, _, _, _, _, _, _, _, _, _, _, z⟩ := x
    exact z
/-- a law's def over calls of depth k -/
theorem law_fn (M : ModOk K mg P) (k : Nat) {fnn : Fn} {a : Addr} {x qual : Str} {params : Arguments} {body : List Stmt} {scope : Scope} {dvs : List V} {kws : List (Str × V)} {fd : FuncData} {N : List Str} {y : Str}
    (F : FunD K x qual params body scope dvs kws a fd) (S : FnScope N [y] scope) (hN : N.length = fnn.slots) (ck : ckSs P N 30 ⟨scope, cellsOf scope⟩ body fnn.body = true) :
    FnOk prog w K mg base (L2.CX prog w) (2 * k + 2) a fd [y] (spI ⟨K, mg, P.fldf⟩ 1 (runF (P.ctx (callF P k) (callM P k)) fnn)) :=
  body_ok ⟨_, _, rfl⟩ F S hN ck (lib_at M k) rfl
theorem no_exc (H : Hp) (s : Shared) (e : Value) (s' : Shared) (h : L2.CX prog w [] H s (fun _ _ _ => False) e s') : False := by
  obtain ⟨_, _, _, _, _, _, _, _, _, _, _, _, z⟩ := h
  exact z
end
end Mi

set_option linter.all false
set_option maxRecDepth 100000
/-! M17: tables of defs and plans. -/
namespace Mi
open PySem PySem.Spec L2
open PyProof.Rows hiding St
theorem look_mem {α β : Type} [BEq α] [LawfulBEq α] {k : α} {v : β} : ∀ {l : List (α × β)}, l.lookup k = some v → (k, v) ∈ l
  | [], h => by cases h
  | (a, b) :: l, h => by
    rw [List.lookup_cons] at h
    split at h
    · rename_i e
      cases h
      rw [eq_of_beq e]
      exact List.mem_cons_self
    · exact List.mem_cons_of_mem _ (look_mem h)
def pickV {α : Type} (d : α) (us ws : List α) : Src → α
  | .pos i => us.getD i d
  | .kw i => ws.getD i d
  | .dv _ => d
def noDv : List Src → Bool
  | [] => true
  | .dv _ :: _ => false
  | _ :: r => noDv r
theorem vals_getD {vs : List V} {us : List Value} (r : Vals vs us) (i : Nat) : RelV (vs.getD i .non) (us.getD i .none) := by
  rw [List.getD_eq_getElem?_getD, List.getD_eq_getElem?_getD]
  cases h : vs[i]? with
  | none =>
    have hu : us[i]? = none := by rw [List.getElem?_eq_none_iff] at h ⊢; rw [← r.length]; exact h
    rw [hu]
    exact rfl
  | some v =>
    obtain ⟨u, h1, h2⟩ := Vals.get r h
    rw [h1]
    exact h2
theorem rvs_getD {F : Fx} {ι : List Addr} {H : Hp} {ds : List D} {vs : List V} (r : RVs F ι H ds vs) (i : Nat) : RV F ι H (ds.getD i .non) (vs.getD i .non) := by
  rw [List.getD_eq_getElem?_getD, List.getD_eq_getElem?_getD]
  cases h : ds[i]? with
  | none =>
    have hu : vs[i]? = none := by rw [List.getElem?_eq_none_iff] at h ⊢; rw [← r.length]; exact h
    rw [hu]
    exact .non
  | some v =>
    obtain ⟨u, h1, h2⟩ := r.get h
    rw [h1]
    exact h2
theorem pick_vals {vs zs : List V} {us ws : List Value} (r : Vals vs us) (r2 : Vals zs ws) : ∀ pl : List Src, Vals (pl.map (pickV .non vs zs)) (pl.map (pickV .none us ws))
  | [] => .nil
  | .pos i :: pl => .cons (vals_getD r i) (pick_vals r r2 pl)
  | .kw i :: pl => .cons (vals_getD r2 i) (pick_vals r r2 pl)
  | .dv d :: pl => .cons rfl (pick_vals r r2 pl)
theorem pick_rvs {F : Fx} {ι : List Addr} {H : Hp} {ds es : List D} {vs zs : List V} (r : RVs F ι H ds vs) (r2 : RVs F ι H es zs) : ∀ {pl : List Src}, noDv pl = true → RVs F ι H (pl.map (Src.pick ds es)) (pl.map (pickV .non vs zs))
  | [], _ => .nil
  | .pos i :: pl, h => .cons (rvs_getD r i) (pick_rvs r r2 h)
  | .kw i :: pl, h => .cons (rvs_getD r2 i) (pick_rvs r r2 h)
  | .dv _ :: _, h => by cases h
section
variable {K : PySem.W.Frag} {mg : Str → Option Value} {fld : String → List String}
/-- a plan of a def without defaults -/
theorem plain_plan {x qual : Str} {params : Arguments} {body : List Stmt} {scope : Scope} {kws : List (Str × V)} {a : Addr} {fd : FuncData} {ps : List Str} (F : FunD K x qual params body scope [] kws a fd) {n : Nat} {ks : List String} {pl : List Src} (hd : noDv pl = true)
    (h : ∀ (kV doc pm : Value) (an : Option Addr) (cdv ct : Value) (us ws : List Value), us.length = n → ws.length = ks.length → bindArgs (PySem.W.fnOf x qual params body scope .none kV doc pm an cdv ct) ⟨us, (ks.map Str.ofString).zip ws⟩ = pure (ps.zip (pl.map (pickV .none us ws)))) :
    ∃ g gV, KBn K fd ps n (ks.map Str.ofString) g gV ∧ PlanOk ⟨K, mg, fld⟩ pl n ks.length gV := by
  obtain ⟨oc, od, dV, kV, doc, pm, an, cdv, ct, osl, rfl, lk, hcd, hD, hK⟩ := F.ex
  rcases hD with ⟨_, rfl⟩ | ⟨e, _⟩
  · exact ⟨fun us ws => pl.map (pickV .none us ws), fun vs zs => pl.map (pickV .non vs zs), ⟨fun s us ws _ h1 h2 => .of_eq (h kV doc pm an cdv ct us ws h1 (by rw [h2, List.length_map])), fun r1 r2 => pick_vals r1 r2 pl⟩, fun ι H ds vs es zs rd re _ _ => pick_rvs rd re hd⟩
  · exact absurd rfl e
theorem defOk_of {P : Prog} {fnn : Fn} {p : Plans} {a : Addr} {x qual : Str} {params : Arguments} {body : List Stmt} {scope : Scope} {dvs : List V} {kws : List (Str × V)} {fd : FuncData} {N ps : List Str} (F : FunD K x qual params body scope dvs kws a fd) (S : FnScope N ps scope) (hN : N.length = fnn.slots)
    (ck : ckSs P N 30 ⟨scope, cellsOf scope⟩ body fnn.body = true) (hp : ∀ q ∈ p, q.2.length = ps.length ∧ ∃ g gV, KBn K fd ps q.1.1 (q.1.2.map Str.ofString) g gV ∧ PlanOk ⟨K, mg, fld⟩ q.2 q.1.1 q.1.2.length gV) : DefOk K mg P fld fnn p a :=
  ⟨x, qual, params, body, scope, dvs, kws, fd, N, ps, F, S, hN, ck, fun n ks pl h => hp _ (look_mem h)⟩
end
end Mi

set_option linter.all false
set_option maxRecDepth 100000
/-! M18: plain reasoning about the evaluator. -/
namespace Mi
/-- what the rules leave alone -/
class Hd {α : Sort _} (a : α) : Type where
instance atHd {α : Sort _} (a : α) : Hd a := ⟨⟩
open PySem
def okE {α : Type} (r : R α) (Q : α → Sto → Prop) [Hd Q] : Prop := match r with
  | .ok a st => Q a st
  | _ => False
def okT (r : RS) (N B C : Env → Sto → Prop) (Rt : D → Sto → Prop) [Hd N] [Hd B] [Hd C] [Hd Rt] : Prop := match r with
  | .next e s => N e s
  | .brk e s => B e s
  | .cont e s => C e s
  | .ret d s => Rt d s
  | _ => False
def negD (x : D) (st : Sto) : R D := match x with | .int i => .ok (.int (-i)) st | _ => .no
def notD (x : D) (st : Sto) : R D := match x with | .bl b => .ok (.bl (!b)) st | _ => .no
def someD (x : D) (st : Sto) : R (Option Int) := match x with | .int i => .ok (some i) st | _ => .no
def ivD (x : D) (st : Sto) : R Iv := match ivOf st x with | some iv => .ok iv st | none => .no
def enumD (x : D) (st : Sto) : R Iv := match ivL st x with | some iv => .ok (.enum iv) st | none => .no
def varD (x : Option (Option D)) (st : Sto) : R D := match x with | some (some d) => .ok d st | _ => .no
def globD (x : Option D) (st : Sto) : R D := match x with | some d => .ok d st | none => .no
def rng1 (xs : List D) (st : Sto) : R Iv := match xs with
    | [.int j] => if -(2 ^ 62) ≤ j ∧ j < 2 ^ 62 then .ok (.fix (rangeL 0 j.toNat)) st else .no
    | _ => .no
def rng2 (xs : List D) (st : Sto) : R Iv := match xs with
    | [.int i, .int j] => if -(2 ^ 62) ≤ i ∧ i < 2 ^ 62 ∧ -(2 ^ 62) ≤ j ∧ j < 2 ^ 62 then .ok (.fix (rangeL i (j - i).toNat)) st else .no
    | _ => .no
def ifD (x : D) (p q : Prop) [Hd p] [Hd q] : Prop := match x with | .bl true => p | .bl false => q | _ => False
def ifB (b : Bool) (p q : Prop) [Hd p] [Hd q] : Prop := if b = true then p else q
theorem ifB_true (p q : Prop) : ifB true p q = p := (rfl)
theorem ifB_false (p q : Prop) : ifB false p q = q := (rfl)
theorem ifB_by {b : Bool} {p q : Prop} (h1 : b = true → p) (h2 : b = false → q) : ifB b p q := by cases b <;> simp_all [ifB]
theorem ifB_t {b : Bool} {p q : Prop} (h : b = true) (h1 : p) : ifB b p q := by subst h; exact h1
theorem ifB_f {b : Bool} {p q : Prop} (h : b = false) (h1 : q) : ifB b p q := by subst h; exact h1
theorem ifD_bl (b : Bool) (p q : Prop) : ifD (.bl b) p q = ifB b p q := by cases b <;> rfl
theorem ifD_true (p q : Prop) : ifD (.bl true) p q = p := (rfl)
theorem ifD_false (p q : Prop) : ifD (.bl false) p q = q := (rfl)
section
variable {α β : Type} {c : Ctx} {env : Env} {st : Sto} {Q : D → Sto → Prop} {N B C : Env → Sto → Prop} {Rt : D → Sto → Prop}
theorem okE_ok (a : α) (st : Sto) (Q : α → Sto → Prop) : okE (.ok a st) Q = Q a st := (rfl)
theorem okE_bind (r : R α) (k : α → Sto → R β) (Q : β → Sto → Prop) : okE (r.bind k) Q = okE r fun a st => okE (k a st) Q := by cases r <;> rfl
theorem okE_ext {r : R α} {Q Q' : α → Sto → Prop} (h : ∀ a s, Q a s = Q' a s) : okE r Q = okE r Q' := by cases r <;> first | exact h _ _ | rfl
theorem okE_calm (r : R α) (Q : α → Sto → Prop) : okE r.calm Q = okE r Q := by cases r <;> rfl
theorem okE_no (Q : α → Sto → Prop) : okE (.no : R α) Q = False := (rfl)
theorem okE_if {p : Prop} [Decidable p] (r : R α) (Q : α → Sto → Prop) : okE (if p then r else .no) Q = (p ∧ okE r Q) := by
  by_cases h : p
  · rw [if_pos h]; exact propext ⟨fun q => ⟨h, q⟩, fun q => q.2⟩
  · rw [if_neg h]; exact propext ⟨fun q => q.elim, fun q => h q.1⟩
theorem okE_mono {r : R α} {Q Q' : α → Sto → Prop} (h : okE r Q) (f : ∀ a s, Q a s → Q' a s) : okE r Q' := by
  cases r with
  | ok a s => exact f _ _ h
  | _ => exact h
theorem okT_st (r : R α) (env : Env) (k : α → Sto → RS) : okT (r.st env k) N B C Rt = okE r fun a st => okT (k a st) N B C Rt := by cases r <;> rfl
theorem okT_next (e : Env) (s : Sto) : okT (.next e s) N B C Rt = N e s := (rfl)
theorem okT_ret (d : D) (s : Sto) : okT (.ret d s) N B C Rt = Rt d s := (rfl)
theorem okT_brk (e : Env) (s : Sto) : okT (.brk e s) N B C Rt = B e s := (rfl)
theorem okT_cont (e : Env) (s : Sto) : okT (.cont e s) N B C Rt = C e s := (rfl)
theorem okT_nil : okT (exSs c [] env st) N B C Rt = N env st := (rfl)
theorem okT_cons (s : S) (r : List S) : okT (exSs c (s :: r) env st) N B C Rt = okT (exS c s env st) (fun env st => okT (exSs c r env st) N B C Rt) B C Rt := by
  simp only [exSs]
  cases exS c s env st <;> rfl
/-! expressions -/
theorem ok_var (i : Nat) : okE (evE c (.var i) env st) Q = okE (varD env[i]? st) Q := by simp only [evE]; (repeat (first | rfl | rw [okE_bind] | rw [okT_st] | rw [okE_if] | (refine okE_ext fun _ _ => ?_)))
theorem ok_var' {i : Nat} {d : D} (h : env[i]? = some (some d)) : okE (evE c (.var i) env st) Q = Q d st := by rw [ok_var, h]; rfl
theorem ok_non : okE (evE c .non env st) Q = Q .non st := by simp only [evE]; (repeat (first | rfl | rw [okE_bind] | rw [okT_st] | rw [okE_if] | (refine okE_ext fun _ _ => ?_)))
theorem ok_bl (b : Bool) : okE (evE c (.bl b) env st) Q = Q (.bl b) st := by simp only [evE]; (repeat (first | rfl | rw [okE_bind] | rw [okT_st] | rw [okE_if] | (refine okE_ext fun _ _ => ?_)))
theorem ok_int (b : Int) : okE (evE c (.int b) env st) Q = Q (.int b) st := by simp only [evE]; (repeat (first | rfl | rw [okE_bind] | rw [okT_st] | rw [okE_if] | (refine okE_ext fun _ _ => ?_)))
theorem ok_str (b : List Nat) : okE (evE c (.str b) env st) Q = Q (.str b) st := by simp only [evE]; (repeat (first | rfl | rw [okE_bind] | rw [okT_st] | rw [okE_if] | (refine okE_ext fun _ _ => ?_)))
theorem ok_ty (b : String) : okE (evE c (.ty b) env st) Q = Q (.ty b) st := by simp only [evE]; (repeat (first | rfl | rw [okE_bind] | rw [okT_st] | rw [okE_if] | (refine okE_ext fun _ _ => ?_)))
theorem ok_glob (x : String) : okE (evE c (.glob x) env st) Q = okE (globD (c.g x) st) Q := by simp only [evE]; (repeat (first | rfl | rw [okE_bind] | rw [okT_st] | rw [okE_if] | (refine okE_ext fun _ _ => ?_)))
theorem ok_bin (o : Operator) (a b : E) : okE (evE c (.bin o a b) env st) Q = okE (evE c a env st) fun x st => okE (evE c b env st) fun y st => okE (binD o x y st) Q := by simp only [evE]; (repeat (first | rfl | rw [okE_bind] | rw [okT_st] | rw [okE_if] | (refine okE_ext fun _ _ => ?_)))
theorem ok_neg (a : E) : okE (evE c (.neg a) env st) Q = okE (evE c a env st) fun x st => okE (negD x st) Q := by simp only [evE]; (repeat (first | rfl | rw [okE_bind] | rw [okT_st] | rw [okE_if] | (refine okE_ext fun _ _ => ?_)))
theorem ok_not (a : E) : okE (evE c (.not a) env st) Q = okE (evE c a env st) fun x st => okE (notD x st) Q := by simp only [evE]; (repeat (first | rfl | rw [okE_bind] | rw [okT_st] | rw [okE_if] | (refine okE_ext fun _ _ => ?_)))
theorem ok_and (a b : E) : okE (evE c (.and a b) env st) Q = okE (evE c a env st) fun x st => ifD x (okE (evE c b env st) Q) (Q (.bl false) st) := by
  simp only [evE, okE_bind]
  refine okE_ext fun x s => ?_
  cases x with
  | bl b => cases b <;> rfl
  | _ => rfl
theorem ok_or (a b : E) : okE (evE c (.or a b) env st) Q = okE (evE c a env st) fun x st => ifD x (Q (.bl true) st) (okE (evE c b env st) Q) := by
  simp only [evE, okE_bind]
  refine okE_ext fun x s => ?_
  cases x with
  | bl b => cases b <;> rfl
  | _ => rfl
theorem ok_ite (t a b : E) : okE (evE c (.ite t a b) env st) Q = okE (evE c t env st) fun x st => ifD x (okE (evE c a env st) Q) (okE (evE c b env st) Q) := by
  simp only [evE, okE_bind]
  refine okE_ext fun x s => ?_
  cases x with
  | bl b => cases b <;> rfl
  | _ => rfl
theorem ok_cmp (o : CmpOp) (a b : E) : okE (evE c (.cmp o a b) env st) Q = okE (evE c a env st) fun x st => okE (evE c b env st) fun y st => okE (cmpD o x y st) Q := by simp only [evE]; (repeat (first | rfl | rw [okE_bind] | rw [okT_st] | rw [okE_if] | (refine okE_ext fun _ _ => ?_)))
theorem ok_cmp2 (o p : CmpOp) (a b d : E) : okE (evE c (.cmp2 o p a b d) env st) Q = okE (evE c a env st) fun x st => okE (evE c b env st) fun y st => okE (cmpD o x y st) fun r st => ifD r (okE (evE c d env st) fun z st => okE (cmpD p y z st) Q) (Q (.bl false) st) := by
  simp only [evE]
  rw [okE_bind]
  refine okE_ext fun x s => ?_
  rw [okE_bind]
  refine okE_ext fun y s => ?_
  rw [okE_bind]
  refine okE_ext fun r s => ?_
  cases r with
  | bl b => cases b <;> first | rfl | (rw [okE_bind]; rfl)
  | _ => rfl
theorem ok_attr (a : E) (f : String) : okE (evE c (.attr a f) env st) Q = okE (evE c a env st) fun x st => okE (attrD x f st) Q := by simp only [evE]; (repeat (first | rfl | rw [okE_bind] | rw [okT_st] | rw [okE_if] | (refine okE_ext fun _ _ => ?_)))
theorem ok_ix (a b : E) : okE (evE c (.ix a b) env st) Q = okE (evE c a env st) fun x st => okE (evE c b env st) fun y st => okE (ixD x y st) Q := by simp only [evE]; (repeat (first | rfl | rw [okE_bind] | rw [okT_st] | rw [okE_if] | (refine okE_ext fun _ _ => ?_)))
theorem ok_sl (a : E) (lo hi : Option E) : okE (evE c (.sl a lo hi) env st) Q = okE (evE c a env st) fun x st => okE (evO c lo env st) fun l st => okE (evO c hi env st) fun h st => okE (slD x l h st) Q := by simp only [evE]; (repeat (first | rfl | rw [okE_bind] | rw [okT_st] | rw [okE_if] | (refine okE_ext fun _ _ => ?_)))
theorem ok_lst (es : List E) : okE (evE c (.lst es) env st) Q = okE (evEs c es env st) fun xs st => okE (newL xs st) Q := by simp only [evE]; (repeat (first | rfl | rw [okE_bind] | rw [okT_st] | rw [okE_if] | (refine okE_ext fun _ _ => ?_)))
theorem ok_tup (es : List E) : okE (evE c (.tup es) env st) Q = okE (evEs c es env st) fun xs st => xs.length ≤ sl ∧ Q (.tup xs) st := by simp only [evE]; (repeat (first | rfl | rw [okE_bind] | rw [okT_st] | rw [okE_if] | (refine okE_ext fun _ _ => ?_)))
theorem ok_bi (f : String) (es : List E) : okE (evE c (.bi f es) env st) Q = okE (evEs c es env st) fun xs st => okE (biD f xs st) Q := by simp only [evE]; (repeat (first | rfl | rw [okE_bind] | rw [okT_st] | rw [okE_if] | (refine okE_ext fun _ _ => ?_)))
theorem ok_es_nil (Q : List D → Sto → Prop) : okE (evEs c [] env st) Q = Q [] st := by simp only [evEs]; (repeat (first | rfl | rw [okE_bind] | rw [okT_st] | rw [okE_if] | (refine okE_ext fun _ _ => ?_)))
theorem ok_es_cons (e : E) (es : List E) (Q : List D → Sto → Prop) : okE (evEs c (e :: es) env st) Q = okE (evE c e env st) fun x st => okE (evEs c es env st) fun xs st => Q (x :: xs) st := by simp only [evEs]; (repeat (first | rfl | rw [okE_bind] | rw [okT_st] | rw [okE_if] | (refine okE_ext fun _ _ => ?_)))
theorem ok_o_none (Q : Option Int → Sto → Prop) : okE (evO c none env st) Q = Q none st := by simp only [evO]; (repeat (first | rfl | rw [okE_bind] | rw [okT_st] | rw [okE_if] | (refine okE_ext fun _ _ => ?_)))
theorem ok_o_some (e : E) (Q : Option Int → Sto → Prop) : okE (evO c (some e) env st) Q = okE (evE c e env st) fun x st => okE (someD x st) Q := by simp only [evO]; (repeat (first | rfl | rw [okE_bind] | rw [okT_st] | rw [okE_if] | (refine okE_ext fun _ _ => ?_)))
theorem ok_comp (e : E) (t : Tg) (it : It) (ifs : Option E) (own : List Nat) : okE (evE c (.comp e t it ifs own) env st) Q = okE (itE c it env st) fun iv st =>
    okE (loopC (fun d st => (asT c t d (wipeE env own) st).bind fun env1 st => (evI c ifs env1 st).bind fun b st => if b = true then (evE c e env1 st).bind fun y st => .ok (some y) st else .ok none st) iv (lenI st iv + 1) 0 [] st) fun xs st => okE (alloc (.lst xs) st) Q := by
  simp only [evE]
  (repeat (first | rfl | rw [okE_bind] | rw [okT_st] | rw [okE_if] | (refine okE_ext fun _ _ => ?_)))
def planD (pl : Option (List Src)) (k : List Src → Prop) [Hd k] : Prop := match pl with | some pl => k pl | none => False
theorem ok_call (f : String) (es : List E) (ks : List String) (kes : List E) : okE (evE c (.call f es ks kes) env st) Q = okE (evEs c es env st) fun xs st => okE (evEs c kes env st) fun zs st => planD (c.plan f xs.length ks) fun pl => zs.length = ks.length ∧ okE (c.run f (pl.map (Src.pick xs zs)) st) Q := by
  simp only [evE]
  rw [okE_bind]
  refine okE_ext fun xs s => ?_
  rw [okE_bind]
  refine okE_ext fun zs s => ?_
  cases c.plan f xs.length ks with
  | none => rfl
  | some pl => simp only [okE_if]; rfl
/-- a built-in's method -/
def methB (k : Kd) (m : String) (x : D) (xs : List D) (st : Sto) : R D := match k with
  | .own _ => .no
  | k => if mtOk k m = true then methD k m x xs st else .no
theorem ok_meth (a : E) (m : String) (es : List E) (h : okE (evE c a env st) fun x st => okE (evEs c es env st) fun xs st' => (∀ cl, kindOf st x ≠ .own cl) ∧ okE (methB (kindOf st x) m x xs st') Q) : okE (evE c (.meth a m es [] []) env st) Q := by
  simp only [evE, okE_bind]
  refine okE_mono h fun x s q => ?_
  cases hk : kindOf s x with
  | own cl =>
    cases he : evEs c es env s with
    | ok xs s2 => rw [he] at q; exact absurd hk (q.1 cl)
    | exc _ _ _ => rw [he] at q; exact q.elim
    | no => rw [he] at q; exact q.elim
  | _ =>
    cases he : evEs c es env s with
    | ok xs s2 =>
      rw [he, okE_ok, hk] at q
      have q2 := q.2
      simp only [methB, okE_if] at q2
      simp only [he, q2.1, and_self, if_true, R.bind]
      exact q2.2
    | exc _ _ _ => rw [he] at q; exact q.elim
    | no => rw [he] at q; exact q.elim
theorem ok_i_e (e : E) (Q : Iv → Sto → Prop) : okE (itE c (.e e) env st) Q = okE (evE c e env st) fun x st => okE (ivD x st) Q := by simp only [itE]; (repeat (first | rfl | rw [okE_bind] | rw [okT_st] | rw [okE_if] | (refine okE_ext fun _ _ => ?_)))
theorem ok_i_range1 (es : List E) (Q : Iv → Sto → Prop) : okE (itE c (.range1 es) env st) Q = okE (evEs c es env st) fun xs st => okE (rng1 xs st) Q := by rw [itE, okE_bind] <;> rfl
theorem ok_i_range2 (es : List E) (Q : Iv → Sto → Prop) : okE (itE c (.range2 es) env st) Q = okE (evEs c es env st) fun xs st => okE (rng2 xs st) Q := by rw [itE, okE_bind] <;> rfl
theorem ok_i_enum (e : E) (Q : Iv → Sto → Prop) : okE (itE c (.enum e) env st) Q = okE (evE c e env st) fun x st => okE (enumD x st) Q := by simp only [itE]; (repeat (first | rfl | rw [okE_bind] | rw [okT_st] | rw [okE_if] | (refine okE_ext fun _ _ => ?_)))
/-! targets -/
theorem ok_t_name (i : Nat) (d : D) (Q : Env → Sto → Prop) : okE (asT c (.name i) d env st) Q = Q (env.set i (some d)) st := by simp only [asT]; (repeat (first | rfl | rw [okE_bind] | rw [okT_st] | rw [okE_if] | (refine okE_ext fun _ _ => ?_)))
theorem ok_t_tup (ts : List Tg) (xs : List D) (Q : Env → Sto → Prop) : okE (asT c (.tup ts) (.tup xs) env st) Q = (xs.length = ts.length ∧ okE (asTs c ts xs env st) Q) := by simp only [asT]; rw [okE_if, okE_calm]
theorem ok_t_sub (a b : E) (d : D) (Q : Env → Sto → Prop) : okE (asT c (.sub a b) d env st) Q = okE (evE c a env st) fun x st => okE (evE c b env st) fun y st => okE (setD x y d st) fun _ st => Q env st := by simp only [asT]; (repeat (first | rfl | rw [okE_bind] | rw [okT_st] | rw [okE_if] | (refine okE_ext fun _ _ => ?_)))
theorem ok_ts_nil (Q : Env → Sto → Prop) : okE (asTs c [] [] env st) Q = Q env st := by simp only [asTs]; (repeat (first | rfl | rw [okE_bind] | rw [okT_st] | rw [okE_if] | (refine okE_ext fun _ _ => ?_)))
theorem ok_ts_cons (t : Tg) (ts : List Tg) (d : D) (ds : List D) (Q : Env → Sto → Prop) : okE (asTs c (t :: ts) (d :: ds) env st) Q = okE (asT c t d env st) fun env st => okE (asTs c ts ds env st) Q := by simp only [asTs]; (repeat (first | rfl | rw [okE_bind] | rw [okT_st] | rw [okE_if] | (refine okE_ext fun _ _ => ?_)))
/-! statements -/
theorem ok_ex (e : E) : okT (exS c (.ex e) env st) N B C Rt = okE (evE c e env st) fun _ st => N env st := by simp only [exS]; (repeat (first | rfl | rw [okE_bind] | rw [okT_st] | rw [okE_if] | (refine okE_ext fun _ _ => ?_)))
theorem ok_asg (t : Tg) (e : E) : okT (exS c (.asg t e) env st) N B C Rt = okE (evE c e env st) fun x st => okE (asT c t x env st) fun env st => N env st := by simp only [exS]; (repeat (first | rfl | rw [okE_bind] | rw [okT_st] | rw [okE_if] | (refine okE_ext fun _ _ => ?_)))
theorem ok_ret (e : E) : okT (exS c (.ret e) env st) N B C Rt = okE (evE c e env st) Rt := by simp only [exS]; (repeat (first | rfl | rw [okE_bind] | rw [okT_st] | rw [okE_if] | (refine okE_ext fun _ _ => ?_)))
theorem ok_pass : okT (exS c .pass env st) N B C Rt = N env st := by simp only [exS]; (repeat (first | rfl | rw [okE_bind] | rw [okT_st] | rw [okE_if] | (refine okE_ext fun _ _ => ?_)))
theorem ok_sbrk : okT (exS c .brk env st) N B C Rt = B env st := by simp only [exS]; (repeat (first | rfl | rw [okE_bind] | rw [okT_st] | rw [okE_if] | (refine okE_ext fun _ _ => ?_)))
theorem ok_scont : okT (exS c .cont env st) N B C Rt = C env st := by simp only [exS]; (repeat (first | rfl | rw [okE_bind] | rw [okT_st] | rw [okE_if] | (refine okE_ext fun _ _ => ?_)))
theorem ok_if (t : E) (a b : List S) : okT (exS c (.iff t a b) env st) N B C Rt = okE (evE c t env st) fun x st => ifD x (okT (exSs c a env st) N B C Rt) (okT (exSs c b env st) N B C Rt) := by
  simp only [exS, okT_st]
  refine okE_ext fun x s => ?_
  cases x with
  | bl b => cases b <;> rfl
  | _ => rfl
theorem ok_augS (a b : E) (o : Operator) (e : E) : okT (exS c (.augS a b o e) env st) N B C Rt = okE (evE c a env st) fun x st => okE (evE c b env st) fun y st => okE (getD x y st) fun z st => okE (evE c e env st) fun w st => okE (augD o z w st) fun r st => okE (setD x y r st) fun _ st => N env st := by simp only [exS]; (repeat (first | rfl | rw [okE_bind] | rw [okT_st] | rw [okE_if] | (refine okE_ext fun _ _ => ?_)))
theorem ok_aug (i : Nat) (o : Operator) (e : E) {d : D} (h : env[i]? = some (some d)) : okT (exS c (.aug i o e) env st) N B C Rt = okE (evE c e env st) fun y st => okE (augD o d y st) fun z st => N (env.set i (some z)) st := by
  simp only [exS, h]
  (repeat (first | rfl | rw [okE_bind] | rw [okT_st] | rw [okE_if] | (refine okE_ext fun _ _ => ?_)))
theorem ok_for (t : Tg) (it : It) (b : List S) : okT (exS c (.fr t it b) env st) N B C Rt = okE (itE c it env st) fun iv st => okT (loopS (fun d env st => (asT c t d env st).st env fun env st => exSs c b env st) iv (lenI st iv + 1) 0 env st) N B C Rt := by simp only [exS]; (repeat (first | rfl | rw [okE_bind] | rw [okT_st] | rw [okE_if] | (refine okE_ext fun _ _ => ?_)))
theorem ok_while (t : E) (b : List S) : okT (exS c (.whil t b) env st) N B C Rt = okT (whileS (evE c t) (exSs c b) 1048576 env st) N B C Rt := by simp only [exS]; (repeat (first | rfl | rw [okE_bind] | rw [okT_st] | rw [okE_if] | (refine okE_ext fun _ _ => ?_)))
/-- monotone -/
theorem okT_mono {r : RS} {N' B' C' : Env → Sto → Prop} {Rt' : D → Sto → Prop} (h : okT r N B C Rt) (f1 : ∀ a s, N a s → N' a s) (f2 : ∀ a s, B a s → B' a s) (f3 : ∀ a s, C a s → C' a s) (f4 : ∀ a s, Rt a s → Rt' a s) : okT r N' B' C' Rt' := by
  cases r with
  | next e s => exact f1 _ _ h
  | brk e s => exact f2 _ _ h
  | cont e s => exact f3 _ _ h
  | ret e s => exact f4 _ _ h
  | exc c fs e s => exact h
  | no => exact h
theorem okT_step {s : S} {r : List S} (Mid : Env → Sto → Prop) (h1 : okT (exS c s env st) Mid B C Rt) (h2 : ∀ env st, Mid env st → okT (exSs c r env st) N B C Rt) : okT (exSs c (s :: r) env st) N B C Rt := by
  rw [okT_cons]
  exact okT_mono h1 h2 (fun _ _ h => h) (fun _ _ h => h) (fun _ _ h => h)
/-! calls -/
theorem ok_run {f : Fn} {ds : List D} (h : okT (exSs c f.body (ds.map some ++ List.replicate (f.slots - ds.length) none) st) (fun _ s => Q .non s) (fun _ _ => False) (fun _ _ => False) Q) : okE (runF c f ds st) Q := by
  unfold runF
  revert h
  generalize exSs c f.body _ st = o
  intro h
  cases o <;> first | exact h | exact h.elim
theorem ok_callF {P : Prog} {k : Nat} {f : String} {fn : Fn} {ds : List D} (hf : P.fns.lookup f = some fn) (h : okT (exSs (P.ctx (callF P k) (callM P k)) fn.body (ds.map some ++ List.replicate (fn.slots - ds.length) none) st) (fun _ s => Q .non s) (fun _ _ => False) (fun _ _ => False) Q) :
    okE (callF P (k + 1) f ds st) Q := by
  unfold callF
  rw [hf]
  exact ok_run h
/-! loops -/
theorem ok_loop {body : D → Env → Sto → RS} {iv : Iv} (I : Nat → Env → Sto → Prop) (n : Nat) (hs : ∀ i env st, i < n → I i env st → ∃ d, nextI st i iv = some (some d) ∧ okT (body d env st) (I (i + 1)) N (I (i + 1)) Rt)
    (he : ∀ env st, I n env st → nextI st n iv = some none ∧ N env st) : ∀ (j : Nat) (i : Nat) (env : Env) (st : Sto) (f : Nat), i + j = n → j < f → I i env st → okT (loopS body iv f i env st) N B C Rt := by
  intro j
  induction j with
  | zero =>
    intro i env st f hj hf h
    obtain ⟨f, rfl⟩ : ∃ g, f = g + 1 := ⟨f - 1, by omega⟩
    obtain rfl : i = n := by omega
    obtain ⟨h1, h2⟩ := he _ _ h
    unfold loopS
    rw [h1]
    exact h2
  | succ j ih =>
    intro i env st f hj hf h
    obtain ⟨f, rfl⟩ : ∃ g, f = g + 1 := ⟨f - 1, by omega⟩
    obtain ⟨d, h1, h2⟩ := hs i env st (by omega) h
    unfold loopS
    rw [h1]
    revert h2
    dsimp only
    generalize body d env st = o
    intro h2
    cases o with
    | next e s => exact ih (i + 1) e s f (by omega) (by omega) h2
    | cont e s => exact ih (i + 1) e s f (by omega) (by omega) h2
    | brk e s => exact h2
    | ret d s => exact h2
    | exc c fs e s => exact h2
    | no => exact h2
theorem ok_loopC {item : D → Sto → R (Option D)} {iv : Iv} {Q : List D → Sto → Prop} (I : Nat → List D → Sto → Prop) (n : Nat) (hs : ∀ i acc st, i < n → I i acc st → ∃ d, nextI st i iv = some (some d) ∧ okE (item d st) fun o st' => match o with
      | none => I (i + 1) acc st'
      | some x => acc.length < sl ∧ I (i + 1) (acc ++ [x]) st')
    (he : ∀ acc st, I n acc st → nextI st n iv = some none ∧ Q acc st) : ∀ (j : Nat) (i : Nat) (acc : List D) (st : Sto) (f : Nat), i + j = n → j < f → I i acc st → okE (loopC item iv f i acc st) Q := by
  intro j
  induction j with
  | zero =>
    intro i acc st f hj hf h
    obtain ⟨f, rfl⟩ : ∃ g, f = g + 1 := ⟨f - 1, by omega⟩
    obtain rfl : i = n := by omega
    obtain ⟨h1, h2⟩ := he _ _ h
    unfold loopC
    rw [h1]
    exact h2
  | succ j ih =>
    intro i acc st f hj hf h
    obtain ⟨f, rfl⟩ : ∃ g, f = g + 1 := ⟨f - 1, by omega⟩
    obtain ⟨d, h1, h2⟩ := hs i acc st (by omega) h
    unfold loopC
    rw [h1]
    revert h2
    dsimp only
    generalize item d st = o
    intro h2
    cases o with
    | ok o s =>
      cases o with
      | none => exact ih (i + 1) acc s f (by omega) (by omega) h2
      | some x =>
        obtain ⟨h3, h4⟩ : acc.length < sl ∧ I (i + 1) (acc ++ [x]) s := h2
        dsimp only
        rw [if_pos h3]
        exact ih (i + 1) (acc ++ [x]) s f (by omega) (by omega) h4
    | exc c fs s => exact h2
    | no => exact h2
/-- over fixed items, each without an effect on the store -/
theorem ok_compF {item : D → Sto → R (Option D)} {xs : List D} {g : D → Option D} {st : Sto} {Q : List D → Sto → Prop} (hl : xs.length ≤ sl) (hi : ∀ d ∈ xs, item d st = .ok (g d) st) (h : Q (xs.filterMap g) st) : okE (loopC item (.fix xs) (xs.length + 1) 0 [] st) Q := by
  refine ok_loopC (fun i acc s => s = st ∧ acc = (xs.take i).filterMap g) xs.length (fun i acc s hi' ⟨h1, h2⟩ => ?_) (fun acc s ⟨h1, h2⟩ => ?_) xs.length 0 [] st _ (by omega) (by omega) ⟨rfl, rfl⟩
  · subst h1 h2
    refine ⟨xs[i], by simp [nextI, hi'], ?_⟩
    rw [hi _ (List.getElem_mem hi'), okE_ok]
    have e : xs.take (i + 1) = xs.take i ++ [xs[i]] := by rw [List.take_succ_eq_append_getElem hi']
    have len : ((xs.take i).filterMap g).length ≤ i := Nat.le_trans (List.length_filterMap_le _ _) (by rw [List.length_take]; omega)
    cases hg : g xs[i] with
    | none => exact ⟨rfl, by rw [e, List.filterMap_append]; simp [hg]⟩
    | some x => exact ⟨by omega, rfl, by rw [e, List.filterMap_append]; simp [hg]⟩
  · subst h1 h2
    exact ⟨by simp [nextI], by rw [List.take_length]; exact h⟩
end
/-! stores -/
theorem get_app {st : Sto} {o : O} {i : Nat} {x : O} (h : st[i]? = some x) : (st ++ [o])[i]? = some x := by
  rw [List.getElem?_append_left (List.getElem?_eq_some_iff.mp h).1]
  exact h
theorem get_new (st : Sto) (o : O) : (st ++ [o])[st.length]? = some o := by simp
end Mi

set_option linter.all false
set_option maxRecDepth 100000
/-! M19: values, by rules for simp. -/
namespace Mi
open PySem
section
variable {α : Type} {st : Sto} {Q : D → Sto → Prop} {P : Prog} {r : String → List D → Sto → R D} {m : String → String → List D → Sto → R D}
theorem ctx_run : (P.ctx r m).run = r := (rfl)
theorem ctx_fld : (P.ctx r m).fld = P.fldf := (rfl)
theorem planD_some (pl : List Src) (k : List Src → Prop) : planD (some pl) k = k pl := (rfl)
theorem varD_some (d : D) (st : Sto) : varD (some (some d)) st = .ok d st := (rfl)
theorem globD_some (d : D) (st : Sto) : globD (some d) st = .ok d st := (rfl)
theorem negD_int (i : Int) : negD (.int i) st = .ok (.int (-i)) st := (rfl)
theorem notD_bl (i : Bool) : notD (.bl i) st = .ok (.bl (!i)) st := (rfl)
theorem someD_int (i : Int) : someD (.int i) st = .ok (some i) st := (rfl)
theorem b_addI (i j : Int) : binD .Add (.int i) (.int j) st = .ok (.int (i + j)) st := (rfl)
theorem b_subI (i j : Int) : binD .Sub (.int i) (.int j) st = .ok (.int (i - j)) st := (rfl)
theorem b_mulI (i j : Int) : okE (binD .Mult (.int i) (.int j) st) Q = (mulOk i j = true ∧ Q (.int (i * j)) st) := by simp only [binD, okE_if, okE_ok]
theorem b_divI (i j : Int) : okE (binD .FloorDiv (.int i) (.int j) st) Q = ((0 < j ∧ j.natAbs.log2 < 9000) ∧ Q (.int (i / j)) st) := by simp only [binD, okE_if, okE_ok]
theorem b_modI (i j : Int) : okE (binD .Mod (.int i) (.int j) st) Q = (0 < j ∧ Q (.int (i % j)) st) := by simp only [binD, okE_if, okE_ok]
theorem b_powI (i j : Int) : okE (binD .Pow (.int i) (.int j) st) Q = (powOk i j = true ∧ Q (.int (i ^ j.toNat)) st) := by simp only [binD, okE_if, okE_ok]
theorem b_addS (x y : List Nat) : okE (binD .Add (.str x) (.str y) st) Q = ((x ++ y).length ≤ sl ∧ Q (.str (x ++ y)) st) := by simp only [binD, Mi.okS, okE_if, okE_ok]
theorem b_addT (x y : List D) : okE (binD .Add (.tup x) (.tup y) st) Q = (x.length + y.length ≤ sl ∧ Q (.tup (x ++ y)) st) := by simp only [binD, okE_if, okE_ok]
theorem a_addI (i j : Int) : augD .Add (.int i) (.int j) st = .ok (.int (i + j)) st := (rfl)
/-! comparisons -/
theorem c_eqI (i j : Int) : cmpD .Eq (.int i) (.int j) st = .ok (.bl (decide (i = j))) st := (rfl)
theorem c_neI (i j : Int) : cmpD .NotEq (.int i) (.int j) st = .ok (.bl (!decide (i = j))) st := (rfl)
theorem beqS (x y : List Nat) : ((⟨x.toArray⟩ : Str) == ⟨y.toArray⟩) = decide (x = y) := by
  by_cases h : x = y
  · subst h; simp
  · rw [decide_eq_false h, beq_eq_false_iff_ne]
    intro e
    apply h
    have := congrArg (fun s : Str => s.cps.toList) e
    simpa using this
theorem c_eqS (x y : List Nat) : cmpD .Eq (.str x) (.str y) st = .ok (.bl (decide (x = y))) st := by
  show okOB (some (PyData.eqv (.str ⟨x.toArray⟩) (.str ⟨y.toArray⟩))) st = _
  rw [← beqS]
  rfl
theorem c_neS (x y : List Nat) : cmpD .NotEq (.str x) (.str y) st = .ok (.bl (!decide (x = y))) st := by
  show okOB (some (!PyData.eqv (.str ⟨x.toArray⟩) (.str ⟨y.toArray⟩))) st = _
  rw [← beqS]
  rfl
theorem c_ltI (i j : Int) : cmpD .Lt (.int i) (.int j) st = .ok (.bl (decide (i < j))) st := (rfl)
theorem c_leI (i j : Int) : cmpD .LtE (.int i) (.int j) st = .ok (.bl (decide (i ≤ j))) st := (rfl)
theorem c_gtI (i j : Int) : cmpD .Gt (.int i) (.int j) st = .ok (.bl (decide (j < i))) st := (rfl)
theorem c_geI (i j : Int) : cmpD .GtE (.int i) (.int j) st = .ok (.bl (decide (j ≤ i))) st := (rfl)
theorem c_is (x : D) : cmpD .Is x .non st = .ok (.bl (isNon x)) st := (rfl)
theorem c_isN (x : D) : cmpD .IsNot x .non st = .ok (.bl (!isNon x)) st := (rfl)
theorem isNon_non : isNon .non = true := (rfl)
theorem isNon_int (i : Int) : isNon (.int i) = false := (rfl)
theorem isNon_str (i : List Nat) : isNon (.str i) = false := (rfl)
theorem isNon_tup (i : List D) : isNon (.tup i) = false := (rfl)
theorem mapO_strs (n : Nat) (xs : List (List Nat)) : mapO (toPy st (n + 1)) (xs.map .str) = some (xs.map fun x => .str ⟨x.toArray⟩) := by
  induction xs with
  | nil => rfl
  | cons x xs ih => rw [List.map_cons, List.map_cons]; unfold mapO; rw [ih]; rfl
theorem any_str (x : List Nat) (ys : List (List Nat)) : ((ys.map fun y => (PyData.str ⟨y.toArray⟩)).any fun z => PyData.eqv z (.str ⟨x.toArray⟩)) = decide (x ∈ ys) := by
  induction ys with
  | nil => simp
  | cons y ys ih =>
    rw [List.map_cons, List.any_cons, ih]
    have e : PyData.eqv (.str ⟨y.toArray⟩) (.str ⟨x.toArray⟩) = decide (y = x) := beqS y x
    rw [e]
    by_cases h : y = x
    · subst h; simp
    · have h' : ¬ x = y := fun z => h z.symm
      simp [h, h']
theorem c_inTS (x : List Nat) (ys : List (List Nat)) : cmpD .In (.str x) (.tup (ys.map .str)) st = .ok (.bl (decide (x ∈ ys))) st := by
  show okOB (inSeq st (.str x) (ys.map .str)) st = _
  unfold inSeq
  rw [mapO_strs]
  show okOB (some _) st = _
  rw [any_str]
  rfl
theorem c_ninTS (x : List Nat) (ys : List (List Nat)) : cmpD .NotIn (.str x) (.tup (ys.map .str)) st = .ok (.bl (!decide (x ∈ ys))) st := by
  show okOB ((inSeq st (.str x) (ys.map .str)).map (!·)) st = _
  unfold inSeq
  rw [mapO_strs]
  show okOB (some _) st = _
  rw [any_str]
  rfl
theorem c_inS (x : Nat) (ys : List Nat) : cmpD .In (.str [x]) (.str ys) st = .ok (.bl (decide (x ∈ ys))) st := (rfl)
/-! built-ins -/
theorem i_len (x : List Nat) : biD "len" [.str x] st = .ok (.int x.length) st := (rfl)
theorem i_lenT (x : List D) : biD "len" [.tup x] st = .ok (.int x.length) st := (rfl)
theorem i_lenC (x : List D) : biD "len" [.cl x] st = .ok (.int x.length) st := (rfl)
theorem i_max (i j : Int) : biD "max" [.int i, .int j] st = .ok (.int (if j > i then j else i)) st := (rfl)
theorem i_min (i j : Int) : biD "min" [.int i, .int j] st = .ok (.int (if j < i then j else i)) st := (rfl)
theorem i_intB (b : Bool) : biD "int" [.bl b] st = .ok (.int (if b = true then 1 else 0)) st := (rfl)
theorem i_isi (x : D) (t a : String) (h : tyOf st x = some a) (ha : a ∈ tyNames) (ht : t ∈ tyNames) : biD "isinstance" [x, .ty t] st = .ok (.bl (decide (a = t) || (decide (a = "bool") && decide (t = "int")))) st := by
  show isiB [x, .ty t] st = _
  unfold isiB
  simp only [h, ha, ht, and_self, if_true]
  rfl
theorem i_isi_is : biD "isinstance" [.int i, .ty "int"] st = .ok (.bl true) st := i_isi _ _ "int" rfl (by decide) (by decide)
theorem i_isi_ib : biD "isinstance" [.int i, .ty "bool"] st = .ok (.bl false) st := i_isi _ _ "int" rfl (by decide) (by decide)
theorem i_isi_ss : biD "isinstance" [.str i, .ty "str"] st = .ok (.bl true) st := i_isi _ _ "str" rfl (by decide) (by decide)
theorem i_isi_tt : biD "isinstance" [.tup i, .ty "tuple"] st = .ok (.bl true) st := i_isi _ _ "tuple" rfl (by decide) (by decide)
theorem i_isi_bb : biD "isinstance" [.bl i, .ty "bool"] st = .ok (.bl true) st := i_isi _ _ "bool" rfl (by decide) (by decide)
theorem bls_map (bs : List Bool) : blsOf (bs.map .bl) = some bs := by
  induction bs with
  | nil => rfl
  | cons b bs ih => rw [List.map_cons]; unfold blsOf; rw [ih]; rfl
theorem i_all {n : Nat} {bs : List Bool} (h : st[n]? = some (.lst (bs.map .bl))) : biD "all" [.ref n] st = .ok (.bl (bs.all id)) st := by
  show allB [.ref n] st = _
  unfold allB lstOf
  simp only [h, bls_map]
  rfl
theorem i_any {n : Nat} {bs : List Bool} (h : st[n]? = some (.lst (bs.map .bl))) : biD "any" [.ref n] st = .ok (.bl (bs.any id)) st := by
  show anyB [.ref n] st = _
  unfold anyB lstOf
  simp only [h, bls_map]
  rfl
/-! places -/
theorem atD_nat {α : Type} (xs : List α) (i : Nat) : atD xs (i : Int) = xs[i]? := by
  unfold atD ixOf
  rw [if_pos (by omega)]
  by_cases h : i < xs.length
  · rw [if_pos (by omega)]; simp
  · rw [if_neg (by omega)]
    simp only [Option.bind_none]
    rw [List.getElem?_eq_none_iff.mpr (by omega)]
theorem ix_tup0 (xs : List D) (i : Nat) {d : D} (h : xs[i]? = some d) : ixD (.tup xs) (.int (i : Nat)) st = .ok d st := by
  unfold ixD seqOf
  simp only [atD_nat, h]
theorem ix_ref {n : Nat} {xs : List D} {i : Nat} {d : D} (h : st[n]? = some (.lst xs)) (hd : xs[i]? = some d) : ixD (.ref n) (.int (i : Nat)) st = .ok d st := by
  unfold ixD seqOf lstOf
  simp only [h, atD_nat, hd]
theorem get_ref {n : Nat} {xs : List D} {i : Nat} {d : D} (h : st[n]? = some (.lst xs)) (hd : xs[i]? = some d) : getD (.ref n) (.int (i : Nat)) st = .ok d st := by
  unfold getD
  simp only [h, atD_nat, hd]
theorem set_ref {n : Nat} {xs : List D} {i : Nat} {d : D} (h : st[n]? = some (.lst xs)) (hi : i < xs.length) : setD (.ref n) (.int (i : Nat)) d st = .ok () (st.set n (.lst (xs.set i d))) := by
  unfold setD
  have e : ixOf xs.length (i : Int) = some i := by unfold ixOf; rw [if_pos (by omega), if_pos (by omega)]; rfl
  simp only [h, e]
theorem newL_ok' {xs : List D} (h : xs.length ≤ sl) : newL xs st = .ok (.ref st.length) (st ++ [.lst xs]) := by
  unfold newL; rw [if_pos h]; rfl
theorem sl_big {n : Nat} (h : n ≤ 16777216) : n ≤ sl := by
  have : sl = 16777216 := sizeLine_eq
  omega
theorem alloc_ok (o : O) : alloc o st = .ok (.ref st.length) (st ++ [o]) := (rfl)
end
/-- a later store, the cell u aside -/
structure Fr (u : Nat) (st st' : Sto) : Prop where
  le : st.length ≤ st'.length
  at_ : ∀ (i : Nat) (o : O), i ≠ u → st[i]? = some o → st'[i]? = some o
theorem Fr.refl (u : Nat) (st : Sto) : Fr u st st := ⟨Nat.le_refl _, fun _ _ _ h => h⟩
theorem Fr.trans {u : Nat} {a b c : Sto} (h : Fr u a b) (k : Fr u b c) : Fr u a c := ⟨Nat.le_trans h.le k.le, fun i o n e => k.at_ i o n (h.at_ i o n e)⟩
theorem Fr.app (u : Nat) (st : Sto) (o : O) : Fr u st (st ++ [o]) := ⟨by simp, fun i x _ h => get_app h⟩
theorem Fr.set (u : Nat) (st : Sto) (o : O) : Fr u st (st.set u o) := ⟨by simp, fun i x n h => by rw [List.getElem?_set_ne (fun e => n e.symm)]; exact h⟩
/-- an urn of the draws -/
def Urn (st : Sto) (u n : Nat) : Prop := ∃ a b c : Int, st[u]? = some (.lst [.int a, .int b, .int c]) ∧ 0 ≤ b ∧ b < 10 ^ 60 ∧ 0 ≤ c ∧ c ≤ n
theorem Urn.lt {st : Sto} {u n : Nat} (h : Urn st u n) : u < st.length := by
  obtain ⟨a, b, c, h, _⟩ := h
  exact (List.getElem?_eq_some_iff.mp h).1
theorem Urn.mono {st : Sto} {u n m : Nat} (h : Urn st u n) (k : n ≤ m) : Urn st u m := by
  obtain ⟨a, b, c, h1, h2, h3, h4, h5⟩ := h
  exact ⟨a, b, c, h1, h2, h3, h4, by omega⟩
theorem Urn.app {st : Sto} {u n : Nat} (h : Urn st u n) (o : O) : Urn (st ++ [o]) u n := by
  obtain ⟨a, b, c, h1, h2⟩ := h
  exact ⟨a, b, c, get_app h1, h2⟩
/-- without a store to cells that stand -/
structure Ext (st st' : Sto) : Prop where
  le : st.length ≤ st'.length
  at_ : ∀ (i : Nat) (o : O), st[i]? = some o → st'[i]? = some o
theorem Ext.refl (st : Sto) : Ext st st := ⟨Nat.le_refl _, fun _ _ h => h⟩
theorem Ext.trans {a b c : Sto} (h : Ext a b) (k : Ext b c) : Ext a c := ⟨Nat.le_trans h.le k.le, fun i o e => k.at_ i o (h.at_ i o e)⟩
theorem Ext.app (st : Sto) (o : O) : Ext st (st ++ [o]) := ⟨by simp, fun i x h => get_app h⟩
theorem Ext.fr {a b : Sto} (h : Ext a b) (u : Nat) : Fr u a b := ⟨h.le, fun i o _ e => h.at_ i o e⟩
theorem Urn.ext {st st' : Sto} {u n : Nat} (h : Urn st u n) (e : Ext st st') : Urn st' u n := by
  obtain ⟨a, b, c, h1, h2⟩ := h
  exact ⟨a, b, c, e.at_ _ _ h1, h2⟩
section
variable {c : Ctx} {env : Env} {st : Sto} {Q : D → Sto → Prop}
def boolD (x : D) (st : Sto) : R Bool := match x with | .bl b => .ok b st | _ => .no
theorem boolD_bl (b : Bool) : boolD (.bl b) st = .ok b st := (rfl)
theorem ok_if_none (Q : Bool → Sto → Prop) : okE (evI c none env st) Q = Q true st := by simp only [evI]; rfl
theorem ok_if_some (e : E) (Q : Bool → Sto → Prop) : okE (evI c (some e) env st) Q = okE (evE c e env st) fun x st => okE (boolD x st) Q := by simp only [evI, okE_bind]; rfl
theorem okE_itb {α : Type} (b : Bool) (r r' : R α) (Q : α → Sto → Prop) : okE (if b = true then r else r') Q = ifB b (okE r Q) (okE r' Q) := by cases b <;> rfl
theorem ivD_str (x : List Nat) : ivD (.str x) st = .ok (.fix (x.map fun c => .str [c])) st := (rfl)
theorem ivD_tup (x : List D) : ivD (.tup x) st = .ok (.fix x) st := (rfl)
theorem ivD_cl (x : List D) : ivD (.cl x) st = .ok (.fix x) st := (rfl)
theorem ivD_ref {n : Nat} {xs : List D} (h : st[n]? = some (.lst xs)) : ivD (.ref n) st = .ok (.cell n) st := by
  unfold ivD ivOf; simp only [h]
theorem enumD_ref {n : Nat} {xs : List D} (h : st[n]? = some (.lst xs)) : enumD (.ref n) st = .ok (.enum (.cell n)) st := by
  unfold enumD ivL; simp only [h]
theorem lenI_fix (xs : List D) : lenI st (.fix xs) = xs.length := (rfl)
theorem rng1_int (j : Int) {Q : Iv → Sto → Prop} : okE (rng1 [.int j] st) Q = ((-(2 ^ 62) ≤ j ∧ j < 2 ^ 62) ∧ Q (.fix (rangeL 0 j.toNat)) st) := by simp only [rng1, okE_if, okE_ok]
/-- a comprehension that changes no cell that stands -/
theorem ok_compE {item : D → Sto → R (Option D)} {xs : List D} {g : D → Option D} {Q : List D → Sto → Prop} (hl : xs.length ≤ sl) (hi : ∀ d ∈ xs, ∀ s, Ext st s → okE (item d s) fun o s' => Ext s s' ∧ o = g d) (h : ∀ s, Ext st s → Q (xs.filterMap g) s) :
    okE (loopC item (.fix xs) (xs.length + 1) 0 [] st) Q := by
  refine ok_loopC (fun i acc s => Ext st s ∧ acc = (xs.take i).filterMap g) xs.length (fun i acc s hi' ⟨h1, h2⟩ => ?_) (fun acc s ⟨h1, h2⟩ => ?_) xs.length 0 [] st _ (by omega) (by omega) ⟨.refl st, rfl⟩
  · subst h2
    refine ⟨xs[i], by simp [nextI, hi'], okE_mono (hi _ (List.getElem_mem hi') s h1) ?_⟩
    rintro o s' ⟨q1, q2⟩
    have e : xs.take (i + 1) = xs.take i ++ [xs[i]] := by rw [List.take_succ_eq_append_getElem hi']
    have len : ((xs.take i).filterMap g).length ≤ i := Nat.le_trans (List.length_filterMap_le _ _) (by rw [List.length_take]; omega)
    subst q2
    cases hg : g xs[i] with
    | none => exact ⟨h1.trans q1, by rw [e, List.filterMap_append]; simp [hg]⟩
    | some x => exact ⟨by omega, h1.trans q1, by rw [e, List.filterMap_append]; simp [hg]⟩
  · subst h2
    exact ⟨by simp [nextI], by rw [List.take_length]; exact h _ h1⟩
theorem fm_map {α β γ : Type} (f : α → β) (g : β → Option γ) (h : α → γ) (hg : ∀ a, g (f a) = some (h a)) (l : List α) : (l.map f).filterMap g = l.map h := by
  induction l with
  | nil => rfl
  | cons a l ih => rw [List.map_cons, List.filterMap_cons, hg, ih]; rfl
end
section
variable {st : Sto} {n : Nat} {a b d e f g h' i' j' : D} {l : List D}
theorem ix_r0 (h : st[n]? = some (.lst (a :: l))) : ixD (.ref n) (.int 0) st = .ok a st := ix_ref (i := 0) h rfl
theorem ix_r1 (h : st[n]? = some (.lst (a :: b :: l))) : ixD (.ref n) (.int 1) st = .ok b st := ix_ref (i := 1) h rfl
theorem ix_r2 (h : st[n]? = some (.lst (a :: b :: d :: l))) : ixD (.ref n) (.int 2) st = .ok d st := ix_ref (i := 2) h rfl
theorem get_r0 (h : st[n]? = some (.lst (a :: l))) : getD (.ref n) (.int 0) st = .ok a st := get_ref (i := 0) h rfl
theorem get_r1 (h : st[n]? = some (.lst (a :: b :: l))) : getD (.ref n) (.int 1) st = .ok b st := get_ref (i := 1) h rfl
theorem get_r2 (h : st[n]? = some (.lst (a :: b :: d :: l))) : getD (.ref n) (.int 2) st = .ok d st := get_ref (i := 2) h rfl
theorem set_r0 (h : st[n]? = some (.lst (a :: l))) (x : D) : setD (.ref n) (.int 0) x st = .ok () (st.set n (.lst (x :: l))) := set_ref (i := 0) h (by simp)
theorem set_r1 (h : st[n]? = some (.lst (a :: b :: l))) (x : D) : setD (.ref n) (.int 1) x st = .ok () (st.set n (.lst (a :: x :: l))) := set_ref (i := 1) h (by simp)
theorem set_r2 (h : st[n]? = some (.lst (a :: b :: d :: l))) (x : D) : setD (.ref n) (.int 2) x st = .ok () (st.set n (.lst (a :: b :: x :: l))) := set_ref (i := 2) h (by simp)
theorem ix_t0 : ixD (.tup (a :: l)) (.int 0) st = .ok a st := ix_tup0 _ 0 rfl
theorem ix_t1 : ixD (.tup (a :: b :: l)) (.int 1) st = .ok b st := ix_tup0 _ 1 rfl
theorem ix_t2 : ixD (.tup (a :: b :: d :: l)) (.int 2) st = .ok d st := ix_tup0 _ 2 rfl
theorem ix_t3 : ixD (.tup (a :: b :: d :: e :: l)) (.int 3) st = .ok e st := ix_tup0 _ 3 rfl
theorem ix_t4 : ixD (.tup (a :: b :: d :: e :: f :: l)) (.int 4) st = .ok f st := ix_tup0 _ 4 rfl
theorem ix_t5 : ixD (.tup (a :: b :: d :: e :: f :: g :: l)) (.int 5) st = .ok g st := ix_tup0 _ 5 rfl
theorem ix_t6 : ixD (.tup (a :: b :: d :: e :: f :: g :: h' :: l)) (.int 6) st = .ok h' st := ix_tup0 _ 6 rfl
theorem ix_t7 : ixD (.tup (a :: b :: d :: e :: f :: g :: h' :: i' :: l)) (.int 7) st = .ok i' st := ix_tup0 _ 7 rfl
theorem ix_t8 : ixD (.tup (a :: b :: d :: e :: f :: g :: h' :: i' :: j' :: l)) (.int 8) st = .ok j' st := ix_tup0 _ 8 rfl
theorem c_eqL0 {n m : Nat} {xs : List (List Nat)} (h1 : st[n]? = some (.lst (xs.map .str))) (h2 : st[m]? = some (.lst [])) : cmpD .Eq (.ref n) (.ref m) st = .ok (.bl xs.isEmpty) st := by
  have e1 : toPy st 60 (.ref n) = some (.list (xs.map fun x => .str ⟨x.toArray⟩)) := by
    show (match st[n]? with | some (.lst xs) => (mapO (toPy st 59) xs).map PyData.list | _ => none) = _
    rw [h1]
    show (mapO (toPy st 59) (xs.map .str)).map PyData.list = _
    rw [mapO_strs]; rfl
  have e2 : toPy st 60 (.ref m) = some (.list []) := by
    show (match st[m]? with | some (.lst xs) => (mapO (toPy st 59) xs).map PyData.list | _ => none) = _
    rw [h2]; rfl
  show okOB (eqD st (.ref n) (.ref m)) st = _
  unfold eqD
  rw [e1, e2]
  cases xs <;> rfl
theorem mapO_bls (n : Nat) (xs : List Bool) : mapO (toPy st (n + 1)) (xs.map .bl) = some (xs.map .bool) := by
  induction xs with
  | nil => rfl
  | cons x xs ih => rw [List.map_cons, List.map_cons]; unfold mapO; rw [ih]; rfl
theorem eqv_bls : ∀ xs ys : List Bool, PyData.eqvAll (xs.map .bool) (ys.map .bool) = decide (xs = ys)
  | [], [] => rfl
  | [], _ :: _ => rfl
  | _ :: _, [] => rfl
  | x :: xs, y :: ys => by
    show (PyData.eqv (.bool x) (.bool y) && PyData.eqvAll (xs.map .bool) (ys.map .bool)) = _
    rw [eqv_bls xs ys]
    show ((x == y) && decide (xs = ys)) = _
    cases x <;> cases y <;> simp
theorem c_eqLB {n m : Nat} {xs ys : List Bool} (h1 : st[n]? = some (.lst (xs.map .bl))) (h2 : st[m]? = some (.lst (ys.map .bl))) : cmpD .Eq (.ref n) (.ref m) st = .ok (.bl (decide (xs = ys))) st := by
  have e1 : ∀ {n : Nat} {xs : List Bool}, st[n]? = some (.lst (xs.map .bl)) → toPy st 60 (.ref n) = some (.list (xs.map .bool)) := by
    intro n xs h1
    show (match st[n]? with | some (.lst xs) => (mapO (toPy st 59) xs).map PyData.list | _ => none) = _
    rw [h1]
    show (mapO (toPy st 59) (xs.map .bl)).map PyData.list = _
    rw [mapO_bls]; rfl
  show okOB (eqD st (.ref n) (.ref m)) st = _
  unfold eqD
  rw [e1 h1, e1 h2]
  show okOB (some (PyData.eqvAll (xs.map .bool) (ys.map .bool))) st = _
  rw [eqv_bls]; rfl
theorem b_addL {n m : Nat} {xs ys : List D} (h1 : st[n]? = some (.lst xs)) (h2 : st[m]? = some (.lst ys)) (hl : (xs ++ ys).length ≤ sl) : binD .Add (.ref n) (.ref m) st = .ok (.ref st.length) (st ++ [.lst (xs ++ ys)]) := by
  have e1 : lstOf st (.ref n) = some xs := by unfold lstOf; simp only [h1]
  have e2 : lstOf st (.ref m) = some ys := by unfold lstOf; simp only [h2]
  show (match lstOf st (.ref n), lstOf st (.ref m) with | some xs, some ys => newL (xs ++ ys) st | _, _ => .no) = _
  rw [e1, e2]
  exact newL_ok' hl
theorem log_lt {x : Int} {k : Nat} (hk : 0 < k) (h : x.natAbs < 2 ^ k) : x.natAbs.log2 < k := by
  by_cases h0 : x.natAbs = 0
  · rw [h0]; simpa using hk
  · exact (Nat.log2_lt h0).mpr h
theorem mul_of {i j : Int} (hi : i.natAbs < 2 ^ 250) (hj : j.natAbs < 2 ^ 250) : mulOk i j = true := by
  have a := log_lt (k := 250) (by decide) hi
  have b := log_lt (k := 250) (by decide) hj
  unfold mulOk
  exact decide_eq_true (by omega)
theorem pow_of {i : Int} {n : Nat} (hi : i.natAbs < 2 ^ 250) (hn : n ≤ 60) : powOk i (n : Int) = true := by
  have a := log_lt (k := 250) (by decide) hi
  unfold powOk
  rw [decide_eq_true (by omega : (0 : Int) ≤ n), Bool.true_and]
  refine decide_eq_true ?_
  have h1 : ((i.natAbs.log2 : Int) + 1) * n ≤ 250 * 60 := Int.mul_le_mul (by omega) (by omega) (by omega) (by omega)
  omega
end
end Mi

set_option Elab.async false
set_option linter.all false
set_option maxRecDepth 100000
set_option maxHeartbeats 0
namespace K03
open PySem PySem.Spec PyProof.Rows L2 Mi
def top (i : Nat) : Stmt := PySem.Challenge.pw_leavechain_k03_which_lie_within.main.body.getD i (.Pass ⟨0, 0, 0, 0⟩)
def b_is_name : List Mi.S := [.ret (.and (.bi "isinstance" [.var 0, .ty "str"]) (.and (.cmp2 .LtE .LtE (.int 1) (.bi "len" [.var 0]) (.glob "MOST_LETTERS")) (.bi "all" [.comp (.cmp .In (.var 1) (.glob "SMALL")) (.name 1) (.e (.var 0)) none [1]])))]
def f_is_name : Fn := ⟨2, b_is_name⟩
def n_is_name : List Str := [Str.ofString "thing", Str.ofString "sign"]
def b_is_whole : List Mi.S := [.ret (.and (.bi "isinstance" [.var 0, .ty "int"]) (.not (.bi "isinstance" [.var 0, .ty "bool"])))]
def f_is_whole : Fn := ⟨1, b_is_whole⟩
def n_is_whole : List Str := [Str.ofString "thing"]
def b_is_between : List Mi.S := [.ret (.and (.call "is_whole" [.var 0] [] []) (.cmp2 .LtE .LtE (.var 1) (.var 0) (.var 2)))]
def f_is_between : Fn := ⟨3, b_is_between⟩
def n_is_between : List Str := [Str.ofString "thing", Str.ofString "low", Str.ofString "high"]
def b_is_number : List Mi.S := [.ret (.call "is_between" [.var 0, .int 0, .glob "GREATEST"] [] [])]
def f_is_number : Fn := ⟨1, b_is_number⟩
def n_is_number : List Str := [Str.ofString "thing"]
def b_are_moments : List Mi.S := [.ret (.and (.call "is_between" [.var 0, .int 0, .glob "LAST_MOMENT"] [] []) (.and (.call "is_between" [.var 1, .int 0, .glob "LAST_MOMENT"] [] []) (.cmp .Lt (.var 0) (.var 1))))]
def f_are_moments : Fn := ⟨2, b_are_moments⟩
def n_are_moments : List Str := [Str.ofString "since", Str.ofString "until"]
def b_is_under : List Mi.S := [.ret (.or (.cmp .Is (.var 0) (.non)) (.call "is_between" [.var 0, .int 0, .bin .Sub (.var 1) (.int 1)] [] []))]
def f_is_under : Fn := ⟨2, b_is_under⟩
def n_is_under : List Str := [Str.ofString "under", Str.ofString "number"]
def b_is_leave : List Mi.S := [.iff (.or (.not (.bi "isinstance" [.var 0, .ty "tuple"])) (.cmp .NotEq (.bi "len" [.var 0]) (.int 9))) [.ret (.bl false)] [], .asg (.tup [.name 1, .name 2, .name 3, .name 4, .name 5, .name 6, .name 7, .name 8, .name 9]) (.var 0), .iff (.or (.not (.call "is_number" [.var 1] [] [])) (.or (.not (.bi "all" [.comp (.call "is_name" [.var 10] [] []) (.name 10) (.e (.tup [.var 2, .var 4, .var 5])) none [10]])) (.cmp .Eq (.var 4) (.var 5)))) [.ret (.bl false)] [], .iff (.or (.not (.bi "isinstance" [.var 3, .ty "tuple"])) (.cmp .NotIn (.var 3) (.glob "KINDS_OF_DEEDS"))) [.ret (.bl false)] [], .ret (.and (.call "are_moments" [.var 6, .var 7] [] []) (.and (.call "is_between" [.var 8, .int 0, .glob "MOST_PASSES"] [] []) (.call "is_under" [.var 9, .var 1] [] [])))]
def f_is_leave : Fn := ⟨11, b_is_leave⟩
def n_is_leave : List Str := [Str.ofString "thing", Str.ofString "number", Str.ofString "room", Str.ofString "deeds", Str.ofString "giver", Str.ofString "holder", Str.ofString "since", Str.ofString "until", Str.ofString "passes", Str.ofString "under", Str.ofString "name"]
def b_lies_within : List Mi.S := [.asg (.tup [.name 2, .name 3, .name 4, .name 5, .name 6, .name 7, .name 8, .name 9, .name 10]) (.var 0), .asg (.tup [.name 11, .name 12, .name 13, .name 14, .name 15, .name 16, .name 17, .name 18, .name 19]) (.var 1), .iff (.or (.cmp .NotEq (.var 12) (.var 3)) (.or (.cmp .NotEq (.var 15) (.var 5)) (.not (.bi "all" [.comp (.cmp .In (.var 20) (.var 13)) (.name 20) (.e (.var 4)) none [20]])))) [.ret (.bl false)] [], .ret (.and (.cmp .LtE (.var 16) (.var 7)) (.and (.cmp .LtE (.var 8) (.var 17)) (.cmp .Lt (.var 9) (.var 18))))]
def f_lies_within : Fn := ⟨21, b_lies_within⟩
def n_lies_within : List Str := [Str.ofString "leave", Str.ofString "other", Str.ofString "number", Str.ofString "room", Str.ofString "deeds", Str.ofString "giver", Str.ofString "holder", Str.ofString "since", Str.ofString "until", Str.ofString "passes", Str.ofString "under", Str.ofString "above", Str.ofString "place", Str.ofString "may", Str.ofString "owner", Str.ofString "keeper", Str.ofString "begun", Str.ofString "ended", Str.ofString "more", Str.ofString "higher", Str.ofString "deed"]
def b__law_urn : List Mi.S := [.ret (.lst [.bi "max" [.int 0, .bin .Sub (.var 0) (.bin .Pow (.int 10) (.int 18))], .bin .Add (.bin .Mod (.var 0) (.bin .Add (.bin .Pow (.int 10) (.int 41)) (.int 63))) (.bin .Mult (.int 6007) (.var 1)), .int 0])]
def f__law_urn : Fn := ⟨2, b__law_urn⟩
def n__law_urn : List Str := [Str.ofString "cell", Str.ofString "k"]
def b__law_lot : List Mi.S := [.iff (.cmp .Gt (.ix (.var 0) (.int 0)) (.int 0)) [.asg (.name 3) (.bin .Mod (.ix (.var 0) (.int 0)) (.var 1)), .asg (.sub (.var 0) (.int 0)) (.bin .FloorDiv (.ix (.var 0) (.int 0)) (.var 1)), .ret (.var 3)] [], .augS (.var 0) (.int 2) .Add (.int 1), .asg (.name 2) (.bin .Mod (.bin .Pow (.bin .Add (.ix (.var 0) (.int 1)) (.bin .Mult (.int 433494437) (.ix (.var 0) (.int 2)))) (.int 5)) (.bin .Add (.bin .Pow (.int 10) (.int 38)) (.int 133))), .asg (.name 2) (.bin .Mod (.bin .Pow (.bin .Add (.var 2) (.bin .Mult (.bin .Mult (.int 15485863) (.ix (.var 0) (.int 2))) (.ix (.var 0) (.int 2)))) (.int 3)) (.bin .Add (.bin .Pow (.int 10) (.int 35)) (.int 69))), .ret (.bin .Mod (.bin .FloorDiv (.var 2) (.int 4096)) (.var 1))]
def f__law_lot : Fn := ⟨4, b__law_lot⟩
def n__law_lot : List Str := [Str.ofString "urn", Str.ofString "many", Str.ofString "spun", Str.ofString "found"]
def b__law_named : List Mi.S := [.asg (.name 1) (.str [97, 98, 99, 100, 101, 102, 103, 104, 105, 106, 107, 108, 109, 110, 111, 112, 113, 114, 115, 116, 117, 118, 119, 120, 121, 122]), .asg (.name 2) (.lst [.str [97], .str [98], .str [97, 110, 110], .str [104, 97, 108, 108], .str [114, 111, 111, 109], .str [111, 102], .str [104, 111, 108, 100, 115], .str [110, 111, 110, 101], .str [108, 111, 111, 107], .str [115, 101, 116], .str [111, 110], .str [117, 110, 100, 101, 114], .str [122, 122, 122, 122, 122, 122, 122, 122]]), .iff (.cmp .Gt (.call "_law_lot" [.var 0, .int 3] [] []) (.int 0)) [.ret (.ix (.var 2) (.call "_law_lot" [.var 0, .int 13] [] []))] [], .ret (.meth (.str []) "join" [.comp (.ix (.var 1) (.call "_law_lot" [.var 0, .int 26] [] [])) (.name 3) (.range1 [.bin .Add (.int 1) (.call "_law_lot" [.var 0, .int 8] [] [])]) none [3]] [] [])]
def f__law_named : Fn := ⟨4, b__law_named⟩
def n__law_named : List Str := [Str.ofString "urn", Str.ofString "letters", Str.ofString "some", Str.ofString "k"]
def b__law_leaf : List Mi.S := [.asg (.name 1) (.ix (.lst [.int 0, .int 1, .call "_law_lot" [.var 0, .int 60] [] [], .int 999999999, .call "_law_lot" [.var 0, .bin .Pow (.int 10) (.int 9)] [] []]) (.call "_law_lot" [.var 0, .int 5] [] [])), .asg (.name 2) (.ite (.cmp .Gt (.var 1) (.int 0)) (.ix (.lst [.non, .bin .Sub (.var 1) (.int 1), .call "_law_lot" [.var 0, .var 1] [] []]) (.call "_law_lot" [.var 0, .int 3] [] [])) (.non)), .asg (.name 3) (.call "_law_named" [.var 0] [] []), .asg (.name 4) (.call "_law_named" [.var 0] [] []), .iff (.cmp .Eq (.var 4) (.var 3)) [.asg (.name 4) (.ix (.lst [.str [98, 111, 98], .str [99, 97, 114, 108]]) (.bi "int" [.cmp .Eq (.var 3) (.str [98, 111, 98])]))] [], .asg (.name 5) (.ix (.lst [.int 0, .call "_law_lot" [.var 0, .int 6] [] [], .call "_law_lot" [.var 0, .int 2000] [] [], .int 999999, .call "_law_lot" [.var 0, .bin .Pow (.int 10) (.int 6)] [] []]) (.call "_law_lot" [.var 0, .int 5] [] [])), .asg (.name 6) (.ix (.lst [.bin .Add (.var 5) (.int 1), .bin .Pow (.int 10) (.int 6), .bin .Add (.bin .Add (.var 5) (.int 1)) (.call "_law_lot" [.var 0, .bin .Sub (.bin .Pow (.int 10) (.int 6)) (.var 5)] [] [])]) (.call "_law_lot" [.var 0, .int 3] [] [])), .asg (.name 7) (.ix (.lst [.tup [.str [108, 111, 111, 107]], .tup [.str [115, 101, 116]], .tup [.str [108, 111, 111, 107], .str [115, 101, 116]]]) (.call "_law_lot" [.var 0, .int 3] [] [])), .ret (.tup [.var 1, .call "_law_named" [.var 0] [] [], .var 7, .var 3, .var 4, .var 5, .var 6, .call "_law_lot" [.var 0, .int 7] [] [], .var 2])]
def f__law_leaf : Fn := ⟨8, b__law_leaf⟩
def n__law_leaf : List Str := [Str.ofString "urn", Str.ofString "number", Str.ofString "above", Str.ofString "giver", Str.ofString "holder", Str.ofString "since", Str.ofString "until", Str.ofString "deeds"]
def b__law_about : List Mi.S := [.asg (.tup [.name 9, .name 10, .name 11, .name 12, .name 13]) (.sl (.var 1) none (some (.int 5))), .asg (.tup [.name 14, .name 15, .name 16, .name 17]) (.sl (.var 1) (some (.int 5)) none), .asg (.name 2) (.bi "max" [.int 0, .bin .Sub (.var 14) (.ix (.lst [.int 0, .int 0, .int 1, .call "_law_lot" [.var 0, .int 900] [] []]) (.call "_law_lot" [.var 0, .int 4] [] []))]), .asg (.name 3) (.bi "min" [.bin .Pow (.int 10) (.int 6), .bin .Add (.var 15) (.ix (.lst [.int 0, .int 0, .int 1, .call "_law_lot" [.var 0, .int 900] [] []]) (.call "_law_lot" [.var 0, .int 4] [] []))]), .asg (.name 4) (.ix (.lst [.var 11, .tup [.str [108, 111, 111, 107], .str [115, 101, 116]]]) (.call "_law_lot" [.var 0, .int 2] [] [])), .asg (.name 5) (.bi "min" [.int 6, .bin .Add (.bin .Add (.var 16) (.int 1)) (.ix (.lst [.int 0, .int 0, .call "_law_lot" [.var 0, .int 3] [] []]) (.call "_law_lot" [.var 0, .int 3] [] []))]), .asg (.name 6) (.var 12), .fr (.name 7) (.range1 [.ix (.lst [.int 0, .int 1, .int 1, .int 2, .int 3]) (.call "_law_lot" [.var 0, .int 5] [] [])]) [.asg (.name 18) (.call "_law_lot" [.var 0, .int 6] [] []), .iff (.cmp .Eq (.var 18) (.int 0)) [.asg (.name 2) (.bin .Add (.var 14) (.int 1))] [], .iff (.cmp .Eq (.var 18) (.int 1)) [.asg (.name 3) (.bin .Sub (.var 15) (.int 1))] [], .iff (.cmp .Eq (.var 18) (.int 2)) [.asg (.name 4) (.ix (.lst [.tup [.str [108, 111, 111, 107]], .tup [.str [115, 101, 116]]]) (.call "_law_lot" [.var 0, .int 2] [] []))] [], .iff (.cmp .Eq (.var 18) (.int 3)) [.asg (.name 5) (.bi "max" [.int 0, .bin .Sub (.var 16) (.call "_law_lot" [.var 0, .int 2] [] [])])] [], .iff (.cmp .Eq (.var 18) (.int 4)) [.asg (.name 6) (.sl (.ix (.lst [.var 13, .call "_law_named" [.var 0] [] [], .bin .Add (.var 6) (.str [120])]) (.call "_law_lot" [.var 0, .int 3] [] [])) none (some (.int 8)))] [], .iff (.cmp .Eq (.var 18) (.int 5)) [.asg (.name 10) (.ix (.lst [.call "_law_named" [.var 0] [] [], .sl (.bin .Add (.var 10) (.str [121])) none (some (.int 8))]) (.call "_law_lot" [.var 0, .int 2] [] []))] []], .asg (.name 8) (.ix (.lst [.str [100, 111, 114, 97], .str [101, 109, 105, 108]]) (.bi "int" [.cmp .Eq (.var 6) (.str [100, 111, 114, 97])])), .asg (.name 3) (.bi "max" [.var 3, .bin .Add (.var 2) (.int 1)]), .ret (.tup [.call "_law_lot" [.var 0, .int 60] [] [], .var 10, .var 4, .var 8, .var 6, .bi "min" [.var 2, .bin .Sub (.bin .Pow (.int 10) (.int 6)) (.int 1)], .bi "min" [.var 3, .bin .Pow (.int 10) (.int 6)], .var 5, .non])]
def f__law_about : Fn := ⟨19, b__law_about⟩
def n__law_about : List Str := [Str.ofString "urn", Str.ofString "leaf", Str.ofString "begin", Str.ofString "end", Str.ofString "may", Str.ofString "more", Str.ofString "keeper", Str.ofString "turn", Str.ofString "own", Str.ofString "number", Str.ofString "room", Str.ofString "deeds", Str.ofString "giver", Str.ofString "holder", Str.ofString "since", Str.ofString "until", Str.ofString "passes", Str.ofString "above", Str.ofString "way"]
def b__law_due : List Mi.S := [.iff (.or (.cmp .NotEq (.ix (.var 0) (.int 1)) (.ix (.var 1) (.int 1))) (.or (.cmp .NotEq (.ix (.var 1) (.int 4)) (.ix (.var 0) (.int 3))) (.cmp .GtE (.ix (.var 0) (.int 7)) (.ix (.var 1) (.int 7))))) [.ret (.bl false)] [], .iff (.or (.cmp .Lt (.ix (.var 0) (.int 5)) (.ix (.var 1) (.int 5))) (.cmp .Gt (.ix (.var 0) (.int 6)) (.ix (.var 1) (.int 6)))) [.ret (.bl false)] [], .ret (.cmp .Eq (.comp (.var 2) (.name 2) (.e (.ix (.var 0) (.int 2))) (some (.cmp .NotIn (.var 2) (.ix (.var 1) (.int 2)))) [2]) (.lst []))]
def f__law_due : Fn := ⟨3, b__law_due⟩
def n__law_due : List Str := [Str.ofString "leaf", Str.ofString "wide", Str.ofString "deed"]
def b__law_right : List Mi.S := [.asg (.name 1) (.call "_law_leaf" [.var 0] [] []), .asg (.name 2) (.call "_law_about" [.var 0, .var 1] [] []), .iff (.cmp .Eq (.call "_law_lot" [.var 0, .int 12] [] []) (.int 0)) [.asg (.name 2) (.call "_law_leaf" [.var 0] [] [])] [], .iff (.or (.not (.call "is_leave" [.var 1] [] [])) (.not (.call "is_leave" [.var 2] [] []))) [.ret (.bl false)] [], .asg (.name 3) (.lst [.call "_law_due" [.var 1, .var 2] [] [], .call "_law_due" [.var 2, .var 1] [] [], .bl false]), .asg (.name 4) (.lst [.call "lies_within" [.var 1, .var 2] [] [], .call "lies_within" [.var 2, .var 1] [] [], .call "lies_within" [.var 1, .var 1] [] []]), .asg (.name 4) (.bin .Add (.var 4) (.lst [.call "lies_within" [] ["other", "leave"] [.var 2, .var 1], .call "lies_within" [] ["other", "leave"] [.var 1, .var 2]])), .ex (.meth (.var 4) "append" [.call "lies_within" [.var 2, .var 2] [] []] [] []), .ret (.and (.cmp .Eq (.var 4) (.bin .Add (.var 3) (.var 3))) (.bi "all" [.comp (.bi "isinstance" [.var 5, .ty "bool"]) (.name 5) (.e (.var 4)) none [5]]))]
def f__law_right : Fn := ⟨6, b__law_right⟩
def n__law_right : List Str := [Str.ofString "urn", Str.ofString "leaf", Str.ofString "wide", Str.ofString "dues", Str.ofString "told", Str.ofString "one"]
def b_law : List Mi.S := [.fr (.tup [.name 1, .name 2]) (.enum (.sl (.bin .Add (.var 0) (.lst [.int 0])) none (some (.bi "max" [.int 1, .bi "min" [.bi "len" [.var 0], .int 24]])))) [.iff (.not (.call "_law_right" [.call "_law_urn" [.var 2, .var 1] [] []] [] [])) [.ret (.bl false)] []], .ret (.bl true)]
def f_law : Fn := ⟨3, b_law⟩
def n_law : List Str := [Str.ofString "script", Str.ofString "k", Str.ofString "cell"]
def plans : List (String × Plans) := [("is_name", [((1, []), [.pos 0])]), ("is_whole", [((1, []), [.pos 0])]), ("is_between", [((3, []), [.pos 0, .pos 1, .pos 2])]), ("is_number", [((1, []), [.pos 0])]), ("are_moments", [((2, []), [.pos 0, .pos 1])]), ("is_under", [((2, []), [.pos 0, .pos 1])]), ("is_leave", [((1, []), [.pos 0])]), ("lies_within", [((2, []), [.pos 0, .pos 1]), ((0, ["other", "leave"]), [.kw 1, .kw 0])]), ("_law_urn", [((2, []), [.pos 0, .pos 1])]), ("_law_lot", [((2, []), [.pos 0, .pos 1])]), ("_law_named", [((1, []), [.pos 0])]), ("_law_leaf", [((1, []), [.pos 0])]), ("_law_about", [((2, []), [.pos 0, .pos 1])]), ("_law_due", [((2, []), [.pos 0, .pos 1])]), ("_law_right", [((1, []), [.pos 0])])]
def gs : List (String × D) := [("MOST_LETTERS", .int 8), ("GREATEST", .int 999999999), ("LAST_MOMENT", .int 1000000), ("MOST_PASSES", .int 6), ("SMALL", .str [97, 98, 99, 100, 101, 102, 103, 104, 105, 106, 107, 108, 109, 110, 111, 112, 113, 114, 115, 116, 117, 118, 119, 120, 121, 122]), ("KINDS_OF_DEEDS", .tup [.tup [.str [108, 111, 111, 107]], .tup [.str [115, 101, 116]], .tup [.str [108, 111, 111, 107], .str [115, 101, 116]]])]
def bis : List String := ["all", "bool", "enumerate", "int", "isinstance", "len", "max", "min", "range", "str", "tuple"]
def P : Prog := ⟨[("is_name", f_is_name), ("is_whole", f_is_whole), ("is_between", f_is_between), ("is_number", f_is_number), ("are_moments", f_are_moments), ("is_under", f_is_under), ("is_leave", f_is_leave), ("lies_within", f_lies_within), ("_law_urn", f__law_urn), ("_law_lot", f__law_lot), ("_law_named", f__law_named), ("_law_leaf", f__law_leaf), ("_law_about", f__law_about), ("_law_due", f__law_due), ("_law_right", f__law_right)], [], plans, [], gs, [], bis⟩
theorem ck_is_name : ckSs P n_is_name 30 ⟨defScope (top 7), cellsOf (defScope (top 7))⟩ (defBody (top 7)) f_is_name.body = true := by kernel_rfl
theorem ck_is_whole : ckSs P n_is_whole 30 ⟨defScope (top 8), cellsOf (defScope (top 8))⟩ (defBody (top 8)) f_is_whole.body = true := by kernel_rfl
theorem ck_is_between : ckSs P n_is_between 30 ⟨defScope (top 9), cellsOf (defScope (top 9))⟩ (defBody (top 9)) f_is_between.body = true := by kernel_rfl
theorem ck_is_number : ckSs P n_is_number 30 ⟨defScope (top 10), cellsOf (defScope (top 10))⟩ (defBody (top 10)) f_is_number.body = true := by kernel_rfl
theorem ck_are_moments : ckSs P n_are_moments 30 ⟨defScope (top 11), cellsOf (defScope (top 11))⟩ (defBody (top 11)) f_are_moments.body = true := by kernel_rfl
theorem ck_is_under : ckSs P n_is_under 30 ⟨defScope (top 12), cellsOf (defScope (top 12))⟩ (defBody (top 12)) f_is_under.body = true := by kernel_rfl
theorem ck_is_leave : ckSs P n_is_leave 30 ⟨defScope (top 13), cellsOf (defScope (top 13))⟩ (defBody (top 13)) f_is_leave.body = true := by kernel_rfl
theorem ck_lies_within : ckSs P n_lies_within 30 ⟨defScope (top 14), cellsOf (defScope (top 14))⟩ (defBody (top 14)) f_lies_within.body = true := by kernel_rfl
theorem ck__law_urn : ckSs P n__law_urn 30 ⟨defScope (top 16), cellsOf (defScope (top 16))⟩ (defBody (top 16)) f__law_urn.body = true := by kernel_rfl
theorem ck__law_lot : ckSs P n__law_lot 30 ⟨defScope (top 17), cellsOf (defScope (top 17))⟩ (defBody (top 17)) f__law_lot.body = true := by kernel_rfl
theorem ck__law_named : ckSs P n__law_named 30 ⟨defScope (top 18), cellsOf (defScope (top 18))⟩ (defBody (top 18)) f__law_named.body = true := by kernel_rfl
theorem ck__law_leaf : ckSs P n__law_leaf 30 ⟨defScope (top 19), cellsOf (defScope (top 19))⟩ (defBody (top 19)) f__law_leaf.body = true := by kernel_rfl
theorem ck__law_about : ckSs P n__law_about 30 ⟨defScope (top 20), cellsOf (defScope (top 20))⟩ (defBody (top 20)) f__law_about.body = true := by kernel_rfl
theorem ck__law_due : ckSs P n__law_due 30 ⟨defScope (top 21), cellsOf (defScope (top 21))⟩ (defBody (top 21)) f__law_due.body = true := by kernel_rfl
theorem ck__law_right : ckSs P n__law_right 30 ⟨defScope (top 22), cellsOf (defScope (top 22))⟩ (defBody (top 22)) f__law_right.body = true := by kernel_rfl
theorem ck_law : ckSs P n_law 30 ⟨defScope (top 23), cellsOf (defScope (top 23))⟩ (defBody (top 23)) f_law.body = true := by kernel_rfl
def fn : List He.DefD := [⟨(Str.ofString "is_name", none), Str.ofString "is_name", Str.ofString "is_name", defArgs (top 7), defBody (top 7), defScope (top 7), [], []⟩, ⟨(Str.ofString "is_whole", none), Str.ofString "is_whole", Str.ofString "is_whole", defArgs (top 8), defBody (top 8), defScope (top 8), [], []⟩, ⟨(Str.ofString "is_between", none), Str.ofString "is_between", Str.ofString "is_between", defArgs (top 9), defBody (top 9), defScope (top 9), [], []⟩, ⟨(Str.ofString "is_number", none), Str.ofString "is_number", Str.ofString "is_number", defArgs (top 10), defBody (top 10), defScope (top 10), [], []⟩, ⟨(Str.ofString "are_moments", none), Str.ofString "are_moments", Str.ofString "are_moments", defArgs (top 11), defBody (top 11), defScope (top 11), [], []⟩, ⟨(Str.ofString "is_under", none), Str.ofString "is_under", Str.ofString "is_under", defArgs (top 12), defBody (top 12), defScope (top 12), [], []⟩, ⟨(Str.ofString "is_leave", none), Str.ofString "is_leave", Str.ofString "is_leave", defArgs (top 13), defBody (top 13), defScope (top 13), [], []⟩, ⟨(Str.ofString "lies_within", none), Str.ofString "lies_within", Str.ofString "lies_within", defArgs (top 14), defBody (top 14), defScope (top 14), [], []⟩, ⟨(Str.ofString "_law_urn", none), Str.ofString "_law_urn", Str.ofString "_law_urn", defArgs (top 16), defBody (top 16), defScope (top 16), [], []⟩, ⟨(Str.ofString "_law_lot", none), Str.ofString "_law_lot", Str.ofString "_law_lot", defArgs (top 17), defBody (top 17), defScope (top 17), [], []⟩, ⟨(Str.ofString "_law_named", none), Str.ofString "_law_named", Str.ofString "_law_named", defArgs (top 18), defBody (top 18), defScope (top 18), [], []⟩, ⟨(Str.ofString "_law_leaf", none), Str.ofString "_law_leaf", Str.ofString "_law_leaf", defArgs (top 19), defBody (top 19), defScope (top 19), [], []⟩, ⟨(Str.ofString "_law_about", none), Str.ofString "_law_about", Str.ofString "_law_about", defArgs (top 20), defBody (top 20), defScope (top 20), [], []⟩, ⟨(Str.ofString "_law_due", none), Str.ofString "_law_due", Str.ofString "_law_due", defArgs (top 21), defBody (top 21), defScope (top 21), [], []⟩, ⟨(Str.ofString "_law_right", none), Str.ofString "_law_right", Str.ofString "_law_right", defArgs (top 22), defBody (top 22), defScope (top 22), [], []⟩, ⟨(Str.ofString "law", none), Str.ofString "law", Str.ofString "law", defArgs (top 23), defBody (top 23), defScope (top 23), [], []⟩]
def fa : List He.Fa := [.glo (Str.ofString "is_name"), .glo (Str.ofString "is_whole"), .glo (Str.ofString "is_between"), .glo (Str.ofString "is_number"), .glo (Str.ofString "are_moments"), .glo (Str.ofString "is_under"), .glo (Str.ofString "is_leave"), .glo (Str.ofString "lies_within"), .glo (Str.ofString "_law_urn"), .glo (Str.ofString "_law_lot"), .glo (Str.ofString "_law_named"), .glo (Str.ofString "_law_leaf"), .glo (Str.ofString "_law_about"), .glo (Str.ofString "_law_due"), .glo (Str.ofString "_law_right"), .glo (Str.ofString "law")] ++ bis.map fun x => .free (Str.ofString x)
abbrev rwR : PySem.W.OpenRow := PySem.W.OpenLaw.row PySem.Challenge.rw_leavechain_k03_which_lie_within
abbrev hk : PySem.W.Hook := hookM 5 gs fa fn
def ob (s : PySem.W.SharedT) : AlM := obsMG 5 gs fa fn (HandSHeadRun.getT s)
theorem ob_eq (s : PySem.W.SharedT) : ob s = hk.obs s.abs := obsMG_eq (HandSHeadRun.getT_eq s)
def loose : List Str := [Str.ofString "MOST_LETTERS", Str.ofString "GREATEST", Str.ofString "LAST_MOMENT", Str.ofString "MOST_PASSES", Str.ofString "SMALL", Str.ofString "KINDS_OF_DEEDS", Str.ofString "is_name", Str.ofString "is_whole", Str.ofString "is_between", Str.ofString "is_number", Str.ofString "are_moments", Str.ofString "is_under", Str.ofString "is_leave", Str.ofString "lies_within", Str.ofString "_law_urn", Str.ofString "_law_lot", Str.ofString "_law_named", Str.ofString "_law_leaf", Str.ofString "_law_about", Str.ofString "_law_due", Str.ofString "_law_right"]
theorem run (w : World) : HandSHeadRun.RunEq rwR (PySem.W.view rwR.prog [23]) hk ob 4000 loose w := by
  intro os
  kernel_rfl
section
variable {K : PySem.W.Frag} {h : Heap} {mg : Str → Option Value}
theorem sc_is_name : FnScope n_is_name [Str.ofString "thing"] (defScope (top 7)) := ⟨rfl, rfl, rfl, by decide +kernel, rfl, by decide +kernel, by decide +kernel⟩
theorem ok_is_name (X : K.In h) (G : h.Ns mainGlobals mg) (c : SaysM gs fa fn K) : ∃ a, mg (Str.ofString "is_name") = some (.ref a) ∧ DefOk K mg P P.fldf f_is_name [((1, []), [.pos 0])] a := by
  obtain ⟨fd, F⟩ := c.def_ 0 rfl
  refine ⟨_, He.glo_ok X G (c.fact (f := .glo (Str.ofString "is_name")) (List.mem_append_left _ (List.mem_of_getElem? (i := 0) rfl))), defOk_of F sc_is_name rfl ck_is_name ?_⟩
  intro q hq
  rw [List.mem_singleton] at hq
  subst hq
  exact ⟨rfl, plain_plan F rfl fun _ _ _ _ _ _ us ws h1 h2 => match us, ws, h1, h2 with | [_], [], _, _ => rfl⟩
theorem sc_is_whole : FnScope n_is_whole [Str.ofString "thing"] (defScope (top 8)) := ⟨rfl, rfl, rfl, by decide +kernel, rfl, by decide +kernel, by decide +kernel⟩
theorem ok_is_whole (X : K.In h) (G : h.Ns mainGlobals mg) (c : SaysM gs fa fn K) : ∃ a, mg (Str.ofString "is_whole") = some (.ref a) ∧ DefOk K mg P P.fldf f_is_whole [((1, []), [.pos 0])] a := by
  obtain ⟨fd, F⟩ := c.def_ 1 rfl
  refine ⟨_, He.glo_ok X G (c.fact (f := .glo (Str.ofString "is_whole")) (List.mem_append_left _ (List.mem_of_getElem? (i := 1) rfl))), defOk_of F sc_is_whole rfl ck_is_whole ?_⟩
  intro q hq
  rw [List.mem_singleton] at hq
  subst hq
  exact ⟨rfl, plain_plan F rfl fun _ _ _ _ _ _ us ws h1 h2 => match us, ws, h1, h2 with | [_], [], _, _ => rfl⟩
theorem sc_is_between : FnScope n_is_between [Str.ofString "thing", Str.ofString "low", Str.ofString "high"] (defScope (top 9)) := ⟨rfl, rfl, rfl, by decide +kernel, rfl, by decide +kernel, by decide +kernel⟩
theorem ok_is_between (X : K.In h) (G : h.Ns mainGlobals mg) (c : SaysM gs fa fn K) : ∃ a, mg (Str.ofString "is_between") = some (.ref a) ∧ DefOk K mg P P.fldf f_is_between [((3, []), [.pos 0, .pos 1, .pos 2])] a := by
  obtain ⟨fd, F⟩ := c.def_ 2 rfl
  refine ⟨_, He.glo_ok X G (c.fact (f := .glo (Str.ofString "is_between")) (List.mem_append_left _ (List.mem_of_getElem? (i := 2) rfl))), defOk_of F sc_is_between rfl ck_is_between ?_⟩
  intro q hq
  rw [List.mem_singleton] at hq
  subst hq
  exact ⟨rfl, plain_plan F rfl fun _ _ _ _ _ _ us ws h1 h2 => match us, ws, h1, h2 with | [_, _, _], [], _, _ => rfl⟩
theorem sc_is_number : FnScope n_is_number [Str.ofString "thing"] (defScope (top 10)) := ⟨rfl, rfl, rfl, by decide +kernel, rfl, by decide +kernel, by decide +kernel⟩
theorem ok_is_number (X : K.In h) (G : h.Ns mainGlobals mg) (c : SaysM gs fa fn K) : ∃ a, mg (Str.ofString "is_number") = some (.ref a) ∧ DefOk K mg P P.fldf f_is_number [((1, []), [.pos 0])] a := by
  obtain ⟨fd, F⟩ := c.def_ 3 rfl
  refine ⟨_, He.glo_ok X G (c.fact (f := .glo (Str.ofString "is_number")) (List.mem_append_left _ (List.mem_of_getElem? (i := 3) rfl))), defOk_of F sc_is_number rfl ck_is_number ?_⟩
  intro q hq
  rw [List.mem_singleton] at hq
  subst hq
  exact ⟨rfl, plain_plan F rfl fun _ _ _ _ _ _ us ws h1 h2 => match us, ws, h1, h2 with | [_], [], _, _ => rfl⟩
theorem sc_are_moments : FnScope n_are_moments [Str.ofString "since", Str.ofString "until"] (defScope (top 11)) := ⟨rfl, rfl, rfl, by decide +kernel, rfl, by decide +kernel, by decide +kernel⟩
theorem ok_are_moments (X : K.In h) (G : h.Ns mainGlobals mg) (c : SaysM gs fa fn K) : ∃ a, mg (Str.ofString "are_moments") = some (.ref a) ∧ DefOk K mg P P.fldf f_are_moments [((2, []), [.pos 0, .pos 1])] a := by
  obtain ⟨fd, F⟩ := c.def_ 4 rfl
  refine ⟨_, He.glo_ok X G (c.fact (f := .glo (Str.ofString "are_moments")) (List.mem_append_left _ (List.mem_of_getElem? (i := 4) rfl))), defOk_of F sc_are_moments rfl ck_are_moments ?_⟩
  intro q hq
  rw [List.mem_singleton] at hq
  subst hq
  exact ⟨rfl, plain_plan F rfl fun _ _ _ _ _ _ us ws h1 h2 => match us, ws, h1, h2 with | [_, _], [], _, _ => rfl⟩
theorem sc_is_under : FnScope n_is_under [Str.ofString "under", Str.ofString "number"] (defScope (top 12)) := ⟨rfl, rfl, rfl, by decide +kernel, rfl, by decide +kernel, by decide +kernel⟩
theorem ok_is_under (X : K.In h) (G : h.Ns mainGlobals mg) (c : SaysM gs fa fn K) : ∃ a, mg (Str.ofString "is_under") = some (.ref a) ∧ DefOk K mg P P.fldf f_is_under [((2, []), [.pos 0, .pos 1])] a := by
  obtain ⟨fd, F⟩ := c.def_ 5 rfl
  refine ⟨_, He.glo_ok X G (c.fact (f := .glo (Str.ofString "is_under")) (List.mem_append_left _ (List.mem_of_getElem? (i := 5) rfl))), defOk_of F sc_is_under rfl ck_is_under ?_⟩
  intro q hq
  rw [List.mem_singleton] at hq
  subst hq
  exact ⟨rfl, plain_plan F rfl fun _ _ _ _ _ _ us ws h1 h2 => match us, ws, h1, h2 with | [_, _], [], _, _ => rfl⟩
theorem sc_is_leave : FnScope n_is_leave [Str.ofString "thing"] (defScope (top 13)) := ⟨rfl, rfl, rfl, by decide +kernel, rfl, by decide +kernel, by decide +kernel⟩
theorem ok_is_leave (X : K.In h) (G : h.Ns mainGlobals mg) (c : SaysM gs fa fn K) : ∃ a, mg (Str.ofString "is_leave") = some (.ref a) ∧ DefOk K mg P P.fldf f_is_leave [((1, []), [.pos 0])] a := by
  obtain ⟨fd, F⟩ := c.def_ 6 rfl
  refine ⟨_, He.glo_ok X G (c.fact (f := .glo (Str.ofString "is_leave")) (List.mem_append_left _ (List.mem_of_getElem? (i := 6) rfl))), defOk_of F sc_is_leave rfl ck_is_leave ?_⟩
  intro q hq
  rw [List.mem_singleton] at hq
  subst hq
  exact ⟨rfl, plain_plan F rfl fun _ _ _ _ _ _ us ws h1 h2 => match us, ws, h1, h2 with | [_], [], _, _ => rfl⟩
theorem sc_lies_within : FnScope n_lies_within [Str.ofString "leave", Str.ofString "other"] (defScope (top 14)) := ⟨rfl, rfl, rfl, by decide +kernel, rfl, by decide +kernel, by decide +kernel⟩
theorem ok_lies_within (X : K.In h) (G : h.Ns mainGlobals mg) (c : SaysM gs fa fn K) : ∃ a, mg (Str.ofString "lies_within") = some (.ref a) ∧ DefOk K mg P P.fldf f_lies_within [((2, []), [.pos 0, .pos 1]), ((0, ["other", "leave"]), [.kw 1, .kw 0])] a := by
  obtain ⟨fd, F⟩ := c.def_ 7 rfl
  refine ⟨_, He.glo_ok X G (c.fact (f := .glo (Str.ofString "lies_within")) (List.mem_append_left _ (List.mem_of_getElem? (i := 7) rfl))), defOk_of F sc_lies_within rfl ck_lies_within ?_⟩
  intro q hq
  simp only [List.mem_cons, List.not_mem_nil, or_false] at hq
  rcases hq with rfl | rfl
  · exact ⟨rfl, plain_plan F rfl fun _ _ _ _ _ _ us ws h1 h2 => match us, ws, h1, h2 with | [_, _], [], _, _ => rfl⟩
  · exact ⟨rfl, plain_plan F rfl fun _ _ _ _ _ _ us ws h1 h2 => match us, ws, h1, h2 with | [], [_, _], _, _ => rfl⟩
theorem sc__law_urn : FnScope n__law_urn [Str.ofString "cell", Str.ofString "k"] (defScope (top 16)) := ⟨rfl, rfl, rfl, by decide +kernel, rfl, by decide +kernel, by decide +kernel⟩
theorem ok__law_urn (X : K.In h) (G : h.Ns mainGlobals mg) (c : SaysM gs fa fn K) : ∃ a, mg (Str.ofString "_law_urn") = some (.ref a) ∧ DefOk K mg P P.fldf f__law_urn [((2, []), [.pos 0, .pos 1])] a := by
  obtain ⟨fd, F⟩ := c.def_ 8 rfl
  refine ⟨_, He.glo_ok X G (c.fact (f := .glo (Str.ofString "_law_urn")) (List.mem_append_left _ (List.mem_of_getElem? (i := 8) rfl))), defOk_of F sc__law_urn rfl ck__law_urn ?_⟩
  intro q hq
  rw [List.mem_singleton] at hq
  subst hq
  exact ⟨rfl, plain_plan F rfl fun _ _ _ _ _ _ us ws h1 h2 => match us, ws, h1, h2 with | [_, _], [], _, _ => rfl⟩
theorem sc__law_lot : FnScope n__law_lot [Str.ofString "urn", Str.ofString "many"] (defScope (top 17)) := ⟨rfl, rfl, rfl, by decide +kernel, rfl, by decide +kernel, by decide +kernel⟩
theorem ok__law_lot (X : K.In h) (G : h.Ns mainGlobals mg) (c : SaysM gs fa fn K) : ∃ a, mg (Str.ofString "_law_lot") = some (.ref a) ∧ DefOk K mg P P.fldf f__law_lot [((2, []), [.pos 0, .pos 1])] a := by
  obtain ⟨fd, F⟩ := c.def_ 9 rfl
  refine ⟨_, He.glo_ok X G (c.fact (f := .glo (Str.ofString "_law_lot")) (List.mem_append_left _ (List.mem_of_getElem? (i := 9) rfl))), defOk_of F sc__law_lot rfl ck__law_lot ?_⟩
  intro q hq
  rw [List.mem_singleton] at hq
  subst hq
  exact ⟨rfl, plain_plan F rfl fun _ _ _ _ _ _ us ws h1 h2 => match us, ws, h1, h2 with | [_, _], [], _, _ => rfl⟩
theorem sc__law_named : FnScope n__law_named [Str.ofString "urn"] (defScope (top 18)) := ⟨rfl, rfl, rfl, by decide +kernel, rfl, by decide +kernel, by decide +kernel⟩
theorem ok__law_named (X : K.In h) (G : h.Ns mainGlobals mg) (c : SaysM gs fa fn K) : ∃ a, mg (Str.ofString "_law_named") = some (.ref a) ∧ DefOk K mg P P.fldf f__law_named [((1, []), [.pos 0])] a := by
  obtain ⟨fd, F⟩ := c.def_ 10 rfl
  refine ⟨_, He.glo_ok X G (c.fact (f := .glo (Str.ofString "_law_named")) (List.mem_append_left _ (List.mem_of_getElem? (i := 10) rfl))), defOk_of F sc__law_named rfl ck__law_named ?_⟩
  intro q hq
  rw [List.mem_singleton] at hq
  subst hq
  exact ⟨rfl, plain_plan F rfl fun _ _ _ _ _ _ us ws h1 h2 => match us, ws, h1, h2 with | [_], [], _, _ => rfl⟩
theorem sc__law_leaf : FnScope n__law_leaf [Str.ofString "urn"] (defScope (top 19)) := ⟨rfl, rfl, rfl, by decide +kernel, rfl, by decide +kernel, by decide +kernel⟩
theorem ok__law_leaf (X : K.In h) (G : h.Ns mainGlobals mg) (c : SaysM gs fa fn K) : ∃ a, mg (Str.ofString "_law_leaf") = some (.ref a) ∧ DefOk K mg P P.fldf f__law_leaf [((1, []), [.pos 0])] a := by
  obtain ⟨fd, F⟩ := c.def_ 11 rfl
  refine ⟨_, He.glo_ok X G (c.fact (f := .glo (Str.ofString "_law_leaf")) (List.mem_append_left _ (List.mem_of_getElem? (i := 11) rfl))), defOk_of F sc__law_leaf rfl ck__law_leaf ?_⟩
  intro q hq
  rw [List.mem_singleton] at hq
  subst hq
  exact ⟨rfl, plain_plan F rfl fun _ _ _ _ _ _ us ws h1 h2 => match us, ws, h1, h2 with | [_], [], _, _ => rfl⟩
theorem sc__law_about : FnScope n__law_about [Str.ofString "urn", Str.ofString "leaf"] (defScope (top 20)) := ⟨rfl, rfl, rfl, by decide +kernel, rfl, by decide +kernel, by decide +kernel⟩
theorem ok__law_about (X : K.In h) (G : h.Ns mainGlobals mg) (c : SaysM gs fa fn K) : ∃ a, mg (Str.ofString "_law_about") = some (.ref a) ∧ DefOk K mg P P.fldf f__law_about [((2, []), [.pos 0, .pos 1])] a := by
  obtain ⟨fd, F⟩ := c.def_ 12 rfl
  refine ⟨_, He.glo_ok X G (c.fact (f := .glo (Str.ofString "_law_about")) (List.mem_append_left _ (List.mem_of_getElem? (i := 12) rfl))), defOk_of F sc__law_about rfl ck__law_about ?_⟩
  intro q hq
  rw [List.mem_singleton] at hq
  subst hq
  exact ⟨rfl, plain_plan F rfl fun _ _ _ _ _ _ us ws h1 h2 => match us, ws, h1, h2 with | [_, _], [], _, _ => rfl⟩
theorem sc__law_due : FnScope n__law_due [Str.ofString "leaf", Str.ofString "wide"] (defScope (top 21)) := ⟨rfl, rfl, rfl, by decide +kernel, rfl, by decide +kernel, by decide +kernel⟩
theorem ok__law_due (X : K.In h) (G : h.Ns mainGlobals mg) (c : SaysM gs fa fn K) : ∃ a, mg (Str.ofString "_law_due") = some (.ref a) ∧ DefOk K mg P P.fldf f__law_due [((2, []), [.pos 0, .pos 1])] a := by
  obtain ⟨fd, F⟩ := c.def_ 13 rfl
  refine ⟨_, He.glo_ok X G (c.fact (f := .glo (Str.ofString "_law_due")) (List.mem_append_left _ (List.mem_of_getElem? (i := 13) rfl))), defOk_of F sc__law_due rfl ck__law_due ?_⟩
  intro q hq
  rw [List.mem_singleton] at hq
  subst hq
  exact ⟨rfl, plain_plan F rfl fun _ _ _ _ _ _ us ws h1 h2 => match us, ws, h1, h2 with | [_, _], [], _, _ => rfl⟩
theorem sc__law_right : FnScope n__law_right [Str.ofString "urn"] (defScope (top 22)) := ⟨rfl, rfl, rfl, by decide +kernel, rfl, by decide +kernel, by decide +kernel⟩
theorem ok__law_right (X : K.In h) (G : h.Ns mainGlobals mg) (c : SaysM gs fa fn K) : ∃ a, mg (Str.ofString "_law_right") = some (.ref a) ∧ DefOk K mg P P.fldf f__law_right [((1, []), [.pos 0])] a := by
  obtain ⟨fd, F⟩ := c.def_ 14 rfl
  refine ⟨_, He.glo_ok X G (c.fact (f := .glo (Str.ofString "_law_right")) (List.mem_append_left _ (List.mem_of_getElem? (i := 14) rfl))), defOk_of F sc__law_right rfl ck__law_right ?_⟩
  intro q hq
  rw [List.mem_singleton] at hq
  subst hq
  exact ⟨rfl, plain_plan F rfl fun _ _ _ _ _ _ us ws h1 h2 => match us, ws, h1, h2 with | [_], [], _, _ => rfl⟩
theorem sc_law : FnScope n_law [Str.ofString "script"] (defScope (top 23)) := ⟨rfl, rfl, rfl, by decide +kernel, rfl, by decide +kernel, by decide +kernel⟩
theorem modOk (X : K.In h) (G : h.Ns mainGlobals mg) (c : SaysM gs fa fn K) : ModOk K mg P := by
  refine ⟨fun x d hx => gB_ok X G (c.gl (look_mem hx)), fun x hx => ?_, fun f p hp => ?_, fun cl m p hp => ?_, fun cl n pl hp => ?_, fun cl C f _ hf => ?_⟩
  · exact He.free_ok X G (c.fact (f := .free (Str.ofString x)) (List.mem_append_right _ (List.mem_map.mpr ⟨x, List.contains_iff_mem.mp hx, rfl⟩)))
  · have hm := look_mem hp
    simp only [P, plans, List.mem_cons, List.not_mem_nil, or_false, Prod.mk.injEq] at hm
    rcases hm with ⟨rfl, rfl⟩ | ⟨rfl, rfl⟩ | ⟨rfl, rfl⟩ | ⟨rfl, rfl⟩ | ⟨rfl, rfl⟩ | ⟨rfl, rfl⟩ | ⟨rfl, rfl⟩ | ⟨rfl, rfl⟩ | ⟨rfl, rfl⟩ | ⟨rfl, rfl⟩ | ⟨rfl, rfl⟩ | ⟨rfl, rfl⟩ | ⟨rfl, rfl⟩ | ⟨rfl, rfl⟩ | ⟨rfl, rfl⟩
    · obtain ⟨a, h1, h2⟩ := ok_is_name X G c
      exact ⟨_, a, by kernel_rfl, h1, h2⟩
    · obtain ⟨a, h1, h2⟩ := ok_is_whole X G c
      exact ⟨_, a, by kernel_rfl, h1, h2⟩
    · obtain ⟨a, h1, h2⟩ := ok_is_between X G c
      exact ⟨_, a, by kernel_rfl, h1, h2⟩
    · obtain ⟨a, h1, h2⟩ := ok_is_number X G c
      exact ⟨_, a, by kernel_rfl, h1, h2⟩
    · obtain ⟨a, h1, h2⟩ := ok_are_moments X G c
      exact ⟨_, a, by kernel_rfl, h1, h2⟩
    · obtain ⟨a, h1, h2⟩ := ok_is_under X G c
      exact ⟨_, a, by kernel_rfl, h1, h2⟩
    · obtain ⟨a, h1, h2⟩ := ok_is_leave X G c
      exact ⟨_, a, by kernel_rfl, h1, h2⟩
    · obtain ⟨a, h1, h2⟩ := ok_lies_within X G c
      exact ⟨_, a, by kernel_rfl, h1, h2⟩
    · obtain ⟨a, h1, h2⟩ := ok__law_urn X G c
      exact ⟨_, a, by kernel_rfl, h1, h2⟩
    · obtain ⟨a, h1, h2⟩ := ok__law_lot X G c
      exact ⟨_, a, by kernel_rfl, h1, h2⟩
    · obtain ⟨a, h1, h2⟩ := ok__law_named X G c
      exact ⟨_, a, by kernel_rfl, h1, h2⟩
    · obtain ⟨a, h1, h2⟩ := ok__law_leaf X G c
      exact ⟨_, a, by kernel_rfl, h1, h2⟩
    · obtain ⟨a, h1, h2⟩ := ok__law_about X G c
      exact ⟨_, a, by kernel_rfl, h1, h2⟩
    · obtain ⟨a, h1, h2⟩ := ok__law_due X G c
      exact ⟨_, a, by kernel_rfl, h1, h2⟩
    · obtain ⟨a, h1, h2⟩ := ok__law_right X G c
      exact ⟨_, a, by kernel_rfl, h1, h2⟩
  · cases hp
  · cases hp
  · cases hf
theorem facts {prog : Program} {w : World} {f : Addr} (k : Nat) (X : K.In h) (G : h.Ns mainGlobals mg) (hfa : mg (Str.ofString "law") = some (.ref f)) (c : SaysM gs fa fn K) :
    ∃ fd : FuncData, (∀ (s : Shared) (v : Value), BindsTo s fd ⟨[v], []⟩ [("script", v)]) ∧ ∀ base : Heap, FnOk prog w K mg base (L2.CX prog w) (2 * k + 2) f fd ["script"] (spI ⟨K, mg, P.fldf⟩ 1 (runF (P.ctx (callF P k) (callM P k)) f_law)) := by
  obtain ⟨fd, F⟩ := c.def_ 15 rfl
  have e := hfa.symm.trans (He.glo_ok X G (c.fact (f := .glo (Str.ofString "law")) (List.mem_append_left _ (List.mem_of_getElem? (i := 15) rfl))))
  cases e
  have b := FunD.bindsA (ps := ["script"]) F fun _ _ _ _ _ _ us hl => match us, hl with | [_], _ => rfl
  exact ⟨fd, fun s v => b s [v] rfl, fun base => law_fn (modOk X G c) k F sc_law rfl ck_law⟩
end
section
variable {r : String → List D → Sto → Mi.R D} {m : String → String → List D → Sto → Mi.R D}
theorem l_is_name : P.fns.lookup "is_name" = some f_is_name := by kernel_rfl
theorem p0_is_name : (P.ctx r m).plan "is_name" 1 [] = some [.pos 0] := by kernel_rfl
theorem l_is_whole : P.fns.lookup "is_whole" = some f_is_whole := by kernel_rfl
theorem p0_is_whole : (P.ctx r m).plan "is_whole" 1 [] = some [.pos 0] := by kernel_rfl
theorem l_is_between : P.fns.lookup "is_between" = some f_is_between := by kernel_rfl
theorem p0_is_between : (P.ctx r m).plan "is_between" 3 [] = some [.pos 0, .pos 1, .pos 2] := by kernel_rfl
theorem l_is_number : P.fns.lookup "is_number" = some f_is_number := by kernel_rfl
theorem p0_is_number : (P.ctx r m).plan "is_number" 1 [] = some [.pos 0] := by kernel_rfl
theorem l_are_moments : P.fns.lookup "are_moments" = some f_are_moments := by kernel_rfl
theorem p0_are_moments : (P.ctx r m).plan "are_moments" 2 [] = some [.pos 0, .pos 1] := by kernel_rfl
theorem l_is_under : P.fns.lookup "is_under" = some f_is_under := by kernel_rfl
theorem p0_is_under : (P.ctx r m).plan "is_under" 2 [] = some [.pos 0, .pos 1] := by kernel_rfl
theorem l_is_leave : P.fns.lookup "is_leave" = some f_is_leave := by kernel_rfl
theorem p0_is_leave : (P.ctx r m).plan "is_leave" 1 [] = some [.pos 0] := by kernel_rfl
theorem l_lies_within : P.fns.lookup "lies_within" = some f_lies_within := by kernel_rfl
theorem p0_lies_within : (P.ctx r m).plan "lies_within" 2 [] = some [.pos 0, .pos 1] := by kernel_rfl
theorem p1_lies_within : (P.ctx r m).plan "lies_within" 0 ["other", "leave"] = some [.kw 1, .kw 0] := by kernel_rfl
theorem l__law_urn : P.fns.lookup "_law_urn" = some f__law_urn := by kernel_rfl
theorem p0__law_urn : (P.ctx r m).plan "_law_urn" 2 [] = some [.pos 0, .pos 1] := by kernel_rfl
theorem l__law_lot : P.fns.lookup "_law_lot" = some f__law_lot := by kernel_rfl
theorem p0__law_lot : (P.ctx r m).plan "_law_lot" 2 [] = some [.pos 0, .pos 1] := by kernel_rfl
theorem l__law_named : P.fns.lookup "_law_named" = some f__law_named := by kernel_rfl
theorem p0__law_named : (P.ctx r m).plan "_law_named" 1 [] = some [.pos 0] := by kernel_rfl
theorem l__law_leaf : P.fns.lookup "_law_leaf" = some f__law_leaf := by kernel_rfl
theorem p0__law_leaf : (P.ctx r m).plan "_law_leaf" 1 [] = some [.pos 0] := by kernel_rfl
theorem l__law_about : P.fns.lookup "_law_about" = some f__law_about := by kernel_rfl
theorem p0__law_about : (P.ctx r m).plan "_law_about" 2 [] = some [.pos 0, .pos 1] := by kernel_rfl
theorem l__law_due : P.fns.lookup "_law_due" = some f__law_due := by kernel_rfl
theorem p0__law_due : (P.ctx r m).plan "_law_due" 2 [] = some [.pos 0, .pos 1] := by kernel_rfl
theorem l__law_right : P.fns.lookup "_law_right" = some f__law_right := by kernel_rfl
theorem p0__law_right : (P.ctx r m).plan "_law_right" 1 [] = some [.pos 0] := by kernel_rfl
theorem g_MOST_LETTERS : (P.ctx r m).g "MOST_LETTERS" = some (.int 8) := by kernel_rfl
theorem g_GREATEST : (P.ctx r m).g "GREATEST" = some (.int 999999999) := by kernel_rfl
theorem g_LAST_MOMENT : (P.ctx r m).g "LAST_MOMENT" = some (.int 1000000) := by kernel_rfl
theorem g_MOST_PASSES : (P.ctx r m).g "MOST_PASSES" = some (.int 6) := by kernel_rfl
theorem g_SMALL : (P.ctx r m).g "SMALL" = some (.str [97, 98, 99, 100, 101, 102, 103, 104, 105, 106, 107, 108, 109, 110, 111, 112, 113, 114, 115, 116, 117, 118, 119, 120, 121, 122]) := by kernel_rfl
theorem g_KINDS_OF_DEEDS : (P.ctx r m).g "KINDS_OF_DEEDS" = some (.tup [.tup [.str [108, 111, 111, 107]], .tup [.str [115, 101, 116]], .tup [.str [108, 111, 111, 107], .str [115, 101, 116]]]) := by kernel_rfl
end
end K03

set_option Elab.async false
set_option linter.all false
set_option maxRecDepth 100000
set_option maxHeartbeats 400000
namespace K03
open PySem Mi
local macro_rules | `(tactic| walk_at "mi_nrm") => `(tactic| simp -dsimp only [List.set_cons_zero, List.set_cons_succ, List.map_cons, List.map_nil, List.length_cons, List.length_nil, Nat.zero_add, Nat.reduceAdd, Nat.reduceSub, List.replicate, List.cons_append, List.nil_append, List.append_nil])
local macro_rules | `(tactic| walk_at "mi_evl") => `(tactic| simp -dsimp only [p0_is_name, p0_is_whole, p0_is_between, p0_is_number, p0_are_moments, p0_is_under, p0_is_leave, p0_lies_within, p1_lies_within, p0__law_urn, p0__law_lot, p0__law_named, p0__law_leaf, p0__law_about, p0__law_due, p0__law_right, g_MOST_LETTERS, g_GREATEST, g_LAST_MOMENT, g_MOST_PASSES, g_SMALL, g_KINDS_OF_DEEDS, ↓ok_glob, ↓ok_if_none, ↓ok_if_some, ↓okE_itb, ↓ok_comp, ↓okT_cons, ↓okT_nil, ↓okT_next, ↓okT_ret, ↓ok_asg, ↓ok_ret, ↓ok_if, ↓ok_ex, ↓ok_pass, ↓ok_sbrk, ↓ok_scont, ↓ok_augS, ↓okE_ok, ↓okE_bind, ↓ok_var, ↓ok_non, ↓ok_bl, ↓ok_int, ↓ok_str, ↓ok_ty, ↓ok_bin, ↓ok_neg, ↓ok_not, ↓ok_and, ↓ok_or, ↓ok_ite, ↓ok_cmp, ↓ok_cmp2, ↓ok_ix, ↓ok_sl, ↓ok_lst, ↓ok_tup, ↓ok_bi, ↓ok_call, ↓ok_es_nil, ↓ok_es_cons, ↓ok_o_none, ↓ok_o_some, ↓ok_t_name, ↓ok_t_tup, ↓ok_t_sub, ↓ok_ts_nil, ↓ok_ts_cons, ↓ok_i_e, ↓ok_i_range1, ↓ok_i_range2, ↓ok_i_enum, ↓ok_for, ↓ok_while, ↓ifD_bl, ↓ifB_true, ↓ifB_false, ↓planD_some, ↓b_mulI, ↓b_divI, ↓b_modI, ↓b_powI, ↓b_addS, ↓b_addT, ↓rng1_int, 
  Nat.zero_add, Nat.reduceAdd, boolD_bl, ivD_str, ivD_tup, ivD_cl, lenI_fix, wipeE, alloc_ok, varD_some, ctx_run, globD_some, negD_int, notD_bl, someD_int, b_addI, b_subI, a_addI, c_eqI, c_neI, c_eqS, c_neS, c_ltI, c_leI, c_gtI, c_geI, c_is, c_isN, isNon_non, isNon_int, isNon_str, isNon_tup, c_inTS, c_ninTS, c_inS, i_len, i_lenT, i_lenC, i_max, i_min, i_intB, i_isi_is, i_isi_ib, i_isi_ss, i_isi_tt, i_isi_bb, ix_t0, ix_t1, ix_t2, ix_t3, ix_t4, ix_t5, ix_t6, ix_t7, ix_t8, List.getElem?_cons_zero, List.getElem?_cons_succ, List.set_cons_zero, List.set_cons_succ, List.length_cons, List.length_nil, List.map_cons, List.map_nil, Src.pick, List.getD_cons_zero, List.getD_cons_succ, List.cons_append, List.nil_append, List.replicate, List.append_nil, true_and, and_true, Bool.not_true, Bool.not_false, if_true, if_false, Bool.false_eq_true, Bool.and_true, Bool.true_and, ok_glob, ok_if_none, ok_if_some, okE_itb, ok_comp, okT_cons, okT_nil, okT_next, okT_ret, ok_asg, ok_ret, ok_if, ok_ex, ok_pass, ok_sbrk, ok_scont, ok_augS, okE_ok, okE_bind, ok_var, ok_non, ok_bl, ok_int, ok_str, ok_ty, ok_bin, ok_neg, ok_not, ok_and, ok_or, ok_ite, ok_cmp, ok_cmp2, ok_ix, ok_sl, ok_lst, ok_tup, ok_bi, ok_call, ok_es_nil, ok_es_cons, ok_o_none, ok_o_some, ok_t_name, ok_t_tup, ok_t_sub, ok_ts_nil, ok_ts_cons, ok_i_e, ok_i_range1, ok_i_range2, ok_i_enum, ok_for, ok_while, ifD_bl, ifB_true, ifB_false, planD_some, b_mulI, b_divI, b_modI, b_powI, b_addS, b_addT, rng1_int])
local macro_rules | `(tactic| walk_at "mi_evo") => `(tactic| simp -dsimp only [p0_is_name, p0_is_whole, p0_is_between, p0_is_number, p0_are_moments, p0_is_under, p0_is_leave, p0_lies_within, p1_lies_within, p0__law_urn, p0__law_lot, p0__law_named, p0__law_leaf, p0__law_about, p0__law_due, p0__law_right, g_MOST_LETTERS, g_GREATEST, g_LAST_MOMENT, g_MOST_PASSES, g_SMALL, g_KINDS_OF_DEEDS, ↓ok_glob, ↓ok_if_none, ↓ok_if_some, ↓okE_itb, ↓ok_comp, ↓okT_nil, ↓okT_next, ↓okT_ret, ↓ok_asg, ↓ok_ret, ↓ok_if, ↓ok_ex, ↓ok_pass, ↓ok_sbrk, ↓ok_scont, ↓ok_augS, ↓okE_ok, ↓okE_bind, ↓ok_var, ↓ok_non, ↓ok_bl, ↓ok_int, ↓ok_str, ↓ok_ty, ↓ok_bin, ↓ok_neg, ↓ok_not, ↓ok_and, ↓ok_or, ↓ok_ite, ↓ok_cmp, ↓ok_cmp2, ↓ok_ix, ↓ok_sl, ↓ok_lst, ↓ok_tup, ↓ok_bi, ↓ok_call, ↓ok_es_nil, ↓ok_es_cons, ↓ok_o_none, ↓ok_o_some, ↓ok_t_name, ↓ok_t_tup, ↓ok_t_sub, ↓ok_ts_nil, ↓ok_ts_cons, ↓ok_i_e, ↓ok_i_range1, ↓ok_i_range2, ↓ok_i_enum, ↓ok_for, ↓ok_while, ↓ifD_bl, ↓ifB_true, ↓ifB_false, ↓planD_some, ↓b_mulI, ↓b_divI, ↓b_modI, ↓b_powI, ↓b_addS, ↓b_addT, ↓rng1_int, 
  Nat.zero_add, Nat.reduceAdd, boolD_bl, ivD_str, ivD_tup, ivD_cl, lenI_fix, wipeE, alloc_ok, varD_some, ctx_run, globD_some, negD_int, notD_bl, someD_int, b_addI, b_subI, a_addI, c_eqI, c_neI, c_eqS, c_neS, c_ltI, c_leI, c_gtI, c_geI, c_is, c_isN, isNon_non, isNon_int, isNon_str, isNon_tup, c_inTS, c_ninTS, c_inS, i_len, i_lenT, i_lenC, i_max, i_min, i_intB, i_isi_is, i_isi_ib, i_isi_ss, i_isi_tt, i_isi_bb, ix_t0, ix_t1, ix_t2, ix_t3, ix_t4, ix_t5, ix_t6, ix_t7, ix_t8, List.getElem?_cons_zero, List.getElem?_cons_succ, List.set_cons_zero, List.set_cons_succ, List.length_cons, List.length_nil, List.map_cons, List.map_nil, Src.pick, List.getD_cons_zero, List.getD_cons_succ, List.cons_append, List.nil_append, List.replicate, List.append_nil, true_and, and_true, Bool.not_true, Bool.not_false, if_true, if_false, Bool.false_eq_true, Bool.and_true, Bool.true_and, ok_glob, ok_if_none, ok_if_some, okE_itb, ok_comp, okT_nil, okT_next, okT_ret, ok_asg, ok_ret, ok_if, ok_ex, ok_pass, ok_sbrk, ok_scont, ok_augS, okE_ok, okE_bind, ok_var, ok_non, ok_bl, ok_int, ok_str, ok_ty, ok_bin, ok_neg, ok_not, ok_and, ok_or, ok_ite, ok_cmp, ok_cmp2, ok_ix, ok_sl, ok_lst, ok_tup, ok_bi, ok_call, ok_es_nil, ok_es_cons, ok_o_none, ok_o_some, ok_t_name, ok_t_tup, ok_t_sub, ok_ts_nil, ok_ts_cons, ok_i_e, ok_i_range1, ok_i_range2, ok_i_enum, ok_for, ok_while, ifD_bl, ifB_true, ifB_false, planD_some, b_mulI, b_divI, b_modI, b_powI, b_addS, b_addT, rng1_int])
local macro_rules | `(tactic| walk_at "mi_go") => `(tactic| (rw [okT_cons]; walk_at "mi_evo"; try walk_at "mi_nrm"))
local macro_rules | `(tactic| walk_at "mi_ent") => `(tactic| simp -dsimp only [List.map_cons, List.map_nil, List.length_cons, List.length_nil, Nat.zero_add, Nat.reduceAdd, Nat.reduceSub, List.replicate, List.cons_append, List.nil_append, List.append_nil])
local macro_rules | `(tactic| walk_at "mi_dd") => `(tactic| first | (refine ifB_t (decide_eq_true (by omega)) ?_) | (refine ifB_f (decide_eq_false (by omega)) ?_))
variable {k : Nat} {st : Sto} {Q : D → Sto → Prop}
theorem s_whole (z : Int) (h : Q (.bl true) st) : okE (callF P (k + 1) "is_whole" [.int z] st) Q := by
  refine ok_callF l_is_whole ?_
  simp -dsimp only [f_is_whole, b_is_whole]
  walk_at "mi_ent"
  walk_at "mi_evl"
  exact h
theorem s_between (z lo hi : Int) (h : Q (.bl (decide (lo ≤ z) && decide (z ≤ hi))) st) : okE (callF P (k + 2) "is_between" [.int z, .int lo, .int hi] st) Q := by
  refine ok_callF l_is_between ?_
  simp -dsimp only [f_is_between, b_is_between]
  walk_at "mi_ent"
  walk_at "mi_evl"
  refine s_whole _ ?_
  walk_at "mi_evl"
  refine ifB_by (fun c => ?_) (fun c => ?_)
  · walk_at "mi_evl"
    rw [c] at h
    exact h
  · rw [c] at h
    exact h
theorem s_number (z : Int) (h : Q (.bl (decide (0 ≤ z) && decide (z ≤ 999999999))) st) : okE (callF P (k + 3) "is_number" [.int z] st) Q := by
  refine ok_callF l_is_number ?_
  simp -dsimp only [f_is_number, b_is_number]
  walk_at "mi_ent"
  walk_at "mi_evl"
  exact s_between _ _ _ h
theorem s_moments (a b : Int) (ha : 0 ≤ a) (hb : b ≤ 1000000) (hab : a < b) (h : Q (.bl true) st) : okE (callF P (k + 3) "are_moments" [.int a, .int b] st) Q := by
  refine ok_callF l_are_moments ?_
  simp -dsimp only [f_are_moments, b_are_moments]
  walk_at "mi_ent"
  walk_at "mi_evl"
  refine s_between _ _ _ ?_
  rw [decide_eq_true ha, decide_eq_true (show a ≤ 1000000 by omega)]
  walk_at "mi_evl"
  refine s_between _ _ _ ?_
  rw [decide_eq_true (show 0 ≤ b by omega), decide_eq_true hb]
  walk_at "mi_evl"
  rw [decide_eq_true hab]
  exact h
theorem s_underN (n : Int) (h : Q (.bl true) st) : okE (callF P (k + 3) "is_under" [.non, .int n] st) Q := by
  refine ok_callF l_is_under ?_
  simp -dsimp only [f_is_under, b_is_under]
  walk_at "mi_ent"
  walk_at "mi_evl"
  exact h
theorem s_underI (a n : Int) (ha : 0 ≤ a) (hn : a ≤ n - 1) (h : Q (.bl true) st) : okE (callF P (k + 3) "is_under" [.int a, .int n] st) Q := by
  refine ok_callF l_is_under ?_
  simp -dsimp only [f_is_under, b_is_under]
  walk_at "mi_ent"
  walk_at "mi_evl"
  refine s_between _ _ _ ?_
  rw [decide_eq_true ha, decide_eq_true hn]
  exact h
def small : List Nat := [97, 98, 99, 100, 101, 102, 103, 104, 105, 106, 107, 108, 109, 110, 111, 112, 113, 114, 115, 116, 117, 118, 119, 120, 121, 122]
def NameOk (x : List Nat) : Prop := 1 ≤ x.length ∧ x.length ≤ 8 ∧ ∀ c ∈ x, c ∈ small
def gN (d : D) : Option D := match d with | .str [c] => some (.bl (decide (c ∈ small))) | _ => none
theorem s_name (x : List Nat) (hx : NameOk x) (h : ∀ st', Ext st st' → Q (.bl true) st') : okE (callF P (k + 1) "is_name" [.str x] st) Q := by
  have h1 := hx.1
  have h2 := hx.2.1
  refine ok_callF l_is_name ?_
  simp -dsimp only [f_is_name, b_is_name]
  walk_at "mi_ent"
  walk_at "mi_evl"
  walk_at "mi_dd"
  walk_at "mi_evl"
  walk_at "mi_dd"
  walk_at "mi_evl"
  refine ok_compE (g := gN) ?_ ?_ ?_
  · exact sl_big (by rw [List.length_map]; omega)
  · intro d hd s hs
    obtain ⟨c, hc, rfl⟩ := List.mem_map.mp hd
    walk_at "mi_evl"
    exact ⟨.refl _, rfl⟩
  · intro s hs
    walk_at "mi_evl"
    rw [fm_map (fun c => D.str [c]) gN (fun c => D.bl (decide (c ∈ small))) (fun _ => rfl)]
    rw [i_all (bs := x.map fun c => decide (c ∈ small)) (by rw [List.map_map]; exact get_new _ _)]
    have e : (x.map fun c => decide (c ∈ small)).all id = true := by
      rw [List.all_eq_true]
      intro b hb
      obtain ⟨c, hc, rfl⟩ := List.mem_map.mp hb
      exact decide_eq_true (hx.2.2 c hc)
    rw [e]
    exact h _ (hs.trans (.app _ _))
/-! leaves -/
structure Lf where
  number : Int
  room : List Nat
  deeds : List (List Nat)
  giver : List Nat
  holder : List Nat
  since : Int
  until_ : Int
  passes : Int
  above : D
@[irreducible] def Lf.d (l : Lf) : D := .tup [.int l.number, .str l.room, .tup (l.deeds.map .str), .str l.giver, .str l.holder, .int l.since, .int l.until_, .int l.passes, l.above]
def kinds : List (List (List Nat)) := [[[108, 111, 111, 107]], [[115, 101, 116]], [[108, 111, 111, 107], [115, 101, 116]]]
structure LfOk (l : Lf) : Prop where
  number : 0 ≤ l.number ∧ l.number ≤ 999999999
  room : NameOk l.room
  deeds : l.deeds ∈ kinds
  giver : NameOk l.giver
  holder : NameOk l.holder
  ne : l.giver ≠ l.holder
  since : 0 ≤ l.since
  lt : l.since < l.until_
  until_ : l.until_ ≤ 1000000
  passes : 0 ≤ l.passes ∧ l.passes ≤ 6
  above : l.above = .non ∨ ∃ a, l.above = .int a ∧ 0 ≤ a ∧ a ≤ l.number - 1
theorem kinds_in {l : List (List Nat)} (h : l ∈ kinds) : cmpD .NotIn (.tup (l.map .str)) (.tup [.tup [.str [108, 111, 111, 107]], .tup [.str [115, 101, 116]], .tup [.str [108, 111, 111, 107], .str [115, 101, 116]]]) st = .ok (.bl false) st := by
  simp only [kinds, List.mem_cons, List.not_mem_nil, or_false] at h
  rcases h with rfl | rfl | rfl <;> rfl
theorem s_leave (l : Lf) (hl : LfOk l) (h : ∀ st', Ext st st' → Q (.bl true) st') : okE (callF P (k + 4) "is_leave" [l.d] st) Q := by
  refine ok_callF l_is_leave ?_
  simp -dsimp only [f_is_leave, b_is_leave, Lf.d]
  walk_at "mi_ent"
  walk_at "mi_evl"
  refine ifB_f (by rfl) ?_
  walk_at "mi_evl"
  refine s_number _ ?_
  rw [decide_eq_true hl.number.1, decide_eq_true hl.number.2]
  walk_at "mi_evl"
  refine ⟨sl_big (by simp), ?_⟩
  refine ok_compE (g := fun d => some (.bl true)) (sl_big (by simp)) ?_ ?_
  · intro d hd s hs
    simp only [List.mem_cons, List.not_mem_nil, or_false] at hd
    rcases hd with rfl | rfl | rfl <;> walk_at "mi_evl" <;> refine s_name _ ?_ (fun s' e => ?_)
    · exact hl.room
    · walk_at "mi_evl"; exact e
    · exact hl.giver
    · walk_at "mi_evl"; exact e
    · exact hl.holder
    · walk_at "mi_evl"; exact e
  · intro s hs
    walk_at "mi_evl"
    rw [show (List.filterMap (fun d => some (D.bl true)) [D.str l.room, D.str l.giver, D.str l.holder]) = [true, true, true].map .bl from rfl, i_all (get_new _ _)]
    walk_at "mi_evl"
    refine ifB_f (by rfl) ?_
    walk_at "mi_evl"
    refine ifB_f (decide_eq_false hl.ne) ?_
    walk_at "mi_evl"
    rw [kinds_in hl.deeds]
    walk_at "mi_evl"
    refine s_moments _ _ hl.since hl.until_ hl.lt ?_
    walk_at "mi_evl"
    refine s_between _ _ _ ?_
    rw [decide_eq_true hl.passes.1, decide_eq_true hl.passes.2]
    walk_at "mi_evl"
    have fin := h _ (hs.trans (.app _ (.lst ([true, true, true].map .bl))))
    rcases hl.above with e | ⟨a, e, a1, a2⟩
    · rw [e]; exact s_underN _ fin
    · rw [e]; exact s_underI _ _ a1 a2 fin
end K03

set_option Elab.async false
set_option linter.all false
set_option maxRecDepth 100000
set_option maxHeartbeats 4000000
namespace K03
open PySem Mi
local macro_rules | `(tactic| walk_at "mi_nrm") => `(tactic| simp -dsimp only [List.set_cons_zero, List.set_cons_succ, List.map_cons, List.map_nil, List.length_cons, List.length_nil, Nat.zero_add, Nat.reduceAdd, Nat.reduceSub, List.replicate, List.cons_append, List.nil_append, List.append_nil])
local macro_rules | `(tactic| walk_at "mi_evl") => `(tactic| simp -dsimp only [p0_is_name, p0_is_whole, p0_is_between, p0_is_number, p0_are_moments, p0_is_under, p0_is_leave, p0_lies_within, p1_lies_within, p0__law_urn, p0__law_lot, p0__law_named, p0__law_leaf, p0__law_about, p0__law_due, p0__law_right, g_MOST_LETTERS, g_GREATEST, g_LAST_MOMENT, g_MOST_PASSES, g_SMALL, g_KINDS_OF_DEEDS, ↓ok_glob, ↓ok_if_none, ↓ok_if_some, ↓okE_itb, ↓ok_comp, ↓okT_cons, ↓okT_nil, ↓okT_next, ↓okT_ret, ↓ok_asg, ↓ok_ret, ↓ok_if, ↓ok_ex, ↓ok_pass, ↓ok_sbrk, ↓ok_scont, ↓ok_augS, ↓okE_ok, ↓okE_bind, ↓ok_var, ↓ok_non, ↓ok_bl, ↓ok_int, ↓ok_str, ↓ok_ty, ↓ok_bin, ↓ok_neg, ↓ok_not, ↓ok_and, ↓ok_or, ↓ok_ite, ↓ok_cmp, ↓ok_cmp2, ↓ok_ix, ↓ok_sl, ↓ok_lst, ↓ok_tup, ↓ok_bi, ↓ok_call, ↓ok_es_nil, ↓ok_es_cons, ↓ok_o_none, ↓ok_o_some, ↓ok_t_name, ↓ok_t_tup, ↓ok_t_sub, ↓ok_ts_nil, ↓ok_ts_cons, ↓ok_i_e, ↓ok_i_range1, ↓ok_i_range2, ↓ok_i_enum, ↓ok_for, ↓ok_while, ↓ifD_bl, ↓ifB_true, ↓ifB_false, ↓planD_some, ↓b_mulI, ↓b_divI, ↓b_modI, ↓b_powI, ↓b_addS, ↓b_addT, ↓rng1_int, 
  Nat.zero_add, Nat.reduceAdd, boolD_bl, ivD_str, ivD_tup, ivD_cl, lenI_fix, wipeE, alloc_ok, varD_some, ctx_run, globD_some, negD_int, notD_bl, someD_int, b_addI, b_subI, a_addI, c_eqI, c_neI, c_eqS, c_neS, c_ltI, c_leI, c_gtI, c_geI, c_is, c_isN, isNon_non, isNon_int, isNon_str, isNon_tup, c_inTS, c_ninTS, c_inS, i_len, i_lenT, i_lenC, i_max, i_min, i_intB, i_isi_is, i_isi_ib, i_isi_ss, i_isi_tt, i_isi_bb, ix_t0, ix_t1, ix_t2, ix_t3, ix_t4, ix_t5, ix_t6, ix_t7, ix_t8, List.getElem?_cons_zero, List.getElem?_cons_succ, List.set_cons_zero, List.set_cons_succ, List.length_cons, List.length_nil, List.map_cons, List.map_nil, Src.pick, List.getD_cons_zero, List.getD_cons_succ, List.cons_append, List.nil_append, List.replicate, List.append_nil, true_and, and_true, Bool.not_true, Bool.not_false, if_true, if_false, Bool.false_eq_true, Bool.and_true, Bool.true_and, ok_glob, ok_if_none, ok_if_some, okE_itb, ok_comp, okT_cons, okT_nil, okT_next, okT_ret, ok_asg, ok_ret, ok_if, ok_ex, ok_pass, ok_sbrk, ok_scont, ok_augS, okE_ok, okE_bind, ok_var, ok_non, ok_bl, ok_int, ok_str, ok_ty, ok_bin, ok_neg, ok_not, ok_and, ok_or, ok_ite, ok_cmp, ok_cmp2, ok_ix, ok_sl, ok_lst, ok_tup, ok_bi, ok_call, ok_es_nil, ok_es_cons, ok_o_none, ok_o_some, ok_t_name, ok_t_tup, ok_t_sub, ok_ts_nil, ok_ts_cons, ok_i_e, ok_i_range1, ok_i_range2, ok_i_enum, ok_for, ok_while, ifD_bl, ifB_true, ifB_false, planD_some, b_mulI, b_divI, b_modI, b_powI, b_addS, b_addT, rng1_int])
local macro_rules | `(tactic| walk_at "mi_evo") => `(tactic| simp -dsimp only [p0_is_name, p0_is_whole, p0_is_between, p0_is_number, p0_are_moments, p0_is_under, p0_is_leave, p0_lies_within, p1_lies_within, p0__law_urn, p0__law_lot, p0__law_named, p0__law_leaf, p0__law_about, p0__law_due, p0__law_right, g_MOST_LETTERS, g_GREATEST, g_LAST_MOMENT, g_MOST_PASSES, g_SMALL, g_KINDS_OF_DEEDS, ↓ok_glob, ↓ok_if_none, ↓ok_if_some, ↓okE_itb, ↓ok_comp, ↓okT_nil, ↓okT_next, ↓okT_ret, ↓ok_asg, ↓ok_ret, ↓ok_if, ↓ok_ex, ↓ok_pass, ↓ok_sbrk, ↓ok_scont, ↓ok_augS, ↓okE_ok, ↓okE_bind, ↓ok_var, ↓ok_non, ↓ok_bl, ↓ok_int, ↓ok_str, ↓ok_ty, ↓ok_bin, ↓ok_neg, ↓ok_not, ↓ok_and, ↓ok_or, ↓ok_ite, ↓ok_cmp, ↓ok_cmp2, ↓ok_ix, ↓ok_sl, ↓ok_lst, ↓ok_tup, ↓ok_bi, ↓ok_call, ↓ok_es_nil, ↓ok_es_cons, ↓ok_o_none, ↓ok_o_some, ↓ok_t_name, ↓ok_t_tup, ↓ok_t_sub, ↓ok_ts_nil, ↓ok_ts_cons, ↓ok_i_e, ↓ok_i_range1, ↓ok_i_range2, ↓ok_i_enum, ↓ok_for, ↓ok_while, ↓ifD_bl, ↓ifB_true, ↓ifB_false, ↓planD_some, ↓b_mulI, ↓b_divI, ↓b_modI, ↓b_powI, ↓b_addS, ↓b_addT, ↓rng1_int, 
  Nat.zero_add, Nat.reduceAdd, boolD_bl, ivD_str, ivD_tup, ivD_cl, lenI_fix, wipeE, alloc_ok, varD_some, ctx_run, globD_some, negD_int, notD_bl, someD_int, b_addI, b_subI, a_addI, c_eqI, c_neI, c_eqS, c_neS, c_ltI, c_leI, c_gtI, c_geI, c_is, c_isN, isNon_non, isNon_int, isNon_str, isNon_tup, c_inTS, c_ninTS, c_inS, i_len, i_lenT, i_lenC, i_max, i_min, i_intB, i_isi_is, i_isi_ib, i_isi_ss, i_isi_tt, i_isi_bb, ix_t0, ix_t1, ix_t2, ix_t3, ix_t4, ix_t5, ix_t6, ix_t7, ix_t8, List.getElem?_cons_zero, List.getElem?_cons_succ, List.set_cons_zero, List.set_cons_succ, List.length_cons, List.length_nil, List.map_cons, List.map_nil, Src.pick, List.getD_cons_zero, List.getD_cons_succ, List.cons_append, List.nil_append, List.replicate, List.append_nil, true_and, and_true, Bool.not_true, Bool.not_false, if_true, if_false, Bool.false_eq_true, Bool.and_true, Bool.true_and, ok_glob, ok_if_none, ok_if_some, okE_itb, ok_comp, okT_nil, okT_next, okT_ret, ok_asg, ok_ret, ok_if, ok_ex, ok_pass, ok_sbrk, ok_scont, ok_augS, okE_ok, okE_bind, ok_var, ok_non, ok_bl, ok_int, ok_str, ok_ty, ok_bin, ok_neg, ok_not, ok_and, ok_or, ok_ite, ok_cmp, ok_cmp2, ok_ix, ok_sl, ok_lst, ok_tup, ok_bi, ok_call, ok_es_nil, ok_es_cons, ok_o_none, ok_o_some, ok_t_name, ok_t_tup, ok_t_sub, ok_ts_nil, ok_ts_cons, ok_i_e, ok_i_range1, ok_i_range2, ok_i_enum, ok_for, ok_while, ifD_bl, ifB_true, ifB_false, planD_some, b_mulI, b_divI, b_modI, b_powI, b_addS, b_addT, rng1_int])
local macro_rules | `(tactic| walk_at "mi_go") => `(tactic| (rw [okT_cons]; walk_at "mi_evo"; try walk_at "mi_nrm"))
local macro_rules | `(tactic| walk_at "mi_ent") => `(tactic| simp -dsimp only [List.map_cons, List.map_nil, List.length_cons, List.length_nil, Nat.zero_add, Nat.reduceAdd, Nat.reduceSub, List.replicate, List.cons_append, List.nil_append, List.append_nil])
local macro_rules | `(tactic| walk_at "mi_dd") => `(tactic| first | (refine ifB_t (decide_eq_true (by omega)) ?_) | (refine ifB_f (decide_eq_false (by omega)) ?_))
variable {k : Nat} {st : Sto} {Q : D → Sto → Prop}
/-- what lies_within answers -/
@[irreducible] def within (a b : Lf) : Bool := decide (b.room = a.room) && (decide (b.holder = a.giver) && ((a.deeds.all fun d => decide (d ∈ b.deeds)) && (decide (b.since ≤ a.since) && (decide (a.until_ ≤ b.until_) && decide (a.passes < b.passes)))))
def gI (l : List (List Nat)) (d : D) : Option D := match d with | .str x => some (.bl (decide (x ∈ l))) | _ => none
theorem small_len {l : Lf} (h : l.deeds ∈ kinds) : l.deeds.length ≤ 2 := by
  simp only [kinds, List.mem_cons, List.not_mem_nil, or_false] at h
  rcases h with h | h | h <;> rw [h] <;> decide
theorem s_within (a b : Lf) (ha : a.deeds ∈ kinds) (h : ∀ st', Ext st st' → Q (.bl (within a b)) st') : okE (callF P (k + 1) "lies_within" [a.d, b.d] st) Q := by
  generalize e1 : a.d = da
  generalize e2 : b.d = db
  refine ok_callF l_lies_within ?_
  subst e1 e2
  simp -dsimp only [f_lies_within, b_lies_within, Lf.d]
  unfold within at h
  walk_at "mi_nrm"
  walk_at "mi_go"
  walk_at "mi_go"
  walk_at "mi_go"
  refine ifB_by (fun c => ?_) (fun c => ?_)
  · walk_at "mi_evl"
    have h' := h st (.refl _)
    rw [show decide (b.room = a.room) = false by simpa using c] at h'
    exact h'
  · rw [show decide (b.room = a.room) = true by simpa using c] at h
    walk_at "mi_evl"
    refine ifB_by (fun c => ?_) (fun c => ?_)
    · walk_at "mi_evl"
      have h' := h st (.refl _)
      rw [show decide (b.holder = a.giver) = false by simpa using c] at h'
      exact h'
    · rw [show decide (b.holder = a.giver) = true by simpa using c] at h
      walk_at "mi_evl"
      have ll := small_len ha
      refine ok_compE (g := gI b.deeds) (sl_big (by rw [List.length_map]; omega)) ?_ ?_
      · intro d hd s hs
        obtain ⟨c, hc, rfl⟩ := List.mem_map.mp hd
        walk_at "mi_evl"
        exact ⟨.refl _, rfl⟩
      · intro s hs
        walk_at "mi_evl"
        rw [fm_map D.str (gI b.deeds) (fun c => D.bl (decide (c ∈ b.deeds))) (fun _ => rfl)]
        rw [i_all (bs := a.deeds.map fun c => decide (c ∈ b.deeds)) (by rw [List.map_map]; exact get_new _ _)]
        have e : (a.deeds.map fun c => decide (c ∈ b.deeds)).all id = a.deeds.all fun d => decide (d ∈ b.deeds) := by rw [List.all_map]; rfl
        rw [e]
        have fin := h _ (hs.trans (.app _ (.lst ((a.deeds.map D.str).filterMap (gI b.deeds)))))
        rw [fm_map D.str (gI b.deeds) (fun c => D.bl (decide (c ∈ b.deeds))) (fun _ => rfl)] at fin
        revert fin
        generalize (s ++ _ : Sto) = s2
        generalize (a.deeds.all fun d => decide (d ∈ b.deeds)) = u
        intro fin
        walk_at "mi_evl"
        cases u with
        | false =>
          refine ifB_t rfl ?_
          walk_at "mi_evl"
          exact fin
        | true =>
          refine ifB_f rfl ?_
          walk_at "mi_evl"
          refine ifB_by (fun c => ?_) (fun c => ?_)
          · rw [c] at fin
            walk_at "mi_evl"
            refine ifB_by (fun c => ?_) (fun c => ?_)
            · rw [c] at fin
              walk_at "mi_evl"
              exact fin
            · rw [c] at fin
              exact fin
          · rw [c] at fin
            exact fin
def gF (l : List (List Nat)) (d : D) : Option D := match d with | .str x => (if (!decide (x ∈ l)) = true then some d else none) | _ => none
theorem gF_map (l : List (List Nat)) : ∀ xs : List (List Nat), (xs.map D.str).filterMap (gF l) = (xs.filter fun x => !decide (x ∈ l)).map .str
  | [] => rfl
  | x :: xs => by
    have ih := gF_map l xs
    rw [List.map_cons, List.filterMap_cons, List.filter_cons, ih]
    unfold gF
    by_cases c : x ∈ l <;> simp [c]
theorem isEmpty_filter (l xs : List (List Nat)) : (xs.filter fun x => !decide (x ∈ l)).isEmpty = xs.all fun x => decide (x ∈ l) := by
  induction xs with
  | nil => rfl
  | cons x xs ih =>
    rw [List.filter_cons, List.all_cons]
    by_cases c : x ∈ l
    · simp [c, ih]
    · simp [c]
theorem s_due (a b : Lf) (ha : a.deeds ∈ kinds) (h : ∀ st', Ext st st' → Q (.bl (within a b)) st') : okE (callF P (k + 1) "_law_due" [a.d, b.d] st) Q := by
  generalize e1 : a.d = da
  generalize e2 : b.d = db
  refine ok_callF l__law_due ?_
  subst e1 e2
  simp -dsimp only [f__law_due, b__law_due, Lf.d]
  unfold within at h
  walk_at "mi_ent"
  walk_at "mi_evl"
  refine ifB_by (fun c => ?_) (fun c => ?_)
  · walk_at "mi_evl"
    have h' := h st (.refl _)
    have c' : ¬ a.room = b.room := by simpa using c
    rw [decide_eq_false (fun z => c' z.symm)] at h'
    exact h'
  · have c' : a.room = b.room := by simpa using c
    rw [decide_eq_true c'.symm] at h
    walk_at "mi_evl"
    refine ifB_by (fun c => ?_) (fun c => ?_)
    · walk_at "mi_evl"
      have h' := h st (.refl _)
      rw [show decide (b.holder = a.giver) = false by simpa using c] at h'
      exact h'
    · rw [show decide (b.holder = a.giver) = true by simpa using c] at h
      walk_at "mi_evl"
      refine ifB_by (fun c => ?_) (fun c => ?_)
      · walk_at "mi_evl"
        have h' := h st (.refl _)
        rw [show decide (a.passes < b.passes) = false by simpa using c] at h'
        simpa using h'
      · rw [show decide (a.passes < b.passes) = true by simpa using c] at h
        walk_at "mi_evl"
        refine ifB_by (fun c => ?_) (fun c => ?_)
        · walk_at "mi_evl"
          have h' := h st (.refl _)
          rw [show decide (b.since ≤ a.since) = false by simpa using c] at h'
          simpa using h'
        · rw [show decide (b.since ≤ a.since) = true by simpa using c] at h
          walk_at "mi_evl"
          refine ifB_by (fun c => ?_) (fun c => ?_)
          · walk_at "mi_evl"
            have h' := h st (.refl _)
            rw [show decide (a.until_ ≤ b.until_) = false by simpa using c] at h'
            simpa using h'
          · rw [show decide (a.until_ ≤ b.until_) = true by simpa using c] at h
            walk_at "mi_evl"
            have ll := small_len ha
            refine ok_compE (g := gF b.deeds) (sl_big (by rw [List.length_map]; omega)) ?_ ?_
            · intro d hd s hs
              obtain ⟨c, hc, rfl⟩ := List.mem_map.mp hd
              walk_at "mi_evl"
              refine ifB_by (fun q => ?_) (fun q => ?_)
              · walk_at "mi_evl"
                refine ⟨.refl _, ?_⟩
                show _ = if (!decide (c ∈ b.deeds)) = true then some (D.str c) else none
                rw [if_pos q]
              · walk_at "mi_evl"
                refine ⟨.refl _, ?_⟩
                show _ = if (!decide (c ∈ b.deeds)) = true then some (D.str c) else none
                rw [if_neg (by rw [q]; decide)]
            · intro s hs
              walk_at "mi_evl"
              rw [newL_ok' (sl_big (by decide))]
              walk_at "mi_evl"
              rw [gF_map, c_eqL0 (n := s.length) (m := (s ++ _).length) (xs := a.deeds.filter fun x => !decide (x ∈ b.deeds)) (get_app (get_new _ _)) (get_new _ _), isEmpty_filter]
              have fin := h _ ((hs.trans (.app _ (.lst ((a.deeds.filter fun x => !decide (x ∈ b.deeds)).map .str)))).trans (.app _ (.lst [])))
              rw [okE_ok]
              simpa using fin
end K03

set_option Elab.async false
set_option linter.all false
set_option maxRecDepth 100000
set_option maxHeartbeats 1000000
namespace K03
open PySem Mi
local macro_rules | `(tactic| walk_at "mi_nrm") => `(tactic| simp -dsimp only [List.set_cons_zero, List.set_cons_succ, List.map_cons, List.map_nil, List.length_cons, List.length_nil, Nat.zero_add, Nat.reduceAdd, Nat.reduceSub, List.replicate, List.cons_append, List.nil_append, List.append_nil])
local macro_rules | `(tactic| walk_at "mi_evl") => `(tactic| simp -dsimp only [p0_is_name, p0_is_whole, p0_is_between, p0_is_number, p0_are_moments, p0_is_under, p0_is_leave, p0_lies_within, p1_lies_within, p0__law_urn, p0__law_lot, p0__law_named, p0__law_leaf, p0__law_about, p0__law_due, p0__law_right, g_MOST_LETTERS, g_GREATEST, g_LAST_MOMENT, g_MOST_PASSES, g_SMALL, g_KINDS_OF_DEEDS, ↓ok_glob, ↓ok_if_none, ↓ok_if_some, ↓okE_itb, ↓ok_comp, ↓okT_cons, ↓okT_nil, ↓okT_next, ↓okT_ret, ↓ok_asg, ↓ok_ret, ↓ok_if, ↓ok_ex, ↓ok_pass, ↓ok_sbrk, ↓ok_scont, ↓ok_augS, ↓okE_ok, ↓okE_bind, ↓ok_var, ↓ok_non, ↓ok_bl, ↓ok_int, ↓ok_str, ↓ok_ty, ↓ok_bin, ↓ok_neg, ↓ok_not, ↓ok_and, ↓ok_or, ↓ok_ite, ↓ok_cmp, ↓ok_cmp2, ↓ok_ix, ↓ok_sl, ↓ok_lst, ↓ok_tup, ↓ok_bi, ↓ok_call, ↓ok_es_nil, ↓ok_es_cons, ↓ok_o_none, ↓ok_o_some, ↓ok_t_name, ↓ok_t_tup, ↓ok_t_sub, ↓ok_ts_nil, ↓ok_ts_cons, ↓ok_i_e, ↓ok_i_range1, ↓ok_i_range2, ↓ok_i_enum, ↓ok_for, ↓ok_while, ↓ifD_bl, ↓ifB_true, ↓ifB_false, ↓planD_some, ↓b_mulI, ↓b_divI, ↓b_modI, ↓b_powI, ↓b_addS, ↓b_addT, ↓rng1_int, 
  Nat.zero_add, Nat.reduceAdd, boolD_bl, ivD_str, ivD_tup, ivD_cl, lenI_fix, wipeE, alloc_ok, varD_some, ctx_run, globD_some, negD_int, notD_bl, someD_int, b_addI, b_subI, a_addI, c_eqI, c_neI, c_eqS, c_neS, c_ltI, c_leI, c_gtI, c_geI, c_is, c_isN, isNon_non, isNon_int, isNon_str, isNon_tup, c_inTS, c_ninTS, c_inS, i_len, i_lenT, i_lenC, i_max, i_min, i_intB, i_isi_is, i_isi_ib, i_isi_ss, i_isi_tt, i_isi_bb, ix_t0, ix_t1, ix_t2, ix_t3, ix_t4, ix_t5, ix_t6, ix_t7, ix_t8, List.getElem?_cons_zero, List.getElem?_cons_succ, List.set_cons_zero, List.set_cons_succ, List.length_cons, List.length_nil, List.map_cons, List.map_nil, Src.pick, List.getD_cons_zero, List.getD_cons_succ, List.cons_append, List.nil_append, List.replicate, List.append_nil, true_and, and_true, Bool.not_true, Bool.not_false, if_true, if_false, Bool.false_eq_true, Bool.and_true, Bool.true_and, ok_glob, ok_if_none, ok_if_some, okE_itb, ok_comp, okT_cons, okT_nil, okT_next, okT_ret, ok_asg, ok_ret, ok_if, ok_ex, ok_pass, ok_sbrk, ok_scont, ok_augS, okE_ok, okE_bind, ok_var, ok_non, ok_bl, ok_int, ok_str, ok_ty, ok_bin, ok_neg, ok_not, ok_and, ok_or, ok_ite, ok_cmp, ok_cmp2, ok_ix, ok_sl, ok_lst, ok_tup, ok_bi, ok_call, ok_es_nil, ok_es_cons, ok_o_none, ok_o_some, ok_t_name, ok_t_tup, ok_t_sub, ok_ts_nil, ok_ts_cons, ok_i_e, ok_i_range1, ok_i_range2, ok_i_enum, ok_for, ok_while, ifD_bl, ifB_true, ifB_false, planD_some, b_mulI, b_divI, b_modI, b_powI, b_addS, b_addT, rng1_int])
local macro_rules | `(tactic| walk_at "mi_evo") => `(tactic| simp -dsimp only [p0_is_name, p0_is_whole, p0_is_between, p0_is_number, p0_are_moments, p0_is_under, p0_is_leave, p0_lies_within, p1_lies_within, p0__law_urn, p0__law_lot, p0__law_named, p0__law_leaf, p0__law_about, p0__law_due, p0__law_right, g_MOST_LETTERS, g_GREATEST, g_LAST_MOMENT, g_MOST_PASSES, g_SMALL, g_KINDS_OF_DEEDS, ↓ok_glob, ↓ok_if_none, ↓ok_if_some, ↓okE_itb, ↓ok_comp, ↓okT_nil, ↓okT_next, ↓okT_ret, ↓ok_asg, ↓ok_ret, ↓ok_if, ↓ok_ex, ↓ok_pass, ↓ok_sbrk, ↓ok_scont, ↓ok_augS, ↓okE_ok, ↓okE_bind, ↓ok_var, ↓ok_non, ↓ok_bl, ↓ok_int, ↓ok_str, ↓ok_ty, ↓ok_bin, ↓ok_neg, ↓ok_not, ↓ok_and, ↓ok_or, ↓ok_ite, ↓ok_cmp, ↓ok_cmp2, ↓ok_ix, ↓ok_sl, ↓ok_lst, ↓ok_tup, ↓ok_bi, ↓ok_call, ↓ok_es_nil, ↓ok_es_cons, ↓ok_o_none, ↓ok_o_some, ↓ok_t_name, ↓ok_t_tup, ↓ok_t_sub, ↓ok_ts_nil, ↓ok_ts_cons, ↓ok_i_e, ↓ok_i_range1, ↓ok_i_range2, ↓ok_i_enum, ↓ok_for, ↓ok_while, ↓ifD_bl, ↓ifB_true, ↓ifB_false, ↓planD_some, ↓b_mulI, ↓b_divI, ↓b_modI, ↓b_powI, ↓b_addS, ↓b_addT, ↓rng1_int, 
  Nat.zero_add, Nat.reduceAdd, boolD_bl, ivD_str, ivD_tup, ivD_cl, lenI_fix, wipeE, alloc_ok, varD_some, ctx_run, globD_some, negD_int, notD_bl, someD_int, b_addI, b_subI, a_addI, c_eqI, c_neI, c_eqS, c_neS, c_ltI, c_leI, c_gtI, c_geI, c_is, c_isN, isNon_non, isNon_int, isNon_str, isNon_tup, c_inTS, c_ninTS, c_inS, i_len, i_lenT, i_lenC, i_max, i_min, i_intB, i_isi_is, i_isi_ib, i_isi_ss, i_isi_tt, i_isi_bb, ix_t0, ix_t1, ix_t2, ix_t3, ix_t4, ix_t5, ix_t6, ix_t7, ix_t8, List.getElem?_cons_zero, List.getElem?_cons_succ, List.set_cons_zero, List.set_cons_succ, List.length_cons, List.length_nil, List.map_cons, List.map_nil, Src.pick, List.getD_cons_zero, List.getD_cons_succ, List.cons_append, List.nil_append, List.replicate, List.append_nil, true_and, and_true, Bool.not_true, Bool.not_false, if_true, if_false, Bool.false_eq_true, Bool.and_true, Bool.true_and, ok_glob, ok_if_none, ok_if_some, okE_itb, ok_comp, okT_nil, okT_next, okT_ret, ok_asg, ok_ret, ok_if, ok_ex, ok_pass, ok_sbrk, ok_scont, ok_augS, okE_ok, okE_bind, ok_var, ok_non, ok_bl, ok_int, ok_str, ok_ty, ok_bin, ok_neg, ok_not, ok_and, ok_or, ok_ite, ok_cmp, ok_cmp2, ok_ix, ok_sl, ok_lst, ok_tup, ok_bi, ok_call, ok_es_nil, ok_es_cons, ok_o_none, ok_o_some, ok_t_name, ok_t_tup, ok_t_sub, ok_ts_nil, ok_ts_cons, ok_i_e, ok_i_range1, ok_i_range2, ok_i_enum, ok_for, ok_while, ifD_bl, ifB_true, ifB_false, planD_some, b_mulI, b_divI, b_modI, b_powI, b_addS, b_addT, rng1_int])
local macro_rules | `(tactic| walk_at "mi_go") => `(tactic| (rw [okT_cons]; walk_at "mi_evo"; try walk_at "mi_nrm"))
local macro_rules | `(tactic| walk_at "mi_ent") => `(tactic| simp -dsimp only [List.map_cons, List.map_nil, List.length_cons, List.length_nil, Nat.zero_add, Nat.reduceAdd, Nat.reduceSub, List.replicate, List.cons_append, List.nil_append, List.append_nil])
local macro_rules | `(tactic| walk_at "mi_dd") => `(tactic| first | (refine ifB_t (decide_eq_true (by omega)) ?_) | (refine ifB_f (decide_eq_false (by omega)) ?_))
variable {k : Nat} {st : Sto} {Q : D → Sto → Prop} {u n : Nat}
theorem s_lot (m : Int) (hu : Urn st u n) (hm : 0 < m) (hm2 : m ≤ 10 ^ 18) (hn : n ≤ 1000000) (h : ∀ r st', 0 ≤ r → r < m → Urn st' u (n + 1) → Fr u st st' → Q (.int r) st') : okE (callF P (k + 1) "_law_lot" [.ref u, .int m] st) Q := by
  obtain ⟨a, b, c, h1, h2, h3, h4, h5⟩ := hu
  have hlt := (List.getElem?_eq_some_iff.mp h1).1
  refine ok_callF l__law_lot ?_
  simp -dsimp only [f__law_lot, b__law_lot]
  walk_at "mi_nrm"
  rw [okT_cons]
  simp -dsimp only [ix_r0 h1, ↓ok_glob, ↓ok_if_none, ↓ok_if_some, ↓okE_itb, ↓ok_comp, ↓okT_nil, ↓okT_next, ↓okT_ret, ↓ok_asg, ↓ok_ret, ↓ok_if, ↓ok_ex, ↓ok_pass, ↓ok_sbrk, ↓ok_scont, ↓ok_augS, ↓okE_ok, ↓okE_bind, ↓ok_var, ↓ok_non, ↓ok_bl, ↓ok_int, ↓ok_str, ↓ok_ty, ↓ok_bin, ↓ok_neg, ↓ok_not, ↓ok_and, ↓ok_or, ↓ok_ite, ↓ok_cmp, ↓ok_cmp2, ↓ok_ix, ↓ok_sl, ↓ok_lst, ↓ok_tup, ↓ok_bi, ↓ok_call, ↓ok_es_nil, ↓ok_es_cons, ↓ok_o_none, ↓ok_o_some, ↓ok_t_name, ↓ok_t_tup, ↓ok_t_sub, ↓ok_ts_nil, ↓ok_ts_cons, ↓ok_i_e, ↓ok_i_range1, ↓ok_i_range2, ↓ok_i_enum, ↓ok_for, ↓ok_while, ↓ifD_bl, ↓ifB_true, ↓ifB_false, ↓planD_some, ↓b_mulI, ↓b_divI, ↓b_modI, ↓b_powI, ↓b_addS, ↓b_addT, ↓rng1_int, 
  Nat.zero_add, Nat.reduceAdd, boolD_bl, ivD_str, ivD_tup, ivD_cl, lenI_fix, wipeE, alloc_ok, varD_some, ctx_run, globD_some, negD_int, notD_bl, someD_int, b_addI, b_subI, a_addI, c_eqI, c_neI, c_eqS, c_neS, c_ltI, c_leI, c_gtI, c_geI, c_is, c_isN, isNon_non, isNon_int, isNon_str, isNon_tup, c_inTS, c_ninTS, c_inS, i_len, i_lenT, i_lenC, i_max, i_min, i_intB, i_isi_is, i_isi_ib, i_isi_ss, i_isi_tt, i_isi_bb, ix_t0, ix_t1, ix_t2, ix_t3, ix_t4, ix_t5, ix_t6, ix_t7, ix_t8, List.getElem?_cons_zero, List.getElem?_cons_succ, List.set_cons_zero, List.set_cons_succ, List.length_cons, List.length_nil, List.map_cons, List.map_nil, Src.pick, List.getD_cons_zero, List.getD_cons_succ, List.cons_append, List.nil_append, List.replicate, List.append_nil, true_and, and_true, Bool.not_true, Bool.not_false, if_true, if_false, Bool.false_eq_true, Bool.and_true, Bool.true_and, ok_glob, ok_if_none, ok_if_some, okE_itb, ok_comp, okT_nil, okT_next, okT_ret, ok_asg, ok_ret, ok_if, ok_ex, ok_pass, ok_sbrk, ok_scont, ok_augS, okE_ok, okE_bind, ok_var, ok_non, ok_bl, ok_int, ok_str, ok_ty, ok_bin, ok_neg, ok_not, ok_and, ok_or, ok_ite, ok_cmp, ok_cmp2, ok_ix, ok_sl, ok_lst, ok_tup, ok_bi, ok_call, ok_es_nil, ok_es_cons, ok_o_none, ok_o_some, ok_t_name, ok_t_tup, ok_t_sub, ok_ts_nil, ok_ts_cons, ok_i_e, ok_i_range1, ok_i_range2, ok_i_enum, ok_for, ok_while, ifD_bl, ifB_true, ifB_false, planD_some, b_mulI, b_divI, b_modI, b_powI, b_addS, b_addT, rng1_int]
  refine ifB_by (fun q => ?_) (fun q => ?_)
  · rw [okT_cons]
    simp -dsimp only [ix_r0 h1, ↓ok_glob, ↓ok_if_none, ↓ok_if_some, ↓okE_itb, ↓ok_comp, ↓okT_nil, ↓okT_next, ↓okT_ret, ↓ok_asg, ↓ok_ret, ↓ok_if, ↓ok_ex, ↓ok_pass, ↓ok_sbrk, ↓ok_scont, ↓ok_augS, ↓okE_ok, ↓okE_bind, ↓ok_var, ↓ok_non, ↓ok_bl, ↓ok_int, ↓ok_str, ↓ok_ty, ↓ok_bin, ↓ok_neg, ↓ok_not, ↓ok_and, ↓ok_or, ↓ok_ite, ↓ok_cmp, ↓ok_cmp2, ↓ok_ix, ↓ok_sl, ↓ok_lst, ↓ok_tup, ↓ok_bi, ↓ok_call, ↓ok_es_nil, ↓ok_es_cons, ↓ok_o_none, ↓ok_o_some, ↓ok_t_name, ↓ok_t_tup, ↓ok_t_sub, ↓ok_ts_nil, ↓ok_ts_cons, ↓ok_i_e, ↓ok_i_range1, ↓ok_i_range2, ↓ok_i_enum, ↓ok_for, ↓ok_while, ↓ifD_bl, ↓ifB_true, ↓ifB_false, ↓planD_some, ↓b_mulI, ↓b_divI, ↓b_modI, ↓b_powI, ↓b_addS, ↓b_addT, ↓rng1_int, 
  Nat.zero_add, Nat.reduceAdd, boolD_bl, ivD_str, ivD_tup, ivD_cl, lenI_fix, wipeE, alloc_ok, varD_some, ctx_run, globD_some, negD_int, notD_bl, someD_int, b_addI, b_subI, a_addI, c_eqI, c_neI, c_eqS, c_neS, c_ltI, c_leI, c_gtI, c_geI, c_is, c_isN, isNon_non, isNon_int, isNon_str, isNon_tup, c_inTS, c_ninTS, c_inS, i_len, i_lenT, i_lenC, i_max, i_min, i_intB, i_isi_is, i_isi_ib, i_isi_ss, i_isi_tt, i_isi_bb, ix_t0, ix_t1, ix_t2, ix_t3, ix_t4, ix_t5, ix_t6, ix_t7, ix_t8, List.getElem?_cons_zero, List.getElem?_cons_succ, List.set_cons_zero, List.set_cons_succ, List.length_cons, List.length_nil, List.map_cons, List.map_nil, Src.pick, List.getD_cons_zero, List.getD_cons_succ, List.cons_append, List.nil_append, List.replicate, List.append_nil, true_and, and_true, Bool.not_true, Bool.not_false, if_true, if_false, Bool.false_eq_true, Bool.and_true, Bool.true_and, ok_glob, ok_if_none, ok_if_some, okE_itb, ok_comp, okT_nil, okT_next, okT_ret, ok_asg, ok_ret, ok_if, ok_ex, ok_pass, ok_sbrk, ok_scont, ok_augS, okE_ok, okE_bind, ok_var, ok_non, ok_bl, ok_int, ok_str, ok_ty, ok_bin, ok_neg, ok_not, ok_and, ok_or, ok_ite, ok_cmp, ok_cmp2, ok_ix, ok_sl, ok_lst, ok_tup, ok_bi, ok_call, ok_es_nil, ok_es_cons, ok_o_none, ok_o_some, ok_t_name, ok_t_tup, ok_t_sub, ok_ts_nil, ok_ts_cons, ok_i_e, ok_i_range1, ok_i_range2, ok_i_enum, ok_for, ok_while, ifD_bl, ifB_true, ifB_false, planD_some, b_mulI, b_divI, b_modI, b_powI, b_addS, b_addT, rng1_int]
    refine ⟨hm, ?_⟩
    try walk_at "mi_nrm"
    rw [okT_cons]
    simp -dsimp only [ix_r0 h1, ↓ok_glob, ↓ok_if_none, ↓ok_if_some, ↓okE_itb, ↓ok_comp, ↓okT_nil, ↓okT_next, ↓okT_ret, ↓ok_asg, ↓ok_ret, ↓ok_if, ↓ok_ex, ↓ok_pass, ↓ok_sbrk, ↓ok_scont, ↓ok_augS, ↓okE_ok, ↓okE_bind, ↓ok_var, ↓ok_non, ↓ok_bl, ↓ok_int, ↓ok_str, ↓ok_ty, ↓ok_bin, ↓ok_neg, ↓ok_not, ↓ok_and, ↓ok_or, ↓ok_ite, ↓ok_cmp, ↓ok_cmp2, ↓ok_ix, ↓ok_sl, ↓ok_lst, ↓ok_tup, ↓ok_bi, ↓ok_call, ↓ok_es_nil, ↓ok_es_cons, ↓ok_o_none, ↓ok_o_some, ↓ok_t_name, ↓ok_t_tup, ↓ok_t_sub, ↓ok_ts_nil, ↓ok_ts_cons, ↓ok_i_e, ↓ok_i_range1, ↓ok_i_range2, ↓ok_i_enum, ↓ok_for, ↓ok_while, ↓ifD_bl, ↓ifB_true, ↓ifB_false, ↓planD_some, ↓b_mulI, ↓b_divI, ↓b_modI, ↓b_powI, ↓b_addS, ↓b_addT, ↓rng1_int, 
  Nat.zero_add, Nat.reduceAdd, boolD_bl, ivD_str, ivD_tup, ivD_cl, lenI_fix, wipeE, alloc_ok, varD_some, ctx_run, globD_some, negD_int, notD_bl, someD_int, b_addI, b_subI, a_addI, c_eqI, c_neI, c_eqS, c_neS, c_ltI, c_leI, c_gtI, c_geI, c_is, c_isN, isNon_non, isNon_int, isNon_str, isNon_tup, c_inTS, c_ninTS, c_inS, i_len, i_lenT, i_lenC, i_max, i_min, i_intB, i_isi_is, i_isi_ib, i_isi_ss, i_isi_tt, i_isi_bb, ix_t0, ix_t1, ix_t2, ix_t3, ix_t4, ix_t5, ix_t6, ix_t7, ix_t8, List.getElem?_cons_zero, List.getElem?_cons_succ, List.set_cons_zero, List.set_cons_succ, List.length_cons, List.length_nil, List.map_cons, List.map_nil, Src.pick, List.getD_cons_zero, List.getD_cons_succ, List.cons_append, List.nil_append, List.replicate, List.append_nil, true_and, and_true, Bool.not_true, Bool.not_false, if_true, if_false, Bool.false_eq_true, Bool.and_true, Bool.true_and, ok_glob, ok_if_none, ok_if_some, okE_itb, ok_comp, okT_nil, okT_next, okT_ret, ok_asg, ok_ret, ok_if, ok_ex, ok_pass, ok_sbrk, ok_scont, ok_augS, okE_ok, okE_bind, ok_var, ok_non, ok_bl, ok_int, ok_str, ok_ty, ok_bin, ok_neg, ok_not, ok_and, ok_or, ok_ite, ok_cmp, ok_cmp2, ok_ix, ok_sl, ok_lst, ok_tup, ok_bi, ok_call, ok_es_nil, ok_es_cons, ok_o_none, ok_o_some, ok_t_name, ok_t_tup, ok_t_sub, ok_ts_nil, ok_ts_cons, ok_i_e, ok_i_range1, ok_i_range2, ok_i_enum, ok_for, ok_while, ifD_bl, ifB_true, ifB_false, planD_some, b_mulI, b_divI, b_modI, b_powI, b_addS, b_addT, rng1_int]
    refine ⟨⟨hm, ?_⟩, ?_⟩
    · exact Nat.lt_trans (log_lt (k := 64) (by decide) (by omega)) (by decide)
    · simp -dsimp only [set_r0 h1, ↓ok_glob, ↓ok_if_none, ↓ok_if_some, ↓okE_itb, ↓ok_comp, ↓okT_nil, ↓okT_next, ↓okT_ret, ↓ok_asg, ↓ok_ret, ↓ok_if, ↓ok_ex, ↓ok_pass, ↓ok_sbrk, ↓ok_scont, ↓ok_augS, ↓okE_ok, ↓okE_bind, ↓ok_var, ↓ok_non, ↓ok_bl, ↓ok_int, ↓ok_str, ↓ok_ty, ↓ok_bin, ↓ok_neg, ↓ok_not, ↓ok_and, ↓ok_or, ↓ok_ite, ↓ok_cmp, ↓ok_cmp2, ↓ok_ix, ↓ok_sl, ↓ok_lst, ↓ok_tup, ↓ok_bi, ↓ok_call, ↓ok_es_nil, ↓ok_es_cons, ↓ok_o_none, ↓ok_o_some, ↓ok_t_name, ↓ok_t_tup, ↓ok_t_sub, ↓ok_ts_nil, ↓ok_ts_cons, ↓ok_i_e, ↓ok_i_range1, ↓ok_i_range2, ↓ok_i_enum, ↓ok_for, ↓ok_while, ↓ifD_bl, ↓ifB_true, ↓ifB_false, ↓planD_some, ↓b_mulI, ↓b_divI, ↓b_modI, ↓b_powI, ↓b_addS, ↓b_addT, ↓rng1_int, 
  Nat.zero_add, Nat.reduceAdd, boolD_bl, ivD_str, ivD_tup, ivD_cl, lenI_fix, wipeE, alloc_ok, varD_some, ctx_run, globD_some, negD_int, notD_bl, someD_int, b_addI, b_subI, a_addI, c_eqI, c_neI, c_eqS, c_neS, c_ltI, c_leI, c_gtI, c_geI, c_is, c_isN, isNon_non, isNon_int, isNon_str, isNon_tup, c_inTS, c_ninTS, c_inS, i_len, i_lenT, i_lenC, i_max, i_min, i_intB, i_isi_is, i_isi_ib, i_isi_ss, i_isi_tt, i_isi_bb, ix_t0, ix_t1, ix_t2, ix_t3, ix_t4, ix_t5, ix_t6, ix_t7, ix_t8, List.getElem?_cons_zero, List.getElem?_cons_succ, List.set_cons_zero, List.set_cons_succ, List.length_cons, List.length_nil, List.map_cons, List.map_nil, Src.pick, List.getD_cons_zero, List.getD_cons_succ, List.cons_append, List.nil_append, List.replicate, List.append_nil, true_and, and_true, Bool.not_true, Bool.not_false, if_true, if_false, Bool.false_eq_true, Bool.and_true, Bool.true_and, ok_glob, ok_if_none, ok_if_some, okE_itb, ok_comp, okT_nil, okT_next, okT_ret, ok_asg, ok_ret, ok_if, ok_ex, ok_pass, ok_sbrk, ok_scont, ok_augS, okE_ok, okE_bind, ok_var, ok_non, ok_bl, ok_int, ok_str, ok_ty, ok_bin, ok_neg, ok_not, ok_and, ok_or, ok_ite, ok_cmp, ok_cmp2, ok_ix, ok_sl, ok_lst, ok_tup, ok_bi, ok_call, ok_es_nil, ok_es_cons, ok_o_none, ok_o_some, ok_t_name, ok_t_tup, ok_t_sub, ok_ts_nil, ok_ts_cons, ok_i_e, ok_i_range1, ok_i_range2, ok_i_enum, ok_for, ok_while, ifD_bl, ifB_true, ifB_false, planD_some, b_mulI, b_divI, b_modI, b_powI, b_addS, b_addT, rng1_int]
      rw [okT_cons]
      walk_at "mi_evo"
      refine h _ _ (Int.emod_nonneg _ (by omega)) (Int.emod_lt_of_pos _ hm) ⟨a / m, b, c, ?_, h2, h3, h4, by omega⟩ (.set _ _ _)
      rw [List.getElem?_set_self hlt]
  · walk_at "mi_evo"
    rw [okT_cons]
    simp -dsimp only [get_r2 h1, set_r2 h1, ↓ok_glob, ↓ok_if_none, ↓ok_if_some, ↓okE_itb, ↓ok_comp, ↓okT_nil, ↓okT_next, ↓okT_ret, ↓ok_asg, ↓ok_ret, ↓ok_if, ↓ok_ex, ↓ok_pass, ↓ok_sbrk, ↓ok_scont, ↓ok_augS, ↓okE_ok, ↓okE_bind, ↓ok_var, ↓ok_non, ↓ok_bl, ↓ok_int, ↓ok_str, ↓ok_ty, ↓ok_bin, ↓ok_neg, ↓ok_not, ↓ok_and, ↓ok_or, ↓ok_ite, ↓ok_cmp, ↓ok_cmp2, ↓ok_ix, ↓ok_sl, ↓ok_lst, ↓ok_tup, ↓ok_bi, ↓ok_call, ↓ok_es_nil, ↓ok_es_cons, ↓ok_o_none, ↓ok_o_some, ↓ok_t_name, ↓ok_t_tup, ↓ok_t_sub, ↓ok_ts_nil, ↓ok_ts_cons, ↓ok_i_e, ↓ok_i_range1, ↓ok_i_range2, ↓ok_i_enum, ↓ok_for, ↓ok_while, ↓ifD_bl, ↓ifB_true, ↓ifB_false, ↓planD_some, ↓b_mulI, ↓b_divI, ↓b_modI, ↓b_powI, ↓b_addS, ↓b_addT, ↓rng1_int, 
  Nat.zero_add, Nat.reduceAdd, boolD_bl, ivD_str, ivD_tup, ivD_cl, lenI_fix, wipeE, alloc_ok, varD_some, ctx_run, globD_some, negD_int, notD_bl, someD_int, b_addI, b_subI, a_addI, c_eqI, c_neI, c_eqS, c_neS, c_ltI, c_leI, c_gtI, c_geI, c_is, c_isN, isNon_non, isNon_int, isNon_str, isNon_tup, c_inTS, c_ninTS, c_inS, i_len, i_lenT, i_lenC, i_max, i_min, i_intB, i_isi_is, i_isi_ib, i_isi_ss, i_isi_tt, i_isi_bb, ix_t0, ix_t1, ix_t2, ix_t3, ix_t4, ix_t5, ix_t6, ix_t7, ix_t8, List.getElem?_cons_zero, List.getElem?_cons_succ, List.set_cons_zero, List.set_cons_succ, List.length_cons, List.length_nil, List.map_cons, List.map_nil, Src.pick, List.getD_cons_zero, List.getD_cons_succ, List.cons_append, List.nil_append, List.replicate, List.append_nil, true_and, and_true, Bool.not_true, Bool.not_false, if_true, if_false, Bool.false_eq_true, Bool.and_true, Bool.true_and, ok_glob, ok_if_none, ok_if_some, okE_itb, ok_comp, okT_nil, okT_next, okT_ret, ok_asg, ok_ret, ok_if, ok_ex, ok_pass, ok_sbrk, ok_scont, ok_augS, okE_ok, okE_bind, ok_var, ok_non, ok_bl, ok_int, ok_str, ok_ty, ok_bin, ok_neg, ok_not, ok_and, ok_or, ok_ite, ok_cmp, ok_cmp2, ok_ix, ok_sl, ok_lst, ok_tup, ok_bi, ok_call, ok_es_nil, ok_es_cons, ok_o_none, ok_o_some, ok_t_name, ok_t_tup, ok_t_sub, ok_ts_nil, ok_ts_cons, ok_i_e, ok_i_range1, ok_i_range2, ok_i_enum, ok_for, ok_while, ifD_bl, ifB_true, ifB_false, planD_some, b_mulI, b_divI, b_modI, b_powI, b_addS, b_addT, rng1_int]
    generalize hs : st.set u _ = st1
    have g1 : st1[u]? = some (.lst [.int a, .int b, .int (c + 1)]) := by rw [← hs, List.getElem?_set_self hlt]
    have fin : ∀ r, 0 ≤ r → r < m → Q (.int r) st1 := fun r r1 r2 => h r st1 r1 r2 ⟨a, b, c + 1, g1, h2, h3, by omega, by omega⟩ (by rw [← hs]; exact .set _ _ _)
    rw [okT_cons]
    simp -dsimp only [ix_r0 g1, ix_r1 g1, ix_r2 g1, ↓ok_glob, ↓ok_if_none, ↓ok_if_some, ↓okE_itb, ↓ok_comp, ↓okT_nil, ↓okT_next, ↓okT_ret, ↓ok_asg, ↓ok_ret, ↓ok_if, ↓ok_ex, ↓ok_pass, ↓ok_sbrk, ↓ok_scont, ↓ok_augS, ↓okE_ok, ↓okE_bind, ↓ok_var, ↓ok_non, ↓ok_bl, ↓ok_int, ↓ok_str, ↓ok_ty, ↓ok_bin, ↓ok_neg, ↓ok_not, ↓ok_and, ↓ok_or, ↓ok_ite, ↓ok_cmp, ↓ok_cmp2, ↓ok_ix, ↓ok_sl, ↓ok_lst, ↓ok_tup, ↓ok_bi, ↓ok_call, ↓ok_es_nil, ↓ok_es_cons, ↓ok_o_none, ↓ok_o_some, ↓ok_t_name, ↓ok_t_tup, ↓ok_t_sub, ↓ok_ts_nil, ↓ok_ts_cons, ↓ok_i_e, ↓ok_i_range1, ↓ok_i_range2, ↓ok_i_enum, ↓ok_for, ↓ok_while, ↓ifD_bl, ↓ifB_true, ↓ifB_false, ↓planD_some, ↓b_mulI, ↓b_divI, ↓b_modI, ↓b_powI, ↓b_addS, ↓b_addT, ↓rng1_int, 
  Nat.zero_add, Nat.reduceAdd, boolD_bl, ivD_str, ivD_tup, ivD_cl, lenI_fix, wipeE, alloc_ok, varD_some, ctx_run, globD_some, negD_int, notD_bl, someD_int, b_addI, b_subI, a_addI, c_eqI, c_neI, c_eqS, c_neS, c_ltI, c_leI, c_gtI, c_geI, c_is, c_isN, isNon_non, isNon_int, isNon_str, isNon_tup, c_inTS, c_ninTS, c_inS, i_len, i_lenT, i_lenC, i_max, i_min, i_intB, i_isi_is, i_isi_ib, i_isi_ss, i_isi_tt, i_isi_bb, ix_t0, ix_t1, ix_t2, ix_t3, ix_t4, ix_t5, ix_t6, ix_t7, ix_t8, List.getElem?_cons_zero, List.getElem?_cons_succ, List.set_cons_zero, List.set_cons_succ, List.length_cons, List.length_nil, List.map_cons, List.map_nil, Src.pick, List.getD_cons_zero, List.getD_cons_succ, List.cons_append, List.nil_append, List.replicate, List.append_nil, true_and, and_true, Bool.not_true, Bool.not_false, if_true, if_false, Bool.false_eq_true, Bool.and_true, Bool.true_and, ok_glob, ok_if_none, ok_if_some, okE_itb, ok_comp, okT_nil, okT_next, okT_ret, ok_asg, ok_ret, ok_if, ok_ex, ok_pass, ok_sbrk, ok_scont, ok_augS, okE_ok, okE_bind, ok_var, ok_non, ok_bl, ok_int, ok_str, ok_ty, ok_bin, ok_neg, ok_not, ok_and, ok_or, ok_ite, ok_cmp, ok_cmp2, ok_ix, ok_sl, ok_lst, ok_tup, ok_bi, ok_call, ok_es_nil, ok_es_cons, ok_o_none, ok_o_some, ok_t_name, ok_t_tup, ok_t_sub, ok_ts_nil, ok_ts_cons, ok_i_e, ok_i_range1, ok_i_range2, ok_i_enum, ok_for, ok_while, ifD_bl, ifB_true, ifB_false, planD_some, b_mulI, b_divI, b_modI, b_powI, b_addS, b_addT, rng1_int]
    refine ⟨mul_of (by omega) (by omega), pow_of (n := 5) (by omega) (by decide), pow_of (i := 10) (n := 38) (by decide) (by decide), by decide, ?_⟩
    generalize hv : (b + 433494437 * (c + 1)) ^ (5 : Int).toNat % ((10 : Int) ^ (38 : Int).toNat + 133) = v
    have v1 : 0 ≤ v := by rw [← hv]; exact Int.emod_nonneg _ (by decide)
    have v2 : v < 10 ^ 38 + 133 := by rw [← hv]; exact Int.emod_lt_of_pos _ (by decide)
    clear hv
    rw [okT_cons]
    simp -dsimp only [ix_r0 g1, ix_r1 g1, ix_r2 g1, ↓ok_glob, ↓ok_if_none, ↓ok_if_some, ↓okE_itb, ↓ok_comp, ↓okT_nil, ↓okT_next, ↓okT_ret, ↓ok_asg, ↓ok_ret, ↓ok_if, ↓ok_ex, ↓ok_pass, ↓ok_sbrk, ↓ok_scont, ↓ok_augS, ↓okE_ok, ↓okE_bind, ↓ok_var, ↓ok_non, ↓ok_bl, ↓ok_int, ↓ok_str, ↓ok_ty, ↓ok_bin, ↓ok_neg, ↓ok_not, ↓ok_and, ↓ok_or, ↓ok_ite, ↓ok_cmp, ↓ok_cmp2, ↓ok_ix, ↓ok_sl, ↓ok_lst, ↓ok_tup, ↓ok_bi, ↓ok_call, ↓ok_es_nil, ↓ok_es_cons, ↓ok_o_none, ↓ok_o_some, ↓ok_t_name, ↓ok_t_tup, ↓ok_t_sub, ↓ok_ts_nil, ↓ok_ts_cons, ↓ok_i_e, ↓ok_i_range1, ↓ok_i_range2, ↓ok_i_enum, ↓ok_for, ↓ok_while, ↓ifD_bl, ↓ifB_true, ↓ifB_false, ↓planD_some, ↓b_mulI, ↓b_divI, ↓b_modI, ↓b_powI, ↓b_addS, ↓b_addT, ↓rng1_int, 
  Nat.zero_add, Nat.reduceAdd, boolD_bl, ivD_str, ivD_tup, ivD_cl, lenI_fix, wipeE, alloc_ok, varD_some, ctx_run, globD_some, negD_int, notD_bl, someD_int, b_addI, b_subI, a_addI, c_eqI, c_neI, c_eqS, c_neS, c_ltI, c_leI, c_gtI, c_geI, c_is, c_isN, isNon_non, isNon_int, isNon_str, isNon_tup, c_inTS, c_ninTS, c_inS, i_len, i_lenT, i_lenC, i_max, i_min, i_intB, i_isi_is, i_isi_ib, i_isi_ss, i_isi_tt, i_isi_bb, ix_t0, ix_t1, ix_t2, ix_t3, ix_t4, ix_t5, ix_t6, ix_t7, ix_t8, List.getElem?_cons_zero, List.getElem?_cons_succ, List.set_cons_zero, List.set_cons_succ, List.length_cons, List.length_nil, List.map_cons, List.map_nil, Src.pick, List.getD_cons_zero, List.getD_cons_succ, List.cons_append, List.nil_append, List.replicate, List.append_nil, true_and, and_true, Bool.not_true, Bool.not_false, if_true, if_false, Bool.false_eq_true, Bool.and_true, Bool.true_and, ok_glob, ok_if_none, ok_if_some, okE_itb, ok_comp, okT_nil, okT_next, okT_ret, ok_asg, ok_ret, ok_if, ok_ex, ok_pass, ok_sbrk, ok_scont, ok_augS, okE_ok, okE_bind, ok_var, ok_non, ok_bl, ok_int, ok_str, ok_ty, ok_bin, ok_neg, ok_not, ok_and, ok_or, ok_ite, ok_cmp, ok_cmp2, ok_ix, ok_sl, ok_lst, ok_tup, ok_bi, ok_call, ok_es_nil, ok_es_cons, ok_o_none, ok_o_some, ok_t_name, ok_t_tup, ok_t_sub, ok_ts_nil, ok_ts_cons, ok_i_e, ok_i_range1, ok_i_range2, ok_i_enum, ok_for, ok_while, ifD_bl, ifB_true, ifB_false, planD_some, b_mulI, b_divI, b_modI, b_powI, b_addS, b_addT, rng1_int]
    have sq : (15485863 * (c + 1) * (c + 1)).natAbs < 2 ^ 100 := by
      have q1 : 15485863 * (c + 1) * (c + 1) ≤ 15485863 * 1000001 * 1000001 := Int.mul_le_mul (by omega) (by omega) (by omega) (by omega)
      have q2 : 0 ≤ 15485863 * (c + 1) * (c + 1) := Int.mul_nonneg (by omega) (by omega)
      omega
    refine ⟨mul_of (by omega) (by omega), mul_of (by omega) (by omega), pow_of (n := 3) (by omega) (by decide), pow_of (i := 10) (n := 35) (by decide) (by decide), by decide, ?_⟩
    generalize hw : (v + 15485863 * (c + 1) * (c + 1)) ^ (3 : Int).toNat % ((10 : Int) ^ (35 : Int).toNat + 69) = w
    clear hw sq
    try walk_at "mi_nrm"
    rw [okT_cons]
    simp -dsimp only [ix_r0 g1, ↓ok_glob, ↓ok_if_none, ↓ok_if_some, ↓okE_itb, ↓ok_comp, ↓okT_nil, ↓okT_next, ↓okT_ret, ↓ok_asg, ↓ok_ret, ↓ok_if, ↓ok_ex, ↓ok_pass, ↓ok_sbrk, ↓ok_scont, ↓ok_augS, ↓okE_ok, ↓okE_bind, ↓ok_var, ↓ok_non, ↓ok_bl, ↓ok_int, ↓ok_str, ↓ok_ty, ↓ok_bin, ↓ok_neg, ↓ok_not, ↓ok_and, ↓ok_or, ↓ok_ite, ↓ok_cmp, ↓ok_cmp2, ↓ok_ix, ↓ok_sl, ↓ok_lst, ↓ok_tup, ↓ok_bi, ↓ok_call, ↓ok_es_nil, ↓ok_es_cons, ↓ok_o_none, ↓ok_o_some, ↓ok_t_name, ↓ok_t_tup, ↓ok_t_sub, ↓ok_ts_nil, ↓ok_ts_cons, ↓ok_i_e, ↓ok_i_range1, ↓ok_i_range2, ↓ok_i_enum, ↓ok_for, ↓ok_while, ↓ifD_bl, ↓ifB_true, ↓ifB_false, ↓planD_some, ↓b_mulI, ↓b_divI, ↓b_modI, ↓b_powI, ↓b_addS, ↓b_addT, ↓rng1_int, 
  Nat.zero_add, Nat.reduceAdd, boolD_bl, ivD_str, ivD_tup, ivD_cl, lenI_fix, wipeE, alloc_ok, varD_some, ctx_run, globD_some, negD_int, notD_bl, someD_int, b_addI, b_subI, a_addI, c_eqI, c_neI, c_eqS, c_neS, c_ltI, c_leI, c_gtI, c_geI, c_is, c_isN, isNon_non, isNon_int, isNon_str, isNon_tup, c_inTS, c_ninTS, c_inS, i_len, i_lenT, i_lenC, i_max, i_min, i_intB, i_isi_is, i_isi_ib, i_isi_ss, i_isi_tt, i_isi_bb, ix_t0, ix_t1, ix_t2, ix_t3, ix_t4, ix_t5, ix_t6, ix_t7, ix_t8, List.getElem?_cons_zero, List.getElem?_cons_succ, List.set_cons_zero, List.set_cons_succ, List.length_cons, List.length_nil, List.map_cons, List.map_nil, Src.pick, List.getD_cons_zero, List.getD_cons_succ, List.cons_append, List.nil_append, List.replicate, List.append_nil, true_and, and_true, Bool.not_true, Bool.not_false, if_true, if_false, Bool.false_eq_true, Bool.and_true, Bool.true_and, ok_glob, ok_if_none, ok_if_some, okE_itb, ok_comp, okT_nil, okT_next, okT_ret, ok_asg, ok_ret, ok_if, ok_ex, ok_pass, ok_sbrk, ok_scont, ok_augS, okE_ok, okE_bind, ok_var, ok_non, ok_bl, ok_int, ok_str, ok_ty, ok_bin, ok_neg, ok_not, ok_and, ok_or, ok_ite, ok_cmp, ok_cmp2, ok_ix, ok_sl, ok_lst, ok_tup, ok_bi, ok_call, ok_es_nil, ok_es_cons, ok_o_none, ok_o_some, ok_t_name, ok_t_tup, ok_t_sub, ok_ts_nil, ok_ts_cons, ok_i_e, ok_i_range1, ok_i_range2, ok_i_enum, ok_for, ok_while, ifD_bl, ifB_true, ifB_false, planD_some, b_mulI, b_divI, b_modI, b_powI, b_addS, b_addT, rng1_int]
    refine ⟨⟨by decide, by decide⟩, hm, fin _ (Int.emod_nonneg _ (by omega)) (Int.emod_lt_of_pos _ hm)⟩
end K03

set_option Elab.async false
set_option linter.all false
set_option maxRecDepth 100000
set_option maxHeartbeats 2000000
namespace K03
open PySem Mi
local macro_rules | `(tactic| walk_at "mi_nrm") => `(tactic| simp -dsimp only [List.set_cons_zero, List.set_cons_succ, List.map_cons, List.map_nil, List.length_cons, List.length_nil, Nat.zero_add, Nat.reduceAdd, Nat.reduceSub, List.replicate, List.cons_append, List.nil_append, List.append_nil])
local macro_rules | `(tactic| walk_at "mi_evl") => `(tactic| simp -dsimp only [p0_is_name, p0_is_whole, p0_is_between, p0_is_number, p0_are_moments, p0_is_under, p0_is_leave, p0_lies_within, p1_lies_within, p0__law_urn, p0__law_lot, p0__law_named, p0__law_leaf, p0__law_about, p0__law_due, p0__law_right, g_MOST_LETTERS, g_GREATEST, g_LAST_MOMENT, g_MOST_PASSES, g_SMALL, g_KINDS_OF_DEEDS, ↓ok_glob, ↓ok_if_none, ↓ok_if_some, ↓okE_itb, ↓ok_comp, ↓okT_cons, ↓okT_nil, ↓okT_next, ↓okT_ret, ↓ok_asg, ↓ok_ret, ↓ok_if, ↓ok_ex, ↓ok_pass, ↓ok_sbrk, ↓ok_scont, ↓ok_augS, ↓okE_ok, ↓okE_bind, ↓ok_var, ↓ok_non, ↓ok_bl, ↓ok_int, ↓ok_str, ↓ok_ty, ↓ok_bin, ↓ok_neg, ↓ok_not, ↓ok_and, ↓ok_or, ↓ok_ite, ↓ok_cmp, ↓ok_cmp2, ↓ok_ix, ↓ok_sl, ↓ok_lst, ↓ok_tup, ↓ok_bi, ↓ok_call, ↓ok_es_nil, ↓ok_es_cons, ↓ok_o_none, ↓ok_o_some, ↓ok_t_name, ↓ok_t_tup, ↓ok_t_sub, ↓ok_ts_nil, ↓ok_ts_cons, ↓ok_i_e, ↓ok_i_range1, ↓ok_i_range2, ↓ok_i_enum, ↓ok_for, ↓ok_while, ↓ifD_bl, ↓ifB_true, ↓ifB_false, ↓planD_some, ↓b_mulI, ↓b_divI, ↓b_modI, ↓b_powI, ↓b_addS, ↓b_addT, ↓rng1_int, 
  Nat.zero_add, Nat.reduceAdd, boolD_bl, ivD_str, ivD_tup, ivD_cl, lenI_fix, wipeE, alloc_ok, varD_some, ctx_run, globD_some, negD_int, notD_bl, someD_int, b_addI, b_subI, a_addI, c_eqI, c_neI, c_eqS, c_neS, c_ltI, c_leI, c_gtI, c_geI, c_is, c_isN, isNon_non, isNon_int, isNon_str, isNon_tup, c_inTS, c_ninTS, c_inS, i_len, i_lenT, i_lenC, i_max, i_min, i_intB, i_isi_is, i_isi_ib, i_isi_ss, i_isi_tt, i_isi_bb, ix_t0, ix_t1, ix_t2, ix_t3, ix_t4, ix_t5, ix_t6, ix_t7, ix_t8, List.getElem?_cons_zero, List.getElem?_cons_succ, List.set_cons_zero, List.set_cons_succ, List.length_cons, List.length_nil, List.map_cons, List.map_nil, Src.pick, List.getD_cons_zero, List.getD_cons_succ, List.cons_append, List.nil_append, List.replicate, List.append_nil, true_and, and_true, Bool.not_true, Bool.not_false, if_true, if_false, Bool.false_eq_true, Bool.and_true, Bool.true_and, ok_glob, ok_if_none, ok_if_some, okE_itb, ok_comp, okT_cons, okT_nil, okT_next, okT_ret, ok_asg, ok_ret, ok_if, ok_ex, ok_pass, ok_sbrk, ok_scont, ok_augS, okE_ok, okE_bind, ok_var, ok_non, ok_bl, ok_int, ok_str, ok_ty, ok_bin, ok_neg, ok_not, ok_and, ok_or, ok_ite, ok_cmp, ok_cmp2, ok_ix, ok_sl, ok_lst, ok_tup, ok_bi, ok_call, ok_es_nil, ok_es_cons, ok_o_none, ok_o_some, ok_t_name, ok_t_tup, ok_t_sub, ok_ts_nil, ok_ts_cons, ok_i_e, ok_i_range1, ok_i_range2, ok_i_enum, ok_for, ok_while, ifD_bl, ifB_true, ifB_false, planD_some, b_mulI, b_divI, b_modI, b_powI, b_addS, b_addT, rng1_int])
local macro_rules | `(tactic| walk_at "mi_evo") => `(tactic| simp -dsimp only [p0_is_name, p0_is_whole, p0_is_between, p0_is_number, p0_are_moments, p0_is_under, p0_is_leave, p0_lies_within, p1_lies_within, p0__law_urn, p0__law_lot, p0__law_named, p0__law_leaf, p0__law_about, p0__law_due, p0__law_right, g_MOST_LETTERS, g_GREATEST, g_LAST_MOMENT, g_MOST_PASSES, g_SMALL, g_KINDS_OF_DEEDS, ↓ok_glob, ↓ok_if_none, ↓ok_if_some, ↓okE_itb, ↓ok_comp, ↓okT_nil, ↓okT_next, ↓okT_ret, ↓ok_asg, ↓ok_ret, ↓ok_if, ↓ok_ex, ↓ok_pass, ↓ok_sbrk, ↓ok_scont, ↓ok_augS, ↓okE_ok, ↓okE_bind, ↓ok_var, ↓ok_non, ↓ok_bl, ↓ok_int, ↓ok_str, ↓ok_ty, ↓ok_bin, ↓ok_neg, ↓ok_not, ↓ok_and, ↓ok_or, ↓ok_ite, ↓ok_cmp, ↓ok_cmp2, ↓ok_ix, ↓ok_sl, ↓ok_lst, ↓ok_tup, ↓ok_bi, ↓ok_call, ↓ok_es_nil, ↓ok_es_cons, ↓ok_o_none, ↓ok_o_some, ↓ok_t_name, ↓ok_t_tup, ↓ok_t_sub, ↓ok_ts_nil, ↓ok_ts_cons, ↓ok_i_e, ↓ok_i_range1, ↓ok_i_range2, ↓ok_i_enum, ↓ok_for, ↓ok_while, ↓ifD_bl, ↓ifB_true, ↓ifB_false, ↓planD_some, ↓b_mulI, ↓b_divI, ↓b_modI, ↓b_powI, ↓b_addS, ↓b_addT, ↓rng1_int, 
  Nat.zero_add, Nat.reduceAdd, boolD_bl, ivD_str, ivD_tup, ivD_cl, lenI_fix, wipeE, alloc_ok, varD_some, ctx_run, globD_some, negD_int, notD_bl, someD_int, b_addI, b_subI, a_addI, c_eqI, c_neI, c_eqS, c_neS, c_ltI, c_leI, c_gtI, c_geI, c_is, c_isN, isNon_non, isNon_int, isNon_str, isNon_tup, c_inTS, c_ninTS, c_inS, i_len, i_lenT, i_lenC, i_max, i_min, i_intB, i_isi_is, i_isi_ib, i_isi_ss, i_isi_tt, i_isi_bb, ix_t0, ix_t1, ix_t2, ix_t3, ix_t4, ix_t5, ix_t6, ix_t7, ix_t8, List.getElem?_cons_zero, List.getElem?_cons_succ, List.set_cons_zero, List.set_cons_succ, List.length_cons, List.length_nil, List.map_cons, List.map_nil, Src.pick, List.getD_cons_zero, List.getD_cons_succ, List.cons_append, List.nil_append, List.replicate, List.append_nil, true_and, and_true, Bool.not_true, Bool.not_false, if_true, if_false, Bool.false_eq_true, Bool.and_true, Bool.true_and, ok_glob, ok_if_none, ok_if_some, okE_itb, ok_comp, okT_nil, okT_next, okT_ret, ok_asg, ok_ret, ok_if, ok_ex, ok_pass, ok_sbrk, ok_scont, ok_augS, okE_ok, okE_bind, ok_var, ok_non, ok_bl, ok_int, ok_str, ok_ty, ok_bin, ok_neg, ok_not, ok_and, ok_or, ok_ite, ok_cmp, ok_cmp2, ok_ix, ok_sl, ok_lst, ok_tup, ok_bi, ok_call, ok_es_nil, ok_es_cons, ok_o_none, ok_o_some, ok_t_name, ok_t_tup, ok_t_sub, ok_ts_nil, ok_ts_cons, ok_i_e, ok_i_range1, ok_i_range2, ok_i_enum, ok_for, ok_while, ifD_bl, ifB_true, ifB_false, planD_some, b_mulI, b_divI, b_modI, b_powI, b_addS, b_addT, rng1_int])
local macro_rules | `(tactic| walk_at "mi_go") => `(tactic| (rw [okT_cons]; walk_at "mi_evo"; try walk_at "mi_nrm"))
local macro_rules | `(tactic| walk_at "mi_ent") => `(tactic| simp -dsimp only [List.map_cons, List.map_nil, List.length_cons, List.length_nil, Nat.zero_add, Nat.reduceAdd, Nat.reduceSub, List.replicate, List.cons_append, List.nil_append, List.append_nil])
local macro_rules | `(tactic| walk_at "mi_dd") => `(tactic| first | (refine ifB_t (decide_eq_true (by omega)) ?_) | (refine ifB_f (decide_eq_false (by omega)) ?_))
variable {k : Nat} {st : Sto} {Q : D → Sto → Prop} {u n : Nat}
theorem ix_pick {s : Sto} {n : Nat} {xs : List D} {r : Int} (h : s[n]? = some (.lst xs)) (h0 : 0 ≤ r) (h1 : r < xs.length) : ∃ d ∈ xs, ixD (.ref n) (.int r) s = .ok d s := by
  obtain ⟨i, rfl⟩ : ∃ i : Nat, r = i := ⟨r.toNat, by omega⟩
  have hi : i < xs.length := by omega
  exact ⟨xs[i], List.getElem_mem hi, ix_ref h (List.getElem?_eq_getElem hi)⟩
theorem ix_pickS {s : Sto} {x : List Nat} {r : Int} (h0 : 0 ≤ r) (h1 : r < x.length) : ∃ c ∈ x, ixD (.str x) (.int r) s = .ok (.str [c]) s := by
  obtain ⟨i, rfl⟩ : ∃ i : Nat, r = i := ⟨r.toNat, by omega⟩
  have hi : i < x.length := by omega
  refine ⟨x[i], List.getElem_mem hi, ?_⟩
  unfold ixD
  simp only [atD_nat, List.getElem?_eq_getElem hi]
theorem nl_ok {st0 : Sto} {xs : List D} (hl : xs.length ≤ 1000) (hu : Urn st u n) (hf : Fr u st0 st) (h : ∀ c s, s[c]? = some (.lst xs) → c ≠ u → Urn s u n → Fr u st0 s → Q (.ref c) s) : okE (newL xs st) Q := by
  rw [newL_ok' (sl_big (by omega))]
  exact h _ _ (get_new _ _) (Nat.ne_of_gt hu.lt) (hu.app _) (hf.trans (.app _ _ _))
theorem joinS_one : ∀ cs : List Nat, joinS [] (cs.map fun c => [c]) = cs
  | [] => rfl
  | [c] => rfl
  | c :: d :: r => by
    have ih := joinS_one (d :: r)
    rw [List.map_cons, List.map_cons] at *
    show [c] ++ ([] ++ joinS [] ([d] :: r.map fun c => [c])) = _
    rw [ih]; rfl
theorem m_join {n : Nat} {cs : List Nat} (hl : cs.length ≤ 100) (h : st[n]? = some (.lst (cs.map fun c => .str [c]))) : methB .str "join" (.str []) [.ref n] st = .ok (.str cs) st := by
  have e1 : strsOf (cs.map fun c => D.str [c]) = some (cs.map fun c => [c]) := by
    induction cs with
    | nil => rfl
    | cons c cs ih =>
      have : ∀ cs : List Nat, strsOf (cs.map fun c => D.str [c]) = some (cs.map fun c => [c]) := by
        intro cs
        induction cs with
        | nil => rfl
        | cons c cs ih => rw [List.map_cons]; unfold strsOf; rw [ih]; rfl
      exact this _
  have e2 : ((cs.map fun c => [c]).map List.length).sum = cs.length := by
    clear hl h e1
    induction cs with
    | nil => rfl
    | cons c cs ih => rw [List.map_cons, List.map_cons, List.sum_cons, ih, List.length_cons]; simp; omega
  have e3 : seqOf st (.ref n) = some (cs.map fun c => .str [c]) := by unfold seqOf lstOf; simp only [h]
  show (if mtOk .str "join" = true then joinM (.str []) [.ref n] st else .no) = _
  rw [if_pos (by decide)]
  unfold joinM
  simp only [e3, e1, joinS_one]
  rw [if_pos (by rw [e2]; simp; omega)]
  unfold Mi.okS
  rw [if_pos (sl_big (by omega))]
def someNames : List (List Nat) := [[97], [98], [97, 110, 110], [104, 97, 108, 108], [114, 111, 111, 109], [111, 102], [104, 111, 108, 100, 115], [110, 111, 110, 101], [108, 111, 111, 107], [115, 101, 116], [111, 110], [117, 110, 100, 101, 114], [122, 122, 122, 122, 122, 122, 122, 122]]
theorem some_ok : ∀ x ∈ someNames, NameOk x := by unfold NameOk; decide
theorem s_named (hu : Urn st u n) (hn : n ≤ 900000) (h : ∀ x st', NameOk x → Urn st' u (n + 12) → Fr u st st' → Q (.str x) st') : okE (callF P (k + 2) "_law_named" [.ref u] st) Q := by
  have hf : Fr u st st := .refl u st
  refine ok_callF l__law_named ?_
  simp -dsimp only [f__law_named, b__law_named]
  walk_at "mi_nrm"
  walk_at "mi_go"
  rw [okT_cons]
  walk_at "mi_evo"
  (refine nl_ok (by simp) hu hf ?_; intro c s cell cne hu hf; try walk_at "mi_evo")
  try walk_at "mi_nrm"
  rw [okT_cons]
  walk_at "mi_evo"
  (refine s_lot _ hu (by omega) (by omega) (by omega) ?_; intro r s r0 r1 hu f; replace hf := Fr.trans hf f; (try replace cell := Fr.at_ f _ _ cne cell); clear f; try walk_at "mi_evo")
  refine ifB_by (fun q => ?_) (fun q => ?_)
  · walk_at "mi_go"
    (refine s_lot _ hu (by omega) (by omega) (by omega) ?_; intro r s r0 r1 hu f; replace hf := Fr.trans hf f; (try replace cell := Fr.at_ f _ _ cne cell); clear f; try walk_at "mi_evo")
    (obtain ⟨d, hd, e⟩ := ix_pick cell r0 r1; rw [e, okE_ok]; clear e)
    obtain ⟨x, hx, rfl⟩ := List.mem_map.mp (show d ∈ someNames.map D.str from hd)
    exact h _ _ (some_ok x hx) (hu.mono (by omega)) hf
  · try walk_at "mi_evo"
    rw [okT_cons, ok_ret]
    refine ok_meth _ _ _ ?_
    walk_at "mi_evo"
    (refine s_lot _ hu (by omega) (by omega) (by omega) ?_; intro r s r0 r1 hu f; replace hf := Fr.trans hf f; (try replace cell := Fr.at_ f _ _ cne cell); clear f; try walk_at "mi_evo")
    refine ⟨⟨by omega, by omega⟩, ?_⟩
    obtain ⟨j, hj⟩ : ∃ j : Nat, 1 + r = j := ⟨(1 + r).toNat, by omega⟩
    rw [hj]
    have len : (rangeL 0 (j : Int).toNat).length = j := by simp [rangeL]
    try walk_at "mi_evo"
    rw [len]
    refine ok_loopC (fun i acc s' => ∃ cs : List Nat, acc = cs.map (fun c => D.str [c]) ∧ cs.length = i ∧ (∀ c ∈ cs, c ∈ small) ∧ Urn s' u (n + 1 + 1 + i) ∧ Fr u st s') j ?_ ?_ j 0 [] _ _ (by omega) (by omega) ⟨[], rfl, rfl, by simp, hu, hf⟩
    · rintro i acc s' hi ⟨cs, rfl, hc, hs, hu, hf⟩
      refine ⟨.int (0 + (i : Nat)), by simp [nextI, rangeL, hi], ?_⟩
      walk_at "mi_evo"
      (refine s_lot _ hu (by omega) (by omega) (by omega) ?_; intro r s r0 r1 hu f; replace hf := Fr.trans hf f; (try replace cell := Fr.at_ f _ _ cne cell); clear f; try walk_at "mi_evo")
      obtain ⟨c, hc1, e⟩ := ix_pickS (x := small) r0 r1
      show okE (ixD (.str small) _ _) _
      rw [e]
      walk_at "mi_evo"
      refine ⟨by rw [List.length_map]; exact Nat.lt_of_lt_of_le (by omega : cs.length < 100) (sl_big (by decide)), cs ++ [c], by simp, by simp [hc], ?_, hu, hf⟩
      intro c' hc'
      rcases List.mem_append.mp hc' with q | q
      · exact hs _ q
      · rw [List.mem_singleton.mp q]; exact hc1
    · rintro acc s' ⟨cs, rfl, hc, hs, hu, hf⟩
      refine ⟨by simp [nextI, rangeL], ?_⟩
      walk_at "mi_evo"
      refine ⟨(by intro cl z; cases z), ?_⟩
      show okE (methB .str "join" (.str []) _ _) _
      rw [m_join (cs := cs) (by omega) (get_new _ _)]
      exact h _ _ ⟨by omega, by omega, hs⟩ ((hu.app _).mono (by omega)) (hf.trans (.app _ _ _))
end K03

set_option Elab.async false
set_option linter.all false
set_option maxRecDepth 100000
set_option maxHeartbeats 2000000
namespace K03
open PySem Mi
local macro_rules | `(tactic| walk_at "mi_nrm") => `(tactic| simp -dsimp only [List.set_cons_zero, List.set_cons_succ, List.map_cons, List.map_nil, List.length_cons, List.length_nil, Nat.zero_add, Nat.reduceAdd, Nat.reduceSub, List.replicate, List.cons_append, List.nil_append, List.append_nil])
local macro_rules | `(tactic| walk_at "mi_evl") => `(tactic| simp -dsimp only [p0_is_name, p0_is_whole, p0_is_between, p0_is_number, p0_are_moments, p0_is_under, p0_is_leave, p0_lies_within, p1_lies_within, p0__law_urn, p0__law_lot, p0__law_named, p0__law_leaf, p0__law_about, p0__law_due, p0__law_right, g_MOST_LETTERS, g_GREATEST, g_LAST_MOMENT, g_MOST_PASSES, g_SMALL, g_KINDS_OF_DEEDS, ↓ok_glob, ↓ok_if_none, ↓ok_if_some, ↓okE_itb, ↓ok_comp, ↓okT_cons, ↓okT_nil, ↓okT_next, ↓okT_ret, ↓ok_asg, ↓ok_ret, ↓ok_if, ↓ok_ex, ↓ok_pass, ↓ok_sbrk, ↓ok_scont, ↓ok_augS, ↓okE_ok, ↓okE_bind, ↓ok_var, ↓ok_non, ↓ok_bl, ↓ok_int, ↓ok_str, ↓ok_ty, ↓ok_bin, ↓ok_neg, ↓ok_not, ↓ok_and, ↓ok_or, ↓ok_ite, ↓ok_cmp, ↓ok_cmp2, ↓ok_ix, ↓ok_sl, ↓ok_lst, ↓ok_tup, ↓ok_bi, ↓ok_call, ↓ok_es_nil, ↓ok_es_cons, ↓ok_o_none, ↓ok_o_some, ↓ok_t_name, ↓ok_t_tup, ↓ok_t_sub, ↓ok_ts_nil, ↓ok_ts_cons, ↓ok_i_e, ↓ok_i_range1, ↓ok_i_range2, ↓ok_i_enum, ↓ok_for, ↓ok_while, ↓ifD_bl, ↓ifB_true, ↓ifB_false, ↓planD_some, ↓b_mulI, ↓b_divI, ↓b_modI, ↓b_powI, ↓b_addS, ↓b_addT, ↓rng1_int, 
  Nat.zero_add, Nat.reduceAdd, boolD_bl, ivD_str, ivD_tup, ivD_cl, lenI_fix, wipeE, alloc_ok, varD_some, ctx_run, globD_some, negD_int, notD_bl, someD_int, b_addI, b_subI, a_addI, c_eqI, c_neI, c_eqS, c_neS, c_ltI, c_leI, c_gtI, c_geI, c_is, c_isN, isNon_non, isNon_int, isNon_str, isNon_tup, c_inTS, c_ninTS, c_inS, i_len, i_lenT, i_lenC, i_max, i_min, i_intB, i_isi_is, i_isi_ib, i_isi_ss, i_isi_tt, i_isi_bb, ix_t0, ix_t1, ix_t2, ix_t3, ix_t4, ix_t5, ix_t6, ix_t7, ix_t8, List.getElem?_cons_zero, List.getElem?_cons_succ, List.set_cons_zero, List.set_cons_succ, List.length_cons, List.length_nil, List.map_cons, List.map_nil, Src.pick, List.getD_cons_zero, List.getD_cons_succ, List.cons_append, List.nil_append, List.replicate, List.append_nil, true_and, and_true, Bool.not_true, Bool.not_false, if_true, if_false, Bool.false_eq_true, Bool.and_true, Bool.true_and, ok_glob, ok_if_none, ok_if_some, okE_itb, ok_comp, okT_cons, okT_nil, okT_next, okT_ret, ok_asg, ok_ret, ok_if, ok_ex, ok_pass, ok_sbrk, ok_scont, ok_augS, okE_ok, okE_bind, ok_var, ok_non, ok_bl, ok_int, ok_str, ok_ty, ok_bin, ok_neg, ok_not, ok_and, ok_or, ok_ite, ok_cmp, ok_cmp2, ok_ix, ok_sl, ok_lst, ok_tup, ok_bi, ok_call, ok_es_nil, ok_es_cons, ok_o_none, ok_o_some, ok_t_name, ok_t_tup, ok_t_sub, ok_ts_nil, ok_ts_cons, ok_i_e, ok_i_range1, ok_i_range2, ok_i_enum, ok_for, ok_while, ifD_bl, ifB_true, ifB_false, planD_some, b_mulI, b_divI, b_modI, b_powI, b_addS, b_addT, rng1_int])
local macro_rules | `(tactic| walk_at "mi_evo") => `(tactic| simp -dsimp only [p0_is_name, p0_is_whole, p0_is_between, p0_is_number, p0_are_moments, p0_is_under, p0_is_leave, p0_lies_within, p1_lies_within, p0__law_urn, p0__law_lot, p0__law_named, p0__law_leaf, p0__law_about, p0__law_due, p0__law_right, g_MOST_LETTERS, g_GREATEST, g_LAST_MOMENT, g_MOST_PASSES, g_SMALL, g_KINDS_OF_DEEDS, ↓ok_glob, ↓ok_if_none, ↓ok_if_some, ↓okE_itb, ↓ok_comp, ↓okT_nil, ↓okT_next, ↓okT_ret, ↓ok_asg, ↓ok_ret, ↓ok_if, ↓ok_ex, ↓ok_pass, ↓ok_sbrk, ↓ok_scont, ↓ok_augS, ↓okE_ok, ↓okE_bind, ↓ok_var, ↓ok_non, ↓ok_bl, ↓ok_int, ↓ok_str, ↓ok_ty, ↓ok_bin, ↓ok_neg, ↓ok_not, ↓ok_and, ↓ok_or, ↓ok_ite, ↓ok_cmp, ↓ok_cmp2, ↓ok_ix, ↓ok_sl, ↓ok_lst, ↓ok_tup, ↓ok_bi, ↓ok_call, ↓ok_es_nil, ↓ok_es_cons, ↓ok_o_none, ↓ok_o_some, ↓ok_t_name, ↓ok_t_tup, ↓ok_t_sub, ↓ok_ts_nil, ↓ok_ts_cons, ↓ok_i_e, ↓ok_i_range1, ↓ok_i_range2, ↓ok_i_enum, ↓ok_for, ↓ok_while, ↓ifD_bl, ↓ifB_true, ↓ifB_false, ↓planD_some, ↓b_mulI, ↓b_divI, ↓b_modI, ↓b_powI, ↓b_addS, ↓b_addT, ↓rng1_int, 
  Nat.zero_add, Nat.reduceAdd, boolD_bl, ivD_str, ivD_tup, ivD_cl, lenI_fix, wipeE, alloc_ok, varD_some, ctx_run, globD_some, negD_int, notD_bl, someD_int, b_addI, b_subI, a_addI, c_eqI, c_neI, c_eqS, c_neS, c_ltI, c_leI, c_gtI, c_geI, c_is, c_isN, isNon_non, isNon_int, isNon_str, isNon_tup, c_inTS, c_ninTS, c_inS, i_len, i_lenT, i_lenC, i_max, i_min, i_intB, i_isi_is, i_isi_ib, i_isi_ss, i_isi_tt, i_isi_bb, ix_t0, ix_t1, ix_t2, ix_t3, ix_t4, ix_t5, ix_t6, ix_t7, ix_t8, List.getElem?_cons_zero, List.getElem?_cons_succ, List.set_cons_zero, List.set_cons_succ, List.length_cons, List.length_nil, List.map_cons, List.map_nil, Src.pick, List.getD_cons_zero, List.getD_cons_succ, List.cons_append, List.nil_append, List.replicate, List.append_nil, true_and, and_true, Bool.not_true, Bool.not_false, if_true, if_false, Bool.false_eq_true, Bool.and_true, Bool.true_and, ok_glob, ok_if_none, ok_if_some, okE_itb, ok_comp, okT_nil, okT_next, okT_ret, ok_asg, ok_ret, ok_if, ok_ex, ok_pass, ok_sbrk, ok_scont, ok_augS, okE_ok, okE_bind, ok_var, ok_non, ok_bl, ok_int, ok_str, ok_ty, ok_bin, ok_neg, ok_not, ok_and, ok_or, ok_ite, ok_cmp, ok_cmp2, ok_ix, ok_sl, ok_lst, ok_tup, ok_bi, ok_call, ok_es_nil, ok_es_cons, ok_o_none, ok_o_some, ok_t_name, ok_t_tup, ok_t_sub, ok_ts_nil, ok_ts_cons, ok_i_e, ok_i_range1, ok_i_range2, ok_i_enum, ok_for, ok_while, ifD_bl, ifB_true, ifB_false, planD_some, b_mulI, b_divI, b_modI, b_powI, b_addS, b_addT, rng1_int])
local macro_rules | `(tactic| walk_at "mi_go") => `(tactic| (rw [okT_cons]; walk_at "mi_evo"; try walk_at "mi_nrm"))
local macro_rules | `(tactic| walk_at "mi_ent") => `(tactic| simp -dsimp only [List.map_cons, List.map_nil, List.length_cons, List.length_nil, Nat.zero_add, Nat.reduceAdd, Nat.reduceSub, List.replicate, List.cons_append, List.nil_append, List.append_nil])
local macro_rules | `(tactic| walk_at "mi_dd") => `(tactic| first | (refine ifB_t (decide_eq_true (by omega)) ?_) | (refine ifB_f (decide_eq_false (by omega)) ?_))
variable {k : Nat} {st : Sto} {Q : D → Sto → Prop} {u n : Nat}
def IntIn (lo hi : Int) (d : D) : Prop := ∃ z : Int, d = .int z ∧ lo ≤ z ∧ z ≤ hi
theorem p9 : (10 : Int) ^ (9 : Int).toNat = 1000000000 := by decide
theorem p6 : (10 : Int) ^ (6 : Int).toNat = 1000000 := by decide
theorem pok (i j : Int) (h : powOk i j = true) {p : Prop} (q : p) : powOk i j = true ∧ p := ⟨h, q⟩
def AboveOk (z : Int) (d : D) : Prop := d = .non ∨ ∃ a, d = .int a ∧ 0 ≤ a ∧ a ≤ z - 1
theorem s_leaf (hu : Urn st u n) (hn : n ≤ 800000) (h : ∀ l st', LfOk l → Urn st' u (n + 100) → Fr u st st' → Q l.d st') : okE (callF P (k + 3) "_law_leaf" [.ref u] st) Q := by
  have hf : Fr u st st := .refl u st
  refine ok_callF l__law_leaf ?_
  simp -dsimp only [f__law_leaf, b__law_leaf]
  try walk_at "mi_nrm"
  rw [okT_cons]
  walk_at "mi_evo"
  (refine s_lot _ hu (by omega) (by omega) (by omega) ?_; intro r s r0 r1 hu f; replace hf := Fr.trans hf f; (try replace cell := Fr.at_ f _ _ cne cell); clear f; try walk_at "mi_evo")
  (refine pok _ _ (by decide) ?_; (try rw [p9]); try walk_at "mi_evo")
  (refine s_lot _ hu (by omega) (by omega) (by omega) ?_; intro r s r0 r1 hu f; replace hf := Fr.trans hf f; (try replace cell := Fr.at_ f _ _ cne cell); clear f; try walk_at "mi_evo")
  (refine nl_ok (by simp) hu hf ?_; intro c s cell cne hu hf; try walk_at "mi_evo")
  (refine s_lot _ hu (by omega) (by omega) (by omega) ?_; intro r s r0 r1 hu f; replace hf := Fr.trans hf f; (try replace cell := Fr.at_ f _ _ cne cell); clear f; try walk_at "mi_evo")
  (obtain ⟨d, hd, e⟩ := ix_pick cell r0 r1; rw [e, okE_ok]; clear e)
  obtain ⟨z, rfl, z1, z2⟩ : IntIn 0 999999999 d := by
    simp only [List.mem_cons, List.not_mem_nil, or_false] at hd
    rcases hd with rfl | rfl | rfl | rfl | rfl <;> exact ⟨_, rfl, by omega, by omega⟩
  clear hd
  walk_at "mi_evo"
  try walk_at "mi_nrm"
  clear cell cne
  refine okT_step (fun e s => ∃ ab, e = [some (D.ref u), some (D.int z), some ab, none, none, none, none, none] ∧ AboveOk z ab ∧ Urn s u (n + 6) ∧ Fr u st s) ?_ ?_
  · walk_at "mi_evo"
    refine ifB_by (fun q => ?_) (fun q => ?_)
    · have q' : 0 < z := of_decide_eq_true q
      walk_at "mi_evo"
      (refine s_lot _ hu (by omega) (by omega) (by omega) ?_; intro r s r0 r1 hu f; replace hf := Fr.trans hf f; (try replace cell := Fr.at_ f _ _ cne cell); clear f; try walk_at "mi_evo")
      (refine nl_ok (by simp) hu hf ?_; intro c s cell cne hu hf; try walk_at "mi_evo")
      (refine s_lot _ hu (by omega) (by omega) (by omega) ?_; intro r s r0 r1 hu f; replace hf := Fr.trans hf f; (try replace cell := Fr.at_ f _ _ cne cell); clear f; try walk_at "mi_evo")
      (obtain ⟨d, hd, e⟩ := ix_pick cell r0 r1; rw [e, okE_ok]; clear e)
      walk_at "mi_evo"
      try walk_at "mi_nrm"
      refine ⟨d, rfl, ?_, hu.mono (by omega), hf⟩
      simp only [List.mem_cons, List.not_mem_nil, or_false] at hd
      rcases hd with rfl | rfl | rfl
      · exact .inl rfl
      · exact .inr ⟨_, rfl, by omega, by omega⟩
      · exact .inr ⟨_, rfl, by omega, by omega⟩
    · walk_at "mi_evo"
      try walk_at "mi_nrm"
      exact ⟨.non, rfl, .inl rfl, hu.mono (by omega), hf⟩
  · clear hu hf
    rintro _ s ⟨ab, rfl, hab, hu, hf⟩
    rw [okT_cons]
    walk_at "mi_evo"
    (refine s_named hu (by omega) ?_; intro x s hx hu f; replace hf := Fr.trans hf f; (try replace cell := Fr.at_ f _ _ cne cell); clear f; try walk_at "mi_evo")
    revert hx
    generalize x = g
    intro hg
    try walk_at "mi_nrm"
    rw [okT_cons]
    walk_at "mi_evo"
    (refine s_named hu (by omega) ?_; intro x s hx hu f; replace hf := Fr.trans hf f; (try replace cell := Fr.at_ f _ _ cne cell); clear f; try walk_at "mi_evo")
    try walk_at "mi_nrm"
    refine okT_step (fun e s => ∃ y, e = [some (D.ref u), some (D.int z), some ab, some (D.str g), some (D.str y), none, none, none] ∧ NameOk y ∧ g ≠ y ∧ Urn s u (n + 40) ∧ Fr u st s) ?_ ?_
    · walk_at "mi_evo"
      refine ifB_by (fun q => ?_) (fun q => ?_)
      · rw [okT_cons]
        walk_at "mi_evo"
        refine nl_ok (by simp) hu hf ?_
        intro c s cell cne hu hf
        walk_at "mi_evo"
        by_cases c : g = [98, 111, 98]
        · rw [decide_eq_true c]
          walk_at "mi_evo"
          rw [ix_r1 cell]
          walk_at "mi_evo"
          try walk_at "mi_nrm"
          exact ⟨_, rfl, (by unfold NameOk; decide), (by rw [c]; decide), hu.mono (by omega), hf⟩
        · rw [decide_eq_false c]
          walk_at "mi_evo"
          rw [ix_r0 cell]
          walk_at "mi_evo"
          try walk_at "mi_nrm"
          exact ⟨_, rfl, (by unfold NameOk; decide), c, hu.mono (by omega), hf⟩
      · walk_at "mi_evo"
        exact ⟨x, rfl, hx, (fun e => by rw [e] at q; simp at q), hu.mono (by omega), hf⟩
    · clear hu hf hx
      rintro _ s ⟨y, rfl, hy, hgy, hu, hf⟩
      rw [okT_cons]
      walk_at "mi_evo"
      (refine s_lot _ hu (by omega) (by omega) (by omega) ?_; intro r s r0 r1 hu f; replace hf := Fr.trans hf f; (try replace cell := Fr.at_ f _ _ cne cell); clear f; try walk_at "mi_evo")
      (refine s_lot _ hu (by omega) (by omega) (by omega) ?_; intro r s r0 r1 hu f; replace hf := Fr.trans hf f; (try replace cell := Fr.at_ f _ _ cne cell); clear f; try walk_at "mi_evo")
      (refine pok _ _ (by decide) ?_; (try rw [p6]); try walk_at "mi_evo")
      (refine s_lot _ hu (by omega) (by omega) (by omega) ?_; intro r s r0 r1 hu f; replace hf := Fr.trans hf f; (try replace cell := Fr.at_ f _ _ cne cell); clear f; try walk_at "mi_evo")
      (refine nl_ok (by simp) hu hf ?_; intro c s cell cne hu hf; try walk_at "mi_evo")
      (refine s_lot _ hu (by omega) (by omega) (by omega) ?_; intro r s r0 r1 hu f; replace hf := Fr.trans hf f; (try replace cell := Fr.at_ f _ _ cne cell); clear f; try walk_at "mi_evo")
      (obtain ⟨d, hd, e⟩ := ix_pick cell r0 r1; rw [e, okE_ok]; clear e)
      obtain ⟨b, rfl, b1, b2⟩ : IntIn 0 999999 d := by
        simp only [List.mem_cons, List.not_mem_nil, or_false] at hd
        rcases hd with rfl | rfl | rfl | rfl | rfl <;> exact ⟨_, rfl, by omega, by omega⟩
      clear hd cell cne
      walk_at "mi_evo"
      try walk_at "mi_nrm"
      rw [okT_cons]
      walk_at "mi_evo"
      (refine pok _ _ (by decide) ?_; (try rw [p6]); try walk_at "mi_evo")
      (refine pok _ _ (by decide) ?_; (try rw [p6]); try walk_at "mi_evo")
      (refine s_lot _ hu (by omega) (by omega) (by omega) ?_; intro r s r0 r1 hu f; replace hf := Fr.trans hf f; (try replace cell := Fr.at_ f _ _ cne cell); clear f; try walk_at "mi_evo")
      (refine nl_ok (by simp) hu hf ?_; intro c s cell cne hu hf; try walk_at "mi_evo")
      (refine s_lot _ hu (by omega) (by omega) (by omega) ?_; intro r s r0 r1 hu f; replace hf := Fr.trans hf f; (try replace cell := Fr.at_ f _ _ cne cell); clear f; try walk_at "mi_evo")
      (obtain ⟨d, hd, e⟩ := ix_pick cell r0 r1; rw [e, okE_ok]; clear e)
      obtain ⟨e, rfl, e1, e2⟩ : IntIn (b + 1) 1000000 d := by
        simp only [List.mem_cons, List.not_mem_nil, or_false] at hd
        rcases hd with rfl | rfl | rfl <;> exact ⟨_, rfl, by omega, by omega⟩
      clear hd cell cne
      walk_at "mi_evo"
      try walk_at "mi_nrm"
      rw [okT_cons]
      walk_at "mi_evo"
      refine ⟨sl_big (by simp), sl_big (by simp), sl_big (by simp), ?_⟩
      (refine nl_ok (by simp) hu hf ?_; intro c s cell cne hu hf; try walk_at "mi_evo")
      (refine s_lot _ hu (by omega) (by omega) (by omega) ?_; intro r s r0 r1 hu f; replace hf := Fr.trans hf f; (try replace cell := Fr.at_ f _ _ cne cell); clear f; try walk_at "mi_evo")
      (obtain ⟨d, hd, e⟩ := ix_pick cell r0 r1; rw [e, okE_ok]; clear e)
      obtain ⟨ds, hds, rfl⟩ : ∃ ds, ds ∈ kinds ∧ d = .tup (ds.map .str) := by
        simp only [List.mem_cons, List.not_mem_nil, or_false] at hd
        rcases hd with rfl | rfl | rfl
        · exact ⟨[[108, 111, 111, 107]], by decide, rfl⟩
        · exact ⟨[[115, 101, 116]], by decide, rfl⟩
        · exact ⟨[[108, 111, 111, 107], [115, 101, 116]], by decide, rfl⟩
      clear hd cell cne
      walk_at "mi_evo"
      try walk_at "mi_nrm"
      rw [okT_cons]
      walk_at "mi_evo"
      (refine s_named hu (by omega) ?_; intro x s hx hu f; replace hf := Fr.trans hf f; (try replace cell := Fr.at_ f _ _ cne cell); clear f; try walk_at "mi_evo")
      (refine s_lot _ hu (by omega) (by omega) (by omega) ?_; intro r s r0 r1 hu f; replace hf := Fr.trans hf f; (try replace cell := Fr.at_ f _ _ cne cell); clear f; try walk_at "mi_evo")
      refine ⟨sl_big (by simp), ?_⟩
      have fin := h ⟨z, x, ds, g, y, b, e, r, ab⟩ _ ⟨⟨z1, z2⟩, hx, hds, hg, hy, hgy, b1, by show b < e; omega, e2, ⟨r0, by show r ≤ 6; omega⟩, hab⟩ (hu.mono (by omega)) hf
      rw [Lf.d] at fin
      exact fin
end K03

set_option Elab.async false
set_option linter.all false
set_option maxRecDepth 100000
set_option maxHeartbeats 4000000
namespace K03
open PySem Mi
local macro_rules | `(tactic| walk_at "mi_nrm") => `(tactic| simp -dsimp only [List.set_cons_zero, List.set_cons_succ, List.map_cons, List.map_nil, List.length_cons, List.length_nil, Nat.zero_add, Nat.reduceAdd, Nat.reduceSub, List.replicate, List.cons_append, List.nil_append, List.append_nil])
local macro_rules | `(tactic| walk_at "mi_evl") => `(tactic| simp -dsimp only [p0_is_name, p0_is_whole, p0_is_between, p0_is_number, p0_are_moments, p0_is_under, p0_is_leave, p0_lies_within, p1_lies_within, p0__law_urn, p0__law_lot, p0__law_named, p0__law_leaf, p0__law_about, p0__law_due, p0__law_right, g_MOST_LETTERS, g_GREATEST, g_LAST_MOMENT, g_MOST_PASSES, g_SMALL, g_KINDS_OF_DEEDS, ↓ok_glob, ↓ok_if_none, ↓ok_if_some, ↓okE_itb, ↓ok_comp, ↓okT_cons, ↓okT_nil, ↓okT_next, ↓okT_ret, ↓ok_asg, ↓ok_ret, ↓ok_if, ↓ok_ex, ↓ok_pass, ↓ok_sbrk, ↓ok_scont, ↓ok_augS, ↓okE_ok, ↓okE_bind, ↓ok_var, ↓ok_non, ↓ok_bl, ↓ok_int, ↓ok_str, ↓ok_ty, ↓ok_bin, ↓ok_neg, ↓ok_not, ↓ok_and, ↓ok_or, ↓ok_ite, ↓ok_cmp, ↓ok_cmp2, ↓ok_ix, ↓ok_sl, ↓ok_lst, ↓ok_tup, ↓ok_bi, ↓ok_call, ↓ok_es_nil, ↓ok_es_cons, ↓ok_o_none, ↓ok_o_some, ↓ok_t_name, ↓ok_t_tup, ↓ok_t_sub, ↓ok_ts_nil, ↓ok_ts_cons, ↓ok_i_e, ↓ok_i_range1, ↓ok_i_range2, ↓ok_i_enum, ↓ok_for, ↓ok_while, ↓ifD_bl, ↓ifB_true, ↓ifB_false, ↓planD_some, ↓b_mulI, ↓b_divI, ↓b_modI, ↓b_powI, ↓b_addS, ↓b_addT, ↓rng1_int, 
  Nat.zero_add, Nat.reduceAdd, boolD_bl, ivD_str, ivD_tup, ivD_cl, lenI_fix, wipeE, alloc_ok, varD_some, ctx_run, globD_some, negD_int, notD_bl, someD_int, b_addI, b_subI, a_addI, c_eqI, c_neI, c_eqS, c_neS, c_ltI, c_leI, c_gtI, c_geI, c_is, c_isN, isNon_non, isNon_int, isNon_str, isNon_tup, c_inTS, c_ninTS, c_inS, i_len, i_lenT, i_lenC, i_max, i_min, i_intB, i_isi_is, i_isi_ib, i_isi_ss, i_isi_tt, i_isi_bb, ix_t0, ix_t1, ix_t2, ix_t3, ix_t4, ix_t5, ix_t6, ix_t7, ix_t8, List.getElem?_cons_zero, List.getElem?_cons_succ, List.set_cons_zero, List.set_cons_succ, List.length_cons, List.length_nil, List.map_cons, List.map_nil, Src.pick, List.getD_cons_zero, List.getD_cons_succ, List.cons_append, List.nil_append, List.replicate, List.append_nil, true_and, and_true, Bool.not_true, Bool.not_false, if_true, if_false, Bool.false_eq_true, Bool.and_true, Bool.true_and, ok_glob, ok_if_none, ok_if_some, okE_itb, ok_comp, okT_cons, okT_nil, okT_next, okT_ret, ok_asg, ok_ret, ok_if, ok_ex, ok_pass, ok_sbrk, ok_scont, ok_augS, okE_ok, okE_bind, ok_var, ok_non, ok_bl, ok_int, ok_str, ok_ty, ok_bin, ok_neg, ok_not, ok_and, ok_or, ok_ite, ok_cmp, ok_cmp2, ok_ix, ok_sl, ok_lst, ok_tup, ok_bi, ok_call, ok_es_nil, ok_es_cons, ok_o_none, ok_o_some, ok_t_name, ok_t_tup, ok_t_sub, ok_ts_nil, ok_ts_cons, ok_i_e, ok_i_range1, ok_i_range2, ok_i_enum, ok_for, ok_while, ifD_bl, ifB_true, ifB_false, planD_some, b_mulI, b_divI, b_modI, b_powI, b_addS, b_addT, rng1_int])
local macro_rules | `(tactic| walk_at "mi_evo") => `(tactic| simp -dsimp only [p0_is_name, p0_is_whole, p0_is_between, p0_is_number, p0_are_moments, p0_is_under, p0_is_leave, p0_lies_within, p1_lies_within, p0__law_urn, p0__law_lot, p0__law_named, p0__law_leaf, p0__law_about, p0__law_due, p0__law_right, g_MOST_LETTERS, g_GREATEST, g_LAST_MOMENT, g_MOST_PASSES, g_SMALL, g_KINDS_OF_DEEDS, ↓ok_glob, ↓ok_if_none, ↓ok_if_some, ↓okE_itb, ↓ok_comp, ↓okT_nil, ↓okT_next, ↓okT_ret, ↓ok_asg, ↓ok_ret, ↓ok_if, ↓ok_ex, ↓ok_pass, ↓ok_sbrk, ↓ok_scont, ↓ok_augS, ↓okE_ok, ↓okE_bind, ↓ok_var, ↓ok_non, ↓ok_bl, ↓ok_int, ↓ok_str, ↓ok_ty, ↓ok_bin, ↓ok_neg, ↓ok_not, ↓ok_and, ↓ok_or, ↓ok_ite, ↓ok_cmp, ↓ok_cmp2, ↓ok_ix, ↓ok_sl, ↓ok_lst, ↓ok_tup, ↓ok_bi, ↓ok_call, ↓ok_es_nil, ↓ok_es_cons, ↓ok_o_none, ↓ok_o_some, ↓ok_t_name, ↓ok_t_tup, ↓ok_t_sub, ↓ok_ts_nil, ↓ok_ts_cons, ↓ok_i_e, ↓ok_i_range1, ↓ok_i_range2, ↓ok_i_enum, ↓ok_for, ↓ok_while, ↓ifD_bl, ↓ifB_true, ↓ifB_false, ↓planD_some, ↓b_mulI, ↓b_divI, ↓b_modI, ↓b_powI, ↓b_addS, ↓b_addT, ↓rng1_int, 
  Nat.zero_add, Nat.reduceAdd, boolD_bl, ivD_str, ivD_tup, ivD_cl, lenI_fix, wipeE, alloc_ok, varD_some, ctx_run, globD_some, negD_int, notD_bl, someD_int, b_addI, b_subI, a_addI, c_eqI, c_neI, c_eqS, c_neS, c_ltI, c_leI, c_gtI, c_geI, c_is, c_isN, isNon_non, isNon_int, isNon_str, isNon_tup, c_inTS, c_ninTS, c_inS, i_len, i_lenT, i_lenC, i_max, i_min, i_intB, i_isi_is, i_isi_ib, i_isi_ss, i_isi_tt, i_isi_bb, ix_t0, ix_t1, ix_t2, ix_t3, ix_t4, ix_t5, ix_t6, ix_t7, ix_t8, List.getElem?_cons_zero, List.getElem?_cons_succ, List.set_cons_zero, List.set_cons_succ, List.length_cons, List.length_nil, List.map_cons, List.map_nil, Src.pick, List.getD_cons_zero, List.getD_cons_succ, List.cons_append, List.nil_append, List.replicate, List.append_nil, true_and, and_true, Bool.not_true, Bool.not_false, if_true, if_false, Bool.false_eq_true, Bool.and_true, Bool.true_and, ok_glob, ok_if_none, ok_if_some, okE_itb, ok_comp, okT_nil, okT_next, okT_ret, ok_asg, ok_ret, ok_if, ok_ex, ok_pass, ok_sbrk, ok_scont, ok_augS, okE_ok, okE_bind, ok_var, ok_non, ok_bl, ok_int, ok_str, ok_ty, ok_bin, ok_neg, ok_not, ok_and, ok_or, ok_ite, ok_cmp, ok_cmp2, ok_ix, ok_sl, ok_lst, ok_tup, ok_bi, ok_call, ok_es_nil, ok_es_cons, ok_o_none, ok_o_some, ok_t_name, ok_t_tup, ok_t_sub, ok_ts_nil, ok_ts_cons, ok_i_e, ok_i_range1, ok_i_range2, ok_i_enum, ok_for, ok_while, ifD_bl, ifB_true, ifB_false, planD_some, b_mulI, b_divI, b_modI, b_powI, b_addS, b_addT, rng1_int])
local macro_rules | `(tactic| walk_at "mi_go") => `(tactic| (rw [okT_cons]; walk_at "mi_evo"; try walk_at "mi_nrm"))
local macro_rules | `(tactic| walk_at "mi_ent") => `(tactic| simp -dsimp only [List.map_cons, List.map_nil, List.length_cons, List.length_nil, Nat.zero_add, Nat.reduceAdd, Nat.reduceSub, List.replicate, List.cons_append, List.nil_append, List.append_nil])
local macro_rules | `(tactic| walk_at "mi_dd") => `(tactic| first | (refine ifB_t (decide_eq_true (by omega)) ?_) | (refine ifB_f (decide_eq_false (by omega)) ?_))
variable {k : Nat} {st : Sto} {Q : D → Sto → Prop} {u n : Nat}
theorem cut8 (x : List Nat) : cut x none (some 8) = x.take 8 := by
  show (x.drop 0).take (min 8 x.length - 0) = x.take 8
  rw [List.drop_zero, Nat.sub_zero]
  by_cases h : x.length ≤ 8
  · rw [Nat.min_eq_right h, List.take_length, List.take_of_length_le h]
  · rw [Nat.min_eq_left (by omega)]
theorem sl8 (x : List Nat) : slD (.str x) none (some 8) st = .ok (.str (x.take 8)) st := by rw [← cut8]; rfl
theorem take_ok {x : List Nat} (h0 : 1 ≤ x.length) (h : ∀ c ∈ x, c ∈ small) : NameOk (x.take 8) :=
  ⟨by rw [List.length_take]; omega, by rw [List.length_take]; omega, fun c hc => h c (List.mem_of_mem_take hc)⟩
theorem NameOk.app {x : List Nat} (h : NameOk x) {c : Nat} (hc : c ∈ small) : NameOk ((x ++ [c]).take 8) :=
  take_ok (by rw [List.length_append]; have := h.1; omega) fun d hd => by
    rcases List.mem_append.mp hd with q | q
    · exact h.2.2 d q
    · rw [List.mem_singleton.mp q]; exact hc
theorem NameOk.take {x : List Nat} (h : NameOk x) : NameOk (x.take 8) := take_ok h.1 h.2.2
def AB (u n : Nat) (l : Lf) (st : Sto) (tn wy : Option D) (e : Mi.Env) (s : Sto) : Prop := ∃ (bg en more : Int) (may : List (List Nat)) (keeper room : List Nat), e = [some (.ref u), some l.d, some (.int bg), some (.int en), some (.tup (may.map .str)), some (.int more), some (.str keeper), tn, none, some (.int l.number), some (.str room), some (.tup (l.deeds.map .str)), some (.str l.giver), some (.str l.holder), some (.int l.since), some (.int l.until_), some (.int l.passes), some l.above, wy] ∧
  (0 ≤ bg ∧ bg ≤ 1000000) ∧ en ≤ 1000000 ∧ (0 ≤ more ∧ more ≤ 6) ∧ may ∈ kinds ∧ NameOk keeper ∧ NameOk room ∧ Urn s u n ∧ Fr u st s
theorem AB.mono {m : Nat} {l : Lf} {tn wy : Option D} {e : Mi.Env} {s : Sto} (h : AB u n l st tn wy e s) (q : n ≤ m) : AB u m l st tn wy e s := by
  obtain ⟨a, b, c, d, e1, f, g, h1, h2, h3, h4, h5, h6, h7, h8⟩ := h
  exact ⟨a, b, c, d, e1, f, g, h1, h2, h3, h4, h5, h6, h7.mono q, h8⟩
theorem s_about (l : Lf) (hl : LfOk l) (hu : Urn st u n) (hn : n ≤ 700000) (h : ∀ w st', LfOk w → Urn st' u (n + 1000) → Fr u st st' → Q w.d st') : okE (callF P (k + 3) "_law_about" [.ref u, l.d] st) Q := by
  have hf : Fr u st st := .refl u st
  generalize e1 : l.d = da
  refine ok_callF l__law_about ?_
  subst e1
  simp -dsimp only [f__law_about, b__law_about]
  have g1 := hl.since
  have g2 := hl.lt
  have g3 := hl.until_
  have g4 := hl.passes
  try walk_at "mi_nrm"
  rw [okT_cons]
  walk_at "mi_evo"
  rw [show slD l.d none (some 5) st = .ok (.tup [.int l.number, .str l.room, .tup (l.deeds.map .str), .str l.giver, .str l.holder]) st from (by rw [Lf.d]; rfl)]
  walk_at "mi_evo"
  try walk_at "mi_nrm"
  rw [okT_cons]
  walk_at "mi_evo"
  rw [show slD l.d (some 5) none st = .ok (.tup [.int l.since, .int l.until_, .int l.passes, l.above]) st from (by rw [Lf.d]; rfl)]
  walk_at "mi_evo"
  try walk_at "mi_nrm"
  rw [okT_cons]
  walk_at "mi_evo"
  (refine s_lot _ hu (by omega) (by omega) (by omega) ?_; intro r s r0 r1 hu f; replace hf := Fr.trans hf f; (try replace cell := Fr.at_ f _ _ cne cell); clear f; try walk_at "mi_evo")
  (refine nl_ok (by simp) hu hf ?_; intro c s cell cne hu hf; try walk_at "mi_evo")
  (refine s_lot _ hu (by omega) (by omega) (by omega) ?_; intro r s r0 r1 hu f; replace hf := Fr.trans hf f; (try replace cell := Fr.at_ f _ _ cne cell); clear f; try walk_at "mi_evo")
  (obtain ⟨d, hd, e⟩ := ix_pick cell r0 r1; rw [e, okE_ok]; clear e)
  obtain ⟨x1, rfl, x2, x3⟩ : IntIn 0 900 d := by
    simp only [List.mem_cons, List.not_mem_nil, or_false] at hd
    rcases hd with rfl | rfl | rfl | rfl <;> exact ⟨_, rfl, by omega, by omega⟩
  clear hd cell cne
  walk_at "mi_evo"
  try walk_at "mi_nrm"
  rw [okT_cons]
  walk_at "mi_evo"
  (refine pok _ _ (by decide) ?_; (try rw [p6]); try walk_at "mi_evo")
  (refine s_lot _ hu (by omega) (by omega) (by omega) ?_; intro r s r0 r1 hu f; replace hf := Fr.trans hf f; (try replace cell := Fr.at_ f _ _ cne cell); clear f; try walk_at "mi_evo")
  (refine nl_ok (by simp) hu hf ?_; intro c s cell cne hu hf; try walk_at "mi_evo")
  (refine s_lot _ hu (by omega) (by omega) (by omega) ?_; intro r s r0 r1 hu f; replace hf := Fr.trans hf f; (try replace cell := Fr.at_ f _ _ cne cell); clear f; try walk_at "mi_evo")
  (obtain ⟨d, hd, e⟩ := ix_pick cell r0 r1; rw [e, okE_ok]; clear e)
  obtain ⟨y1, rfl, y2, y3⟩ : IntIn 0 900 d := by
    simp only [List.mem_cons, List.not_mem_nil, or_false] at hd
    rcases hd with rfl | rfl | rfl | rfl <;> exact ⟨_, rfl, by omega, by omega⟩
  clear hd cell cne
  walk_at "mi_evo"
  try walk_at "mi_nrm"
  rw [okT_cons]
  walk_at "mi_evo"
  refine ⟨sl_big (by simp), ?_⟩
  (refine nl_ok (by simp) hu hf ?_; intro c s cell cne hu hf; try walk_at "mi_evo")
  (refine s_lot _ hu (by omega) (by omega) (by omega) ?_; intro r s r0 r1 hu f; replace hf := Fr.trans hf f; (try replace cell := Fr.at_ f _ _ cne cell); clear f; try walk_at "mi_evo")
  (obtain ⟨d, hd, e⟩ := ix_pick cell r0 r1; rw [e, okE_ok]; clear e)
  obtain ⟨ds, hds, rfl⟩ : ∃ ds, ds ∈ kinds ∧ d = .tup (ds.map .str) := by
    simp only [List.mem_cons, List.not_mem_nil, or_false] at hd
    rcases hd with rfl | rfl
    · exact ⟨l.deeds, hl.deeds, rfl⟩
    · exact ⟨[[108, 111, 111, 107], [115, 101, 116]], by decide, rfl⟩
  clear hd cell cne
  walk_at "mi_evo"
  try walk_at "mi_nrm"
  rw [okT_cons]
  walk_at "mi_evo"
  (refine s_lot _ hu (by omega) (by omega) (by omega) ?_; intro r s r0 r1 hu f; replace hf := Fr.trans hf f; (try replace cell := Fr.at_ f _ _ cne cell); clear f; try walk_at "mi_evo")
  (refine nl_ok (by simp) hu hf ?_; intro c s cell cne hu hf; try walk_at "mi_evo")
  (refine s_lot _ hu (by omega) (by omega) (by omega) ?_; intro r s r0 r1 hu f; replace hf := Fr.trans hf f; (try replace cell := Fr.at_ f _ _ cne cell); clear f; try walk_at "mi_evo")
  (obtain ⟨d, hd, e⟩ := ix_pick cell r0 r1; rw [e, okE_ok]; clear e)
  obtain ⟨z1, rfl, z2, z3⟩ : IntIn 0 2 d := by
    simp only [List.mem_cons, List.not_mem_nil, or_false] at hd
    rcases hd with rfl | rfl | rfl <;> exact ⟨_, rfl, by omega, by omega⟩
  clear hd cell cne
  walk_at "mi_evo"
  try walk_at "mi_nrm"
  rw [okT_cons]
  walk_at "mi_evo"
  try walk_at "mi_nrm"
  refine okT_step (fun e s => ∃ tn wy, AB u (n + 400) l st tn wy e s) ?_ ?_
  · walk_at "mi_evo"
    (refine nl_ok (by simp) hu hf ?_; intro c s cell cne hu hf; try walk_at "mi_evo")
    (refine s_lot _ hu (by omega) (by omega) (by omega) ?_; intro r s r0 r1 hu f; replace hf := Fr.trans hf f; (try replace cell := Fr.at_ f _ _ cne cell); clear f; try walk_at "mi_evo")
    (obtain ⟨d, hd, e⟩ := ix_pick cell r0 r1; rw [e, okE_ok]; clear e)
    obtain ⟨j1, rfl, j2, j3⟩ : IntIn 0 3 d := by
      simp only [List.mem_cons, List.not_mem_nil, or_false] at hd
      rcases hd with rfl | rfl | rfl | rfl | rfl <;> exact ⟨_, rfl, by omega, by omega⟩
    clear hd cell cne
    walk_at "mi_evo"
    refine ⟨⟨by omega, by omega⟩, ?_⟩
    obtain ⟨j, rfl⟩ : ∃ j : Nat, j1 = j := ⟨j1.toNat, by omega⟩
    refine ok_loop (fun i e s => ∃ tn wy, AB u (n + 20 + 100 * i) l st tn wy e s) j ?_ ?_ j 0 _ _ _ (by omega) (by simp [lenI, rangeL]) ?_
    · rintro i e s' hi ⟨tn, wy, bg, en, more, may, keeper, room, rfl, b1, b2, b3, b4, b5, b6, hu, hf⟩
      refine ⟨.int (0 + (i : Nat)), by simp [nextI, rangeL, hi], ?_⟩
      rw [okT_st, ok_t_name]
      try walk_at "mi_nrm"
      rw [okT_cons]
      walk_at "mi_evo"
      (refine s_lot _ hu (by omega) (by omega) (by omega) ?_; intro r s r0 r1 hu f; replace hf := Fr.trans hf f; (try replace cell := Fr.at_ f _ _ cne cell); clear f; try walk_at "mi_evo")
      generalize r = w
      try walk_at "mi_nrm"
      have ab : ∀ {m : Nat} {s : Sto} (bg en more : Int) (may : List (List Nat)) (keeper room : List Nat), (0 ≤ bg ∧ bg ≤ 1000000) → en ≤ 1000000 → (0 ≤ more ∧ more ≤ 6) → may ∈ kinds → NameOk keeper → NameOk room → Urn s u m → Fr u st s →
          AB u m l st (some (.int (0 + (i : Nat)))) (some (.int w)) [some (.ref u), some l.d, some (.int bg), some (.int en), some (.tup (may.map .str)), some (.int more), some (.str keeper), some (.int (0 + (i : Nat))), none, some (.int l.number), some (.str room), some (.tup (l.deeds.map .str)), some (.str l.giver), some (.str l.holder), some (.int l.since), some (.int l.until_), some (.int l.passes), some l.above, some (.int w)] s :=
        fun bg en more may keeper room a1 a2 a3 a4 a5 a6 a7 a8 => ⟨bg, en, more, may, keeper, room, rfl, a1, a2, a3, a4, a5, a6, a7, a8⟩
      refine okT_step (AB u (n + 20 + 100 * i + 1) l st (some (.int (0 + (i : Nat)))) (some (.int w))) ?_ ?_
      · walk_at "mi_evo"
        refine ifB_by (fun q => ?_) (fun q => ?_)
        · rw [okT_cons]; walk_at "mi_evo"; try walk_at "mi_nrm"
          exact ab _ _ _ _ _ _ ⟨by omega, by omega⟩ b2 b3 b4 b5 b6 hu hf
        · walk_at "mi_evo"
          exact ab _ _ _ _ _ _ b1 b2 b3 b4 b5 b6 hu hf
      clear b1 b2 b3 b4 b5 b6 hu hf
      rintro _ s ⟨bg, en, more, may, keeper, room, rfl, b1, b2, b3, b4, b5, b6, hu, hf⟩
      refine okT_step (AB u (n + 20 + 100 * i + 1) l st (some (.int (0 + (i : Nat)))) (some (.int w))) ?_ ?_
      · walk_at "mi_evo"
        refine ifB_by (fun q => ?_) (fun q => ?_)
        · rw [okT_cons]; walk_at "mi_evo"; try walk_at "mi_nrm"
          exact ab _ _ _ _ _ _ b1 (by omega) b3 b4 b5 b6 hu hf
        · walk_at "mi_evo"
          exact ab _ _ _ _ _ _ b1 b2 b3 b4 b5 b6 hu hf
      clear b1 b2 b3 b4 b5 b6 hu hf
      rintro _ s ⟨bg, en, more, may, keeper, room, rfl, b1, b2, b3, b4, b5, b6, hu, hf⟩
      refine okT_step (AB u (n + 20 + 100 * i + 2) l st (some (.int (0 + (i : Nat)))) (some (.int w))) ?_ ?_
      · walk_at "mi_evo"
        refine ifB_by (fun q => ?_) (fun q => ?_)
        · rw [okT_cons]; walk_at "mi_evo"
          refine ⟨sl_big (by simp), sl_big (by simp), ?_⟩
          (refine nl_ok (by simp) hu hf ?_; intro c s cell cne hu hf; try walk_at "mi_evo")
          (refine s_lot _ hu (by omega) (by omega) (by omega) ?_; intro r s r0 r1 hu f; replace hf := Fr.trans hf f; (try replace cell := Fr.at_ f _ _ cne cell); clear f; try walk_at "mi_evo")
          (obtain ⟨d, hd, e⟩ := ix_pick cell r0 r1; rw [e, okE_ok]; clear e)
          obtain ⟨ds, hds, rfl⟩ : ∃ ds, ds ∈ kinds ∧ d = .tup (ds.map .str) := by
            simp only [List.mem_cons, List.not_mem_nil, or_false] at hd
            rcases hd with rfl | rfl
            · exact ⟨[[108, 111, 111, 107]], by decide, rfl⟩
            · exact ⟨[[115, 101, 116]], by decide, rfl⟩
          walk_at "mi_evo"; try walk_at "mi_nrm"
          exact ab _ _ _ _ _ _ b1 b2 b3 hds b5 b6 (hu.mono (by omega)) hf
        · walk_at "mi_evo"
          exact ab _ _ _ _ _ _ b1 b2 b3 b4 b5 b6 (hu.mono (by omega)) hf
      clear b1 b2 b3 b4 b5 b6 hu hf
      rintro _ s ⟨bg, en, more, may, keeper, room, rfl, b1, b2, b3, b4, b5, b6, hu, hf⟩
      refine okT_step (AB u (n + 20 + 100 * i + 3) l st (some (.int (0 + (i : Nat)))) (some (.int w))) ?_ ?_
      · walk_at "mi_evo"
        refine ifB_by (fun q => ?_) (fun q => ?_)
        · rw [okT_cons]; walk_at "mi_evo"
          (refine s_lot _ hu (by omega) (by omega) (by omega) ?_; intro r s r0 r1 hu f; replace hf := Fr.trans hf f; (try replace cell := Fr.at_ f _ _ cne cell); clear f; try walk_at "mi_evo")
          try walk_at "mi_nrm"
          exact ab _ _ _ _ _ _ b1 b2 ⟨by split <;> omega, by split <;> omega⟩ b4 b5 b6 (hu.mono (by omega)) hf
        · walk_at "mi_evo"
          exact ab _ _ _ _ _ _ b1 b2 b3 b4 b5 b6 (hu.mono (by omega)) hf
      clear b1 b2 b3 b4 b5 b6 hu hf
      rintro _ s ⟨bg, en, more, may, keeper, room, rfl, b1, b2, b3, b4, b5, b6, hu, hf⟩
      refine okT_step (AB u (n + 20 + 100 * i + 20) l st (some (.int (0 + (i : Nat)))) (some (.int w))) ?_ ?_
      · walk_at "mi_evo"
        refine ifB_by (fun q => ?_) (fun q => ?_)
        · rw [okT_cons]; walk_at "mi_evo"
          (refine s_named hu (by omega) ?_; intro x s hx hu f; replace hf := Fr.trans hf f; (try replace cell := Fr.at_ f _ _ cne cell); clear f; try walk_at "mi_evo")
          refine ⟨sl_big (by rw [List.length_append]; have := b5.2.1; simp; omega), ?_⟩
          (refine nl_ok (by simp) hu hf ?_; intro c s cell cne hu hf; try walk_at "mi_evo")
          (refine s_lot _ hu (by omega) (by omega) (by omega) ?_; intro r s r0 r1 hu f; replace hf := Fr.trans hf f; (try replace cell := Fr.at_ f _ _ cne cell); clear f; try walk_at "mi_evo")
          (obtain ⟨d, hd, e⟩ := ix_pick cell r0 r1; rw [e, okE_ok]; clear e)
          obtain ⟨y, hy, rfl⟩ : ∃ y, NameOk (y.take 8) ∧ d = .str y := by
            simp only [List.mem_cons, List.not_mem_nil, or_false] at hd
            rcases hd with rfl | rfl | rfl
            · exact ⟨_, hl.holder.take, rfl⟩
            · exact ⟨_, hx.take, rfl⟩
            · exact ⟨_, b5.app (by decide), rfl⟩
          walk_at "mi_evo"
          rw [sl8]
          walk_at "mi_evo"; try walk_at "mi_nrm"
          exact ab _ _ _ _ _ _ b1 b2 b3 b4 hy b6 (hu.mono (by omega)) hf
        · walk_at "mi_evo"
          exact ab _ _ _ _ _ _ b1 b2 b3 b4 b5 b6 (hu.mono (by omega)) hf
      clear b1 b2 b3 b4 b5 b6 hu hf
      rintro _ s ⟨bg, en, more, may, keeper, room, rfl, b1, b2, b3, b4, b5, b6, hu, hf⟩
      refine okT_step (AB u (n + 20 + 100 * (i + 1)) l st (some (.int (0 + (i : Nat)))) (some (.int w))) ?_ ?_
      · walk_at "mi_evo"
        refine ifB_by (fun q => ?_) (fun q => ?_)
        · rw [okT_cons]; walk_at "mi_evo"
          (refine s_named hu (by omega) ?_; intro x s hx hu f; replace hf := Fr.trans hf f; (try replace cell := Fr.at_ f _ _ cne cell); clear f; try walk_at "mi_evo")
          refine ⟨sl_big (by rw [List.length_append]; have := b6.2.1; simp; omega), ?_⟩
          rw [sl8]
          walk_at "mi_evo"
          (refine nl_ok (by simp) hu hf ?_; intro c s cell cne hu hf; try walk_at "mi_evo")
          (refine s_lot _ hu (by omega) (by omega) (by omega) ?_; intro r s r0 r1 hu f; replace hf := Fr.trans hf f; (try replace cell := Fr.at_ f _ _ cne cell); clear f; try walk_at "mi_evo")
          (obtain ⟨d, hd, e⟩ := ix_pick cell r0 r1; rw [e, okE_ok]; clear e)
          obtain ⟨y, hy, rfl⟩ : ∃ y, NameOk y ∧ d = .str y := by
            simp only [List.mem_cons, List.not_mem_nil, or_false] at hd
            rcases hd with rfl | rfl
            · exact ⟨_, hx, rfl⟩
            · exact ⟨_, b6.app (by decide), rfl⟩
          walk_at "mi_evo"; try walk_at "mi_nrm"
          exact ab _ _ _ _ _ _ b1 b2 b3 b4 b5 hy (hu.mono (by omega)) hf
        · walk_at "mi_evo"
          exact ab _ _ _ _ _ _ b1 b2 b3 b4 b5 b6 (hu.mono (by omega)) hf
      intro e s q
      rw [okT_nil]
      exact ⟨_, _, q⟩
    · rintro e s ⟨tn, wy, q⟩
      exact ⟨by simp [nextI, rangeL], tn, wy, q.mono (by omega)⟩
    · exact ⟨none, none, _, _, _, _, _, _, rfl, ⟨by split <;> omega, by split <;> omega⟩, by split <;> omega, ⟨by split <;> omega, by split <;> omega⟩, hds, hl.giver, hl.room, hu.mono (by omega), hf⟩
  clear hu hf hds
  rintro _ s ⟨tn, wy, bg, en, more, may, keeper, room, rfl, b1, b2, b3, b4, b5, b6, hu, hf⟩
  refine okT_step (fun e s => ∃ own, e = [some (.ref u), some l.d, some (.int bg), some (.int en), some (.tup (may.map .str)), some (.int more), some (.str keeper), tn, some (.str own), some (.int l.number), some (.str room), some (.tup (l.deeds.map .str)), some (.str l.giver), some (.str l.holder), some (.int l.since), some (.int l.until_), some (.int l.passes), some l.above, wy] ∧ NameOk own ∧ own ≠ keeper ∧ Urn s u (n + 400) ∧ Fr u st s) ?_ ?_
  · walk_at "mi_evo"
    refine nl_ok (by simp) hu hf ?_
    intro c s cell cne hu hf
    walk_at "mi_evo"
    by_cases c : keeper = [100, 111, 114, 97]
    · rw [decide_eq_true c]
      walk_at "mi_evo"
      rw [ix_r1 cell]
      walk_at "mi_evo"
      try walk_at "mi_nrm"
      exact ⟨_, rfl, (by unfold NameOk; decide), (by rw [c]; decide), hu, hf⟩
    · rw [decide_eq_false c]
      walk_at "mi_evo"
      rw [ix_r0 cell]
      walk_at "mi_evo"
      try walk_at "mi_nrm"
      exact ⟨_, rfl, (by unfold NameOk; decide), (fun z => c z.symm), hu, hf⟩
  clear hu hf
  rintro _ s ⟨own, rfl, o1, o2, hu, hf⟩
  rw [okT_cons]
  walk_at "mi_evo"
  try walk_at "mi_nrm"
  rw [okT_cons]
  walk_at "mi_evo"
  (refine s_lot _ hu (by omega) (by omega) (by omega) ?_; intro r s r0 r1 hu f; replace hf := Fr.trans hf f; (try replace cell := Fr.at_ f _ _ cne cell); clear f; try walk_at "mi_evo")
  (refine pok _ _ (by decide) ?_; (try rw [p6]); try walk_at "mi_evo")
  (refine pok _ _ (by decide) ?_; (try rw [p6]); try walk_at "mi_evo")
  refine ⟨sl_big (by simp), ?_⟩
  generalize hE0 : (if bg + 1 > en then bg + 1 else en) = en1
  have f0 : bg + 1 ≤ en1 := by rw [← hE0]; split <;> omega
  generalize hS : (if (1000000 : Int) - 1 < bg then (1000000 : Int) - 1 else bg) = S1
  generalize hE : (if (1000000 : Int) < en1 then (1000000 : Int) else en1) = E1
  have f1 : 0 ≤ S1 := by rw [← hS]; split <;> omega
  have f2 : S1 < E1 := by rw [← hS, ← hE]; split <;> split <;> omega
  have f3 : E1 ≤ 1000000 := by rw [← hE]; split <;> omega
  have fin := h ⟨r, room, may, own, keeper, S1, E1, more, .non⟩ _ ⟨⟨r0, by show r ≤ _; omega⟩, b6, b4, o1, b5, o2, f1, f2, f3, b3, .inl rfl⟩ (hu.mono (by omega)) hf
  rw [Lf.d] at fin
  exact fin
end K03

set_option Elab.async false
set_option linter.all false
set_option maxRecDepth 100000
set_option maxHeartbeats 4000000
namespace K03
open PySem Mi
local macro_rules | `(tactic| walk_at "mi_nrm") => `(tactic| simp -dsimp only [List.set_cons_zero, List.set_cons_succ, List.map_cons, List.map_nil, List.length_cons, List.length_nil, Nat.zero_add, Nat.reduceAdd, Nat.reduceSub, List.replicate, List.cons_append, List.nil_append, List.append_nil])
local macro_rules | `(tactic| walk_at "mi_evl") => `(tactic| simp -dsimp only [p0_is_name, p0_is_whole, p0_is_between, p0_is_number, p0_are_moments, p0_is_under, p0_is_leave, p0_lies_within, p1_lies_within, p0__law_urn, p0__law_lot, p0__law_named, p0__law_leaf, p0__law_about, p0__law_due, p0__law_right, g_MOST_LETTERS, g_GREATEST, g_LAST_MOMENT, g_MOST_PASSES, g_SMALL, g_KINDS_OF_DEEDS, ↓ok_glob, ↓ok_if_none, ↓ok_if_some, ↓okE_itb, ↓ok_comp, ↓okT_cons, ↓okT_nil, ↓okT_next, ↓okT_ret, ↓ok_asg, ↓ok_ret, ↓ok_if, ↓ok_ex, ↓ok_pass, ↓ok_sbrk, ↓ok_scont, ↓ok_augS, ↓okE_ok, ↓okE_bind, ↓ok_var, ↓ok_non, ↓ok_bl, ↓ok_int, ↓ok_str, ↓ok_ty, ↓ok_bin, ↓ok_neg, ↓ok_not, ↓ok_and, ↓ok_or, ↓ok_ite, ↓ok_cmp, ↓ok_cmp2, ↓ok_ix, ↓ok_sl, ↓ok_lst, ↓ok_tup, ↓ok_bi, ↓ok_call, ↓ok_es_nil, ↓ok_es_cons, ↓ok_o_none, ↓ok_o_some, ↓ok_t_name, ↓ok_t_tup, ↓ok_t_sub, ↓ok_ts_nil, ↓ok_ts_cons, ↓ok_i_e, ↓ok_i_range1, ↓ok_i_range2, ↓ok_i_enum, ↓ok_for, ↓ok_while, ↓ifD_bl, ↓ifB_true, ↓ifB_false, ↓planD_some, ↓b_mulI, ↓b_divI, ↓b_modI, ↓b_powI, ↓b_addS, ↓b_addT, ↓rng1_int, 
  Nat.zero_add, Nat.reduceAdd, boolD_bl, ivD_str, ivD_tup, ivD_cl, lenI_fix, wipeE, alloc_ok, varD_some, ctx_run, globD_some, negD_int, notD_bl, someD_int, b_addI, b_subI, a_addI, c_eqI, c_neI, c_eqS, c_neS, c_ltI, c_leI, c_gtI, c_geI, c_is, c_isN, isNon_non, isNon_int, isNon_str, isNon_tup, c_inTS, c_ninTS, c_inS, i_len, i_lenT, i_lenC, i_max, i_min, i_intB, i_isi_is, i_isi_ib, i_isi_ss, i_isi_tt, i_isi_bb, ix_t0, ix_t1, ix_t2, ix_t3, ix_t4, ix_t5, ix_t6, ix_t7, ix_t8, List.getElem?_cons_zero, List.getElem?_cons_succ, List.set_cons_zero, List.set_cons_succ, List.length_cons, List.length_nil, List.map_cons, List.map_nil, Src.pick, List.getD_cons_zero, List.getD_cons_succ, List.cons_append, List.nil_append, List.replicate, List.append_nil, true_and, and_true, Bool.not_true, Bool.not_false, if_true, if_false, Bool.false_eq_true, Bool.and_true, Bool.true_and, ok_glob, ok_if_none, ok_if_some, okE_itb, ok_comp, okT_cons, okT_nil, okT_next, okT_ret, ok_asg, ok_ret, ok_if, ok_ex, ok_pass, ok_sbrk, ok_scont, ok_augS, okE_ok, okE_bind, ok_var, ok_non, ok_bl, ok_int, ok_str, ok_ty, ok_bin, ok_neg, ok_not, ok_and, ok_or, ok_ite, ok_cmp, ok_cmp2, ok_ix, ok_sl, ok_lst, ok_tup, ok_bi, ok_call, ok_es_nil, ok_es_cons, ok_o_none, ok_o_some, ok_t_name, ok_t_tup, ok_t_sub, ok_ts_nil, ok_ts_cons, ok_i_e, ok_i_range1, ok_i_range2, ok_i_enum, ok_for, ok_while, ifD_bl, ifB_true, ifB_false, planD_some, b_mulI, b_divI, b_modI, b_powI, b_addS, b_addT, rng1_int])
local macro_rules | `(tactic| walk_at "mi_evo") => `(tactic| simp -dsimp only [p0_is_name, p0_is_whole, p0_is_between, p0_is_number, p0_are_moments, p0_is_under, p0_is_leave, p0_lies_within, p1_lies_within, p0__law_urn, p0__law_lot, p0__law_named, p0__law_leaf, p0__law_about, p0__law_due, p0__law_right, g_MOST_LETTERS, g_GREATEST, g_LAST_MOMENT, g_MOST_PASSES, g_SMALL, g_KINDS_OF_DEEDS, ↓ok_glob, ↓ok_if_none, ↓ok_if_some, ↓okE_itb, ↓ok_comp, ↓okT_nil, ↓okT_next, ↓okT_ret, ↓ok_asg, ↓ok_ret, ↓ok_if, ↓ok_ex, ↓ok_pass, ↓ok_sbrk, ↓ok_scont, ↓ok_augS, ↓okE_ok, ↓okE_bind, ↓ok_var, ↓ok_non, ↓ok_bl, ↓ok_int, ↓ok_str, ↓ok_ty, ↓ok_bin, ↓ok_neg, ↓ok_not, ↓ok_and, ↓ok_or, ↓ok_ite, ↓ok_cmp, ↓ok_cmp2, ↓ok_ix, ↓ok_sl, ↓ok_lst, ↓ok_tup, ↓ok_bi, ↓ok_call, ↓ok_es_nil, ↓ok_es_cons, ↓ok_o_none, ↓ok_o_some, ↓ok_t_name, ↓ok_t_tup, ↓ok_t_sub, ↓ok_ts_nil, ↓ok_ts_cons, ↓ok_i_e, ↓ok_i_range1, ↓ok_i_range2, ↓ok_i_enum, ↓ok_for, ↓ok_while, ↓ifD_bl, ↓ifB_true, ↓ifB_false, ↓planD_some, ↓b_mulI, ↓b_divI, ↓b_modI, ↓b_powI, ↓b_addS, ↓b_addT, ↓rng1_int, 
  Nat.zero_add, Nat.reduceAdd, boolD_bl, ivD_str, ivD_tup, ivD_cl, lenI_fix, wipeE, alloc_ok, varD_some, ctx_run, globD_some, negD_int, notD_bl, someD_int, b_addI, b_subI, a_addI, c_eqI, c_neI, c_eqS, c_neS, c_ltI, c_leI, c_gtI, c_geI, c_is, c_isN, isNon_non, isNon_int, isNon_str, isNon_tup, c_inTS, c_ninTS, c_inS, i_len, i_lenT, i_lenC, i_max, i_min, i_intB, i_isi_is, i_isi_ib, i_isi_ss, i_isi_tt, i_isi_bb, ix_t0, ix_t1, ix_t2, ix_t3, ix_t4, ix_t5, ix_t6, ix_t7, ix_t8, List.getElem?_cons_zero, List.getElem?_cons_succ, List.set_cons_zero, List.set_cons_succ, List.length_cons, List.length_nil, List.map_cons, List.map_nil, Src.pick, List.getD_cons_zero, List.getD_cons_succ, List.cons_append, List.nil_append, List.replicate, List.append_nil, true_and, and_true, Bool.not_true, Bool.not_false, if_true, if_false, Bool.false_eq_true, Bool.and_true, Bool.true_and, ok_glob, ok_if_none, ok_if_some, okE_itb, ok_comp, okT_nil, okT_next, okT_ret, ok_asg, ok_ret, ok_if, ok_ex, ok_pass, ok_sbrk, ok_scont, ok_augS, okE_ok, okE_bind, ok_var, ok_non, ok_bl, ok_int, ok_str, ok_ty, ok_bin, ok_neg, ok_not, ok_and, ok_or, ok_ite, ok_cmp, ok_cmp2, ok_ix, ok_sl, ok_lst, ok_tup, ok_bi, ok_call, ok_es_nil, ok_es_cons, ok_o_none, ok_o_some, ok_t_name, ok_t_tup, ok_t_sub, ok_ts_nil, ok_ts_cons, ok_i_e, ok_i_range1, ok_i_range2, ok_i_enum, ok_for, ok_while, ifD_bl, ifB_true, ifB_false, planD_some, b_mulI, b_divI, b_modI, b_powI, b_addS, b_addT, rng1_int])
local macro_rules | `(tactic| walk_at "mi_go") => `(tactic| (rw [okT_cons]; walk_at "mi_evo"; try walk_at "mi_nrm"))
local macro_rules | `(tactic| walk_at "mi_ent") => `(tactic| simp -dsimp only [List.map_cons, List.map_nil, List.length_cons, List.length_nil, Nat.zero_add, Nat.reduceAdd, Nat.reduceSub, List.replicate, List.cons_append, List.nil_append, List.append_nil])
local macro_rules | `(tactic| walk_at "mi_dd") => `(tactic| first | (refine ifB_t (decide_eq_true (by omega)) ?_) | (refine ifB_f (decide_eq_false (by omega)) ?_))
variable {k : Nat} {st : Sto} {Q : D → Sto → Prop} {u n : Nat}
theorem self_not (l : Lf) (h : LfOk l) : within l l = false := by
  rw [within]
  rw [decide_eq_false (show ¬ l.holder = l.giver from fun e => h.ne e.symm)]
  simp
theorem ok_compC {item : D → Sto → R (Option D)} {xs : List D} {g : D → Option D} {c : Nat} {Q : List D → Sto → Prop} (hc : st[c]? = some (.lst xs)) (hl : xs.length ≤ sl) (hi : ∀ d ∈ xs, ∀ s, Ext st s → okE (item d s) fun o s' => Ext s s' ∧ o = g d) (h : ∀ s, Ext st s → Q (xs.filterMap g) s) :
    okE (loopC item (.cell c) (lenI st (.cell c) + 1) 0 [] st) Q := by
  have e0 : lenI st (.cell c) = xs.length := by simp only [lenI, hc]
  have nx : ∀ s i, Ext st s → nextI s i (.cell c) = some xs[i]? := fun s i e => by simp only [nextI, e.at_ _ _ hc]
  rw [e0]
  refine ok_loopC (fun i acc s => Ext st s ∧ acc = (xs.take i).filterMap g) xs.length (fun i acc s hi' ⟨h1, h2⟩ => ?_) (fun acc s ⟨h1, h2⟩ => ?_) xs.length 0 [] st _ (by omega) (by omega) ⟨.refl st, rfl⟩
  · subst h2
    refine ⟨xs[i], by rw [nx s i h1]; simp [hi'], okE_mono (hi _ (List.getElem_mem hi') s h1) ?_⟩
    rintro o s' ⟨q1, q2⟩
    have e : xs.take (i + 1) = xs.take i ++ [xs[i]] := by rw [List.take_succ_eq_append_getElem hi']
    have len : ((xs.take i).filterMap g).length ≤ i := Nat.le_trans (List.length_filterMap_le _ _) (by rw [List.length_take]; omega)
    subst q2
    cases hg : g xs[i] with
    | none => exact ⟨h1.trans q1, by rw [e, List.filterMap_append]; simp [hg]⟩
    | some x => exact ⟨by omega, h1.trans q1, by rw [e, List.filterMap_append]; simp [hg]⟩
  · subst h2
    exact ⟨by rw [nx s _ h1]; simp, by rw [List.take_length]; exact h _ h1⟩
theorem m_append {c : Nat} {xs : List D} {d : D} (h : st[c]? = some (.lst xs)) (hl : xs.length < 1000) : methB .list "append" (.ref c) [d] st = .ok .non (st.set c (.lst (xs ++ [d]))) := by
  show (if mtOk .list "append" = true then appendM (.ref c) [d] st else .no) = _
  rw [if_pos (by decide)]
  unfold appendM
  simp only [h]
  rw [if_pos (Nat.lt_of_lt_of_le hl (sl_big (by decide)))]
theorem kind_l {c : Nat} {xs : List D} (h : st[c]? = some (.lst xs)) : kindOf st (.ref c) = .list := by unfold kindOf; simp only [h]
theorem s_right (hu : Urn st u n) (hn : n ≤ 1000) (h : ∀ st', Fr u st st' → Q (.bl true) st') : okE (callF P (k + 5) "_law_right" [.ref u] st) Q := by
  have hf : Fr u st st := .refl u st
  refine ok_callF l__law_right ?_
  simp -dsimp only [f__law_right, b__law_right]
  try walk_at "mi_nrm"
  rw [okT_cons]
  walk_at "mi_evo"
  refine s_leaf hu (by omega) ?_
  intro l s hl hu f
  replace hf := hf.trans f
  clear f
  walk_at "mi_evo"
  try walk_at "mi_nrm"
  rw [okT_cons]
  walk_at "mi_evo"
  refine s_about l hl hu (by omega) ?_
  intro w s hw hu f
  replace hf := hf.trans f
  clear f
  walk_at "mi_evo"
  try walk_at "mi_nrm"
  refine okT_step (fun e s => ∃ w, LfOk w ∧ e = [some (.ref u), some l.d, some w.d, none, none, none] ∧ Urn s u (n + 3000) ∧ Fr u st s) ?_ ?_
  · walk_at "mi_evo"
    (refine s_lot _ hu (by omega) (by omega) (by omega) ?_; intro r s r0 r1 hu f; replace hf := Fr.trans hf f; (try replace cell := Fr.at_ f _ _ cne cell); clear f; try walk_at "mi_evo")
    refine ifB_by (fun q => ?_) (fun q => ?_)
    · rw [okT_cons]
      walk_at "mi_evo"
      refine s_leaf hu (by omega) ?_
      intro l s hl hu f
      walk_at "mi_evo"
      try walk_at "mi_nrm"
      exact ⟨_, hl, rfl, hu.mono (by omega), hf.trans f⟩
    · walk_at "mi_evo"
      exact ⟨_, hw, rfl, hu.mono (by omega), hf⟩
  clear hu hf hw w
  rintro _ s ⟨w, hw, rfl, hu, hf⟩
  rw [okT_cons]
  walk_at "mi_evo"
  refine s_leave l hl ?_
  (intro s f; replace hu := Urn.ext hu f; replace hf := Fr.trans hf (Ext.fr f u); (try replace cell := Ext.at_ f _ _ cell); (try replace cel2 := Ext.at_ f _ _ cel2); clear f; try walk_at "mi_evo")
  refine s_leave w hw ?_
  (intro s f; replace hu := Urn.ext hu f; replace hf := Fr.trans hf (Ext.fr f u); (try replace cell := Ext.at_ f _ _ cell); (try replace cel2 := Ext.at_ f _ _ cel2); clear f; try walk_at "mi_evo")
  rw [okT_cons]
  walk_at "mi_evo"
  refine s_due l w hl.deeds ?_
  (intro s f; replace hu := Urn.ext hu f; replace hf := Fr.trans hf (Ext.fr f u); (try replace cell := Ext.at_ f _ _ cell); (try replace cel2 := Ext.at_ f _ _ cel2); clear f; try walk_at "mi_evo")
  refine s_due w l hw.deeds ?_
  (intro s f; replace hu := Urn.ext hu f; replace hf := Fr.trans hf (Ext.fr f u); (try replace cell := Ext.at_ f _ _ cell); (try replace cel2 := Ext.at_ f _ _ cel2); clear f; try walk_at "mi_evo")
  refine nl_ok (by simp) hu hf ?_
  intro c1 s cell cne hu hf
  walk_at "mi_evo"
  try walk_at "mi_nrm"
  rw [okT_cons]
  walk_at "mi_evo"
  refine s_within l w hl.deeds ?_
  (intro s f; replace hu := Urn.ext hu f; replace hf := Fr.trans hf (Ext.fr f u); (try replace cell := Ext.at_ f _ _ cell); (try replace cel2 := Ext.at_ f _ _ cel2); clear f; try walk_at "mi_evo")
  refine s_within w l hw.deeds ?_
  (intro s f; replace hu := Urn.ext hu f; replace hf := Fr.trans hf (Ext.fr f u); (try replace cell := Ext.at_ f _ _ cell); (try replace cel2 := Ext.at_ f _ _ cel2); clear f; try walk_at "mi_evo")
  refine s_within l l hl.deeds ?_
  rw [self_not l hl]
  (intro s f; replace hu := Urn.ext hu f; replace hf := Fr.trans hf (Ext.fr f u); (try replace cell := Ext.at_ f _ _ cell); (try replace cel2 := Ext.at_ f _ _ cel2); clear f; try walk_at "mi_evo")
  rw [newL_ok' (sl_big (by simp))]
  have lc := (List.getElem?_eq_some_iff.mp cell).1
  replace cell := get_app (o := .lst [.bl (within l w), .bl (within w l), .bl false]) cell
  have cel2 := get_new s (.lst [.bl (within l w), .bl (within w l), .bl false])
  replace hu := hu.app (.lst [.bl (within l w), .bl (within w l), .bl false])
  replace hf := hf.trans (.app u _ (.lst [.bl (within l w), .bl (within w l), .bl false]))
  revert cel2
  generalize List.length s = c2
  generalize (s ++ [O.lst [.bl (within l w), .bl (within w l), .bl false]] : Sto) = s at *
  intro cel2
  walk_at "mi_evo"
  try walk_at "mi_nrm"
  rw [okT_cons]
  walk_at "mi_evo"
  refine s_within l w hl.deeds ?_
  (intro s f; replace hu := Urn.ext hu f; replace hf := Fr.trans hf (Ext.fr f u); (try replace cell := Ext.at_ f _ _ cell); (try replace cel2 := Ext.at_ f _ _ cel2); clear f; try walk_at "mi_evo")
  refine s_within w l hw.deeds ?_
  (intro s f; replace hu := Urn.ext hu f; replace hf := Fr.trans hf (Ext.fr f u); (try replace cell := Ext.at_ f _ _ cell); (try replace cel2 := Ext.at_ f _ _ cel2); clear f; try walk_at "mi_evo")
  rw [newL_ok' (sl_big (by simp))]
  have cel3 := get_new s (.lst [.bl (within l w), .bl (within w l)])
  replace cell := get_app (o := .lst [.bl (within l w), .bl (within w l)]) cell
  replace cel2 := get_app (o := .lst [.bl (within l w), .bl (within w l)]) cel2
  replace hu := hu.app (.lst [.bl (within l w), .bl (within w l)])
  replace hf := hf.trans (.app u _ (.lst [.bl (within l w), .bl (within w l)]))
  walk_at "mi_evo"
  rw [b_addL cel2 cel3 (sl_big (by simp))]
  have tl := (List.getElem?_eq_some_iff.mp cell).1
  have tu := hu.lt
  have sle := hf.le
  replace cell := get_app (o := .lst ([.bl (within l w), .bl (within w l), .bl false] ++ [.bl (within l w), .bl (within w l)])) cell
  have t := get_new (s ++ [.lst [.bl (within l w), .bl (within w l)]]) (.lst ([.bl (within l w), .bl (within w l), .bl false] ++ [.bl (within l w), .bl (within w l)]))
  replace hu := hu.app (.lst ([.bl (within l w), .bl (within w l), .bl false] ++ [.bl (within l w), .bl (within w l)]))
  replace hf := hf.trans (.app u _ (.lst ([.bl (within l w), .bl (within w l), .bl false] ++ [.bl (within l w), .bl (within w l)])))
  revert t cell hu hf tl tu sle
  clear cel2 cel3
  generalize List.length (s ++ [O.lst [D.bl (within l w), D.bl (within w l)]]) = ct
  generalize (s ++ [O.lst [D.bl (within l w), D.bl (within w l)]] ++ [O.lst ([D.bl (within l w), D.bl (within w l), D.bl false] ++ [D.bl (within l w), D.bl (within w l)])] : Sto) = s
  intro tl tu sle cell cel2 hu hf
  walk_at "mi_evo"
  try walk_at "mi_nrm"
  rw [okT_cons, ok_ex]
  refine ok_meth _ _ _ ?_
  walk_at "mi_evo"
  have k2 := kind_l cel2
  refine s_within w w hw.deeds ?_
  rw [self_not w hw]
  intro s' f
  replace hu := Urn.ext hu f
  replace hf := Fr.trans hf (Ext.fr f u)
  replace cell := Ext.at_ f _ _ cell
  replace cel2 := Ext.at_ f _ _ cel2
  walk_at "mi_evo"
  refine ⟨(by rw [k2]; intro cl z; cases z), ?_⟩
  rw [k2, m_append cel2 (by simp), okE_ok]
  have hlt := (List.getElem?_eq_some_iff.mp cel2).1
  have cell2 : (s'.set ct (O.lst ([D.bl (within l w), D.bl (within w l), D.bl false] ++ [D.bl (within l w), D.bl (within w l)] ++ [D.bl false])))[c1]? = some (O.lst [D.bl (within l w), D.bl (within w l), D.bl false]) := by
    rw [List.getElem?_set_ne (by omega)]; exact cell
  have t2 : (s'.set ct (O.lst ([D.bl (within l w), D.bl (within w l), D.bl false] ++ [D.bl (within l w), D.bl (within w l)] ++ [D.bl false])))[ct]? = some (O.lst ([D.bl (within l w), D.bl (within w l), D.bl false] ++ [D.bl (within l w), D.bl (within w l)] ++ [D.bl false])) := List.getElem?_set_self hlt
  have hf2 : Fr u st (s'.set ct (O.lst ([D.bl (within l w), D.bl (within w l), D.bl false] ++ [D.bl (within l w), D.bl (within w l)] ++ [D.bl false]))) := by
    refine ⟨by rw [List.length_set]; exact hf.le, fun i o hi ho => ?_⟩
    have := (List.getElem?_eq_some_iff.mp ho).1
    rw [List.getElem?_set_ne ?_]
    · exact hf.at_ i o hi ho
    · omega
  revert cell2 t2 hf2
  generalize (s'.set ct _ : Sto) = s3
  clear cell cel2 hu hf
  intro cell t hf
  rw [okT_cons]
  walk_at "mi_evo"
  rw [b_addL cell cell (sl_big (by simp))]
  have d2 := get_new s3 (.lst ([.bl (within l w), .bl (within w l), .bl false] ++ [.bl (within l w), .bl (within w l), .bl false]))
  replace t := get_app (o := .lst ([.bl (within l w), .bl (within w l), .bl false] ++ [.bl (within l w), .bl (within w l), .bl false])) t
  replace hf := hf.trans (.app u _ (.lst ([.bl (within l w), .bl (within w l), .bl false] ++ [.bl (within l w), .bl (within w l), .bl false])))
  walk_at "mi_evo"
  simp only [List.cons_append, List.nil_append] at d2 t hf
  rw [c_eqLB (xs := [within l w, within w l, false, within l w, within w l, false]) (ys := [within l w, within w l, false, within l w, within w l, false]) t d2]
  walk_at "mi_evo"
  refine ifB_t (by simp) ?_
  walk_at "mi_evo"
  rw [ivD_ref t]
  walk_at "mi_evo"
  refine ok_compC (g := fun _ => some (.bl true)) t (sl_big (by simp)) ?_ ?_
  · intro d hd s hs
    simp only [List.mem_cons, List.not_mem_nil, or_false] at hd
    have : ∃ b, d = .bl b := by
      rcases hd with h | h | h | h | h | h <;> exact ⟨_, h⟩
    obtain ⟨b, rfl⟩ := this
    walk_at "mi_evo"
    exact .refl _
  · intro s hs
    walk_at "mi_evo"
    rw [show (List.filterMap (fun x => some (D.bl true)) [D.bl (within l w), D.bl (within w l), D.bl false, D.bl (within l w), D.bl (within w l), D.bl false]) = [true, true, true, true, true, true].map .bl from rfl, i_all (get_new _ _)]
    exact h _ ((hf.trans (hs.fr u)).trans (.app _ _ _))
end K03

set_option Elab.async false
set_option linter.all false
set_option maxRecDepth 100000
set_option maxHeartbeats 4000000
namespace K03
open PySem Mi
local macro_rules | `(tactic| walk_at "mi_nrm") => `(tactic| simp -dsimp only [List.set_cons_zero, List.set_cons_succ, List.map_cons, List.map_nil, List.length_cons, List.length_nil, Nat.zero_add, Nat.reduceAdd, Nat.reduceSub, List.replicate, List.cons_append, List.nil_append, List.append_nil])
local macro_rules | `(tactic| walk_at "mi_evl") => `(tactic| simp -dsimp only [p0_is_name, p0_is_whole, p0_is_between, p0_is_number, p0_are_moments, p0_is_under, p0_is_leave, p0_lies_within, p1_lies_within, p0__law_urn, p0__law_lot, p0__law_named, p0__law_leaf, p0__law_about, p0__law_due, p0__law_right, g_MOST_LETTERS, g_GREATEST, g_LAST_MOMENT, g_MOST_PASSES, g_SMALL, g_KINDS_OF_DEEDS, ↓ok_glob, ↓ok_if_none, ↓ok_if_some, ↓okE_itb, ↓ok_comp, ↓okT_cons, ↓okT_nil, ↓okT_next, ↓okT_ret, ↓ok_asg, ↓ok_ret, ↓ok_if, ↓ok_ex, ↓ok_pass, ↓ok_sbrk, ↓ok_scont, ↓ok_augS, ↓okE_ok, ↓okE_bind, ↓ok_var, ↓ok_non, ↓ok_bl, ↓ok_int, ↓ok_str, ↓ok_ty, ↓ok_bin, ↓ok_neg, ↓ok_not, ↓ok_and, ↓ok_or, ↓ok_ite, ↓ok_cmp, ↓ok_cmp2, ↓ok_ix, ↓ok_sl, ↓ok_lst, ↓ok_tup, ↓ok_bi, ↓ok_call, ↓ok_es_nil, ↓ok_es_cons, ↓ok_o_none, ↓ok_o_some, ↓ok_t_name, ↓ok_t_tup, ↓ok_t_sub, ↓ok_ts_nil, ↓ok_ts_cons, ↓ok_i_e, ↓ok_i_range1, ↓ok_i_range2, ↓ok_i_enum, ↓ok_for, ↓ok_while, ↓ifD_bl, ↓ifB_true, ↓ifB_false, ↓planD_some, ↓b_mulI, ↓b_divI, ↓b_modI, ↓b_powI, ↓b_addS, ↓b_addT, ↓rng1_int, 
  Nat.zero_add, Nat.reduceAdd, boolD_bl, ivD_str, ivD_tup, ivD_cl, lenI_fix, wipeE, alloc_ok, varD_some, ctx_run, globD_some, negD_int, notD_bl, someD_int, b_addI, b_subI, a_addI, c_eqI, c_neI, c_eqS, c_neS, c_ltI, c_leI, c_gtI, c_geI, c_is, c_isN, isNon_non, isNon_int, isNon_str, isNon_tup, c_inTS, c_ninTS, c_inS, i_len, i_lenT, i_lenC, i_max, i_min, i_intB, i_isi_is, i_isi_ib, i_isi_ss, i_isi_tt, i_isi_bb, ix_t0, ix_t1, ix_t2, ix_t3, ix_t4, ix_t5, ix_t6, ix_t7, ix_t8, List.getElem?_cons_zero, List.getElem?_cons_succ, List.set_cons_zero, List.set_cons_succ, List.length_cons, List.length_nil, List.map_cons, List.map_nil, Src.pick, List.getD_cons_zero, List.getD_cons_succ, List.cons_append, List.nil_append, List.replicate, List.append_nil, true_and, and_true, Bool.not_true, Bool.not_false, if_true, if_false, Bool.false_eq_true, Bool.and_true, Bool.true_and, ok_glob, ok_if_none, ok_if_some, okE_itb, ok_comp, okT_cons, okT_nil, okT_next, okT_ret, ok_asg, ok_ret, ok_if, ok_ex, ok_pass, ok_sbrk, ok_scont, ok_augS, okE_ok, okE_bind, ok_var, ok_non, ok_bl, ok_int, ok_str, ok_ty, ok_bin, ok_neg, ok_not, ok_and, ok_or, ok_ite, ok_cmp, ok_cmp2, ok_ix, ok_sl, ok_lst, ok_tup, ok_bi, ok_call, ok_es_nil, ok_es_cons, ok_o_none, ok_o_some, ok_t_name, ok_t_tup, ok_t_sub, ok_ts_nil, ok_ts_cons, ok_i_e, ok_i_range1, ok_i_range2, ok_i_enum, ok_for, ok_while, ifD_bl, ifB_true, ifB_false, planD_some, b_mulI, b_divI, b_modI, b_powI, b_addS, b_addT, rng1_int])
local macro_rules | `(tactic| walk_at "mi_evo") => `(tactic| simp -dsimp only [p0_is_name, p0_is_whole, p0_is_between, p0_is_number, p0_are_moments, p0_is_under, p0_is_leave, p0_lies_within, p1_lies_within, p0__law_urn, p0__law_lot, p0__law_named, p0__law_leaf, p0__law_about, p0__law_due, p0__law_right, g_MOST_LETTERS, g_GREATEST, g_LAST_MOMENT, g_MOST_PASSES, g_SMALL, g_KINDS_OF_DEEDS, ↓ok_glob, ↓ok_if_none, ↓ok_if_some, ↓okE_itb, ↓ok_comp, ↓okT_nil, ↓okT_next, ↓okT_ret, ↓ok_asg, ↓ok_ret, ↓ok_if, ↓ok_ex, ↓ok_pass, ↓ok_sbrk, ↓ok_scont, ↓ok_augS, ↓okE_ok, ↓okE_bind, ↓ok_var, ↓ok_non, ↓ok_bl, ↓ok_int, ↓ok_str, ↓ok_ty, ↓ok_bin, ↓ok_neg, ↓ok_not, ↓ok_and, ↓ok_or, ↓ok_ite, ↓ok_cmp, ↓ok_cmp2, ↓ok_ix, ↓ok_sl, ↓ok_lst, ↓ok_tup, ↓ok_bi, ↓ok_call, ↓ok_es_nil, ↓ok_es_cons, ↓ok_o_none, ↓ok_o_some, ↓ok_t_name, ↓ok_t_tup, ↓ok_t_sub, ↓ok_ts_nil, ↓ok_ts_cons, ↓ok_i_e, ↓ok_i_range1, ↓ok_i_range2, ↓ok_i_enum, ↓ok_for, ↓ok_while, ↓ifD_bl, ↓ifB_true, ↓ifB_false, ↓planD_some, ↓b_mulI, ↓b_divI, ↓b_modI, ↓b_powI, ↓b_addS, ↓b_addT, ↓rng1_int, 
  Nat.zero_add, Nat.reduceAdd, boolD_bl, ivD_str, ivD_tup, ivD_cl, lenI_fix, wipeE, alloc_ok, varD_some, ctx_run, globD_some, negD_int, notD_bl, someD_int, b_addI, b_subI, a_addI, c_eqI, c_neI, c_eqS, c_neS, c_ltI, c_leI, c_gtI, c_geI, c_is, c_isN, isNon_non, isNon_int, isNon_str, isNon_tup, c_inTS, c_ninTS, c_inS, i_len, i_lenT, i_lenC, i_max, i_min, i_intB, i_isi_is, i_isi_ib, i_isi_ss, i_isi_tt, i_isi_bb, ix_t0, ix_t1, ix_t2, ix_t3, ix_t4, ix_t5, ix_t6, ix_t7, ix_t8, List.getElem?_cons_zero, List.getElem?_cons_succ, List.set_cons_zero, List.set_cons_succ, List.length_cons, List.length_nil, List.map_cons, List.map_nil, Src.pick, List.getD_cons_zero, List.getD_cons_succ, List.cons_append, List.nil_append, List.replicate, List.append_nil, true_and, and_true, Bool.not_true, Bool.not_false, if_true, if_false, Bool.false_eq_true, Bool.and_true, Bool.true_and, ok_glob, ok_if_none, ok_if_some, okE_itb, ok_comp, okT_nil, okT_next, okT_ret, ok_asg, ok_ret, ok_if, ok_ex, ok_pass, ok_sbrk, ok_scont, ok_augS, okE_ok, okE_bind, ok_var, ok_non, ok_bl, ok_int, ok_str, ok_ty, ok_bin, ok_neg, ok_not, ok_and, ok_or, ok_ite, ok_cmp, ok_cmp2, ok_ix, ok_sl, ok_lst, ok_tup, ok_bi, ok_call, ok_es_nil, ok_es_cons, ok_o_none, ok_o_some, ok_t_name, ok_t_tup, ok_t_sub, ok_ts_nil, ok_ts_cons, ok_i_e, ok_i_range1, ok_i_range2, ok_i_enum, ok_for, ok_while, ifD_bl, ifB_true, ifB_false, planD_some, b_mulI, b_divI, b_modI, b_powI, b_addS, b_addT, rng1_int])
local macro_rules | `(tactic| walk_at "mi_go") => `(tactic| (rw [okT_cons]; walk_at "mi_evo"; try walk_at "mi_nrm"))
local macro_rules | `(tactic| walk_at "mi_ent") => `(tactic| simp -dsimp only [List.map_cons, List.map_nil, List.length_cons, List.length_nil, Nat.zero_add, Nat.reduceAdd, Nat.reduceSub, List.replicate, List.cons_append, List.nil_append, List.append_nil])
local macro_rules | `(tactic| walk_at "mi_dd") => `(tactic| first | (refine ifB_t (decide_eq_true (by omega)) ?_) | (refine ifB_f (decide_eq_false (by omega)) ?_))
variable {k : Nat} {st : Sto} {Q : D → Sto → Prop} {u n : Nat}
theorem s_urn (z j : Int) (h0 : 0 ≤ j) (h1 : j ≤ 1000) (h : ∀ u st', st.length ≤ u → Urn st' u 0 → Ext st st' → Q (.ref u) st') : okE (callF P (k + 1) "_law_urn" [.int z, .int j] st) Q := by
  refine ok_callF l__law_urn ?_
  simp -dsimp only [f__law_urn, b__law_urn]
  try walk_at "mi_nrm"
  rw [okT_cons]
  walk_at "mi_evo"
  refine pok _ _ (by decide) ?_
  try walk_at "mi_evo"
  refine pok _ _ (by decide) ?_
  refine ⟨by decide, mul_of (by decide) (by omega), ?_⟩
  have m1 := Int.emod_nonneg z (show ((10 : Int) ^ (41 : Int).toNat + 63) ≠ 0 by decide)
  have m2 := Int.emod_lt_of_pos z (show (0 : Int) < (10 : Int) ^ (41 : Int).toNat + 63 by decide)
  have m3 : (10 : Int) ^ (41 : Int).toNat + 63 = 100000000000000000000000000000000000000063 := by decide
  rw [m3] at m1 m2 ⊢
  rw [newL_ok' (sl_big (by simp))]
  refine h _ _ (Nat.le_refl _) ⟨_, _, _, get_new _ _, ?_, ?_, by omega, by omega⟩ (.app _ _)
  · omega
  · omega
def depth : Nat := 8
theorem b_addCL {m : Nat} {xs ys : List D} (h2 : st[m]? = some (.lst ys)) (hl : (xs ++ ys).length ≤ sl) : binD .Add (.cl xs) (.ref m) st = .ok (.ref st.length) (st ++ [.lst (xs ++ ys)]) := by
  have e2 : lstOf st (.ref m) = some ys := by unfold lstOf; simp only [h2]
  show (match lstOf st (.cl xs), lstOf st (.ref m) with | some xs, some ys => newL (xs ++ ys) st | _, _ => .no) = _
  rw [e2]
  exact newL_ok' hl
theorem sl_ref {m : Nat} {ys : List D} {lo hi : Option Int} (h2 : st[m]? = some (.lst ys)) (hl : ys.length ≤ sl) : slD (.ref m) lo hi st = .ok (.ref st.length) (st ++ [.lst (cut ys lo hi)]) := by
  have e2 : lstOf st (.ref m) = some ys := by unfold lstOf; simp only [h2]
  show (match lstOf st (.ref m) with | some xs => newL (cut xs lo hi) st | none => .no) = _
  rw [e2]
  exact newL_ok' (Nat.le_trans (cut_len ys lo hi) hl)
theorem holds (ns : List Int) (hl : ns.length ≤ 63) (hz : ∀ z ∈ ns, SmallZ z) : ∃ st, runF (P.ctx (callF P depth) (callM P depth)) f_law [.cl (ns.map .int)] [] = .ok (.bl true) st := by
  have key : okE (runF (P.ctx (callF P depth) (callM P depth)) f_law [.cl (ns.map .int)] []) (fun d _ => d = .bl true) := by
    generalize ([] : Sto) = s0
    refine ok_run ?_
    simp -dsimp only [f_law, b_law, depth]
    try walk_at "mi_nrm"
    rw [okT_cons]
    walk_at "mi_evo"
    rw [newL_ok' (sl_big (by simp))]
    walk_at "mi_evo"
    have ln : ((ns.map D.int) ++ [D.int 0]).length ≤ 64 := by simp; omega
    rw [b_addCL (m := s0.length) (ys := [.int 0]) (get_new _ _) (sl_big (by omega))]
    walk_at "mi_evo"
    rw [sl_ref (ys := (ns.map D.int) ++ [D.int 0]) (get_new _ _) (sl_big (by omega))]
    generalize hys : cut ((ns.map D.int) ++ [D.int 0]) none _ = ys
    have yl : ys.length ≤ 64 := by rw [← hys]; exact Nat.le_trans (cut_len _ _ _) ln
    have yi : ∀ d ∈ ys, ∃ z, d = .int z := by
      intro d hd
      rw [← hys] at hd
      unfold cut at hd
      have := List.mem_of_mem_drop (List.mem_of_mem_take hd)
      rcases List.mem_append.mp this with q | q
      · obtain ⟨z, _, rfl⟩ := List.mem_map.mp q
        exact ⟨z, rfl⟩
      · exact ⟨0, by simpa using q⟩
    have hc := get_new (s0 ++ [O.lst [.int 0]] ++ [O.lst ((ns.map D.int) ++ [D.int 0])]) (.lst ys)
    revert hc
    generalize (List.length _ : Nat) = c
    generalize (s0 ++ [O.lst [.int 0]] ++ [O.lst ((ns.map D.int) ++ [D.int 0])] ++ [O.lst ys] : Sto) = s
    intro hc
    walk_at "mi_evo"
    rw [enumD_ref hc]
    walk_at "mi_evo"
    refine ok_loop (fun i e s => ∃ a b, e = [some (.cl (ns.map .int)), a, b] ∧ s[c]? = some (.lst ys)) ys.length ?_ ?_ ys.length 0 _ _ _ (by omega) (by simp only [lenI, hc]; omega) ⟨_, _, rfl, hc⟩
    · rintro i e s hi ⟨a, b, rfl, hc⟩
      obtain ⟨z, ez⟩ := yi _ (List.getElem_mem hi)
      refine ⟨.tup [.int (i : Nat), .int z], by simp only [nextI, hc]; rw [List.getElem?_eq_getElem hi, ez], ?_⟩
      rw [okT_st]
      walk_at "mi_evo"
      try walk_at "mi_nrm"
      rw [okT_cons]
      walk_at "mi_evo"
      refine s_urn _ _ (by omega) (by omega) ?_
      intro u s' hu1 hu ex
      walk_at "mi_evo"
      refine s_right hu (by omega) ?_
      intro s'' f
      walk_at "mi_evo"
      have lt := (List.getElem?_eq_some_iff.mp hc).1
      exact ⟨_, _, rfl, f.at_ _ _ (by omega) (ex.at_ _ _ hc)⟩
    · rintro e s ⟨a, b, rfl, hc⟩
      refine ⟨by simp [nextI, hc], ?_⟩
      rw [okT_cons]
      walk_at "mi_evo"
  cases e : runF (P.ctx (callF P depth) (callM P depth)) f_law [.cl (ns.map .int)] [] with
  | ok d s => rw [e] at key; exact ⟨s, by rw [show d = .bl true from key]⟩
  | exc _ _ _ => rw [e] at key; exact key.elim
  | no => rw [e] at key; exact key.elim
end K03


open PySem PySem.W PySem.Calls PyProof.Rows
set_option maxRecDepth 100000 in
set_option maxHeartbeats 0 in
theorem PySem.Challenge.cw_leavechain_k03_which_lie_within_holds : PySem.Challenge.rw_leavechain_k03_which_lie_within.Holds := by
  w_on; o_law
  refine HandSHeadRun.head_any (r := OpenLaw.row PySem.Challenge.rw_leavechain_k03_which_lie_within) (q := view (OpenLaw.row PySem.Challenge.rw_leavechain_k03_which_lie_within).prog [23]) (H := K03.hk) (ob := K03.ob) (M := 4000) (loose := K03.loose) (d := HandSHeadRun.topDef (OpenLaw.row PySem.Challenge.rw_leavechain_k03_which_lie_within).prog 23) (kwd := []) K03.ob_eq
    (by kernel_rfl) (fun s => by kernel_rfl) K03.run (by kernel_rfl) (by kernel_rfl) (by kernel_rfl) (by rfl) (by first | assumption | decide +kernel) (by decide +kernel) ⟨rfl, rfl, rfl, rfl, rfl, by decide +kernel⟩ ?hw ?hc
  case hw => w_witness2
  case hc =>
    refine Mi.walk_M (l := PySem.Challenge.rw_leavechain_k03_which_lie_within) (k := 2 * K03.depth + 2) (y := PySem.Str.ofString "script") rfl (by kernel_rfl) ⟨rfl, by decide, by decide⟩ K03.holds ?_
    intro w mg fa h Y G hmg0
    obtain ⟨K, KX, c⟩ := Y
    have hmg : mg (PySem.Str.ofString "law") = some (.ref fa) := by
      have e : (HandSHeadRun.topDef (OpenLaw.row PySem.Challenge.rw_leavechain_k03_which_lie_within).prog 23).name = PySem.Str.ofString "law" := by kernel_rfl
      rw [← e]
      exact hmg0
    obtain ⟨fd, hb, hF⟩ := K03.facts (prog := (PySem.Challenge.rw_leavechain_k03_which_lie_within).prog) (w := w) K03.depth KX G hmg c
    exact ⟨K, fd, _, KX, hb, hF⟩


