import PyProof.Rows.All
import Wide.All
import OpenK.AllK
import Wide.FinOn
import PySem.Challenge.RW_stillmay_k00_errors
import PyProof.Rows.Walk
import KE.KStateDown
import HandS.Head0
import HandS.Head1
import HandS.Head2
import HandS.HeadEnd
import HandS.HeadHook1
import HandS.HeadHook2
import HandS.Base
import HandS.Call
import HandS.Ends
import HandS.More
import HandS.Words
import HandS.WordsExc
import HandS.Defaults
import HandS.ForMost
import HandS.NoneIn
import HandS.ForExc
import HandS.TryMany
import HandS.Small
import HandS.Deep
import HandS.Flow
import HandS.TupAny
import HandS.IsInst
import HandS.SortKw
import HandS.SortInts
import HandS.Strs
import HandS.Conv
import HandS.StrMore
import HandS.Style
import HandS.TryOnly
import HandS.Wide
import HandS.TupLen
import HandS.WordsDict
import PyProof.Rows.SortShellAny
import HandS.ReHeld
import HandS.ExcCtx
import HandS.HotCalls
import KE.KUnpack
import HandS.Hot
import PyProof.ListStr
import HandS.WideMore
import HandS.HeadWalk
import KE.KStrOpen
import KE.GoesMore
import PyProof.Draws
import PyProof.EnumMake
import PyProof.TupleIter
import HandS.DictComp
import HandS.ExcField
import KE.KIsAll
import KE.KExcIs
import HandS.ExcIs
import HandS.Dict
import KE.KExcInit
import KE.KExcSuper
import KE.KSuper
import HandS.ExcSuper
import HandS.ExcInit
section
/-! PixA: a small Python: values, heap of mutated objects, the own syntax, the interpreter. Plain Lean, no model in sight. -/
namespace Pix

/-- the most items of a list, the most signs of a text -/
abbrev SZ : Nat := 16777216

/-- values: all but mutated objects stand inline; ref r is the r-th object of the heap; scr: the script -/
inductive U where
  | non
  | bl (b : Bool)
  | int (i : Int)
  | str (s : List Nat)
  | tup (xs : List U)
  | lst (xs : List U)
  | dct (t : Bool) (kvs : List (U × U))
  | ref (r : Nat)
  | scr (xs : List Int)
  deriving Inhabited

/-- mutated objects -/
inductive O where
  | lst (xs : List U)
  | dct (t : Bool) (kvs : List (U × U))
  | ins (c : Nat) (fs : List (String × U))
  deriving Inhabited

abbrev Hp := List O

/-- a text's signs -/
def S (s : String) : List Nat := s.toList.map Char.toNat

/-- a slot of a frame: nothing; a value; a list that only this slot knows (it may grow); an exception that is handled -/
inductive Sl where
  | emp
  | val (u : U)
  | own (xs : List U)
  | exc (c : Nat) (u : U)
  deriving Inhabited

structure St where
  fr : List Sl
  hp : Hp

inductive Re (α : Type) where
  | ok (a : α) (s : St)
  | ex (c : Nat) (u : U) (s : St)
  | bad

@[reducible] def Re.bnd {α β : Type} (r : Re α) (f : α → St → Re β) : Re β := match r with
  | .ok a s => f a s
  | .ex c u s => .ex c u s
  | .bad => .bad

/-- a call's end -/
inductive Rc where
  | ok (u : U) (h : Hp)
  | ex (c : Nat) (u : U) (h : Hp)
  | bad

/-- a statement's end -/
inductive Rs where
  | nx (s : St)
  | rt (u : U) (s : St)
  | bk (s : St)
  | ct (s : St)
  | ex (c : Nat) (u : U) (s : St)
  | bad

def Re.toS {α : Type} (r : Re α) (f : α → St → Rs) : Rs := match r with
  | .ok a s => f a s
  | .ex c u s => .ex c u s
  | .bad => .bad

/-! ### operations -/
mutual
/-- == of data, 1 == True as in Python -/
def eqU : U → U → Bool
  | .non, b => match b with | .non => true | _ => false
  | .bl x, b => match b with | .bl y => x == y | .int y => decide ((if x then 1 else 0) = y) | _ => false
  | .int x, b => match b with | .int y => decide (x = y) | .bl y => decide (x = (if y then 1 else 0)) | _ => false
  | .str x, b => match b with | .str y => decide (x = y) | _ => false
  | .tup xs, b => match b with | .tup ys => eqUs xs ys | _ => false
  | .lst xs, b => match b with | .lst ys => eqUs xs ys | _ => false
  | .dct _ _, _ => false
  | .ref _, _ => false
  | .scr _, _ => false
def eqUs : List U → List U → Bool
  | [], ys => match ys with | [] => true | _ :: _ => false
  | x :: xs, ys => match ys with | [] => false | y :: ys => eqU x y && eqUs xs ys
end

def mapO {α β : Type} (f : α → Option β) : List α → Option (List β)
  | [] => some []
  | x :: xs => match f x with
    | none => none
    | some y => match mapO f xs with
      | none => none
      | some ys => some (y :: ys)

/-- data of a depth below n, boxed lists resolved -/
def res (h : Hp) : Nat → U → Option U
  | 0, _ => none
  | n + 1, u => match u with
    | .non => some .non
    | .bl b => some (.bl b)
    | .int i => some (.int i)
    | .str s => some (.str s)
    | .tup xs => (mapO (res h n) xs).map .tup
    | .lst xs => (mapO (res h n) xs).map .lst
    | .dct _ _ => none
    | .scr _ => none
    | .ref r => match h[r]? with
      | some (.lst xs) => (mapO (res h n) xs).map .lst
      | _ => none
/-- the depth of data that is compared -/
abbrev DEEP : Nat := 20

inductive Bop where
  | add | sub | mul | fdiv | mod | pow
  deriving DecidableEq
inductive Cop where
  | eq | ne | lt | le | gt | ge | isin | notin
  deriving DecidableEq
inductive Ty where
  | int | bool | str | tup | lst | cls (c : Nat)
  deriving DecidableEq
/-- built-ins of one argument -/
inductive B1 where
  | int | abs | len | tup | sum | max | min | any | all | str | repr | lenset
  deriving DecidableEq
/-- built-ins and methods of two -/
inductive B2 where
  | max | min | join | starts
  deriving DecidableEq

def small (i : Int) : Bool := decide (-(2 ^ 64) < i) && decide (i < 2 ^ 64)

def ixN (n : Nat) (i : Int) : Option Nat := if 0 ≤ i then (if i < n then some i.toNat else none) else if -(n : Int) ≤ i then some (i + n).toNat else none
/-- a slice's bound -/
def cutN (n : Nat) (i : Int) : Nat := if i < 0 then (i + n).toNat else min i.toNat n
def cut {α : Type} (xs : List α) (lo hi : Option Int) : List α :=
  match lo, hi with
  | none, none => xs
  | some i, none => xs.drop (cutN xs.length i)
  | none, some j => xs.take (cutN xs.length j)
  | some i, some j => (xs.take (cutN xs.length j)).drop (cutN xs.length i)

/-- a list, frozen or boxed -/
def lstOf (h : Hp) : U → Option (List U)
  | .lst xs => some xs
  | .ref r => match h[r]? with
    | some (.lst xs) => some xs
    | _ => none
  | _ => none
/-- a list's or a tuple's items -/
def seqOf (h : Hp) : U → Option (List U)
  | .tup xs => some xs
  | .lst xs => some xs
  | .scr xs => some (xs.map .int)
  | .ref r => match h[r]? with
    | some (.lst xs) => some xs
    | _ => none
  | _ => none
def dctOf (h : Hp) : U → Option (Bool × List (U × U))
  | .dct t kvs => some (t, kvs)
  | .ref r => match h[r]? with
    | some (.dct t kvs) => some (t, kvs)
    | _ => none
  | _ => none

def intsOf (xs : List U) : Option (List Int) := mapO (fun u => match u with | U.int i => some i | _ => none) xs
def strsOf (xs : List U) : Option (List (List Nat)) := mapO (fun u => match u with | U.str s => some s | _ => none) xs
def blsOf (xs : List U) : Option (List Bool) := mapO (fun u => match u with | U.bl s => some s | _ => none) xs

/-- keys: ints, texts, tuples of these -/
def keyB : U → Bool
  | .int _ => true
  | .str _ => true
  | _ => false
/-- a key of a dict of ints and texts (t = false), of tuples of these (t = true) -/
def keyOk (t : Bool) (u : U) : Bool := match t with
  | false => keyB u
  | true => (match u with
    | .tup xs => xs.all keyB
    | _ => false)
def dget (kvs : List (U × U)) (k : U) : Option U := (kvs.find? fun p => eqU p.1 k).map (·.2)
def dput (k v : U) (kvs : List (U × U)) : List (U × U) :=
  if (kvs.any fun p => eqU p.1 k) = true then kvs.map (fun p => if eqU p.1 k = true then (p.1, v) else p) else kvs ++ [(k, v)]

def truth (h : Hp) : U → Option Bool
  | .non => some false
  | .bl b => some b
  | .int i => some (i != 0)
  | .str s => some (!s.isEmpty)
  | .tup xs => some (!xs.isEmpty)
  | .lst xs => some (!xs.isEmpty)
  | .ref r => match h[r]? with
    | some (.lst xs) => some (!xs.isEmpty)
    | _ => none
  | _ => none

def ins? (h : Hp) (r : Nat) : Option Nat := match h[r]? with
  | some (.ins c _) => some c
  | _ => none
def isI (h : Hp) (u : U) (t : Ty) : Bool := match t with
  | .int => (match u with | .int _ => true | .bl _ => true | _ => false)
  | .bool => (match u with | .bl _ => true | _ => false)
  | .str => (match u with | .str _ => true | _ => false)
  | .tup => (match u with | .tup _ => true | _ => false)
  | .lst => (match u with | .lst _ => true | .scr _ => true | .ref r => (match h[r]? with | some (.lst _) => true | _ => false) | _ => false)
  | .cls c => (match u with | .ref r => decide (ins? h r = some c) | _ => false)

/-- a <= b of texts -/
def strLe (a b : List Nat) : Bool := !decide (b < a)
def insL {α : Type} (le : α → α → Bool) (x : α) : List α → List α
  | [] => [x]
  | y :: ys => if le x y then x :: y :: ys else y :: insL le x ys
/-- sorted by insertion -/
def isort {α : Type} (le : α → α → Bool) : List α → List α
  | [] => []
  | x :: xs => insL le x (isort le xs)

def opt {α : Type} (o : Option α) (s : St) : Re α := match o with
  | some a => .ok a s
  | none => .bad

def okI (i : Int) (s : St) : Re U := .ok (.int i) s
def addU (a b : U) (s : St) : Re U := match a, b with
  | .int x, .int y => .ok (.int (x + y)) s
  | .str x, .str y => if x.length + y.length ≤ SZ then .ok (.str (x ++ y)) s else .bad
  | .tup x, .tup y => if x.length + y.length ≤ SZ then .ok (.tup (x ++ y)) s else .bad
  | .lst x, .lst y => if x.length + y.length ≤ SZ then .ok (.lst (x ++ y)) s else .bad
  | _, _ => .bad
def binU (op : Bop) (a b : U) (s : St) : Re U := match op with
  | .add => addU a b s
  | .sub => (match a, b with | .int x, .int y => .ok (.int (x - y)) s | _, _ => .bad)
  | .mul => (match a, b with | .int x, .int y => if small x || small y then .ok (.int (x * y)) s else .bad | _, _ => .bad)
  | .fdiv => (match a, b with | .int x, .int y => if 0 < y ∧ y < 2 ^ 200 then .ok (.int (x / y)) s else .bad | _, _ => .bad)
  | .mod => (match a, b with | .int x, .int y => if 0 < y then .ok (.int (x % y)) s else .bad | _, _ => .bad)
  | .pow => (match a, b with | .int x, .int y => if 0 ≤ y ∧ y ≤ 1000 ∧ small x = true then .ok (.int (x ^ y.toNat)) s else .bad | _, _ => .bad)

def eqH (h : Hp) (a b : U) : Option Bool := match res h DEEP a, res h DEEP b with
  | some x, some y => some (eqU x y)
  | _, _ => none
def inH (h : Hp) (a b : U) : Option Bool := match b with
  | .str y => (match a with
    | .str [c] => some (decide (c ∈ y))
    | _ => none)
  | .dct t kvs => if keyOk t a then some (dget kvs a).isSome else none
  | .ref r => (match h[r]? with
    | some (.dct t kvs) => if keyOk t a then some (dget kvs a).isSome else none
    | some (.lst xs) => (match res h DEEP a, mapO (res h DEEP) xs with
      | some x, some ys => some (ys.any fun y => eqU y x)
      | _, _ => none)
    | _ => none)
  | .tup xs => (match res h DEEP a, mapO (res h DEEP) xs with
    | some x, some ys => some (ys.any fun y => eqU y x)
    | _, _ => none)
  | .lst xs => (match res h DEEP a, mapO (res h DEEP) xs with
    | some x, some ys => some (ys.any fun y => eqU y x)
    | _, _ => none)
  | _ => none
def cmpH (h : Hp) (op : Cop) (a b : U) : Option Bool := match op with
  | .eq => eqH h a b
  | .ne => (eqH h a b).map not
  | .lt => (match a, b with | .int x, .int y => some (decide (x < y)) | _, _ => none)
  | .le => (match a, b with | .int x, .int y => some (decide (x ≤ y)) | _, _ => none)
  | .gt => (match a, b with | .int x, .int y => some (decide (y < x)) | _, _ => none)
  | .ge => (match a, b with | .int x, .int y => some (decide (y ≤ x)) | _, _ => none)
  | .isin => inH h a b
  | .notin => (inH h a b).map not
def cmpU (op : Cop) (a b : U) (s : St) : Re U := match cmpH s.hp op a b with
  | some t => .ok (.bl t) s
  | none => .bad

def lenH (h : Hp) : U → Option Nat
  | .str s => some s.length
  | .tup xs => some xs.length
  | .lst xs => some xs.length
  | .scr xs => some xs.length
  | .dct _ kvs => some kvs.length
  | .ref r => match h[r]? with
    | some (.lst xs) => some xs.length
    | some (.dct _ kvs) => some kvs.length
    | _ => none
  | _ => none

def maxL : Int → List Int → Int
  | m, [] => m
  | m, x :: xs => maxL (if x > m then x else m) xs
def minL : Int → List Int → Int
  | m, [] => m
  | m, x :: xs => minL (if x < m then x else m) xs

/-- how many unlike ones -/
def unlike : List (List Nat) → Nat
  | [] => 0
  | x :: xs => (if (xs.any fun y => decide (y = x)) = true then 0 else 1) + unlike xs

def joinL (sep : List Nat) : List (List Nat) → List Nat
  | [] => []
  | [x] => x
  | x :: xs => x ++ sep ++ joinL sep xs

/-- a built-in over a list's items -/
def b1L (b : B1) (xs : List U) (s : St) : Re U := match b with
  | .len => .ok (.int xs.length) s
  | .tup => .ok (.tup xs) s
  | .sum => (match intsOf xs with | some ns => .ok (.int ns.sum) s | none => .bad)
  | .max => (match intsOf xs with | some (n :: ns) => .ok (.int (maxL n ns)) s | _ => .bad)
  | .min => (match intsOf xs with | some (n :: ns) => .ok (.int (minL n ns)) s | _ => .bad)
  | .any => (match blsOf xs with | some bs => .ok (.bl (bs.any id)) s | none => .bad)
  | .all => (match blsOf xs with | some bs => .ok (.bl (bs.all id)) s | none => .bad)
  | _ => .bad
def onL (b : B1) (a : U) (s : St) : Re U := match lstOf s.hp a with
  | some xs => b1L b xs s
  | none => .bad
def b1U (b : B1) (a : U) (s : St) : Re U := match b with
  | .int => (match a with | .int i => .ok (.int i) s | .bl k => .ok (.int (if k then 1 else 0)) s | _ => .bad)
  | .abs => (match a with | .int i => .ok (.int (if i < 0 then -i else i)) s | _ => .bad)
  | .len => (match lenH s.hp a with | some n => .ok (.int n) s | none => .bad)
  | .tup => (match a with | .tup xs => .ok (.tup xs) s | _ => onL .tup a s)
  | .sum => onL .sum a s
  | .max => onL .max a s
  | .min => onL .min a s
  | .any => onL .any a s
  | .all => onL .all a s
  | .str => (match a with | .int i => if i.natAbs.log2 < 1920 ∧ (S (toString i)).length ≤ SZ then .ok (.str (S (toString i))) s else .bad | _ => .bad)
  | .repr => .bad
  | .lenset => (match (seqOf s.hp a).bind strsOf with | some xs => if xs.length < 63 then .ok (.int (unlike xs : Nat)) s else .bad | none => .bad)
def b2U (b : B2) (a c : U) (s : St) : Re U := match b with
  | .max => (match a, c with | .int i, .int j => .ok (.int (if j > i then j else i)) s | _, _ => .bad)
  | .min => (match a, c with | .int i, .int j => .ok (.int (if j < i then j else i)) s | _, _ => .bad)
  | .join => (match a, (seqOf s.hp c).bind strsOf with
    | .str x, some ys => if (ys.map List.length).sum + ys.length * x.length ≤ SZ then .ok (.str (joinL x ys)) s else .bad
    | _, _ => .bad)
  | .starts => (match a, c with | .str x, .str y => .ok (.bl (y.isPrefixOf x)) s | _, _ => .bad)

def upC (c : Nat) : Nat := if 97 ≤ c ∧ c ≤ 122 then c - 32 else c
/-- x.upper(), x of ASCII signs -/
def upU (a : U) (s : St) : Re U := match a with
  | .str z => if z.length ≤ 1000000 ∧ (z.all fun c => decide (c < 128)) = true then .ok (.str (z.map upC)) s else .bad
  | _ => .bad
/-- xs.index(x), xs a list -/
def idxU (a c : U) (s : St) : Re U := match lstOf s.hp a, res s.hp DEEP c with
    | some xs, some y => (match mapO (res s.hp DEEP) xs with
      | some zs => (match zs.findIdx? (fun z => eqU z y) with | some k => .ok (.int (k : Nat)) s | none => .bad)
      | none => .bad)
    | _, _ => .bad
/-- xs[i] -/
def atL {α : Type} (xs : List α) (i : Int) : Option α := match ixN xs.length i with
  | some k => xs[k]?
  | none => none
def dixU (t : Bool) (kvs : List (U × U)) (b : U) (s : St) : Re U := if keyOk t b then (match dget kvs b with
  | some v => .ok v s
  | none => .bad) else .bad
def ixSq (o : Option (List U)) (b : U) (s : St) : Re U := match b with
  | .int i => (match o with
    | some xs => opt (atL xs i) s
    | none => .bad)
  | _ => .bad
def ixU (a b : U) (s : St) : Re U := match a with
  | .dct t kvs => dixU t kvs b s
  | .ref r => (match s.hp[r]? with
    | some (.dct t kvs) => dixU t kvs b s
    | some (.lst xs) => ixSq (some xs) b s
    | _ => .bad)
  | .str x => (match b with
    | .int i => (match atL x i with
      | some c => .ok (.str [c]) s
      | none => .bad)
    | _ => .bad)
  | _ => ixSq (seqOf s.hp a) b s

/-- sorted(x) -/
def srtU (x : U) (rev : Bool) (s1 : St) : Re (List U) := match (lstOf s1.hp x).bind intsOf with
  | some ns => .ok ((isort (fun a b => if rev then decide (b ≤ a) else decide (a ≤ b)) ns).map .int) s1
  | none => match (seqOf s1.hp x).bind strsOf with
    | some ns => if rev then .bad else .ok ((isort strLe ns).map .str) s1
    | none => .bad
/-- list(x) -/
def ofU (x : U) (s1 : St) : Re (List U) := match x with
  | .str z => .ok (z.map fun c => .str [c]) s1
  | _ => opt (seqOf s1.hp x) s1
def cutU (a : U) (lo hi : Option Int) (s : St) : Re U := match a with
  | .str x => .ok (.str (cut x lo hi)) s
  | .tup xs => .ok (.tup (cut xs lo hi)) s
  | _ => match lstOf s.hp a with
    | some xs => .ok (.lst (cut xs lo hi)) s
    | none => .bad
def revU (a : U) (s : St) : Re U := match lstOf s.hp a with
    | some xs => .ok (.lst xs.reverse) s
    | none => .bad

/-- the fields of an instance of class c -/
def insF (h : Hp) (c : Nat) (a : U) : Option (List (String × U)) := match a with
  | .ref r => (match h[r]? with
    | some (.ins c' fs) => if c' = c then some fs else none
    | _ => none)
  | _ => none
def fldU (c : Nat) (a : U) (f : String) (s : St) : Re U := match insF s.hp c a with
  | some fs => (match fs.lookup f with | some v => .ok v s | none => .bad)
  | none => .bad
def putF (f : String) (v : U) : List (String × U) → List (String × U)
  | [] => [(f, v)]
  | p :: r => if p.1 = f then (f, v) :: r else p :: putF f v r

/-! ### the syntax -/
/-- targets: a slot, a tuple of targets -/
inductive T where
  | s (i : Nat)
  | t (ts : List T)

mutual
inductive E where
  | non | bl (b : Bool) | int (i : Int) | str (s : String)
  | var (i : Nat) | peek (i : Nat) | glb (g : Nat)
  | bin (op : Bop) (a b : E)
  | neg (a : E)
  | nt (t : E) | an (a b : E) | or (a b : E)
  | cmp (op : Cop) (a b : E) | chain (p q : Cop) (a b c : E) | isN (no : Bool) (a : E)
  | ite (c a b : E)
  | tup (es : Es)
  | fr (f : F) | bx (f : F) | frd (d : D) | bxd (d : D)
  | call (f : Nat) (es : Es) | callK (f : Nat) (perm : List Nat) (es ks : Es) | new (c f : Nat) (es : Es) | newK (c f : Nat) (perm : List Nat) (es ks : Es)
  | meth (f c : Nat) (m : String) (o : E) (es : Es) | methK (f c : Nat) (m : String) (perm : List Nat) (o : E) (es ks : Es)
  | fld (c : Nat) (o : E) (f : String)
  | ix (a b : E) | sl (a : E) (lo hi : Eo) | rev (a : E)
  | b1 (b : B1) (a : E) | b2 (b : B2) (a c : E)
  | isi (a : E) (ts : List Ty)
  | app (o e : E) | pop0 (o : E) | pop1 (o e : E)
  | opop0 (i : Nat) | opop1 (i : Nat) (e : E)
  | pix (i : Nat) (e : E) | pin (no : Bool) (e : E) (i : Nat) | psl (i : Nat) (lo hi : Eo)
  | idx (o e : E) | pidx (i : Nat) (e : E) | lset (a : E)
  | upper (a : E)
  | excf (i : Nat) (f : String) | excis (i : Nat) (cs : List Nat) | excno (i : Nat)
inductive Es where
  | nil
  | cons (e : E) (es : Es)
inductive Eo where
  | no
  | so (e : E)
/-- fresh lists -/
inductive F where
  | disp (es : Es)
  | comp (elt : E) (t : T) (it : It) (c : Eo) (own : List Nat)
  | comp2 (elt : E) (t : T) (it : It) (t2 : T) (it2 : It) (c : Eo) (own own2 : List Nat)
  | of (e : E)
  | srt (e : E) (rev : Bool)
  | sl (a : E) (lo hi : Eo)
  | cat (a b : E)
  | rep (a b : E)
inductive Kv where
  | nil
  | cons (k v : E) (r : Kv)
/-- fresh dicts -/
inductive D where
  | disp (t : Bool) (kv : Kv)
  | comp (t : Bool) (k v : E) (tg : T) (it : It) (own : List Nat)
  | of (e : E)
/-- what a loop walks -/
inductive It where
  | seq (e : E)
  | rng1 (a : E) | rng2 (a b : E) | rng3 (a b : E) (c : Int)
  | enum (e : E)
  | zip (a b : E)
end

mutual
inductive Sm where
  | pass | brk | cont
  | ex (e : E)
  | set (i : Nat) (e : E)
  | own (i : Nat) (f : F)
  | setT (t : T) (e : E)
  | par (ts : List Nat) (es : Es)
  | ixs (o i e : E) | fls (c : Nat) (o : E) (f : String) (e : E)
  | oixs (i : Nat) (k e : E)
  | aug (i : Nat) (op : Bop) (e : E) | augI (o k : E) (op : Bop) (e : E) | augF (c : Nat) (o : E) (f : String) (op : Bop) (e : E)
  | oapp (i : Nat) (e : E) | oext (i : Nat) (e : E) | oins (i : Nat) (k e : E)
  | ite (c : E) (a b : Bl)
  | whl (c : E) (b : Bl)
  | for_ (t : T) (it : It) (b : Bl)
  | ret (e : E) | ret0
  | rais (c : Nat) (e : E)
  | try_ (b : Bl) (hs : Hs)
inductive Bl where
  | nil
  | cons (s : Sm) (b : Bl)
/-- except clauses: the class, the name's slot, the suite -/
inductive Hs where
  | nil
  | cons (c : Nat) (i : Option Nat) (b : Bl) (hs : Hs)
end

/-! ### the interpreter -/
/-- what stands around a body: the module's constants, the calls, which class is of which -/
structure Px where
  glb : Nat → U
  call : Nat → List U → Hp → Rc
  sub : Nat → Nat → Bool
  /-- the module's constant tuples -/
  kts : List (List U)
  /-- how many exception classes -/
  nx : Nat
  /-- the field of each -/
  xfn : Nat → String
/-- a key that may be stored: no tuple that may be a constant of the module -/
def putOk (p : Px) (t : Bool) (u : U) : Bool := keyOk t u && (match u with
  | .tup xs => !p.kts.any fun k => eqUs k xs
  | _ => true)

mutual
/-- a target takes a value -/
def bindT : T → U → List Sl → Option (List Sl)
  | .s i, u, fr => if i < fr.length then some (fr.set i (.val u)) else none
  | .t ts, u, fr => match u with
    | .tup xs => bindTs ts xs fr
    | .lst xs => bindTs ts xs fr
    | _ => none
def bindTs : List T → List U → List Sl → Option (List Sl)
  | [], xs, fr => match xs with
    | [] => some fr
    | _ :: _ => none
  | t :: ts, xs, fr => match xs with
    | [] => none
    | x :: xs => match bindT t x fr with
      | none => none
      | some fr1 => bindTs ts xs fr1
end

/-- .. a list that lives on the heap, too -/
def bindTd (t : T) (h : Hp) (u : U) (fr : List Sl) : Option (List Sl) := match t with
  | .s i => bindT (.s i) u fr
  | .t ts => match seqOf h u with
    | some xs => bindTs ts xs fr
    | none => none
def wipe (fr : List Sl) : List Nat → List Sl
  | [] => fr
  | v :: vs => (wipe fr vs).set v .emp
/-- the block's own slots as they were ahead of it -/
def back (old new : List Sl) : List Nat → List Sl
  | [] => new
  | v :: vs => match old[v]? with
    | some x => (back old new vs).set v x
    | none => back old new vs
/-- no list of the frame's own stands in these slots -/
def noOwn (fr : List Sl) (vs : List Nat) : Bool := vs.all fun v => match fr[v]? with
  | some (.own _) => false
  | some (.exc _ _) => false
  | some _ => true
  | none => false

/-- the frame's own list stands in the slot -/
def isOwn (fr : List Sl) (i : Nat) : Bool := match fr[i]? with
  | some (.own _) => true
  | _ => false
/-- something stands in the slot -/
def isSet (fr : List Sl) (i : Nat) : Bool := match fr[i]? with
  | some (.own _) => true
  | some (.val _) => true
  | _ => false
/-- a list stands in the slot -/
def isLs (s : St) (i : Nat) : Bool := match s.fr[i]? with
  | some (.own _) => true
  | some (.val u) => (lstOf s.hp u).isSome
  | _ => false
def isLst (h : Hp) (u : U) : Bool := match u with
  | .ref r => (match h[r]? with
    | some (.lst _) => true
    | _ => false)
  | _ => false
def rets (p : Px) (f : Nat) (us : List U) (s : St) : Re U := match p.call f us s.hp with
  | .ok u h => .ok u { s with hp := h }
  | .ex c u h => .ex c u { s with hp := h }
  | .bad => .bad
def permU (us : List U) (perm : List Nat) : Option (List U) := mapO (fun i => us[i]?) perm

/-- C(..): a new instance, its __init__ -/
def newU (p : Px) (c f : Nat) (us : List U) (s : St) : Re U := match p.call f (.ref s.hp.length :: us) (s.hp ++ [.ins c []]) with
  | .ok u h => (match u with
    | .non => .ok (.ref s.hp.length) { s with hp := h }
    | _ => .bad)
  | .ex c u h => .ex c u { s with hp := h }
  | .bad => .bad

/-- one turn after another of a comprehension: the items, the slots of its own, test and element -/
def compL (t : T) (own : List Nat) (test : St → Re Bool) (elt : St → Re U) : List U → St → Re (List U)
  | [], s => .ok [] s
  | x :: xs, s => match bindT t x (wipe s.fr own) with
    | none => .bad
    | some fr => (test { s with fr := fr }).bnd fun b s1 => match b with
      | true => (elt s1).bnd fun y s2 => (compL t own test elt xs s2).bnd fun ys s3 => .ok (y :: ys) s3
      | false => compL t own test elt xs s1
/-- exceptions do not leave a comprehension here -/
def noEx {α : Type} (r : Re α) : Re α := match r with
  | .ok a s => .ok a s
  | _ => .bad
def catL (xs ys : List U) (s : St) : Re (List U) := if xs.length + ys.length ≤ SZ then .ok (xs ++ ys) s else .bad
/-- the outer loop of a comprehension with two fors -/
def compL2 (t : T) (own : List Nat) (inner : St → Re (List U)) : List U → St → Re (List U)
  | [], s => .ok [] s
  | x :: xs, s => match bindT t x (wipe s.fr own) with
    | none => .bad
    | some fr => (inner { s with fr := fr }).bnd fun ys s1 => (compL2 t own inner xs s1).bnd fun zs s2 => catL ys zs s2
/-- a dict comprehension -/
def compD (t : T) (own : List Nat) (kv : St → Re (U × U)) : List U → St → List (U × U) → Re (List (U × U))
  | [], s, acc => .ok acc s
  | x :: xs, s, acc => match bindT t x (wipe s.fr own) with
    | none => .bad
    | some fr => (kv { s with fr := fr }).bnd fun p s1 => compD t own kv xs s1 (dput p.1 p.2 acc)

def putAll : List (U × U) → List (U × U) → List (U × U)
  | [], acc => acc
  | q :: qs, acc => putAll qs (dput q.1 q.2 acc)

def upds (h : Hp) (r : Nat) (o : O) : Hp := h.set r o
def tst (u : U) (s : St) : Re Bool := match truth s.hp u with
  | some b => .ok b s
  | none => .bad
def enumL : Nat → List U → List U
  | _, [] => []
  | n, x :: xs => .tup [.int n, x] :: enumL (n + 1) xs
def zipL : List U → List U → List U
  | x :: xs, y :: ys => .tup [x, y] :: zipL xs ys
  | _, _ => []
def rngL (lo c : Int) : Nat → List U
  | 0 => []
  | n + 1 => .int lo :: rngL (lo + c) c n
/-- the turns of range(a, b, c), c > 0 -/
def rngN (a b c : Int) : Nat := ((b - a + c - 1) / c).toNat

/-- what is walked: items that stand, or a boxed list as it stands at each turn (en: with its number) -/
inductive Src where
  | snap (xs : List U)
  | live (r : Nat) (en : Bool)
/-- a live list's item at a turn: none: not a list any more -/
def liveAt (h : Hp) (r i : Nat) (en : Bool) : Option (Option U) := match h[r]? with
  | some (.lst xs) => (match xs[i]? with
    | some x => some (some (if en then .tup [.int i, x] else x))
    | none => some none)
  | _ => none
/-- a comprehension over a live list -/
def compV (t : T) (own : List Nat) (test : St → Re Bool) (elt : St → Re U) (r : Nat) (en : Bool) : Nat → Nat → St → Re (List U)
  | 0, _, _ => .bad
  | n + 1, i, s => match liveAt s.hp r i en with
    | none => .bad
    | some none => .ok [] s
    | some (some x) => match bindT t x (wipe s.fr own) with
      | none => .bad
      | some fr => (test { s with fr := fr }).bnd fun b s1 => match b with
        | true => (elt s1).bnd fun y s2 => (compV t own test elt r en n (i + 1) s2).bnd fun ys s3 => .ok (y :: ys) s3
        | false => compV t own test elt r en n (i + 1) s1
def compS (t : T) (own : List Nat) (test : St → Re Bool) (elt : St → Re U) (src : Src) (s : St) : Re (List U) := match src with
  | .snap xs => compL t own test elt xs s
  | .live r en => compV t own test elt r en (SZ + 1) 0 s

mutual
def evE (p : Px) : E → St → Re U
  | .non, s => .ok .non s
  | .bl b, s => .ok (.bl b) s
  | .int i, s => .ok (.int i) s
  | .str x, s => .ok (.str (S x)) s
  | .var i, s => match s.fr[i]? with
    | some (.val u) => .ok u s
    | some (.own xs) => .ok (.lst xs) { s with fr := s.fr.set i (.val (.lst xs)) }
    | _ => .bad
  | .peek i, s => match s.fr[i]? with
    | some (.val u) => .ok u s
    | some (.own xs) => .ok (.lst xs) s
    | _ => .bad
  | .glb g, s => .ok (p.glb g) s
  | .bin op a b, s => (evE p a s).bnd fun x s1 => (evE p b s1).bnd fun y s2 => binU op x y s2
  | .neg a, s => (evE p a s).bnd fun x s1 => match x with
    | .int i => .ok (.int (-i)) s1
    | _ => .bad
  | .nt t, s => (evE p t s).bnd fun x s1 => (tst x s1).bnd fun b s2 => .ok (.bl (!b)) s2
  | .an a b, s => (evE p a s).bnd fun x s1 => (tst x s1).bnd fun k s2 => match k with
    | true => evE p b s2
    | false => .ok x s2
  | .or a b, s => (evE p a s).bnd fun x s1 => (tst x s1).bnd fun k s2 => match k with
    | true => .ok x s2
    | false => evE p b s2
  | .cmp op a b, s => (evE p a s).bnd fun x s1 => (evE p b s1).bnd fun y s2 => cmpU op x y s2
  | .chain o1 o2 a b c, s => (evE p a s).bnd fun x s1 => (evE p b s1).bnd fun y s2 => (opt (cmpH s2.hp o1 x y) s2).bnd fun k s3 => match k with
    | true => (evE p c s3).bnd fun z s4 => cmpU o2 y z s4
    | false => .ok (.bl false) s3
  | .isN no a, s => (evE p a s).bnd fun x s1 => .ok (.bl (match x with | .non => !no | _ => no)) s1
  | .ite c a b, s => (evE p c s).bnd fun x s1 => (tst x s1).bnd fun k s2 => match k with
    | true => evE p a s2
    | false => evE p b s2
  | .tup es, s => (evEs p es s).bnd fun us s1 => .ok (.tup us) s1
  | .fr f, s => (evF p f s).bnd fun us s1 => .ok (.lst us) s1
  | .bx f, s => (evF p f s).bnd fun us s1 => .ok (.ref s1.hp.length) { s1 with hp := s1.hp ++ [.lst us] }
  | .frd d, s => (evD p d s).bnd fun kvs s1 => .ok (.dct kvs.1 kvs.2) s1
  | .bxd d, s => (evD p d s).bnd fun kvs s1 => .ok (.ref s1.hp.length) { s1 with hp := s1.hp ++ [.dct kvs.1 kvs.2] }
  | .call f es, s => (evEs p es s).bnd fun us s1 => rets p f us s1
  | .callK f perm es ks, s => (evEs p es s).bnd fun us s1 => (evEs p ks s1).bnd fun ws s2 => match permU (us ++ ws) perm with
    | some vs => rets p f vs s2
    | none => .bad
  | .new c f es, s => (evEs p es s).bnd fun us s1 => newU p c f us s1
  | .newK c f perm es ks, s => (evEs p es s).bnd fun us s1 => (evEs p ks s1).bnd fun ws s2 => match permU (us ++ ws) perm with
    | some vs => newU p c f vs s2
    | none => .bad
  | .meth f c m o es, s => (evE p o s).bnd fun x s1 => match insF s1.hp c x with
    | some fs => if (fs.lookup m).isNone then (evEs p es s1).bnd fun us s2 => rets p f (x :: us) s2 else .bad
    | none => .bad
  | .methK f c m perm o es ks, s => (evE p o s).bnd fun x s1 => match insF s1.hp c x with
    | some fs => if (fs.lookup m).isNone then (evEs p es s1).bnd fun us s2 => (evEs p ks s2).bnd fun ws s3 => (match permU (x :: us ++ ws) perm with
        | some vs => rets p f vs s3
        | none => .bad) else .bad
    | none => .bad
  | .fld c o f, s => (evE p o s).bnd fun x s1 => fldU c x f s1
  | .ix a b, s => (evE p a s).bnd fun x s1 => (evE p b s1).bnd fun y s2 => ixU x y s2
  | .sl a lo hi, s => (evE p a s).bnd fun x s1 => (evEo p lo s1).bnd fun l s2 => (evEo p hi s2).bnd fun h s3 => cutU x l h s3
  | .rev a, s => (evE p a s).bnd fun x s1 => revU x s1
  | .b1 b a, s => (evE p a s).bnd fun x s1 => b1U b x s1
  | .b2 b a c, s => (evE p a s).bnd fun x s1 => (evE p c s1).bnd fun y s2 => b2U b x y s2
  | .isi a ts, s => (evE p a s).bnd fun x s1 => .ok (.bl (ts.any fun t => isI s1.hp x t)) s1
  | .app o e, s => (evE p o s).bnd fun x s1 => if isLst s1.hp x then (evE p e s1).bnd fun y s2 => (match x with
    | .ref r => (match s2.hp[r]? with
      | some (.lst xs) => if xs.length < SZ then .ok .non { s2 with hp := s2.hp.set r (.lst (xs ++ [y])) } else .bad
      | _ => .bad)
    | _ => .bad) else .bad
  | .pop0 o, s => (evE p o s).bnd fun x s1 => match x with
    | .ref r => (match s1.hp[r]? with
      | some (.lst xs) => (match xs.getLast? with
        | some y => .ok y { s1 with hp := s1.hp.set r (.lst xs.dropLast) }
        | none => .bad)
      | _ => .bad)
    | _ => .bad
  | .pop1 o e, s => (evE p o s).bnd fun x s1 => if isLst s1.hp x then (evE p e s1).bnd fun y s2 => (match x, y with
    | .ref r, .int i => if i.natAbs < 2 ^ 62 then (match s2.hp[r]? with
      | some (.lst xs) => (match ixN xs.length i with
        | some k => (match xs[k]? with
          | some z => .ok z { s2 with hp := s2.hp.set r (.lst (xs.eraseIdx k)) }
          | none => .bad)
        | none => .bad)
      | _ => .bad) else .bad
    | _, _ => .bad) else .bad
  | .opop0 i, s => match s.fr[i]? with
    | some (.own xs) => (match xs.getLast? with
      | some y => .ok y { s with fr := s.fr.set i (.own xs.dropLast) }
      | none => .bad)
    | _ => .bad
  | .opop1 i e, s => if isOwn s.fr i then (evE p e s).bnd fun y s1 => (match y, s1.fr[i]? with
    | .int j, some (.own xs) => if j.natAbs < 2 ^ 62 then (match ixN xs.length j with
      | some k => (match xs[k]? with
        | some z => .ok z { s1 with fr := s1.fr.set i (.own (xs.eraseIdx k)) }
        | none => .bad)
      | none => .bad) else .bad
    | _, _ => .bad) else .bad
  | .pix i e, s => if isSet s.fr i then (evE p e s).bnd fun y s1 => (match s1.fr[i]? with
    | some (.own xs) => ixSq (some xs) y s1
    | some (.val u) => ixU u y s1
    | _ => .bad) else .bad
  | .pin no e i, s => (evE p e s).bnd fun y s1 => match s1.fr[i]? with
    | some (.own xs) => cmpU (if no then .notin else .isin) y (.lst xs) s1
    | some (.val u) => cmpU (if no then .notin else .isin) y u s1
    | _ => .bad
  | .psl i lo hi, s => if isSet s.fr i then (evEo p lo s).bnd fun l s1 => (evEo p hi s1).bnd fun h s2 => (match s2.fr[i]? with
    | some (.own xs) => .ok (.lst (cut xs l h)) s2
    | some (.val u) => cutU u l h s2
    | _ => .bad) else .bad
  | .lset a, s => (evE p a s).bnd fun x s1 => b1U .lenset x s1
  | .idx o e, s => (evE p o s).bnd fun x s1 => if (lstOf s1.hp x).isSome then (evE p e s1).bnd fun y s2 => idxU x y s2 else .bad
  | .pidx i e, s => if isLs s i then (evE p e s).bnd fun y s1 => (match s1.fr[i]? with
    | some (.own xs) => idxU (.lst xs) y s1
    | some (.val u) => idxU u y s1
    | _ => .bad) else .bad
  | .upper a, s => (evE p a s).bnd fun x s1 => upU x s1
  | .excf i f, s => match s.fr[i]? with
    | some (.exc c u) => if c < p.nx ∧ p.xfn c = f then .ok u s else .bad
    | _ => .bad
  | .excis i cs, s => match s.fr[i]? with
    | some (.exc c _) => if c < p.nx then .ok (.bl (cs.any fun d => p.sub c d)) s else .bad
    | _ => .bad
  | .excno i, s => match s.fr[i]? with
    | some (.exc c _) => if c < p.nx then .ok (.bl false) s else .bad
    | _ => .bad
def evEs (p : Px) : Es → St → Re (List U)
  | .nil, s => .ok [] s
  | .cons e es, s => (evE p e s).bnd fun u s1 => (evEs p es s1).bnd fun us s2 => .ok (u :: us) s2
def evEo (p : Px) : Eo → St → Re (Option Int)
  | .no, s => .ok none s
  | .so e, s => (evE p e s).bnd fun u s1 => match u with
    | .int i => .ok (some i) s1
    | _ => .bad
/-- a comprehension's test -/
def evC (p : Px) : Eo → St → Re Bool
  | .no, s => .ok true s
  | .so e, s => (evE p e s).bnd fun u s1 => tst u s1
def evF (p : Px) : F → St → Re (List U)
  | .disp es, s => evEs p es s
  | .comp elt t it c own, s => (evIt p it s).bnd fun xs s1 => if noOwn s1.fr own then
      (noEx (compS t own (evC p c) (evE p elt) xs s1)).bnd fun ys s2 => if ys.length ≤ SZ then .ok ys { s2 with fr := back s1.fr s2.fr own } else .bad else .bad
  | .comp2 elt t it t2 it2 c own own2, s => (evIt p it s).bnd fun src s1 => if noOwn s1.fr own then (match src with
      | .snap xs => (noEx (compL2 t own (fun s2 => (evIt p it2 s2).bnd fun src2 s3 => match src2 with
        | .snap ys => compL t2 own2 (evC p c) (evE p elt) ys s3
        | _ => .bad) xs s1)).bnd fun ys s2 => if ys.length ≤ SZ then .ok ys { s2 with fr := back s1.fr s2.fr own } else .bad
      | _ => .bad) else .bad
  | .of e, s => (evE p e s).bnd fun x s1 => ofU x s1
  | .srt e rev, s => (evE p e s).bnd fun x s1 => srtU x rev s1
  | .sl a lo hi, s => (evE p a s).bnd fun x s1 => (evEo p lo s1).bnd fun l s2 => (evEo p hi s2).bnd fun h s3 => match lstOf s3.hp x with
    | some xs => .ok (cut xs l h) s3
    | none => .bad
  | .cat a b, s => (evE p a s).bnd fun x s1 => (evE p b s1).bnd fun y s2 => match x, y with
    | .lst xs, .lst ys => catL xs ys s2
    | _, _ => .bad
  | .rep a b, s => (evE p a s).bnd fun x s1 => (evE p b s1).bnd fun y s2 => match x, y with
    | .lst xs, .int k => if xs.length * k.toNat ≤ SZ ∧ k.natAbs < 2 ^ 62 then .ok (List.replicate k.toNat xs).flatten s2 else .bad
    | _, _ => .bad
def evD (p : Px) : D → St → Re (Bool × List (U × U))
  | .disp t kv, s => (noEx (evKv p t kv s)).bnd fun ps s1 => if ps.length ≤ 15 then .ok (t, putAll ps []) s1 else .bad
  | .comp tk k v t it own, s => (evIt p it s).bnd fun src s1 => match src with
    | .snap xs => if noOwn s1.fr own then
      (noEx (compD t own (fun s2 => (evE p k s2).bnd fun x s3 => if putOk p tk x then (evE p v s3).bnd fun y s4 => .ok (x, y) s4 else .bad) xs s1 [])).bnd fun ys s2 => if ys.length < SZ then .ok (tk, ys) { s2 with fr := back s1.fr s2.fr own } else .bad else .bad
    | _ => .bad
  | .of e, s => (evE p e s).bnd fun x s1 => opt (dctOf s1.hp x) s1
/-- a dict's display: key, value, key, value -/
def evKv (p : Px) (t : Bool) : Kv → St → Re (List (U × U))
  | .nil, s => .ok [] s
  | .cons k v r, s => (evE p k s).bnd fun x s1 => (evE p v s1).bnd fun y s2 => if putOk p t x then (evKv p t r s2).bnd fun ps s3 => .ok ((x, y) :: ps) s3 else .bad
def evIt (p : Px) : It → St → Re Src
  | .seq e, s => (evE p e s).bnd fun x s1 => match x with
    | .str z => .ok (.snap (z.map fun c => .str [c])) s1
    | .tup xs => .ok (.snap xs) s1
    | .lst xs => .ok (.snap xs) s1
    | .scr xs => .ok (.snap (xs.map .int)) s1
    | .ref r => (match s1.hp[r]? with
      | some (.lst _) => .ok (.live r false) s1
      | _ => .bad)
    | _ => .bad
  | .rng1 a, s => (evE p a s).bnd fun x s1 => match x with
    | .int n => if n ≤ SZ ∧ -(2 ^ 62) ≤ n then .ok (.snap (rngL 0 1 n.toNat)) s1 else .bad
    | _ => .bad
  | .rng2 a b, s => (evE p a s).bnd fun x s1 => (evE p b s1).bnd fun y s2 => match x, y with
    | .int m, .int n => if n - m ≤ SZ ∧ -(2 ^ 62) ≤ m ∧ m < 2 ^ 62 ∧ -(2 ^ 62) ≤ n ∧ n < 2 ^ 62 then .ok (.snap (rngL m 1 (n - m).toNat)) s2 else .bad
    | _, _ => .bad
  | .rng3 a b c, s => (evE p a s).bnd fun x s1 => (evE p b s1).bnd fun y s2 => match x, y with
    | .int m, .int n => if 0 < c ∧ n - m ≤ SZ ∧ -(2 ^ 60) ≤ m ∧ m < 2 ^ 60 ∧ -(2 ^ 60) ≤ n ∧ n < 2 ^ 60 ∧ c < 1000 then .ok (.snap (rngL m c (rngN m n c))) s2 else .bad
    | _, _ => .bad
  | .enum e, s => (evE p e s).bnd fun x s1 => match x with
    | .tup xs => .ok (.snap (enumL 0 xs)) s1
    | .lst xs => .ok (.snap (enumL 0 xs)) s1
    | .ref r => (match s1.hp[r]? with
      | some (.lst _) => .ok (.live r true) s1
      | _ => .bad)
    | _ => .bad
  | .zip a b, s => (evE p a s).bnd fun x s1 => (evE p b s1).bnd fun y s2 => match x, y with
    | .tup xs, .tup ys => .ok (.snap (zipL xs ys)) s2
    | .tup xs, .lst ys => .ok (.snap (zipL xs ys)) s2
    | .lst xs, .tup ys => .ok (.snap (zipL xs ys)) s2
    | .lst xs, .lst ys => .ok (.snap (zipL xs ys)) s2
    | _, _ => .bad
end

/-! ### statements -/
def forL (t : T) (body : St → Rs) : List U → St → Rs
  | [], s => .nx s
  | x :: xs, s => match bindT t x s.fr with
    | none => .bad
    | some fr => match body { s with fr := fr } with
      | .nx s1 => forL t body xs s1
      | .ct s1 => forL t body xs s1
      | .bk s1 => .nx s1
      | .rt u s1 => .rt u s1
      | .ex c u s1 => .ex c u s1
      | .bad => .bad
def forV (t : T) (body : St → Rs) (r : Nat) (en : Bool) : Nat → Nat → St → Rs
  | 0, _, _ => .bad
  | n + 1, i, s => match liveAt s.hp r i en with
    | none => .bad
    | some none => .nx s
    | some (some x) => match bindT t x s.fr with
      | none => .bad
      | some fr => match body { s with fr := fr } with
        | .nx s1 => forV t body r en n (i + 1) s1
        | .ct s1 => forV t body r en n (i + 1) s1
        | .bk s1 => .nx s1
        | .rt u s1 => .rt u s1
        | .ex c u s1 => .ex c u s1
        | .bad => .bad
def forS (t : T) (body : St → Rs) (src : Src) (s : St) : Rs := match src with
  | .snap xs => forL t body xs s
  | .live r en => forV t body r en (SZ + 1) 0 s
def whlL (c : St → Re Bool) (body : St → Rs) : Nat → St → Rs
  | 0, _ => .bad
  | n + 1, s => (c s).toS fun b s1 => match b with
    | false => .nx s1
    | true => match body s1 with
      | .nx s2 => whlL c body n s2
      | .ct s2 => whlL c body n s2
      | .bk s2 => .nx s2
      | .rt u s2 => .rt u s2
      | .ex c u s2 => .ex c u s2
      | .bad => .bad

def setI (i : Nat) (x : Sl) (s : St) : Rs := if i < s.fr.length then .nx { s with fr := s.fr.set i x } else .bad
/-- o[k] = v -/
def ixsU (p : Px) (o k v : U) (s : St) : Rs := match o with
  | .ref r => (match s.hp[r]? with
    | some (.lst xs) => (match k with
      | .int i => (match ixN xs.length i with
        | some j => .nx { s with hp := s.hp.set r (.lst (xs.set j v)) }
        | none => .bad)
      | _ => .bad)
    | some (.dct t kvs) => if putOk p t k = true ∧ kvs.length < SZ then .nx { s with hp := s.hp.set r (.dct t (dput k v kvs)) } else .bad
    | _ => .bad)
  | _ => .bad
def flsU (c : Nat) (o : U) (f : String) (v : U) (s : St) : Rs := match o with
  | .ref r => (match insF s.hp c (.ref r) with
    | some fs => if fs.length < 900 then .nx { s with hp := s.hp.set r (.ins c (putF f v fs)) } else .bad
    | none => .bad)
  | _ => .bad
def isRef : U → Bool
  | .ref _ => true
  | _ => false
/-- op= : as op, but a list has none here -/
def augU (op : Bop) (a b : U) (s : St) : Re U := match a with
  | .int _ => binU op a b s
  | .str _ => binU op a b s
  | _ => .bad

/-- a clause's suite is over: its name is gone -/
def gone (i : Option Nat) (s : St) : St := match i with
  | none => s
  | some i => { s with fr := s.fr.set i .emp }
def hold (i : Option Nat) (c : Nat) (u : U) (s : St) : St := match i with
  | none => s
  | some i => { s with fr := s.fr.set i (.exc c u) }
/-- the name's slot is there -/
def fits (i : Option Nat) (s : St) : Bool := match i with
  | none => true
  | some i => decide (i < s.fr.length)
/-- no exception stands in the frame -/
def clean (fr : List Sl) : Bool := fr.all fun x => match x with
  | .exc _ _ => false
  | _ => true
def endH (i : Option Nat) (r : Rs) : Rs := match r with
  | .nx s => if clean (gone i s).fr then .nx (gone i s) else .bad
  | .rt u s => if clean (gone i s).fr then .rt u (gone i s) else .bad
  | .bk s => if clean (gone i s).fr then .bk (gone i s) else .bad
  | .ct s => if clean (gone i s).fr then .ct (gone i s) else .bad
  | .ex _ _ _ => .bad
  | .bad => .bad

mutual
def evS (p : Px) : Sm → St → Rs
  | .pass, s => .nx s
  | .brk, s => .bk s
  | .cont, s => .ct s
  | .ex e, s => (evE p e s).toS fun _ s1 => .nx s1
  | .set i e, s => (evE p e s).toS fun u s1 => setI i (.val u) s1
  | .own i f, s => (evF p f s).toS fun us s1 => setI i (.own us) s1
  | .setT t e, s => (evE p e s).toS fun u s1 => match bindTd t s1.hp u s1.fr with
    | some fr => .nx { s1 with fr := fr }
    | none => .bad
  | .par ts es, s => (evEs p es s).toS fun us s1 => match bindTs (ts.map T.s) us s1.fr with
    | some fr => .nx { s1 with fr := fr }
    | none => .bad
  | .ixs o k e, s => (evE p e s).toS fun v s1 => (evE p o s1).toS fun x s2 => (evE p k s2).toS fun y s3 => ixsU p x y v s3
  | .fls c o f e, s => (evE p e s).toS fun v s1 => (evE p o s1).toS fun x s2 => flsU c x f v s2
  | .oixs i k e, s => if isOwn s.fr i then (evE p e s).toS fun v s1 => (evE p k s1).toS fun y s2 => (match s2.fr[i]? with
    | some (.own xs) => (match y with
      | .int j => (match ixN xs.length j with
        | some n => .nx { s2 with fr := s2.fr.set i (.own (xs.set n v)) }
        | none => .bad)
      | _ => .bad)
    | _ => .bad) else .bad
  | .aug i op e, s => match s.fr[i]? with
    | some (.val x) => (evE p e s).toS fun y s1 => (augU op x y s1).toS fun z s2 => setI i (.val z) s2
    | _ => .bad
  | .augI o k op e, s => (evE p o s).toS fun x s1 => if isRef x then (evE p k s1).toS fun y s2 => (ixU x y s2).toS fun a s3 => (evE p e s3).toS fun b s4 => (augU op a b s4).toS fun z s5 => ixsU p x y z s5 else .bad
  | .augF c o f op e, s => (evE p o s).toS fun x s1 => (fldU c x f s1).toS fun a s2 => (evE p e s2).toS fun b s3 => (augU op a b s3).toS fun z s4 => flsU c x f z s4
  | .oapp i e, s => if isOwn s.fr i then (evE p e s).toS fun v s1 => (match s1.fr[i]? with
    | some (.own xs) => if xs.length < SZ then .nx { s1 with fr := s1.fr.set i (.own (xs ++ [v])) } else .bad
    | _ => .bad) else .bad
  | .oext i e, s => if isOwn s.fr i then (evE p e s).toS fun v s1 => (match s1.fr[i]?, lstOf s1.hp v with
    | some (.own xs), some ys => if xs.length + ys.length ≤ SZ then .nx { s1 with fr := s1.fr.set i (.own (xs ++ ys)) } else .bad
    | _, _ => .bad) else .bad
  | .oins i k e, s => if isOwn s.fr i then (evE p k s).toS fun y s1 => (evE p e s1).toS fun v s2 => (match s2.fr[i]?, y with
    | some (.own xs), .int j => if 0 ≤ j ∧ j < 2 ^ 62 ∧ xs.length < SZ then .nx { s2 with fr := s2.fr.set i (.own (xs.take j.toNat ++ [v] ++ xs.drop j.toNat)) } else .bad
    | _, _ => .bad) else .bad
  | .ite c a b, s => (evE p c s).toS fun x s1 => (tst x s1).toS fun k s2 => match k with
    | true => evB p a s2
    | false => evB p b s2
  | .whl c b, s => whlL (fun s => (evE p c s).bnd tst) (evB p b) SZ s
  | .for_ t it b, s => (evIt p it s).toS fun src s1 => forS t (evB p b) src s1
  | .ret e, s => (evE p e s).toS fun u s1 => .rt u s1
  | .ret0, s => .rt .non s
  | .rais c e, s => (evE p e s).toS fun u s1 => .ex c u s1
  | .try_ b hs, s => match evB p b s with
    | .ex c u s1 => evH p hs c u s1
    | .nx s1 => .nx s1
    | .rt u s1 => .rt u s1
    | .bk s1 => .bk s1
    | .ct s1 => .ct s1
    | .bad => .bad
def evB (p : Px) : Bl → St → Rs
  | .nil, s => .nx s
  | .cons st b, s => match evS p st s with
    | .nx s1 => evB p b s1
    | .rt u s1 => .rt u s1
    | .bk s1 => .bk s1
    | .ct s1 => .ct s1
    | .ex c u s1 => .ex c u s1
    | .bad => .bad
def evH (p : Px) : Hs → Nat → U → St → Rs
  | .nil, c, u, s => .ex c u s
  | .cons d i b hs, c, u, s => if c < p.nx then (match p.sub c d with
    | true => if fits i s then endH i (evB p b (hold i c u s)) else .bad
    | false => evH p hs c u s) else .bad
end

/-! ### a program -/
structure Fn where
  /-- how many parameters -/
  np : Nat
  /-- the names, parameters first -/
  ns : List String
  body : Bl
structure Pr where
  fns : Nat → Option Fn
  glb : Nat → U
  sub : Nat → Nat → Bool
  kts : List (List U)
  nx : Nat
  xfn : Nat → String

def endC (r : Rs) : Rc := match r with
  | .nx s => .ok .non s.hp
  | .rt u s => .ok u s.hp
  | .ex c u s => .ex c u s.hp
  | _ => .bad
def frame (n : Nat) (us : List U) : List Sl := us.map .val ++ List.replicate (n - us.length) .emp
/-- a call of the i-th def, at most k calls deep -/
def callF (P : Pr) : Nat → Nat → List U → Hp → Rc
  | 0, _, _, _ => .bad
  | k + 1, i, us, h => match P.fns i with
    | none => .bad
    | some f => if us.length = f.np then endC (evB ⟨P.glb, callF P k, P.sub, P.kts, P.nx, P.xfn⟩ f.body ⟨frame f.ns.length us, h⟩) else .bad
end Pix
end
section
set_option Elab.async false
set_option linter.all false
set_option maxRecDepth 100000
set_option maxHeartbeats 1000000
/-! PixP1: what a run ends in, step by step (plain Lean). -/
namespace Pix
/-! ### ends -/
def Re.W {α : Type} (r : Re α) (Q : α → St → Prop) (X : Nat → U → St → Prop) : Prop := match r with
  | .ok a s => Q a s
  | .ex c u s => X c u s
  | .bad => False
structure Kt where
  nx : St → Prop
  rt : U → St → Prop
  bk : St → Prop
  ct : St → Prop
  ex : Nat → U → St → Prop
def Rs.W (r : Rs) (K : Kt) : Prop := match r with
  | .nx s => K.nx s
  | .rt u s => K.rt u s
  | .bk s => K.bk s
  | .ct s => K.ct s
  | .ex c u s => K.ex c u s
  | .bad => False
def Rc.W (r : Rc) (Q : U → Hp → Prop) (X : Nat → U → Hp → Prop) : Prop := match r with
  | .ok u h => Q u h
  | .ex c u h => X c u h
  | .bad => False



section
variable {α β : Type} {Q : α → St → Prop} {Q2 : β → St → Prop} {X : Nat → U → St → Prop} {K : Kt}
theorem W_ok {a : α} {s : St} : (Re.ok a s).W Q X = Q a s := rfl
theorem W_ex {c : Nat} {u : U} {s : St} : (Re.ex c u s : Re α).W Q X = X c u s := rfl
theorem W_bnd {r : Re α} {f : α → St → Re β} : (r.bnd f).W Q2 X = r.W (fun a s => (f a s).W Q2 X) X := by cases r <;> rfl
theorem W_toS {r : Re α} {f : α → St → Rs} : (r.toS f).W K = r.W (fun a s => (f a s).W K) K.ex := by cases r <;> rfl
theorem W_nx {s : St} : (Rs.nx s).W K = K.nx s := rfl
theorem W_rt {u : U} {s : St} : (Rs.rt u s).W K = K.rt u s := rfl
theorem W_bk {s : St} : (Rs.bk s).W K = K.bk s := rfl
theorem W_ct {s : St} : (Rs.ct s).W K = K.ct s := rfl
theorem W_sx {c : Nat} {u : U} {s : St} : (Rs.ex c u s).W K = K.ex c u s := rfl
theorem W_noEx {r : Re α} : (noEx r).W Q X = r.W Q (fun _ _ _ => False) := by cases r <;> rfl
theorem Re.W.imp {r : Re α} {Q' : α → St → Prop} {X' : Nat → U → St → Prop} (h : r.W Q X) (hq : ∀ a s, Q a s → Q' a s) (hx : ∀ c u s, X c u s → X' c u s) : r.W Q' X' := by
  cases r with
  | ok a s => exact hq _ _ h
  | ex c u s => exact hx _ _ _ h
  | bad => exact h
theorem Rs.W.imp {r : Rs} {K' : Kt} (h : r.W K) (h1 : ∀ s, K.nx s → K'.nx s) (h2 : ∀ u s, K.rt u s → K'.rt u s) (h3 : ∀ s, K.bk s → K'.bk s) (h4 : ∀ s, K.ct s → K'.ct s) (h5 : ∀ c u s, K.ex c u s → K'.ex c u s) : r.W K' := by
  cases r with
  | nx s => exact h1 _ h
  | rt u s => exact h2 _ _ h
  | bk s => exact h3 _ h
  | ct s => exact h4 _ h
  | ex c u s => exact h5 _ _ _ h
  | bad => exact h
end
theorem Rc.W.imp {r : Rc} {Q Q' : U → Hp → Prop} {X X' : Nat → U → Hp → Prop} (h : r.W Q X) (hq : ∀ a s, Q a s → Q' a s) (hx : ∀ c u s, X c u s → X' c u s) : r.W Q' X' := by
  cases r with
  | ok a s => exact hq _ _ h
  | ex c u s => exact hx _ _ _ h
  | bad => exact h
theorem Rc.W.eq {r : Rc} {v : U} {h : Hp} (w : r.W (fun u h' => u = v ∧ h' = h) (fun _ _ _ => False)) : r = .ok v h := by
  cases r with
  | ok u h' => obtain ⟨rfl, rfl⟩ := w; rfl
  | ex c u s => exact w.elim
  | bad => exact (show False from w).elim
theorem Rc.W.eqx {r : Rc} {c : Nat} {v : U} {h : Hp} (w : r.W (fun _ _ => False) (fun c' u h' => c' = c ∧ u = v ∧ h' = h)) : r = .ex c v h := by
  cases r with
  | ok u h' => exact (show False from w).elim
  | ex c' u s => obtain ⟨rfl, rfl, rfl⟩ := w; rfl
  | bad => exact (show False from w).elim
theorem Rc.W.ex_ok {r : Rc} {Q : U → Hp → Prop} (w : r.W Q (fun _ _ _ => False)) : ∃ v h, r = .ok v h ∧ Q v h := by
  cases r with
  | ok u h' => exact ⟨u, h', rfl, w⟩
  | ex c u s => exact w.elim
  | bad => exact (show False from w).elim
/-! ### calls -/
abbrev pxOf (P : Pr) (k : Nat) : Px := ⟨P.glb, callF P k, P.sub, P.kts, P.nx, P.xfn⟩
def kC (Q : U → Hp → Prop) (X : Nat → U → Hp → Prop) : Kt := ⟨fun s => Q .non s.hp, fun u s => Q u s.hp, fun _ => False, fun _ => False, fun c u s => X c u s.hp⟩
theorem W_enter {P : Pr} {k i : Nat} {us : List U} {h : Hp} {f : Fn} {Q : U → Hp → Prop} {X : Nat → U → Hp → Prop} (hf : P.fns i = some f) (hn : us.length = f.np)
    (w : (evB (pxOf P k) f.body ⟨frame f.ns.length us, h⟩).W (kC Q X)) : (callF P (k + 1) i us h).W Q X := by
  simp only [callF, hf, if_pos hn]
  show (endC (evB (pxOf P k) f.body ⟨frame f.ns.length us, h⟩)).W Q X
  revert w
  cases evB (pxOf P k) f.body ⟨frame f.ns.length us, h⟩ <;> exact id
theorem W_rets {p : Px} {f : Nat} {us : List U} {fr : List Sl} {hp : Hp} {Q : U → St → Prop} {X : Nat → U → St → Prop} : (rets p f us ⟨fr, hp⟩).W Q X = (p.call f us hp).W (fun u h => Q u ⟨fr, h⟩) (fun c u h => X c u ⟨fr, h⟩) := by
  unfold rets
  cases p.call f us hp <;> rfl
theorem px_call {P : Pr} {k : Nat} : (pxOf P k).call = callF P k := rfl
theorem px_glb {P : Pr} {k : Nat} : (pxOf P k).glb = P.glb := rfl
theorem Wc_ok {u : U} {h : Hp} {Q : U → Hp → Prop} {X : Nat → U → Hp → Prop} : (Rc.ok u h).W Q X = Q u h := rfl
theorem Wc_ex {c : Nat} {u : U} {h : Hp} {Q : U → Hp → Prop} {X : Nat → U → Hp → Prop} : (Rc.ex c u h).W Q X = X c u h := rfl
/-! ### statements, one behind another -/
theorem W_cons {p : Px} {st : Sm} {b : Bl} {s : St} {K : Kt} : (evB p (.cons st b) s).W K = (evS p st s).W ⟨fun s1 => (evB p b s1).W K, K.rt, K.bk, K.ct, K.ex⟩ := by
  rw [evB]
  cases evS p st s <;> rfl
theorem W_nil {p : Px} {s : St} {K : Kt} : (evB p .nil s).W K = K.nx s := by rw [evB]; rfl
theorem W_sif {p : Px} {c : E} {a b : Bl} {s : St} {K : Kt} : (evS p (.ite c a b) s).W K = (evE p c s).W (fun x s1 => (tst x s1).W (fun k s2 => if k = true then (evB p a s2).W K else (evB p b s2).W K) K.ex) K.ex := by
  rw [evS, W_toS]
  congr 1
  funext x s1
  rw [W_toS]
  congr 1
  funext k s2
  cases k <;> rfl
theorem W_sfor {p : Px} {t : T} {it : It} {b : Bl} {s : St} {K : Kt} : (evS p (.for_ t it b) s).W K = (evIt p it s).W (fun src s1 => (forS t (evB p b) src s1).W K) K.ex := by
  rw [evS, W_toS]
theorem q_tst_bl {b : Bool} {s : St} : tst (.bl b) s = .ok b s := rfl
theorem tst_int {i : Int} {s : St} : tst (.int i) s = .ok (i != 0) s := rfl
theorem tst_non {s : St} : tst .non s = .ok false s := rfl
theorem tst_str {x : List Nat} {s : St} : tst (.str x) s = .ok (!x.isEmpty) s := rfl
theorem tst_lst {x : List U} {s : St} : tst (.lst x) s = .ok (!x.isEmpty) s := rfl
theorem tst_tup {x : List U} {s : St} : tst (.tup x) s = .ok (!x.isEmpty) s := rfl
/-! ### loops -/
theorem W_forL {t : T} {body : St → Rs} {K : Kt} (Inv : Nat → St → Prop) {xs : List U} {s : St} (h0 : Inv 0 s)
    (step : ∀ i x s, xs[i]? = some x → Inv i s → ∃ fr, bindT t x s.fr = some fr ∧ (body ⟨fr, s.hp⟩).W ⟨Inv (i + 1), K.rt, K.nx, Inv (i + 1), K.ex⟩) (hend : ∀ s, Inv xs.length s → K.nx s) : (forS t body (.snap xs) s).W K := by
  show (forL t body xs s).W K
  suffices H : ∀ (ys : List U) (n : Nat) (s : St), (∀ i, ys[i]? = xs[n + i]?) → n + ys.length = xs.length → Inv n s → (forL t body ys s).W K from H xs 0 s (fun i => by rw [Nat.zero_add]) (by omega) h0
  intro ys
  induction ys with
  | nil => intro n s hy hl hi; exact hend s (by rw [← hl]; exact hi)
  | cons y ys ih =>
    intro n s hy hl hi
    have h1 : xs[n]? = some y := by rw [← Nat.add_zero n, ← hy 0]; rfl
    obtain ⟨fr, e, w⟩ := step n y s h1 hi
    unfold forL
    rw [e]
    dsimp only
    have next : ∀ s1, Inv (n + 1) s1 → (forL t body ys s1).W K := fun s1 hi1 => ih (n + 1) s1 (fun i => by rw [show n + 1 + i = n + (i + 1) by omega, ← hy (i + 1)]; rfl) (by rw [List.length_cons] at hl; omega) hi1
    revert w
    cases body ⟨fr, s.hp⟩ with
    | nx s1 => exact fun w => next s1 w
    | ct s1 => exact fun w => next s1 w
    | bk s1 => exact fun w => w
    | rt u s1 => exact fun w => w
    | ex c u s1 => exact fun w => w
    | bad => exact fun w => w
/-- the frame within a comprehension: only the block's own slots change -/
theorem q_wipe_get {fr : List Sl} {i : Nat} : ∀ {vs : List Nat}, i ∉ vs → (wipe fr vs)[i]? = fr[i]?
  | [], _ => rfl
  | v :: vs, h => by
    rw [wipe, List.getElem?_set_ne (by intro e; exact h (by simp [e]))]
    exact q_wipe_get fun z => h (by simp [z])
theorem q_wipe_len {fr : List Sl} : ∀ {vs : List Nat}, (wipe fr vs).length = fr.length
  | [] => rfl
  | v :: vs => by rw [wipe, List.length_set]; exact q_wipe_len
theorem q_back_get {old new : List Sl} {i : Nat} : ∀ {vs : List Nat}, i ∉ vs → (back old new vs)[i]? = new[i]?
  | [], _ => rfl
  | v :: vs, h => by
    rw [back]
    have ih := q_back_get (old := old) (new := new) (i := i) (vs := vs) fun z => h (by simp [z])
    split
    · rw [List.getElem?_set_ne (by intro e; exact h (by simp [e]))]; exact ih
    · exact ih
theorem q_back_len {old new : List Sl} : ∀ {vs : List Nat}, (back old new vs).length = new.length
  | [] => rfl
  | v :: vs => by
    rw [back]
    split
    · rw [List.length_set]; exact q_back_len
    · exact q_back_len
theorem q_back_in {old new : List Sl} {i : Nat} (hl : new.length = old.length) : ∀ {vs : List Nat}, i ∈ vs → (back old new vs)[i]? = old[i]?
  | [], h => by cases h
  | v :: vs, h => by
    rw [back]
    cases e : old[v]? with
    | some x =>
      dsimp only
      by_cases hv : v = i
      · subst hv
        rw [List.getElem?_set_self (by rw [q_back_len, hl]; exact (List.getElem?_eq_some_iff.mp e).1), e]
      · rw [List.getElem?_set_ne hv]
        exact q_back_in hl (by rcases List.mem_cons.mp h with z | z; exact absurd z.symm hv; exact z)
    | none =>
      dsimp only
      by_cases hi : i ∈ vs
      · exact q_back_in hl hi
      · have : i = v := by rcases List.mem_cons.mp h with z | z; exact z; exact absurd z hi
        subst this
        rw [q_back_get hi, e]
        rw [List.getElem?_eq_none_iff] at e ⊢
        omega
theorem q_back_eq {old new : List Sl} {vs : List Nat} (h : wipe new vs = wipe old vs) : back old new vs = old := by
  have hl : new.length = old.length := by rw [← q_wipe_len (fr := new) (vs := vs), h, q_wipe_len]
  apply List.ext_getElem?
  intro i
  by_cases hi : i ∈ vs
  · exact q_back_in hl hi
  · rw [q_back_get hi, ← q_wipe_get (fr := new) hi, h, q_wipe_get hi]
/-- a comprehension whose turns leave the frame as it was -/
theorem W_compL {t : T} {own : List Nat} {test : St → Re Bool} {elt : St → Re U} {X : Nat → U → St → Prop} (Inv : Nat → List U → Hp → Prop) {w : List Sl} {xs : List U} {s : St} {Q : List U → St → Prop} (h0 : Inv 0 [] s.hp) (hw : wipe s.fr own = w)
    (step : ∀ i x ys hp, xs[i]? = some x → Inv i ys hp → ∃ fr, bindT t x w = some fr ∧ (test ⟨fr, hp⟩).W (fun b s1 => if b = true then (elt s1).W (fun y s2 => wipe s2.fr own = w ∧ Inv (i + 1) (ys ++ [y]) s2.hp) X else wipe s1.fr own = w ∧ Inv (i + 1) ys s1.hp) X)
    (hend : ∀ ys s2, wipe s2.fr own = w → Inv xs.length ys s2.hp → Q ys s2) : (compL t own test elt xs s).W Q X := by
  suffices H : ∀ (zs : List U) (n : Nat) (ys : List U) (s : St) (Q : List U → St → Prop), (∀ i, zs[i]? = xs[n + i]?) → n + zs.length = xs.length → Inv n ys s.hp → wipe s.fr own = w → (∀ rs s2, wipe s2.fr own = w → Inv xs.length (ys ++ rs) s2.hp → Q rs s2) → (compL t own test elt zs s).W Q X from
    H xs 0 [] s Q (fun i => by rw [Nat.zero_add]) (by omega) h0 hw fun rs s2 h1 h2 => hend rs s2 h1 (by simpa using h2)
  intro zs
  induction zs with
  | nil => intro n ys s Q hy hl hi hw hq; exact hq [] s hw (by rw [List.append_nil, ← hl]; exact hi)
  | cons z zs ih =>
    intro n ys s Q hy hl hi hw hq
    have h1 : xs[n]? = some z := by rw [← Nat.add_zero n, ← hy 0]; rfl
    obtain ⟨fr, e, q⟩ := step n z ys s.hp h1 hi
    unfold compL
    rw [hw, e]
    dsimp only
    rw [W_bnd]
    refine q.imp (fun b s1 q1 => ?_) fun _ _ _ h => h
    have hy' : ∀ i, zs[i]? = xs[n + 1 + i]? := fun i => by rw [show n + 1 + i = n + (i + 1) by omega, ← hy (i + 1)]; rfl
    have hl' : n + 1 + zs.length = xs.length := by rw [List.length_cons] at hl; omega
    cases b with
    | true =>
      dsimp only
      rw [W_bnd]
      rw [if_pos rfl] at q1
      refine q1.imp (fun y s2 ⟨q2, q3⟩ => ?_) fun _ _ _ h => h
      rw [W_bnd]
      exact ih (n + 1) (ys ++ [y]) s2 _ hy' hl' q3 q2 fun rs s3 q4 q5 => hq _ s3 q4 (by rw [List.append_assoc] at q5; exact q5)
    | false =>
      dsimp only
      rw [if_neg (by simp)] at q1
      obtain ⟨q2, q3⟩ := q1
      exact ih (n + 1) ys s1 Q hy' hl' q3 q2 hq
/-- what is wanted of an end, not yet opened -/
def Ap {α : Type} (Q : α → St → Prop) (a : α) (s : St) : Prop := Q a s
/-- .. of a fresh list by a comprehension -/
theorem W_comp {p : Px} {elt : E} {t : T} {it : It} {c : Eo} {own : List Nat} {s : St} {Q : List U → St → Prop} {X : Nat → U → St → Prop} : (evF p (.comp elt t it c own) s).W Q X =
    (evIt p it s).W (fun src s1 => if noOwn s1.fr own = true then (compS t own (evC p c) (evE p elt) src s1).W (fun ys s2 => if ys.length ≤ SZ then Q ys { s2 with fr := back s1.fr s2.fr own } else False) (fun _ _ _ => False) else False) X := by
  rw [evF, W_bnd]
  congr 1
  funext src s1
  split
  · rw [W_bnd, W_noEx]
    cases compS t own (evC p c) (evE p elt) src s1 with
    | ok ys s2 =>
      show Re.W (if _ then _ else _) Q X = if _ then _ else _
      split <;> rfl
    | ex _ _ _ => rfl
    | bad => rfl
  · rfl
/-- the rule for one: the heap may change by turns, the frame is what it was -/
theorem comp_rule {p : Px} {elt : E} {t : T} {c : Eo} {own : List Nat} {fr : List Sl} {hp : Hp} {Q : List U → St → Prop} {xs : List U} (Inv : Nat → List U → Hp → Prop) (hn : noOwn fr own = true) (hl : xs.length ≤ SZ) (h0 : Inv 0 [] hp)
    (step : ∀ i x ys hp, xs[i]? = some x → Inv i ys hp → ∃ fr1, bindT t x (wipe fr own) = some fr1 ∧ (evC p c ⟨fr1, hp⟩).W (fun b s1 => if b = true then (evE p elt s1).W (fun y s2 => wipe s2.fr own = wipe fr own ∧ Inv (i + 1) (ys ++ [y]) s2.hp) (fun _ _ _ => False) else wipe s1.fr own = wipe fr own ∧ Inv (i + 1) ys s1.hp) (fun _ _ _ => False))
    (hend : ∀ ys hp2, ys.length ≤ xs.length → Inv xs.length ys hp2 → Q ys ⟨fr, hp2⟩) :
    if noOwn fr own = true then (compS t own (evC p c) (evE p elt) (.snap xs) ⟨fr, hp⟩).W (fun ys s2 => if ys.length ≤ SZ then Ap Q ys { s2 with fr := back fr s2.fr own } else False) (fun _ _ _ => False) else False := by
  rw [if_pos hn]
  show (compL t own (evC p c) (evE p elt) xs ⟨fr, hp⟩).W _ _
  refine W_compL (fun i ys h => Inv i ys h ∧ ys.length ≤ i) (w := wipe fr own) ⟨h0, Nat.le_refl _⟩ rfl (fun i x ys hp hx hi => ?_) fun ys s2 hw hi => ?_
  · obtain ⟨fr1, e, q⟩ := step i x ys hp hx hi.1
    refine ⟨fr1, e, q.imp (fun b s1 q1 => ?_) fun _ _ _ h => h⟩
    cases b with
    | true =>
      rw [if_pos rfl] at q1 ⊢
      exact q1.imp (fun y s2 ⟨q2, q3⟩ => ⟨q2, q3, by rw [List.length_append]; simp; exact hi.2⟩) fun _ _ _ h => h
    | false =>
      rw [if_neg (by simp)] at q1 ⊢
      exact ⟨q1.1, q1.2, Nat.le_succ_of_le hi.2⟩
  · rw [if_pos (Nat.le_trans hi.2 hl)]
    rw [q_back_eq hw]
    exact hend ys s2.hp hi.2 hi.1
/-! ### lists that stand in the heap, walked -/
/-- a walk over a boxed list that does not change while it is walked (its box holds xs at each turn) -/
theorem W_forV {t : T} {body : St → Rs} {K : Kt} {r : Nat} {en : Bool} (Inv : Nat → St → Prop) {xs : List U} {s : St} (h0 : Inv 0 s) (hl : xs.length ≤ SZ)
    (hb : ∀ i s, i ≤ xs.length → Inv i s → s.hp[r]? = some (.lst xs))
    (step : ∀ i x s, xs[i]? = some x → Inv i s → ∃ fr, bindT t (if en then .tup [.int (i : Nat), x] else x) s.fr = some fr ∧ (body ⟨fr, s.hp⟩).W ⟨Inv (i + 1), K.rt, K.nx, Inv (i + 1), K.ex⟩) (hend : ∀ s, Inv xs.length s → K.nx s) : (forS t body (.live r en) s).W K := by
  show (forV t body r en (SZ + 1) 0 s).W K
  suffices H : ∀ (m n : Nat) (s : St), n ≤ xs.length → xs.length < n + m → Inv n s → (forV t body r en m n s).W K from H (SZ + 1) 0 s (Nat.zero_le _) (by omega) h0
  intro m
  induction m with
  | zero => intro n s hn hm hi; omega
  | succ m ih =>
    intro n s hn hm hi
    unfold forV liveAt
    rw [hb n s hn hi]
    dsimp only
    by_cases hlt : n < xs.length
    · have h1 : xs[n]? = some xs[n] := List.getElem?_eq_getElem hlt
      rw [h1]
      dsimp only
      obtain ⟨fr, e, w⟩ := step n _ s h1 hi
      rw [e]
      dsimp only
      have next : ∀ s1, Inv (n + 1) s1 → (forV t body r en m (n + 1) s1).W K := fun s1 hi1 => ih (n + 1) s1 (by omega) (by omega) hi1
      revert w
      cases body ⟨fr, s.hp⟩ with
      | nx s1 => exact fun w => next s1 w
      | ct s1 => exact fun w => next s1 w
      | bk s1 => exact fun w => w
      | rt u s1 => exact fun w => w
      | ex c u s1 => exact fun w => w
      | bad => exact fun w => w
    · have e : n = xs.length := by omega
      subst e
      rw [List.getElem?_eq_none (Nat.le_refl _)]
      exact hend s hi
/-- a walk over a boxed list whose items may be changed while it is walked: f i has the items ahead of turn i -/
theorem W_forW {t : T} {body : St → Rs} {K : Kt} {r : Nat} {en : Bool} (Inv : Nat → List U → St → Prop) {xs : List U} {s : St} (h0 : Inv 0 xs s) (hl : xs.length ≤ SZ)
    (hb : ∀ i ys s, Inv i ys s → s.hp[r]? = some (.lst ys) ∧ ys.length = xs.length)
    (step : ∀ i ys x s, ys[i]? = some x → Inv i ys s → ∃ fr, bindT t (if en then .tup [.int (i : Nat), x] else x) s.fr = some fr ∧ (body ⟨fr, s.hp⟩).W ⟨fun s1 => ∃ zs, Inv (i + 1) zs s1, K.rt, K.nx, fun s1 => ∃ zs, Inv (i + 1) zs s1, K.ex⟩) (hend : ∀ ys s, Inv xs.length ys s → K.nx s) : (forS t body (.live r en) s).W K := by
  show (forV t body r en (SZ + 1) 0 s).W K
  suffices H : ∀ (m n : Nat) (ys : List U) (s : St), n ≤ xs.length → xs.length < n + m → Inv n ys s → (forV t body r en m n s).W K from H (SZ + 1) 0 xs s (Nat.zero_le _) (by omega) h0
  intro m
  induction m with
  | zero => intro n ys s hn hm hi; omega
  | succ m ih =>
    intro n ys s hn hm hi
    obtain ⟨h2, h3⟩ := hb n ys s hi
    unfold forV liveAt
    rw [h2]
    dsimp only
    by_cases hlt : n < xs.length
    · have h1 : ys[n]? = some ys[n] := List.getElem?_eq_getElem (by omega)
      rw [h1]
      dsimp only
      obtain ⟨fr, e, w⟩ := step n ys _ s h1 hi
      rw [e]
      dsimp only
      have next : ∀ s1, (∃ zs, Inv (n + 1) zs s1) → (forV t body r en m (n + 1) s1).W K := fun s1 ⟨zs, hi1⟩ => ih (n + 1) zs s1 (by omega) (by omega) hi1
      revert w
      cases body ⟨fr, s.hp⟩ with
      | nx s1 => exact fun w => next s1 w
      | ct s1 => exact fun w => next s1 w
      | bk s1 => exact fun w => w
      | rt u s1 => exact fun w => w
      | ex c u s1 => exact fun w => w
      | bad => exact fun w => w
    · have e : n = xs.length := by omega
      rw [List.getElem?_eq_none (by omega)]
      subst e
      exact hend ys s hi
/-- a comprehension over a boxed list, whose turns leave the frame as it was and the box, too -/
theorem W_compV {t : T} {own : List Nat} {test : St → Re Bool} {elt : St → Re U} {X : Nat → U → St → Prop} {r : Nat} {en : Bool} (Inv : Nat → List U → Hp → Prop) {w : List Sl} {xs : List U} {s : St} {Q : List U → St → Prop} (h0 : Inv 0 [] s.hp) (hw : wipe s.fr own = w) (hl : xs.length ≤ SZ)
    (hb : ∀ i ys hp, Inv i ys hp → hp[r]? = some (.lst xs))
    (step : ∀ i x ys hp, xs[i]? = some x → Inv i ys hp → ∃ fr, bindT t (if en then .tup [.int (i : Nat), x] else x) w = some fr ∧ (test ⟨fr, hp⟩).W (fun b s1 => if b = true then (elt s1).W (fun y s2 => wipe s2.fr own = w ∧ Inv (i + 1) (ys ++ [y]) s2.hp) X else wipe s1.fr own = w ∧ Inv (i + 1) ys s1.hp) X)
    (hend : ∀ ys s2, wipe s2.fr own = w → Inv xs.length ys s2.hp → Q ys s2) : (compS t own test elt (.live r en) s).W Q X := by
  show (compV t own test elt r en (SZ + 1) 0 s).W Q X
  suffices H : ∀ (m n : Nat) (ys : List U) (s : St) (Q : List U → St → Prop), n ≤ xs.length → xs.length < n + m → Inv n ys s.hp → wipe s.fr own = w → (∀ rs s2, wipe s2.fr own = w → Inv xs.length (ys ++ rs) s2.hp → Q rs s2) → (compV t own test elt r en m n s).W Q X from
    H (SZ + 1) 0 [] s Q (Nat.zero_le _) (by omega) h0 hw fun rs s2 h1 h2 => hend rs s2 h1 (by simpa using h2)
  intro m
  induction m with
  | zero => intro n ys s Q hn hm hi hw hq; omega
  | succ m ih =>
    intro n ys s Q hn hm hi hw hq
    unfold compV liveAt
    rw [hb n ys s.hp hi]
    dsimp only
    by_cases hlt : n < xs.length
    · have h1 : xs[n]? = some xs[n] := List.getElem?_eq_getElem hlt
      rw [h1]
      dsimp only
      obtain ⟨fr, e, q⟩ := step n _ ys s.hp h1 hi
      rw [hw, e]
      dsimp only
      rw [W_bnd]
      refine q.imp (fun b s1 q1 => ?_) fun _ _ _ h => h
      cases b with
      | true =>
        dsimp only
        rw [W_bnd]
        rw [if_pos rfl] at q1
        refine q1.imp (fun y s2 ⟨q2, q3⟩ => ?_) fun _ _ _ h => h
        rw [W_bnd]
        exact ih (n + 1) (ys ++ [y]) s2 _ (by omega) (by omega) q3 q2 fun rs s3 q4 q5 => hq _ s3 q4 (by rw [List.append_assoc] at q5; exact q5)
      | false =>
        dsimp only
        rw [if_neg (by simp)] at q1
        obtain ⟨q2, q3⟩ := q1
        exact ih (n + 1) ys s1 Q (by omega) (by omega) q3 q2 hq
    · have e : n = xs.length := by omega
      rw [List.getElem?_eq_none (by omega)]
      subst e
      exact hq [] s hw (by rw [List.append_nil]; exact hi)
/-- the rule for one, as comp_rule -/
theorem comp_ruleV {p : Px} {elt : E} {t : T} {c : Eo} {own : List Nat} {fr : List Sl} {hp : Hp} {Q : List U → St → Prop} {xs : List U} {r : Nat} {en : Bool} (Inv : Nat → List U → Hp → Prop) (hn : noOwn fr own = true) (hl : xs.length ≤ SZ) (h0 : Inv 0 [] hp)
    (hb : ∀ i ys hp, Inv i ys hp → hp[r]? = some (.lst xs))
    (step : ∀ i x ys hp, xs[i]? = some x → Inv i ys hp → ∃ fr1, bindT t (if en then .tup [.int (i : Nat), x] else x) (wipe fr own) = some fr1 ∧ (evC p c ⟨fr1, hp⟩).W (fun b s1 => if b = true then (evE p elt s1).W (fun y s2 => wipe s2.fr own = wipe fr own ∧ Inv (i + 1) (ys ++ [y]) s2.hp) (fun _ _ _ => False) else wipe s1.fr own = wipe fr own ∧ Inv (i + 1) ys s1.hp) (fun _ _ _ => False))
    (hend : ∀ ys hp2, ys.length ≤ xs.length → Inv xs.length ys hp2 → Q ys ⟨fr, hp2⟩) :
    if noOwn fr own = true then (compS t own (evC p c) (evE p elt) (.live r en) ⟨fr, hp⟩).W (fun ys s2 => if ys.length ≤ SZ then Ap Q ys { s2 with fr := back fr s2.fr own } else False) (fun _ _ _ => False) else False := by
  rw [if_pos hn]
  refine W_compV (xs := xs) (fun i ys h => Inv i ys h ∧ ys.length ≤ i) (w := wipe fr own) ⟨h0, Nat.le_refl _⟩ rfl hl (fun i ys hp hi => hb i ys hp hi.1) (fun i x ys hp hx hi => ?_) fun ys s2 hw hi => ?_
  · obtain ⟨fr1, e, q⟩ := step i x ys hp hx hi.1
    refine ⟨fr1, e, q.imp (fun b s1 q1 => ?_) fun _ _ _ h => h⟩
    cases b with
    | true =>
      rw [if_pos rfl] at q1 ⊢
      exact q1.imp (fun y s2 ⟨q2, q3⟩ => ⟨q2, q3, by rw [List.length_append]; simp; exact hi.2⟩) fun _ _ _ h => h
    | false =>
      rw [if_neg (by simp)] at q1 ⊢
      exact ⟨q1.1, q1.2, Nat.le_succ_of_le hi.2⟩
  · rw [if_pos (Nat.le_trans hi.2 hl)]
    rw [q_back_eq hw]
    exact hend ys s2.hp hi.2 hi.1
end Pix
end
section
set_option Elab.async false
set_option linter.all false
set_option maxRecDepth 100000
set_option maxHeartbeats 1000000
/-! PixP2: the rules of a run, node by node. Printed by wip/gen/gen_p2.py. -/
namespace Pix
/-- two ways -/
def Br (k : Bool) (A B : Prop) : Prop := (k = true → A) ∧ (k = false → B)
theorem Br.tt {A B : Prop} (h : A) : Br true A B := ⟨fun _ => h, fun e => by cases e⟩
theorem Br.ff {A B : Prop} (h : B) : Br false A B := ⟨fun e => (by cases e), fun _ => h⟩
theorem Br.yes {k : Bool} {A B : Prop} (e : k = true) (h : A) : Br k A B := by subst e; exact .tt h
theorem Br.no {k : Bool} {A B : Prop} (e : k = false) (h : B) : Br k A B := by subst e; exact .ff h
theorem W_eq {α : Type} {r : Re α} {a : α} {s : St} {Q : α → St → Prop} {X : Nat → U → St → Prop} (h : r = .ok a s) (w : Q a s) : r.W Q X := by rw [h]; exact w
theorem Wc_eq {r : Rc} {v : U} {h : Hp} {Q : U → Hp → Prop} {X : Nat → U → Hp → Prop} (e : r = .ok v h) (w : Q v h) : r.W Q X := by rw [e]; exact w
theorem Wc_eqx {r : Rc} {c : Nat} {v : U} {h : Hp} {Q : U → Hp → Prop} {X : Nat → U → Hp → Prop} (e : r = .ex c v h) (w : X c v h) : r.W Q X := by rw [e]; exact w
theorem W_of_bnd {α β : Type} {r : Re α} {f : α → St → Re β} {Q : β → St → Prop} {X : Nat → U → St → Prop} (w : r.W (fun a s => (f a s).W Q X) X) : (r.bnd f).W Q X := by rw [W_bnd]; exact w
theorem W_of_toS {α : Type} {r : Re α} {f : α → St → Rs} {K : Kt} (w : r.W (fun a s => (f a s).W K) K.ex) : (r.toS f).W K := by rw [W_toS]; exact w
theorem W_opt {α : Type} {o : Option α} {a : α} {s : St} {Q : α → St → Prop} {X : Nat → U → St → Prop} (h : o = some a) (w : Q a s) : (opt o s).W Q X := by rw [h]; exact w
theorem W_if {α : Type} {c : Prop} [Decidable c] {a b : Re α} {Q : α → St → Prop} {X : Nat → U → St → Prop} (h : c) (w : a.W Q X) : (if c then a else b).W Q X := by rw [if_pos h]; exact w
theorem W_ifs {c : Prop} [Decidable c] {a b : Rs} {K : Kt} (h : c) (w : a.W K) : (if c then a else b).W K := by rw [if_pos h]; exact w
theorem W_non {p : Px} {s : St} {Q : U → St → Prop} {X : Nat → U → St → Prop} (w : Q .non s) : (evE p .non s).W Q X := by rw [evE]; exact w
theorem W_bl {p : Px} {s : St} {Q : U → St → Prop} {X : Nat → U → St → Prop} {b : Bool} (w : Q (.bl b) s) : (evE p (.bl b) s).W Q X := by rw [evE]; exact w
theorem W_int {p : Px} {s : St} {Q : U → St → Prop} {X : Nat → U → St → Prop} {i : Int} (w : Q (.int i) s) : (evE p (.int i) s).W Q X := by rw [evE]; exact w
theorem W_str {p : Px} {s : St} {Q : U → St → Prop} {X : Nat → U → St → Prop} {x : String} (w : Q (.str (S x)) s) : (evE p (.str x) s).W Q X := by rw [evE]; exact w
theorem W_var {p : Px} {s : St} {Q : U → St → Prop} {X : Nat → U → St → Prop} {i : Nat} {u : U} (h : s.fr[i]? = some (.val u)) (w : Q u s) : (evE p (.var i) s).W Q X := by rw [evE, h]; exact w
theorem W_varo {p : Px} {s : St} {Q : U → St → Prop} {X : Nat → U → St → Prop} {i : Nat} {xs : List U} (h : s.fr[i]? = some (.own xs)) (w : Q (.lst xs) { s with fr := s.fr.set i (.val (.lst xs)) }) : (evE p (.var i) s).W Q X := by rw [evE, h]; exact w
theorem W_peek {p : Px} {s : St} {Q : U → St → Prop} {X : Nat → U → St → Prop} {i : Nat} {u : U} (h : s.fr[i]? = some (.val u)) (w : Q u s) : (evE p (.peek i) s).W Q X := by rw [evE, h]; exact w
theorem W_peeko {p : Px} {s : St} {Q : U → St → Prop} {X : Nat → U → St → Prop} {i : Nat} {xs : List U} (h : s.fr[i]? = some (.own xs)) (w : Q (.lst xs) s) : (evE p (.peek i) s).W Q X := by rw [evE, h]; exact w
theorem W_glb {p : Px} {s : St} {Q : U → St → Prop} {X : Nat → U → St → Prop} {g : Nat} (w : Q (p.glb g) s) : (evE p (.glb g) s).W Q X := by rw [evE]; exact w
theorem W_bin {p : Px} {s : St} {Q : U → St → Prop} {X : Nat → U → St → Prop} {op : Bop} {a c : E} (w : (evE p a s).W (fun x s1 => (evE p c s1).W (fun y s2 => (binU op x y s2).W Q X) X) X) : (evE p (.bin op a c) s).W Q X := by rw [evE, W_bnd]; refine Re.W.imp w (fun x s1 h => ?_) fun _ _ _ h => h; rw [W_bnd]; exact h
theorem W_cmp {p : Px} {s : St} {Q : U → St → Prop} {X : Nat → U → St → Prop} {op : Cop} {a c : E} (w : (evE p a s).W (fun x s1 => (evE p c s1).W (fun y s2 => (cmpU op x y s2).W Q X) X) X) : (evE p (.cmp op a c) s).W Q X := by rw [evE, W_bnd]; refine Re.W.imp w (fun x s1 h => ?_) fun _ _ _ h => h; rw [W_bnd]; exact h
theorem W_ix {p : Px} {s : St} {Q : U → St → Prop} {X : Nat → U → St → Prop} {a c : E} (w : (evE p a s).W (fun x s1 => (evE p c s1).W (fun y s2 => (ixU x y s2).W Q X) X) X) : (evE p (.ix a c) s).W Q X := by rw [evE, W_bnd]; refine Re.W.imp w (fun x s1 h => ?_) fun _ _ _ h => h; rw [W_bnd]; exact h
theorem W_b2 {p : Px} {s : St} {Q : U → St → Prop} {X : Nat → U → St → Prop} {k : B2} {a c : E} (w : (evE p a s).W (fun x s1 => (evE p c s1).W (fun y s2 => (b2U k x y s2).W Q X) X) X) : (evE p (.b2 k a c) s).W Q X := by rw [evE, W_bnd]; refine Re.W.imp w (fun x s1 h => ?_) fun _ _ _ h => h; rw [W_bnd]; exact h
theorem W_neg {p : Px} {s : St} {Q : U → St → Prop} {X : Nat → U → St → Prop} {a : E} (w : (evE p a s).W (fun x s1 => ∃ i, x = .int i ∧ Q (.int (-i)) s1) X) : (evE p (.neg a) s).W Q X := by rw [evE, W_bnd]; refine Re.W.imp w (fun x s1 ⟨i, e, h⟩ => ?_) fun _ _ _ h => h; subst e; exact h
theorem W_nt {p : Px} {s : St} {Q : U → St → Prop} {X : Nat → U → St → Prop} {a : E} (w : (evE p a s).W (fun x s1 => (tst x s1).W (fun k s2 => Q (.bl (!k)) s2) X) X) : (evE p (.nt a) s).W Q X := by rw [evE, W_bnd]; refine Re.W.imp w (fun x s1 h => ?_) fun _ _ _ h => h; rw [W_bnd]; exact h
theorem W_an {p : Px} {s : St} {Q : U → St → Prop} {X : Nat → U → St → Prop} {a c : E} (w : (evE p a s).W (fun x s1 => (tst x s1).W (fun k s2 => Br k ((evE p c s2).W Q X) (Q x s2)) X) X) : (evE p (.an a c) s).W Q X := by rw [evE, W_bnd]; refine Re.W.imp w (fun x s1 h => ?_) fun _ _ _ h => h; rw [W_bnd]; refine Re.W.imp h (fun k s2 h => ?_) fun _ _ _ h => h; cases k with | true => exact h.1 rfl | false => exact h.2 rfl
theorem W_or {p : Px} {s : St} {Q : U → St → Prop} {X : Nat → U → St → Prop} {a c : E} (w : (evE p a s).W (fun x s1 => (tst x s1).W (fun k s2 => Br k (Q x s2) ((evE p c s2).W Q X)) X) X) : (evE p (.or a c) s).W Q X := by rw [evE, W_bnd]; refine Re.W.imp w (fun x s1 h => ?_) fun _ _ _ h => h; rw [W_bnd]; refine Re.W.imp h (fun k s2 h => ?_) fun _ _ _ h => h; cases k with | true => exact h.1 rfl | false => exact h.2 rfl
theorem W_ite {p : Px} {s : St} {Q : U → St → Prop} {X : Nat → U → St → Prop} {a c d : E} (w : (evE p a s).W (fun x s1 => (tst x s1).W (fun k s2 => Br k ((evE p c s2).W Q X) ((evE p d s2).W Q X)) X) X) : (evE p (.ite a c d) s).W Q X := by rw [evE, W_bnd]; refine Re.W.imp w (fun x s1 h => ?_) fun _ _ _ h => h; rw [W_bnd]; refine Re.W.imp h (fun k s2 h => ?_) fun _ _ _ h => h; cases k with | true => exact h.1 rfl | false => exact h.2 rfl
theorem W_chain {p : Px} {s : St} {Q : U → St → Prop} {X : Nat → U → St → Prop} {o1 o2 : Cop} {a c d : E} (w : (evE p a s).W (fun x s1 => (evE p c s1).W (fun y s2 => ∃ k, cmpH s2.hp o1 x y = some k ∧ Br k ((evE p d s2).W (fun z s4 => (cmpU o2 y z s4).W Q X) X) (Q (.bl false) s2)) X) X) : (evE p (.chain o1 o2 a c d) s).W Q X := by rw [evE, W_bnd]; refine Re.W.imp w (fun x s1 h => ?_) fun _ _ _ h => h; rw [W_bnd]; refine Re.W.imp h (fun y s2 ⟨k, e, h⟩ => ?_) fun _ _ _ h => h; rw [e]; show Re.W (match k with | true => _ | false => _) Q X; cases k with | true => exact W_of_bnd (h.1 rfl) | false => exact h.2 rfl
def isNU (no : Bool) (x : U) : Bool := match x with
  | .non => !no
  | _ => no
theorem W_isN {p : Px} {s : St} {Q : U → St → Prop} {X : Nat → U → St → Prop} {no : Bool} {a : E} (w : (evE p a s).W (fun x s1 => Q (.bl (isNU no x)) s1) X) : (evE p (.isN no a) s).W Q X := by rw [evE, W_bnd]; exact w
theorem W_tup {p : Px} {s : St} {Q : U → St → Prop} {X : Nat → U → St → Prop} {es : Es} (w : (evEs p es s).W (fun us s1 => Q (.tup us) s1) X) : (evE p (.tup es) s).W Q X := by rw [evE, W_bnd]; exact w
theorem W_fr {p : Px} {s : St} {Q : U → St → Prop} {X : Nat → U → St → Prop} {f : F} (w : (evF p f s).W (fun us s1 => Q (.lst us) s1) X) : (evE p (.fr f) s).W Q X := by rw [evE, W_bnd]; exact w
theorem W_bx {p : Px} {s : St} {Q : U → St → Prop} {X : Nat → U → St → Prop} {f : F} (w : (evF p f s).W (fun us s1 => Q (.ref s1.hp.length) { s1 with hp := s1.hp ++ [.lst us] }) X) : (evE p (.bx f) s).W Q X := by rw [evE, W_bnd]; exact w
theorem W_frd {p : Px} {s : St} {Q : U → St → Prop} {X : Nat → U → St → Prop} {d : D} (w : (evD p d s).W (fun kvs s1 => Q (.dct kvs.1 kvs.2) s1) X) : (evE p (.frd d) s).W Q X := by rw [evE, W_bnd]; exact w
theorem W_bxd {p : Px} {s : St} {Q : U → St → Prop} {X : Nat → U → St → Prop} {d : D} (w : (evD p d s).W (fun kvs s1 => Q (.ref s1.hp.length) { s1 with hp := s1.hp ++ [.dct kvs.1 kvs.2] }) X) : (evE p (.bxd d) s).W Q X := by rw [evE, W_bnd]; exact w
theorem W_call {p : Px} {s : St} {Q : U → St → Prop} {X : Nat → U → St → Prop} {f : Nat} {es : Es} (w : (evEs p es s).W (fun us s1 => (p.call f us s1.hp).W (fun u h => Q u ⟨s1.fr, h⟩) (fun c u h => X c u ⟨s1.fr, h⟩)) X) : (evE p (.call f es) s).W Q X := by rw [evE, W_bnd]; refine Re.W.imp w (fun us s1 h => ?_) fun _ _ _ h => h; rw [W_rets]; exact h
theorem W_callK {p : Px} {s : St} {Q : U → St → Prop} {X : Nat → U → St → Prop} {f : Nat} {perm : List Nat} {es ks : Es} (w : (evEs p es s).W (fun us s0 => (evEs p ks s0).W (fun ws s1 => ∃ vs, permU (us ++ ws) perm = some vs ∧ (p.call f vs s1.hp).W (fun u h => Q u ⟨s1.fr, h⟩) (fun c u h => X c u ⟨s1.fr, h⟩)) X) X) : (evE p (.callK f perm es ks) s).W Q X := by rw [evE, W_bnd]; refine Re.W.imp w (fun us s1 h => ?_) fun _ _ _ h => h; rw [W_bnd]; refine Re.W.imp h (fun ws s2 ⟨vs, e, h⟩ => ?_) fun _ _ _ h => h; rw [e]; dsimp only; rw [W_rets]; exact h
theorem W_newU {p : Px} {s1 : St} {Q : U → St → Prop} {X : Nat → U → St → Prop} {c f : Nat} {us : List U} (w : (p.call f (.ref s1.hp.length :: us) (s1.hp ++ [.ins c []])).W (fun u0 h => u0 = .non ∧ Q (.ref s1.hp.length) ⟨s1.fr, h⟩) (fun c u h => X c u ⟨s1.fr, h⟩)) : (newU p c f us s1).W Q X := by unfold newU; revert w; cases p.call f (.ref s1.hp.length :: us) (s1.hp ++ [.ins c []]) with | ok u h => exact fun ⟨e, w⟩ => by subst e; exact w | ex c u h => exact id | bad => exact id
theorem W_new {p : Px} {s : St} {Q : U → St → Prop} {X : Nat → U → St → Prop} {c f : Nat} {es : Es} (w : (evEs p es s).W (fun us s1 => (p.call f (.ref s1.hp.length :: us) (s1.hp ++ [.ins c []])).W (fun u0 h => u0 = .non ∧ Q (.ref s1.hp.length) ⟨s1.fr, h⟩) (fun c u h => X c u ⟨s1.fr, h⟩)) X) : (evE p (.new c f es) s).W Q X := by rw [evE, W_bnd]; refine Re.W.imp w (fun us s1 h => ?_) fun _ _ _ h => h; exact W_newU h
theorem W_newK {p : Px} {s : St} {Q : U → St → Prop} {X : Nat → U → St → Prop} {c f : Nat} {perm : List Nat} {es ks : Es} (w : (evEs p es s).W (fun us s0 => (evEs p ks s0).W (fun ws s1 => ∃ vs, permU (us ++ ws) perm = some vs ∧ (p.call f (.ref s1.hp.length :: vs) (s1.hp ++ [.ins c []])).W (fun u0 h => u0 = .non ∧ Q (.ref s1.hp.length) ⟨s1.fr, h⟩) (fun c u h => X c u ⟨s1.fr, h⟩)) X) X) : (evE p (.newK c f perm es ks) s).W Q X := by rw [evE, W_bnd]; refine Re.W.imp w (fun us s1 h => ?_) fun _ _ _ h => h; rw [W_bnd]; refine Re.W.imp h (fun ws s2 ⟨vs, e, h⟩ => ?_) fun _ _ _ h => h; rw [e]; exact W_newU h
theorem W_meth {p : Px} {s : St} {Q : U → St → Prop} {X : Nat → U → St → Prop} {f c : Nat} {m : String} {o : E} {es : Es} (w : (evE p o s).W (fun x s0 => ∃ fs, insF s0.hp c x = some fs ∧ (fs.lookup m).isNone = true ∧ (evEs p es s0).W (fun us s1 => (p.call f (x :: us) s1.hp).W (fun u h => Q u ⟨s1.fr, h⟩) (fun c u h => X c u ⟨s1.fr, h⟩)) X) X) : (evE p (.meth f c m o es) s).W Q X := by rw [evE, W_bnd]; refine Re.W.imp w (fun x s1 ⟨fs, e, e2, h⟩ => ?_) fun _ _ _ h => h; rw [e]; dsimp only; rw [if_pos e2, W_bnd]; refine Re.W.imp h (fun us s2 h => ?_) fun _ _ _ h => h; rw [W_rets]; exact h
theorem W_methK {p : Px} {s : St} {Q : U → St → Prop} {X : Nat → U → St → Prop} {f c : Nat} {m : String} {perm : List Nat} {o : E} {es ks : Es} (w : (evE p o s).W (fun x s0 => ∃ fs, insF s0.hp c x = some fs ∧ (fs.lookup m).isNone = true ∧ (evEs p es s0).W (fun us s2 => (evEs p ks s2).W (fun ws s1 => ∃ vs, permU (x :: us ++ ws) perm = some vs ∧ (p.call f vs s1.hp).W (fun u h => Q u ⟨s1.fr, h⟩) (fun c u h => X c u ⟨s1.fr, h⟩)) X) X) X) : (evE p (.methK f c m perm o es ks) s).W Q X := by rw [evE, W_bnd]; refine Re.W.imp w (fun x s1 ⟨fs, e, e2, h⟩ => ?_) fun _ _ _ h => h; rw [e]; dsimp only; rw [if_pos e2, W_bnd]; refine Re.W.imp h (fun us s2 h => ?_) fun _ _ _ h => h; rw [W_bnd]; refine Re.W.imp h (fun ws s3 ⟨vs, e3, h⟩ => ?_) fun _ _ _ h => h; rw [e3]; dsimp only; rw [W_rets]; exact h
theorem W_fld {p : Px} {s : St} {Q : U → St → Prop} {X : Nat → U → St → Prop} {c : Nat} {a : E} {f : String} (w : (evE p a s).W (fun x s1 => ∃ fs v, insF s1.hp c x = some fs ∧ fs.lookup f = some v ∧ Q v s1) X) : (evE p (.fld c a f) s).W Q X := by rw [evE, W_bnd]; refine Re.W.imp w (fun x s1 ⟨fs, v, e, e2, h⟩ => ?_) fun _ _ _ h => h; unfold fldU; rw [e]; dsimp only; rw [e2]; exact h
theorem W_upper {p : Px} {s : St} {Q : U → St → Prop} {X : Nat → U → St → Prop} {a : E} (w : (evE p a s).W (fun x s1 => (upU x s1).W Q X) X) : (evE p (.upper a) s).W Q X := by rw [evE, W_bnd]; exact w
theorem W_excno {p : Px} {s : St} {Q : U → St → Prop} {X : Nat → U → St → Prop} {i : Nat} (w : ∃ y : Nat × U, s.fr[i]? = some (.exc y.1 y.2) ∧ y.1 < p.nx ∧ Q (.bl false) s) : (evE p (.excno i) s).W Q X := by obtain ⟨y, e, e2, h⟩ := w; rw [evE, e]; dsimp only; rw [if_pos e2]; exact h
theorem W_sl {p : Px} {s : St} {Q : U → St → Prop} {X : Nat → U → St → Prop} {a : E} {lo hi : Eo} (w : (evE p a s).W (fun x s1 => (evEo p lo s1).W (fun l s2 => (evEo p hi s2).W (fun h s3 => (cutU x l h s3).W Q X) X) X) X) : (evE p (.sl a lo hi) s).W Q X := by rw [evE, W_bnd]; refine Re.W.imp w (fun x s1 h => ?_) fun _ _ _ h => h; rw [W_bnd]; refine Re.W.imp h (fun x s1 h => ?_) fun _ _ _ h => h; rw [W_bnd]; exact h
theorem W_rev {p : Px} {s : St} {Q : U → St → Prop} {X : Nat → U → St → Prop} {a : E} (w : (evE p a s).W (fun x s1 => (revU x s1).W Q X) X) : (evE p (.rev a) s).W Q X := by rw [evE, W_bnd]; exact w
theorem W_b1 {p : Px} {s : St} {Q : U → St → Prop} {X : Nat → U → St → Prop} {k : B1} {a : E} (w : (evE p a s).W (fun x s1 => (b1U k x s1).W Q X) X) : (evE p (.b1 k a) s).W Q X := by rw [evE, W_bnd]; exact w
theorem W_lset {p : Px} {s : St} {Q : U → St → Prop} {X : Nat → U → St → Prop} {a : E} (w : (evE p a s).W (fun x s1 => (b1U .lenset x s1).W Q X) X) : (evE p (.lset a) s).W Q X := by rw [evE, W_bnd]; exact w
theorem W_isi {p : Px} {s : St} {Q : U → St → Prop} {X : Nat → U → St → Prop} {a : E} {ts : List Ty} (w : (evE p a s).W (fun x s1 => Q (.bl (ts.any fun t => isI s1.hp x t)) s1) X) : (evE p (.isi a ts) s).W Q X := by rw [evE, W_bnd]; exact w
theorem W_app {p : Px} {s : St} {Q : U → St → Prop} {X : Nat → U → St → Prop} {o e : E} (w : (evE p o s).W (fun x s1 => ∃ r, x = .ref r ∧ isLst s1.hp x = true ∧ (evE p e s1).W (fun y s2 => ∃ xs, s2.hp[r]? = some (.lst xs) ∧ xs.length < SZ ∧ Q .non { s2 with hp := s2.hp.set r (.lst (xs ++ [y])) }) X) X) : (evE p (.app o e) s).W Q X := by rw [evE, W_bnd]; refine Re.W.imp w (fun x s1 ⟨r, e, e2, h⟩ => ?_) fun _ _ _ h => h; rw [if_pos e2, W_bnd]; refine Re.W.imp h (fun y s2 ⟨xs, e3, e4, h⟩ => ?_) fun _ _ _ h => h; subst e; dsimp only; rw [e3]; dsimp only; rw [if_pos e4]; exact h
theorem W_pop0 {p : Px} {s : St} {Q : U → St → Prop} {X : Nat → U → St → Prop} {o : E} (w : (evE p o s).W (fun x s1 => ∃ r xs y, x = .ref r ∧ s1.hp[r]? = some (.lst xs) ∧ xs.getLast? = some y ∧ Q y { s1 with hp := s1.hp.set r (.lst xs.dropLast) }) X) : (evE p (.pop0 o) s).W Q X := by rw [evE, W_bnd]; refine Re.W.imp w (fun x s1 ⟨r, xs, y, e, e2, e3, h⟩ => ?_) fun _ _ _ h => h; subst e; dsimp only; rw [e2]; dsimp only; rw [e3]; exact h
theorem W_opop0 {p : Px} {s : St} {Q : U → St → Prop} {X : Nat → U → St → Prop} {i : Nat} {xs : List U} {y : U} (h1 : s.fr[i]? = some (.own xs)) (h2 : xs.getLast? = some y) (w : Q y { s with fr := s.fr.set i (.own xs.dropLast) }) : (evE p (.opop0 i) s).W Q X := by rw [evE, h1]; dsimp only; rw [h2]; exact w
theorem W_opop1 {p : Px} {s : St} {Q : U → St → Prop} {X : Nat → U → St → Prop} {i : Nat} {a : E} (h1 : isOwn s.fr i = true) (w : (evE p a s).W (fun y s1 => ∃ j xs k z, y = .int j ∧ s1.fr[i]? = some (.own xs) ∧ j.natAbs < 2 ^ 62 ∧ ixN xs.length j = some k ∧ xs[k]? = some z ∧ Q z { s1 with fr := s1.fr.set i (.own (xs.eraseIdx k)) }) X) : (evE p (.opop1 i a) s).W Q X := by rw [evE, if_pos h1, W_bnd]; refine Re.W.imp w (fun y s1 ⟨j, xs, k, z, e, e2, e3, e4, e5, h⟩ => ?_) fun _ _ _ h => h; subst e; rw [e2]; dsimp only; rw [if_pos e3, e4]; dsimp only; rw [e5]; exact h
theorem W_pixo {p : Px} {s : St} {Q : U → St → Prop} {X : Nat → U → St → Prop} {i : Nat} {a : E} (h1 : isSet s.fr i = true) (w : (evE p a s).W (fun y s1 => ∃ xs, s1.fr[i]? = some (.own xs) ∧ (ixSq (some xs) y s1).W Q X) X) : (evE p (.pix i a) s).W Q X := by rw [evE, if_pos h1, W_bnd]; refine Re.W.imp w (fun y s1 ⟨xs, e, h⟩ => ?_) fun _ _ _ h => h; rw [e]; exact h
theorem W_pix {p : Px} {s : St} {Q : U → St → Prop} {X : Nat → U → St → Prop} {i : Nat} {a : E} (h1 : isSet s.fr i = true) (w : (evE p a s).W (fun y s1 => ∃ u, s1.fr[i]? = some (.val u) ∧ (ixU u y s1).W Q X) X) : (evE p (.pix i a) s).W Q X := by rw [evE, if_pos h1, W_bnd]; refine Re.W.imp w (fun y s1 ⟨xs, e, h⟩ => ?_) fun _ _ _ h => h; rw [e]; exact h
theorem W_pin {p : Px} {s : St} {Q : U → St → Prop} {X : Nat → U → St → Prop} {no : Bool} {i : Nat} {a : E} (w : (evE p a s).W (fun y s1 => ∃ u, s1.fr[i]? = some (.val u) ∧ (cmpU (if no then .notin else .isin) y u s1).W Q X) X) : (evE p (.pin no a i) s).W Q X := by rw [evE, W_bnd]; refine Re.W.imp w (fun y s1 ⟨xs, e, h⟩ => ?_) fun _ _ _ h => h; rw [e]; exact h
theorem W_pino {p : Px} {s : St} {Q : U → St → Prop} {X : Nat → U → St → Prop} {no : Bool} {i : Nat} {a : E} (w : (evE p a s).W (fun y s1 => ∃ xs, s1.fr[i]? = some (.own xs) ∧ (cmpU (if no then .notin else .isin) y (.lst xs) s1).W Q X) X) : (evE p (.pin no a i) s).W Q X := by rw [evE, W_bnd]; refine Re.W.imp w (fun y s1 ⟨xs, e, h⟩ => ?_) fun _ _ _ h => h; rw [e]; exact h
theorem W_psl {p : Px} {s : St} {Q : U → St → Prop} {X : Nat → U → St → Prop} {i : Nat} {lo hi : Eo} (h1 : isSet s.fr i = true) (w : (evEo p lo s).W (fun l s1 => (evEo p hi s1).W (fun h s2 => ∃ u, s2.fr[i]? = some (.val u) ∧ (cutU u l h s2).W Q X) X) X) : (evE p (.psl i lo hi) s).W Q X := by rw [evE, if_pos h1, W_bnd]; refine Re.W.imp w (fun y s1 h => ?_) fun _ _ _ h => h; rw [W_bnd]; refine Re.W.imp h (fun y s1 ⟨u, e, h⟩ => ?_) fun _ _ _ h => h; rw [e]; exact h
theorem W_pslo {p : Px} {s : St} {Q : U → St → Prop} {X : Nat → U → St → Prop} {i : Nat} {lo hi : Eo} (h1 : isSet s.fr i = true) (w : (evEo p lo s).W (fun l s1 => (evEo p hi s1).W (fun h s2 => ∃ xs, s2.fr[i]? = some (.own xs) ∧ Q (.lst (cut xs l h)) s2) X) X) : (evE p (.psl i lo hi) s).W Q X := by rw [evE, if_pos h1, W_bnd]; refine Re.W.imp w (fun y s1 h => ?_) fun _ _ _ h => h; rw [W_bnd]; refine Re.W.imp h (fun y s1 ⟨u, e, h⟩ => ?_) fun _ _ _ h => h; rw [e]; exact h
theorem W_idx {p : Px} {s : St} {Q : U → St → Prop} {X : Nat → U → St → Prop} {a e : E} (w : (evE p a s).W (fun x s1 => (lstOf s1.hp x).isSome = true ∧ (evE p e s1).W (fun y s2 => (idxU x y s2).W Q X) X) X) : (evE p (.idx a e) s).W Q X := by rw [evE, W_bnd]; refine Re.W.imp w (fun x s1 ⟨e, h⟩ => ?_) fun _ _ _ h => h; rw [if_pos e, W_bnd]; exact h
theorem W_excf {p : Px} {s : St} {Q : U → St → Prop} {X : Nat → U → St → Prop} {i c : Nat} {f : String} {u : U} (h1 : s.fr[i]? = some (.exc c u)) (h2 : c < p.nx ∧ p.xfn c = f) (w : Q u s) : (evE p (.excf i f) s).W Q X := by rw [evE, h1]; dsimp only; rw [if_pos h2]; exact w
theorem W_excis {p : Px} {s : St} {Q : U → St → Prop} {X : Nat → U → St → Prop} {i c : Nat} {cs : List Nat} {u : U} (h1 : s.fr[i]? = some (.exc c u)) (h2 : c < p.nx) (w : Q (.bl (cs.any fun d => p.sub c d)) s) : (evE p (.excis i cs) s).W Q X := by rw [evE, h1]; dsimp only; rw [if_pos h2]; exact w
theorem Ws_nil {p : Px} {s : St} {Q : List U → St → Prop} {X : Nat → U → St → Prop} (w : Q [] s) : (evEs p .nil s).W Q X := by rw [evEs]; exact w
theorem Ws_cons {p : Px} {s : St} {Q : List U → St → Prop} {X : Nat → U → St → Prop} {e : E} {es : Es} (w : (evE p e s).W (fun u s1 => (evEs p es s1).W (fun us s2 => Q (u :: us) s2) X) X) : (evEs p (.cons e es) s).W Q X := by rw [evEs, W_bnd]; refine Re.W.imp w (fun x s1 h => ?_) fun _ _ _ h => h; rw [W_bnd]; exact h
theorem Wo_no {p : Px} {s : St} {Q : Option Int → St → Prop} {X : Nat → U → St → Prop} (w : Q none s) : (evEo p .no s).W Q X := by rw [evEo]; exact w
theorem Wo_so {p : Px} {s : St} {Q : Option Int → St → Prop} {X : Nat → U → St → Prop} {e : E} (w : (evE p e s).W (fun u s1 => ∃ i, u = .int i ∧ Q (some i) s1) X) : (evEo p (.so e) s).W Q X := by rw [evEo, W_bnd]; refine Re.W.imp w (fun x s1 ⟨i, e, h⟩ => ?_) fun _ _ _ h => h; subst e; exact h
theorem Wt_no {p : Px} {s : St} {Q : Bool → St → Prop} {X : Nat → U → St → Prop} (w : Q true s) : (evC p .no s).W Q X := by rw [evC]; exact w
theorem Wt_so {p : Px} {s : St} {Q : Bool → St → Prop} {X : Nat → U → St → Prop} {e : E} (w : (evE p e s).W (fun u s1 => (tst u s1).W Q X) X) : (evC p (.so e) s).W Q X := by rw [evC, W_bnd]; exact w
theorem W_tstb {s : St} {Q : Bool → St → Prop} {X : Nat → U → St → Prop} {k : Bool} (w : Q k s) : (tst (.bl k) s).W Q X := w
theorem W_tsti {s : St} {Q : Bool → St → Prop} {X : Nat → U → St → Prop} {k : Int} (w : Q (k != 0) s) : (tst (.int k) s).W Q X := w
theorem W_tsts {s : St} {Q : Bool → St → Prop} {X : Nat → U → St → Prop} {k : List Nat} (w : Q (!k.isEmpty) s) : (tst (.str k) s).W Q X := w
theorem W_tstl {s : St} {Q : Bool → St → Prop} {X : Nat → U → St → Prop} {k : List U} (w : Q (!k.isEmpty) s) : (tst (.lst k) s).W Q X := w
theorem W_tstt {s : St} {Q : Bool → St → Prop} {X : Nat → U → St → Prop} {k : List U} (w : Q (!k.isEmpty) s) : (tst (.tup k) s).W Q X := w
theorem W_tstn {s : St} {Q : Bool → St → Prop} {X : Nat → U → St → Prop} (w : Q false s) : (tst .non s).W Q X := w
theorem Wf_disp {p : Px} {s : St} {Q : List U → St → Prop} {X : Nat → U → St → Prop} {es : Es} (w : (evEs p es s).W Q X) : (evF p (.disp es) s).W Q X := by rw [evF]; exact w
theorem Wf_of {p : Px} {s : St} {Q : List U → St → Prop} {X : Nat → U → St → Prop} {a : E} (w : (evE p a s).W (fun x s1 => (ofU x s1).W Q X) X) : (evF p (.of a) s).W Q X := by rw [evF, W_bnd]; exact w
theorem Wf_srt {p : Px} {s : St} {Q : List U → St → Prop} {X : Nat → U → St → Prop} {a : E} {r : Bool} (w : (evE p a s).W (fun x s1 => (srtU x r s1).W Q X) X) : (evF p (.srt a r) s).W Q X := by rw [evF, W_bnd]; exact w
theorem Wf_rep {p : Px} {s : St} {Q : List U → St → Prop} {X : Nat → U → St → Prop} {a c : E} (w : (evE p a s).W (fun x s1 => (evE p c s1).W (fun y s2 => ∃ xs k, x = .lst xs ∧ y = .int k ∧ (xs.length * k.toNat ≤ SZ ∧ k.natAbs < 2 ^ 62) ∧ Q (List.replicate k.toNat xs).flatten s2) X) X) : (evF p (.rep a c) s).W Q X := by rw [evF, W_bnd]; refine Re.W.imp w (fun x s1 h => ?_) fun _ _ _ h => h; rw [W_bnd]; refine Re.W.imp h (fun y s2 ⟨xs, k, e1, e2, e3, hh⟩ => ?_) fun _ _ _ h => h; subst e1 e2; dsimp only; rw [if_pos e3]; exact hh
theorem Wf_comp {p : Px} {s : St} {Q : List U → St → Prop} {X : Nat → U → St → Prop} {elt : E} {t : T} {it : It} {c : Eo} {own : List Nat} (w : (evIt p it s).W (fun src s1 => if noOwn s1.fr own = true then (compS t own (evC p c) (evE p elt) src s1).W (fun ys s2 => if ys.length ≤ SZ then Ap Q ys { s2 with fr := back s1.fr s2.fr own } else False) (fun _ _ _ => False) else False) X) : (evF p (.comp elt t it c own) s).W Q X := by rw [W_comp]; exact w
theorem Wf_sl {p : Px} {s : St} {Q : List U → St → Prop} {X : Nat → U → St → Prop} {a : E} {lo hi : Eo} (w : (evE p a s).W (fun x s1 => (evEo p lo s1).W (fun l s2 => (evEo p hi s2).W (fun h s3 => ∃ xs, lstOf s3.hp x = some xs ∧ Q (cut xs l h) s3) X) X) X) : (evF p (.sl a lo hi) s).W Q X := by rw [evF, W_bnd]; refine Re.W.imp w (fun x s1 h => ?_) fun _ _ _ h => h; rw [W_bnd]; refine Re.W.imp h (fun x s1 h => ?_) fun _ _ _ h => h; rw [W_bnd]; refine Re.W.imp h (fun y s2 ⟨xs, e, h⟩ => ?_) fun _ _ _ h => h; rw [e]; exact h
/-- what a loop walks -/
def srcU (h : Hp) (x : U) : Option Src := match x with
  | .str z => some (.snap (z.map fun c => .str [c]))
  | .tup xs => some (.snap xs)
  | .lst xs => some (.snap xs)
  | .scr xs => some (.snap (xs.map .int))
  | .ref r => (match h[r]? with
    | some (.lst _) => some (.live r false)
    | _ => none)
  | _ => none
theorem Wi_seq {p : Px} {s : St} {Q : Src → St → Prop} {X : Nat → U → St → Prop} {a : E} (w : (evE p a s).W (fun x s1 => ∃ src, srcU s1.hp x = some src ∧ Q src s1) X) : (evIt p (.seq a) s).W Q X := by
  rw [evIt, W_bnd]
  refine Re.W.imp w (fun x s1 ⟨src, e, h⟩ => ?_) fun _ _ _ h => h
  cases x with
  | ref r =>
    unfold srcU at e
    dsimp only at e ⊢
    split at e
    · rename_i q; first | (rw [q]; cases e; exact h) | (cases e; exact h)
    · cases e
  | _ => first | (cases e; exact h) | cases e
theorem Wi_rng1 {p : Px} {s : St} {Q : Src → St → Prop} {X : Nat → U → St → Prop} {a : E} (w : (evE p a s).W (fun x s1 => ∃ n, x = .int n ∧ (n ≤ SZ ∧ -(2 ^ 62) ≤ n) ∧ Q (.snap (rngL 0 1 n.toNat)) s1) X) : (evIt p (.rng1 a) s).W Q X := by rw [evIt, W_bnd]; refine Re.W.imp w (fun x s1 ⟨n, e, e2, h⟩ => ?_) fun _ _ _ h => h; subst e; dsimp only; rw [if_pos e2]; exact h
theorem Wi_rng2 {p : Px} {s : St} {Q : Src → St → Prop} {X : Nat → U → St → Prop} {a c : E} (w : (evE p a s).W (fun x s1 => (evE p c s1).W (fun y s2 => ∃ m n, x = .int m ∧ y = .int n ∧ (n - m ≤ SZ ∧ -(2 ^ 62) ≤ m ∧ m < 2 ^ 62 ∧ -(2 ^ 62) ≤ n ∧ n < 2 ^ 62) ∧ Q (.snap (rngL m 1 (n - m).toNat)) s2) X) X) : (evIt p (.rng2 a c) s).W Q X := by rw [evIt, W_bnd]; refine Re.W.imp w (fun x s1 h => ?_) fun _ _ _ h => h; rw [W_bnd]; refine Re.W.imp h (fun y s2 ⟨m, n, e, e2, e3, hh⟩ => ?_) fun _ _ _ h => h; subst e e2; dsimp only; rw [if_pos e3]; exact hh
theorem S_nil {p : Px} {s : St} {K : Kt} (w : K.nx s) : (evB p .nil s).W K := by rw [W_nil]; exact w
theorem S_cons {p : Px} {s : St} {K : Kt} {st : Sm} {b : Bl} (w : (evS p st s).W ⟨fun s1 => (evB p b s1).W K, K.rt, K.bk, K.ct, K.ex⟩) : (evB p (.cons st b) s).W K := by rw [W_cons]; exact w
theorem S_pass {p : Px} {s : St} {K : Kt} (w : K.nx s) : (evS p .pass s).W K := by rw [evS]; exact w
theorem S_brk {p : Px} {s : St} {K : Kt} (w : K.bk s) : (evS p .brk s).W K := by rw [evS]; exact w
theorem S_cont {p : Px} {s : St} {K : Kt} (w : K.ct s) : (evS p .cont s).W K := by rw [evS]; exact w
theorem S_ret0 {p : Px} {s : St} {K : Kt} (w : K.rt .non s) : (evS p .ret0 s).W K := by rw [evS]; exact w
theorem S_ret {p : Px} {s : St} {K : Kt} {a : E} (w : (evE p a s).W (fun u s1 => K.rt u s1) K.ex) : (evS p (.ret a) s).W K := by rw [evS, W_toS]; exact w
theorem S_rais {p : Px} {s : St} {K : Kt} {c : Nat} {a : E} (w : (evE p a s).W (fun u s1 => K.ex c u s1) K.ex) : (evS p (.rais c a) s).W K := by rw [evS, W_toS]; exact w
theorem S_ex {p : Px} {s : St} {K : Kt} {a : E} (w : (evE p a s).W (fun u s1 => K.nx s1) K.ex) : (evS p (.ex a) s).W K := by rw [evS, W_toS]; exact w
theorem S_set {p : Px} {s : St} {K : Kt} {i : Nat} {a : E} (w : (evE p a s).W (fun u s1 => i < s1.fr.length ∧ K.nx ⟨s1.fr.set i (.val u), s1.hp⟩) K.ex) : (evS p (.set i a) s).W K := by rw [evS, W_toS]; refine Re.W.imp w (fun u s1 ⟨e, h⟩ => ?_) fun _ _ _ h => h; unfold setI; rw [if_pos e]; exact h
theorem S_own {p : Px} {s : St} {K : Kt} {i : Nat} {f : F} (w : (evF p f s).W (fun u s1 => i < s1.fr.length ∧ K.nx ⟨s1.fr.set i (.own u), s1.hp⟩) K.ex) : (evS p (.own i f) s).W K := by rw [evS, W_toS]; refine Re.W.imp w (fun u s1 ⟨e, h⟩ => ?_) fun _ _ _ h => h; unfold setI; rw [if_pos e]; exact h
theorem S_setT {p : Px} {s : St} {K : Kt} {t : T} {a : E} (w : (evE p a s).W (fun u s1 => ∃ fr, bindTd t s1.hp u s1.fr = some fr ∧ K.nx ⟨fr, s1.hp⟩) K.ex) : (evS p (.setT t a) s).W K := by rw [evS, W_toS]; refine Re.W.imp w (fun u s1 ⟨fr, e, h⟩ => ?_) fun _ _ _ h => h; rw [e]; exact h
theorem S_ixs {p : Px} {s : St} {K : Kt} {o k a : E} (w : (evE p a s).W (fun v s1 => (evE p o s1).W (fun x s2 => (evE p k s2).W (fun y s3 => (ixsU p x y v s3).W K) K.ex) K.ex) K.ex) : (evS p (.ixs o k a) s).W K := by rw [evS, W_toS]; refine Re.W.imp w (fun x s1 h => ?_) fun _ _ _ h => h; rw [W_toS]; refine Re.W.imp h (fun x s1 h => ?_) fun _ _ _ h => h; rw [W_toS]; exact h
theorem S_par {p : Px} {s : St} {K : Kt} {ts : List Nat} {es : Es} (w : (evEs p es s).W (fun us s1 => ∃ fr, bindTs (ts.map T.s) us s1.fr = some fr ∧ K.nx ⟨fr, s1.hp⟩) K.ex) : (evS p (.par ts es) s).W K := by rw [evS, W_toS]; refine Re.W.imp w (fun us s1 ⟨fr, e, h⟩ => ?_) fun _ _ _ h => h; rw [e]; exact h
theorem L_fls {s : St} {K : Kt} {c r : Nat} {f : String} {fs : List (String × U)} {v : U} (h : insF s.hp c (.ref r) = some fs) (h2 : fs.length < 900) (w : K.nx ⟨s.fr, s.hp.set r (.ins c (putF f v fs))⟩) : (flsU c (.ref r) f v s).W K := by unfold flsU; dsimp only; rw [h]; dsimp only; rw [if_pos h2]; exact w
theorem S_fls {p : Px} {s : St} {K : Kt} {c : Nat} {o a : E} {f : String} (w : (evE p a s).W (fun v s1 => (evE p o s1).W (fun x s2 => (flsU c x f v s2).W K) K.ex) K.ex) : (evS p (.fls c o f a) s).W K := by rw [evS, W_toS]; refine Re.W.imp w (fun x s1 h => ?_) fun _ _ _ h => h; rw [W_toS]; exact h
theorem S_oixs {p : Px} {s : St} {K : Kt} {i : Nat} {k a : E} (h1 : isOwn s.fr i = true) (w : (evE p a s).W (fun v s1 => (evE p k s1).W (fun y s2 => ∃ xs j n, s2.fr[i]? = some (.own xs) ∧ y = .int j ∧ ixN xs.length j = some n ∧ K.nx ⟨s2.fr.set i (.own (xs.set n v)), s2.hp⟩) K.ex) K.ex) : (evS p (.oixs i k a) s).W K := by rw [evS, if_pos h1, W_toS]; refine Re.W.imp w (fun x s1 h => ?_) fun _ _ _ h => h; rw [W_toS]; refine Re.W.imp h (fun x s1 ⟨xs, j, n, e, e2, e3, h⟩ => ?_) fun _ _ _ h => h; subst e2; rw [e]; dsimp only; rw [e3]; exact h
theorem S_aug {p : Px} {s : St} {K : Kt} {i : Nat} {op : Bop} {a : E} {x : U} (h1 : s.fr[i]? = some (.val x)) (w : (evE p a s).W (fun y s1 => (augU op x y s1).W (fun z s2 => i < s2.fr.length ∧ K.nx ⟨s2.fr.set i (.val z), s2.hp⟩) K.ex) K.ex) : (evS p (.aug i op a) s).W K := by rw [evS, h1]; dsimp only; rw [W_toS]; refine Re.W.imp w (fun x s1 h => ?_) fun _ _ _ h => h; rw [W_toS]; refine Re.W.imp h (fun x s1 ⟨e, h⟩ => ?_) fun _ _ _ h => h; unfold setI; rw [if_pos e]; exact h
theorem S_augI {p : Px} {s : St} {K : Kt} {o k a : E} {op : Bop} (w : (evE p o s).W (fun x s1 => isRef x = true ∧ (evE p k s1).W (fun y s2 => (ixU x y s2).W (fun v s3 => (evE p a s3).W (fun z s4 => (augU op v z s4).W (fun t s5 => (ixsU p x y t s5).W K) K.ex) K.ex) K.ex) K.ex) K.ex) : (evS p (.augI o k op a) s).W K := by rw [evS, W_toS]; refine Re.W.imp w (fun x s1 ⟨e, h⟩ => ?_) fun _ _ _ h => h; rw [if_pos e, W_toS]; refine Re.W.imp h (fun x s1 h => ?_) fun _ _ _ h => h; rw [W_toS]; refine Re.W.imp h (fun x s1 h => ?_) fun _ _ _ h => h; rw [W_toS]; refine Re.W.imp h (fun x s1 h => ?_) fun _ _ _ h => h; rw [W_toS]; exact h
theorem S_augF {p : Px} {s : St} {K : Kt} {c : Nat} {o a : E} {f : String} {op : Bop} (w : (evE p o s).W (fun x s1 => (fldU c x f s1).W (fun v s3 => (evE p a s3).W (fun z s4 => (augU op v z s4).W (fun t s5 => (flsU c x f t s5).W K) K.ex) K.ex) K.ex) K.ex) : (evS p (.augF c o f op a) s).W K := by rw [evS, W_toS]; refine Re.W.imp w (fun x s1 h => ?_) fun _ _ _ h => h; rw [W_toS]; refine Re.W.imp h (fun x s1 h => ?_) fun _ _ _ h => h; rw [W_toS]; refine Re.W.imp h (fun x s1 h => ?_) fun _ _ _ h => h; rw [W_toS]; exact h
theorem S_oapp {p : Px} {s : St} {K : Kt} {i : Nat} {a : E} (h1 : isOwn s.fr i = true) (w : (evE p a s).W (fun v s1 => ∃ xs, s1.fr[i]? = some (.own xs) ∧ xs.length < SZ ∧ K.nx ⟨s1.fr.set i (.own (xs ++ [v])), s1.hp⟩) K.ex) : (evS p (.oapp i a) s).W K := by rw [evS, if_pos h1, W_toS]; refine Re.W.imp w (fun v s1 ⟨xs, e, e2, h⟩ => ?_) fun _ _ _ h => h; rw [e]; dsimp only; rw [if_pos e2]; exact h
theorem S_oext {p : Px} {s : St} {K : Kt} {i : Nat} {a : E} (h1 : isOwn s.fr i = true) (w : (evE p a s).W (fun v s1 => ∃ xs ys, s1.fr[i]? = some (.own xs) ∧ lstOf s1.hp v = some ys ∧ xs.length + ys.length ≤ SZ ∧ K.nx ⟨s1.fr.set i (.own (xs ++ ys)), s1.hp⟩) K.ex) : (evS p (.oext i a) s).W K := by rw [evS, if_pos h1, W_toS]; refine Re.W.imp w (fun v s1 ⟨xs, ys, e, e3, e2, h⟩ => ?_) fun _ _ _ h => h; rw [e, e3]; dsimp only; rw [if_pos e2]; exact h
theorem S_ite {p : Px} {s : St} {K : Kt} {c : E} {a b : Bl} (w : (evE p c s).W (fun x s1 => (tst x s1).W (fun k s2 => Br k ((evB p a s2).W K) ((evB p b s2).W K)) K.ex) K.ex) : (evS p (.ite c a b) s).W K := by rw [evS, W_toS]; refine Re.W.imp w (fun x s1 h => ?_) fun _ _ _ h => h; rw [W_toS]; refine Re.W.imp h (fun k s2 h => ?_) fun _ _ _ h => h; cases k with | true => exact h.1 rfl | false => exact h.2 rfl
theorem S_for {p : Px} {s : St} {K : Kt} {t : T} {it : It} {b : Bl} (w : (evIt p it s).W (fun src s1 => (forS t (evB p b) src s1).W K) K.ex) : (evS p (.for_ t it b) s).W K := by rw [evS, W_toS]; exact w
theorem S_try {p : Px} {s : St} {K : Kt} {b : Bl} {hs : Hs} (w : (evB p b s).W ⟨K.nx, K.rt, K.bk, K.ct, fun c u s1 => (evH p hs c u s1).W K⟩) : (evS p (.try_ b hs) s).W K := by
  rw [evS]
  revert w
  cases evB p b s <;> exact id
theorem H_no {p : Px} {s : St} {K : Kt} {d c : Nat} {i : Option Nat} {b : Bl} {hs : Hs} {u : U} (h : c < p.nx) (h2 : p.sub c d = false) (w : (evH p hs c u s).W K) : (evH p (.cons d i b hs) c u s).W K := by rw [evH, if_pos h, h2]; exact w
theorem H_nil {p : Px} {s : St} {K : Kt} {c : Nat} {u : U} (w : K.ex c u s) : (evH p .nil c u s).W K := by rw [evH]; exact w
theorem H_yes {p : Px} {s : St} {K : Kt} {d c : Nat} {i : Option Nat} {b : Bl} {hs : Hs} {u : U} (h : c < p.nx) (h2 : p.sub c d = true) (h3 : fits i s = true) (w : (evB p b (hold i c u s)).W ⟨fun s => clean (gone i s).fr = true ∧ K.nx (gone i s), fun v s => clean (gone i s).fr = true ∧ K.rt v (gone i s), fun s => clean (gone i s).fr = true ∧ K.bk (gone i s), fun s => clean (gone i s).fr = true ∧ K.ct (gone i s), fun _ _ _ => False⟩) : (evH p (.cons d i b hs) c u s).W K := by
  rw [evH, if_pos h, h2]
  dsimp only
  rw [if_pos h3]
  revert w
  cases evB p b (hold i c u s) with
  | nx s1 => exact fun w => by show Rs.W (if _ then _ else _) K; rw [if_pos w.1]; exact w.2
  | rt u s1 => exact fun w => by show Rs.W (if _ then _ else _) K; rw [if_pos w.1]; exact w.2
  | bk s1 => exact fun w => by show Rs.W (if _ then _ else _) K; rw [if_pos w.1]; exact w.2
  | ct s1 => exact fun w => by show Rs.W (if _ then _ else _) K; rw [if_pos w.1]; exact w.2
  | ex c u s1 => exact fun w => w
  | bad => exact fun w => w
theorem L_add {s : St} {Q : U → St → Prop} {X : Nat → U → St → Prop} {x y : Int} (w : Q (.int (x + y)) s) : (binU .add (.int x) (.int y) s).W Q X := w
theorem L_sub {s : St} {Q : U → St → Prop} {X : Nat → U → St → Prop} {x y : Int} (w : Q (.int (x - y)) s) : (binU .sub (.int x) (.int y) s).W Q X := w
theorem L_mul {s : St} {Q : U → St → Prop} {X : Nat → U → St → Prop} {x y : Int} (h : (small x || small y) = true) (w : Q (.int (x * y)) s) : (binU .mul (.int x) (.int y) s).W Q X := by unfold binU; dsimp only; rw [if_pos h]; exact w
theorem L_fdiv {s : St} {Q : U → St → Prop} {X : Nat → U → St → Prop} {x y : Int} (h : 0 < y ∧ y < 2 ^ 200) (w : Q (.int (x / y)) s) : (binU .fdiv (.int x) (.int y) s).W Q X := by unfold binU; dsimp only; rw [if_pos h]; exact w
theorem L_mod {s : St} {Q : U → St → Prop} {X : Nat → U → St → Prop} {x y : Int} (h : 0 < y) (w : Q (.int (x % y)) s) : (binU .mod (.int x) (.int y) s).W Q X := by unfold binU; dsimp only; rw [if_pos h]; exact w
theorem L_pow {s : St} {Q : U → St → Prop} {X : Nat → U → St → Prop} {x y : Int} (h : 0 ≤ y ∧ y ≤ 1000 ∧ small x = true) (w : Q (.int (x ^ y.toNat)) s) : (binU .pow (.int x) (.int y) s).W Q X := by unfold binU; dsimp only; rw [if_pos h]; exact w
theorem L_adds {s : St} {Q : U → St → Prop} {X : Nat → U → St → Prop} {x y : List Nat} (h : x.length + y.length ≤ SZ) (w : Q (.str (x ++ y)) s) : (binU .add (.str x) (.str y) s).W Q X := by unfold binU addU; dsimp only; rw [if_pos h]; exact w
theorem L_addt {s : St} {Q : U → St → Prop} {X : Nat → U → St → Prop} {x y : List U} (h : x.length + y.length ≤ SZ) (w : Q (.tup (x ++ y)) s) : (binU .add (.tup x) (.tup y) s).W Q X := by unfold binU addU; dsimp only; rw [if_pos h]; exact w
theorem L_addl {s : St} {Q : U → St → Prop} {X : Nat → U → St → Prop} {x y : List U} (h : x.length + y.length ≤ SZ) (w : Q (.lst (x ++ y)) s) : (binU .add (.lst x) (.lst y) s).W Q X := by unfold binU addU; dsimp only; rw [if_pos h]; exact w
theorem L_lt {s : St} {Q : U → St → Prop} {X : Nat → U → St → Prop} {x y : Int} (w : Q (.bl (decide (x < y))) s) : (cmpU .lt (.int x) (.int y) s).W Q X := w
theorem L_le {s : St} {Q : U → St → Prop} {X : Nat → U → St → Prop} {x y : Int} (w : Q (.bl (decide (x ≤ y))) s) : (cmpU .le (.int x) (.int y) s).W Q X := w
theorem L_gt {s : St} {Q : U → St → Prop} {X : Nat → U → St → Prop} {x y : Int} (w : Q (.bl (decide (y < x))) s) : (cmpU .gt (.int x) (.int y) s).W Q X := w
theorem L_ge {s : St} {Q : U → St → Prop} {X : Nat → U → St → Prop} {x y : Int} (w : Q (.bl (decide (y ≤ x))) s) : (cmpU .ge (.int x) (.int y) s).W Q X := w
theorem L_eqi {s : St} {Q : U → St → Prop} {X : Nat → U → St → Prop} {x y : Int} (w : Q (.bl (decide (x = y))) s) : (cmpU .eq (.int x) (.int y) s).W Q X := w
theorem L_nei {s : St} {Q : U → St → Prop} {X : Nat → U → St → Prop} {x y : Int} (w : Q (.bl (!decide (x = y))) s) : (cmpU .ne (.int x) (.int y) s).W Q X := w
theorem L_ins {s : St} {Q : U → St → Prop} {X : Nat → U → St → Prop} {c : Nat} {y : List Nat} (w : Q (.bl (decide (c ∈ y))) s) : (cmpU .isin (.str [c]) (.str y) s).W Q X := w
theorem L_eqb {s : St} {Q : U → St → Prop} {X : Nat → U → St → Prop} {x y : Bool} (w : Q (.bl (x == y)) s) : (cmpU .eq (.bl x) (.bl y) s).W Q X := w
theorem L_neb {s : St} {Q : U → St → Prop} {X : Nat → U → St → Prop} {x y : Bool} (w : Q (.bl (!(x == y))) s) : (cmpU .ne (.bl x) (.bl y) s).W Q X := w
theorem L_eqs {s : St} {Q : U → St → Prop} {X : Nat → U → St → Prop} {x y : List Nat} (w : Q (.bl (decide (x = y))) s) : (cmpU .eq (.str x) (.str y) s).W Q X := w
theorem L_nes {s : St} {Q : U → St → Prop} {X : Nat → U → St → Prop} {x y : List Nat} (w : Q (.bl (!decide (x = y))) s) : (cmpU .ne (.str x) (.str y) s).W Q X := w
theorem L_cmp {s : St} {Q : U → St → Prop} {X : Nat → U → St → Prop} {op : Cop} {x y : U} {t : Bool} (h : cmpH s.hp op x y = some t) (w : Q (.bl t) s) : (cmpU op x y s).W Q X := by unfold cmpU; rw [h]; exact w
theorem L_ixt {s : St} {Q : U → St → Prop} {X : Nat → U → St → Prop} {xs : List U} {i : Int} {v : U} (h : atL xs i = some v) (w : Q v s) : (ixU (.tup xs) (.int i) s).W Q X := by show (opt (atL xs i) s).W Q X; rw [h]; exact w
theorem L_ixl {s : St} {Q : U → St → Prop} {X : Nat → U → St → Prop} {xs : List U} {i : Int} {v : U} (h : atL xs i = some v) (w : Q v s) : (ixU (.lst xs) (.int i) s).W Q X := by show (opt (atL xs i) s).W Q X; rw [h]; exact w
theorem L_ixq {s : St} {Q : U → St → Prop} {X : Nat → U → St → Prop} {xs : List U} {i : Int} {v : U} (h : atL xs i = some v) (w : Q v s) : (ixSq (some xs) (.int i) s).W Q X := by show (opt (atL xs i) s).W Q X; rw [h]; exact w
theorem L_ixs {s : St} {Q : U → St → Prop} {X : Nat → U → St → Prop} {xs : List Nat} {i : Int} {c : Nat} (h : atL xs i = some c) (w : Q (.str [c]) s) : (ixU (.str xs) (.int i) s).W Q X := by unfold ixU; dsimp only; rw [h]; exact w
theorem L_ixr {s : St} {Q : U → St → Prop} {X : Nat → U → St → Prop} {r : Nat} {xs : List U} {i : Int} {v : U} (h0 : s.hp[r]? = some (.lst xs)) (h : atL xs i = some v) (w : Q v s) : (ixU (.ref r) (.int i) s).W Q X := by unfold ixU; dsimp only; rw [h0]; show (opt (atL xs i) s).W Q X; rw [h]; exact w
theorem L_ixd {s : St} {Q : U → St → Prop} {X : Nat → U → St → Prop} {t : Bool} {kvs : List (U × U)} {k v : U} (h1 : keyOk t k = true) (h : dget kvs k = some v) (w : Q v s) : (ixU (.dct t kvs) k s).W Q X := by show (dixU t kvs k s).W Q X; unfold dixU; rw [if_pos h1, h]; exact w
theorem L_ixdr {s : St} {Q : U → St → Prop} {X : Nat → U → St → Prop} {r : Nat} {t : Bool} {kvs : List (U × U)} {k v : U} (h0 : s.hp[r]? = some (.dct t kvs)) (h1 : keyOk t k = true) (h : dget kvs k = some v) (w : Q v s) : (ixU (.ref r) k s).W Q X := by unfold ixU; dsimp only; rw [h0]; show (dixU t kvs k s).W Q X; unfold dixU; rw [if_pos h1, h]; exact w
theorem L_inti {s : St} {Q : U → St → Prop} {X : Nat → U → St → Prop} {i : Int} (w : Q (.int i) s) : (b1U .int (.int i) s).W Q X := w
theorem L_intb {s : St} {Q : U → St → Prop} {X : Nat → U → St → Prop} {b : Bool} (w : Q (.int (if b then 1 else 0)) s) : (b1U .int (.bl b) s).W Q X := w
theorem L_abs {s : St} {Q : U → St → Prop} {X : Nat → U → St → Prop} {i : Int} (w : Q (.int (if i < 0 then -i else i)) s) : (b1U .abs (.int i) s).W Q X := w
theorem L_len {s : St} {Q : U → St → Prop} {X : Nat → U → St → Prop} {x : U} {n : Nat} (h : lenH s.hp x = some n) (w : Q (.int n) s) : (b1U .len x s).W Q X := by unfold b1U; dsimp only; rw [h]; exact w
theorem L_tupt {s : St} {Q : U → St → Prop} {X : Nat → U → St → Prop} {xs : List U} (w : Q (.tup xs) s) : (b1U .tup (.tup xs) s).W Q X := w
theorem L_tupl {s : St} {Q : U → St → Prop} {X : Nat → U → St → Prop} {xs : List U} (w : Q (.tup xs) s) : (b1U .tup (.lst xs) s).W Q X := w
theorem L_tupr {s : St} {Q : U → St → Prop} {X : Nat → U → St → Prop} {r : Nat} {xs : List U} (h : s.hp[r]? = some (.lst xs)) (w : Q (.tup xs) s) : (b1U .tup (.ref r) s).W Q X := by unfold b1U onL lstOf; dsimp only; rw [h]; exact w
theorem L_all {s : St} {Q : U → St → Prop} {X : Nat → U → St → Prop} {xs : List U} {bs : List Bool} (h : blsOf xs = some bs) (w : Q (.bl (bs.all id)) s) : (b1U .all (.lst xs) s).W Q X := by show (b1L .all xs s).W Q X; unfold b1L; dsimp only; rw [h]; exact w
theorem L_any {s : St} {Q : U → St → Prop} {X : Nat → U → St → Prop} {xs : List U} {bs : List Bool} (h : blsOf xs = some bs) (w : Q (.bl (bs.any id)) s) : (b1U .any (.lst xs) s).W Q X := by show (b1L .any xs s).W Q X; unfold b1L; dsimp only; rw [h]; exact w
theorem L_sum {s : St} {Q : U → St → Prop} {X : Nat → U → St → Prop} {xs : List U} {ns : List Int} (h : intsOf xs = some ns) (w : Q (.int ns.sum) s) : (b1U .sum (.lst xs) s).W Q X := by show (b1L .sum xs s).W Q X; unfold b1L; dsimp only; rw [h]; exact w
theorem L_lset {s : St} {Q : U → St → Prop} {X : Nat → U → St → Prop} {x : U} {ys : List (List Nat)} (h : (seqOf s.hp x).bind strsOf = some ys) (h2 : ys.length < 63) (w : Q (.int (unlike ys : Nat)) s) : (b1U .lenset x s).W Q X := by unfold b1U; dsimp only; rw [h]; dsimp only; rw [if_pos h2]; exact w
theorem L_max2 {s : St} {Q : U → St → Prop} {X : Nat → U → St → Prop} {i j : Int} (w : Q (.int (if j > i then j else i)) s) : (b2U .max (.int i) (.int j) s).W Q X := w
theorem L_min2 {s : St} {Q : U → St → Prop} {X : Nat → U → St → Prop} {i j : Int} (w : Q (.int (if j < i then j else i)) s) : (b2U .min (.int i) (.int j) s).W Q X := w
theorem L_join {s : St} {Q : U → St → Prop} {X : Nat → U → St → Prop} {x : List Nat} {y : U} {ys : List (List Nat)} (h : (seqOf s.hp y).bind strsOf = some ys) (h2 : (ys.map List.length).sum + ys.length * x.length ≤ SZ) (w : Q (.str (joinL x ys)) s) : (b2U .join (.str x) y s).W Q X := by unfold b2U; dsimp only; rw [h]; dsimp only; rw [if_pos h2]; exact w
theorem L_cuts {s : St} {Q : U → St → Prop} {X : Nat → U → St → Prop} {x : List Nat} {lo hi : Option Int} (w : Q (.str (cut x lo hi)) s) : (cutU (.str x) lo hi s).W Q X := w
theorem L_cutt {s : St} {Q : U → St → Prop} {X : Nat → U → St → Prop} {x : List U} {lo hi : Option Int} (w : Q (.tup (cut x lo hi)) s) : (cutU (.tup x) lo hi s).W Q X := w
theorem L_cutl {s : St} {Q : U → St → Prop} {X : Nat → U → St → Prop} {x : List U} {lo hi : Option Int} (w : Q (.lst (cut x lo hi)) s) : (cutU (.lst x) lo hi s).W Q X := w
theorem L_augi {s : St} {Q : U → St → Prop} {X : Nat → U → St → Prop} {op : Bop} {x : Int} {b : U} (w : (binU op (.int x) b s).W Q X) : (augU op (.int x) b s).W Q X := w
theorem L_augs {s : St} {Q : U → St → Prop} {X : Nat → U → St → Prop} {op : Bop} {x : List Nat} {b : U} (w : (binU op (.str x) b s).W Q X) : (augU op (.str x) b s).W Q X := w
theorem L_ofl {s : St} {Q : List U → St → Prop} {X : Nat → U → St → Prop} {x : List U} (w : Q x s) : (ofU (.lst x) s).W Q X := w
theorem L_oft {s : St} {Q : List U → St → Prop} {X : Nat → U → St → Prop} {x : List U} (w : Q x s) : (ofU (.tup x) s).W Q X := w
theorem L_ofs {s : St} {Q : List U → St → Prop} {X : Nat → U → St → Prop} {x : List Nat} (w : Q (x.map fun c => .str [c]) s) : (ofU (.str x) s).W Q X := w
theorem L_ofc {s : St} {Q : List U → St → Prop} {X : Nat → U → St → Prop} {x : List Int} (w : Q (x.map .int) s) : (ofU (.scr x) s).W Q X := w
theorem L_sset {p : Px} {s : St} {K : Kt} {r : Nat} {xs : List U} {i : Int} {j : Nat} {v : U} (h : s.hp[r]? = some (.lst xs)) (h2 : ixN xs.length i = some j) (w : K.nx ⟨s.fr, s.hp.set r (.lst (xs.set j v))⟩) : (ixsU p (.ref r) (.int i) v s).W K := by unfold ixsU; dsimp only; rw [h]; dsimp only; rw [h2]; exact w
theorem L_dset {p : Px} {s : St} {K : Kt} {r : Nat} {t : Bool} {kvs : List (U × U)} {k v : U} (h : s.hp[r]? = some (.dct t kvs)) (h2 : putOk p t k = true ∧ kvs.length < SZ) (w : K.nx ⟨s.fr, s.hp.set r (.dct t (dput k v kvs))⟩) : (ixsU p (.ref r) k v s).W K := by unfold ixsU; dsimp only; rw [h]; dsimp only; rw [if_pos h2]; exact w
end Pix
end
section
set_option Elab.async false
set_option linter.all false
set_option maxRecDepth 100000
set_option maxHeartbeats 1000000
/-! PixP3: rules with the slot's kind, ends of suites. -/
namespace Pix
theorem ifT {A B : Prop} (w : A) : if true = true then A else B := by rw [if_pos rfl]; exact w
theorem Br.suby {cs : List Nat} {p : Px} {c : Nat} {A B : Prop} (e : (cs.any fun d => p.sub c d) = true) (w : A) : Br (cs.any fun d => p.sub c d) A B := .yes e w
theorem Br.subn {cs : List Nat} {p : Px} {c : Nat} {A B : Prop} (e : (cs.any fun d => p.sub c d) = false) (w : B) : Br (cs.any fun d => p.sub c d) A B := .no e w
theorem Br.isy {ts : List Ty} {h : Hp} {u : U} {A B : Prop} (e : (ts.any fun t => isI h u t) = true) (w : A) : Br (ts.any fun t => isI h u t) A B := .yes e w
theorem Br.isn {ts : List Ty} {h : Hp} {u : U} {A B : Prop} (e : (ts.any fun t => isI h u t) = false) (w : B) : Br (ts.any fun t => isI h u t) A B := .no e w
theorem Br.nuy {no : Bool} {u : U} {A B : Prop} (e : isNU no u = true) (w : A) : Br (isNU no u) A B := .yes e w
theorem Br.nun {no : Bool} {u : U} {A B : Prop} (e : isNU no u = false) (w : B) : Br (isNU no u) A B := .no e w
theorem Br.eqy {x y : Bool} {A B : Prop} (e : (x == y) = true) (w : A) : Br (x == y) A B := .yes e w
theorem Br.eqn {x y : Bool} {A B : Prop} (e : (x == y) = false) (w : B) : Br (x == y) A B := .no e w
theorem Br.dself {α : Type} [DecidableEq α] {x : α} {A B : Prop} (w : A) : Br (decide (x = x)) A B := .yes (decide_eq_true rfl) w
theorem Br.not {k : Bool} {A B : Prop} (w : Br k B A) : Br (!k) A B := ⟨fun e => w.2 (by cases k <;> simp_all), fun e => w.1 (by cases k <;> simp_all)⟩
theorem Br.split {k : Bool} {A B : Prop} (h1 : k = true → A) (h2 : k = false → B) : Br k A B := ⟨h1, h2⟩
section
variable {a b c d : St → Prop} {r : U → St → Prop} {x : Nat → U → St → Prop} {s : St} {u : U} {n : Nat} {Q : U → Hp → Prop} {X : Nat → U → Hp → Prop}
theorem K_nx (w : a s) : Kt.nx ⟨a, r, b, c, x⟩ s := w
theorem K_rt (w : r u s) : Kt.rt ⟨a, r, b, c, x⟩ u s := w
theorem K_bk (w : b s) : Kt.bk ⟨a, r, b, c, x⟩ s := w
theorem K_ct (w : c s) : Kt.ct ⟨a, r, b, c, x⟩ s := w
theorem K_ex (w : x n u s) : Kt.ex ⟨a, r, b, c, x⟩ n u s := w
theorem KC_nx (w : Q .non s.hp) : (kC Q X).nx s := w
theorem KC_rt (w : Q u s.hp) : (kC Q X).rt u s := w
theorem KC_ex (w : X n u s.hp) : (kC Q X).ex n u s := w
end
section
variable {p : Px} {s : St} {Q : U → St → Prop} {X : Nat → U → St → Prop} {i : Nat} {u : U} {xs : List U} {a : E} {lo hi : Eo} {no : Bool}
theorem isSet_val {fr : List Sl} (h : fr[i]? = some (.val u)) : isSet fr i = true := by unfold isSet; rw [h]
theorem isSet_own {fr : List Sl} (h : fr[i]? = some (.own xs)) : isSet fr i = true := by unfold isSet; rw [h]
theorem W_pixV (h : s.fr[i]? = some (.val u)) (w : (evE p a s).W (fun y s1 => s1.fr[i]? = some (.val u) ∧ (ixU u y s1).W Q X) X) : (evE p (.pix i a) s).W Q X := W_pix (isSet_val h) (w.imp (fun _ _ h => ⟨_, h⟩) fun _ _ _ h => h)
theorem W_pixO (h : s.fr[i]? = some (.own xs)) (w : (evE p a s).W (fun y s1 => s1.fr[i]? = some (.own xs) ∧ (ixSq (some xs) y s1).W Q X) X) : (evE p (.pix i a) s).W Q X := W_pixo (isSet_own h) (w.imp (fun _ _ h => ⟨_, h⟩) fun _ _ _ h => h)
theorem W_pinV (h : s.fr[i]? = some (.val u)) (w : (evE p a s).W (fun y s1 => s1.fr[i]? = some (.val u) ∧ (cmpU (if no then .notin else .isin) y u s1).W Q X) X) : (evE p (.pin no a i) s).W Q X := W_pin (w.imp (fun _ _ h => ⟨_, h⟩) fun _ _ _ h => h)
theorem W_pinO (h : s.fr[i]? = some (.own xs)) (w : (evE p a s).W (fun y s1 => s1.fr[i]? = some (.own xs) ∧ (cmpU (if no then .notin else .isin) y (.lst xs) s1).W Q X) X) : (evE p (.pin no a i) s).W Q X := W_pino (w.imp (fun _ _ h => ⟨_, h⟩) fun _ _ _ h => h)
theorem W_pslV (h : s.fr[i]? = some (.val u)) (w : (evEo p lo s).W (fun l s1 => (evEo p hi s1).W (fun h s2 => s2.fr[i]? = some (.val u) ∧ (cutU u l h s2).W Q X) X) X) : (evE p (.psl i lo hi) s).W Q X := W_psl (isSet_val h) (w.imp (fun _ _ h => h.imp (fun _ _ h => ⟨_, h⟩) fun _ _ _ h => h) fun _ _ _ h => h)
theorem W_pslO (h : s.fr[i]? = some (.own xs)) (w : (evEo p lo s).W (fun l s1 => (evEo p hi s1).W (fun h s2 => s2.fr[i]? = some (.own xs) ∧ Q (.lst (cut xs l h)) s2) X) X) : (evE p (.psl i lo hi) s).W Q X := W_pslo (isSet_own h) (w.imp (fun _ _ h => h.imp (fun _ _ h => ⟨_, h⟩) fun _ _ _ h => h) fun _ _ _ h => h)
theorem L_mulr {x y : Int} (h : small y = true) (w : Q (.int (x * y)) s) : (binU .mul (.int x) (.int y) s).W Q X := L_mul (by rw [h, Bool.or_true]) w
theorem L_mull {x y : Int} (h : small x = true) (w : Q (.int (x * y)) s) : (binU .mul (.int x) (.int y) s).W Q X := L_mul (by rw [h, Bool.true_or]) w
theorem L_sset2 {K : Kt} {r j : Nat} {v : U} {k : Int} (h : s.hp[r]? = some (.lst xs)) (h2 : ixN xs.length k = some j) (w : ∀ hp', hp' = s.hp.set r (.lst (xs.set j v)) → hp'[r]? = some (.lst (xs.set j v)) → K.nx ⟨s.fr, hp'⟩) : (ixsU p (.ref r) (.int k) v s).W K :=
  L_sset h h2 (w _ rfl (by rw [List.getElem?_set_self (List.getElem?_eq_some_iff.mp h).1]))
theorem g_E {e : E} (w : (evE p e s).W Q X) : (evE p e s).W Q X := w
theorem g_S {e : Sm} {K : Kt} (w : (evS p e s).W K) : (evS p e s).W K := w
theorem g_bin {op : Bop} {x y : U} (w : (binU op x y s).W Q X) : (binU op x y s).W Q X := w
theorem g_cmp {op : Cop} {x y : U} (w : (cmpU op x y s).W Q X) : (cmpU op x y s).W Q X := w
theorem g_b1 {op : B1} {x : U} (w : (b1U op x s).W Q X) : (b1U op x s).W Q X := w
theorem g_tst {x : U} {Q : Bool → St → Prop} (w : (tst x s).W Q X) : (tst x s).W Q X := w
theorem ltAnd {n m : Nat} {P : Prop} (h : Nat.ble (n + 1) m = true) (w : P) : n < m ∧ P := ⟨Nat.le_of_ble_eq_true h, w⟩
theorem exAnd {α : Type} {P R : α → Prop} {x : α} (h : P x) (r : R x) : ∃ x, P x ∧ R x := ⟨x, h, r⟩
theorem exAnd2 {α β : Type} {P P2 R : α → β → Prop} {x : α} {y : β} (h : P x y) (h2 : P2 x y) (r : R x y) : ∃ x y, P x y ∧ P2 x y ∧ R x y := ⟨x, y, h, h2, r⟩
end
section
variable {p : Px} {s : St} {Q : U → St → Prop} {X : Nat → U → St → Prop} {i : Nat} {a : E} {lo hi : Eo} {no : Bool}
theorem W_varX (w : ∃ u, s.fr[i]? = some (.val u) ∧ Q u s) : (evE p (.var i) s).W Q X := let ⟨_, h, w⟩ := w; W_var h w
theorem W_varoX (w : ∃ xs, s.fr[i]? = some (.own xs) ∧ Q (.lst xs) { s with fr := s.fr.set i (.val (.lst xs)) }) : (evE p (.var i) s).W Q X := let ⟨_, h, w⟩ := w; W_varo h w
theorem W_peekX (w : ∃ u, s.fr[i]? = some (.val u) ∧ Q u s) : (evE p (.peek i) s).W Q X := let ⟨_, h, w⟩ := w; W_peek h w
theorem W_peekoX (w : ∃ xs, s.fr[i]? = some (.own xs) ∧ Q (.lst xs) s) : (evE p (.peek i) s).W Q X := let ⟨_, h, w⟩ := w; W_peeko h w
theorem W_pixVX (w : ∃ u, s.fr[i]? = some (.val u) ∧ (evE p a s).W (fun y s1 => s1.fr[i]? = some (.val u) ∧ (ixU u y s1).W Q X) X) : (evE p (.pix i a) s).W Q X := let ⟨_, h, w⟩ := w; W_pixV h w
theorem W_pixOX (w : ∃ xs, s.fr[i]? = some (.own xs) ∧ (evE p a s).W (fun y s1 => s1.fr[i]? = some (.own xs) ∧ (ixSq (some xs) y s1).W Q X) X) : (evE p (.pix i a) s).W Q X := let ⟨_, h, w⟩ := w; W_pixO h w
theorem W_pinVX (w : ∃ u, s.fr[i]? = some (.val u) ∧ (evE p a s).W (fun y s1 => s1.fr[i]? = some (.val u) ∧ (cmpU (if no then .notin else .isin) y u s1).W Q X) X) : (evE p (.pin no a i) s).W Q X := let ⟨_, h, w⟩ := w; W_pinV h w
theorem W_pinOX (w : ∃ xs, s.fr[i]? = some (.own xs) ∧ (evE p a s).W (fun y s1 => s1.fr[i]? = some (.own xs) ∧ (cmpU (if no then .notin else .isin) y (.lst xs) s1).W Q X) X) : (evE p (.pin no a i) s).W Q X := let ⟨_, h, w⟩ := w; W_pinO h w
theorem W_pslVX (w : ∃ u, s.fr[i]? = some (.val u) ∧ (evEo p lo s).W (fun l s1 => (evEo p hi s1).W (fun h s2 => s2.fr[i]? = some (.val u) ∧ (cutU u l h s2).W Q X) X) X) : (evE p (.psl i lo hi) s).W Q X := let ⟨_, h, w⟩ := w; W_pslV h w
theorem W_pslOX (w : ∃ xs, s.fr[i]? = some (.own xs) ∧ (evEo p lo s).W (fun l s1 => (evEo p hi s1).W (fun h s2 => s2.fr[i]? = some (.own xs) ∧ Q (.lst (cut xs l h)) s2) X) X) : (evE p (.psl i lo hi) s).W Q X := let ⟨_, h, w⟩ := w; W_pslO h w
theorem S_augX {K : Kt} {op : Bop} (w : ∃ x, s.fr[i]? = some (.val x) ∧ (evE p a s).W (fun y s1 => (augU op x y s1).W (fun z s2 => i < s2.fr.length ∧ K.nx ⟨s2.fr.set i (.val z), s2.hp⟩) K.ex) K.ex) : (evS p (.aug i op a) s).W K := let ⟨_, h, w⟩ := w; S_aug h w
theorem W_excfX {f : String} (w : ∃ x : Nat × U, s.fr[i]? = some (.exc x.1 x.2) ∧ (x.1 < p.nx ∧ p.xfn x.1 = f) ∧ Q x.2 s) : (evE p (.excf i f) s).W Q X := let ⟨_, h, h2, w⟩ := w; W_excf h h2 w
theorem W_excisX {cs : List Nat} (w : ∃ x : Nat × U, s.fr[i]? = some (.exc x.1 x.2) ∧ x.1 < p.nx ∧ Q (.bl (cs.any fun d => p.sub x.1 d)) s) : (evE p (.excis i cs) s).W Q X := let ⟨_, h, h2, w⟩ := w; W_excis h h2 w
theorem L_lenX {x : U} (w : ∃ n, lenH s.hp x = some n ∧ Q (.int (n : Nat)) s) : (b1U .len x s).W Q X := let ⟨_, h, w⟩ := w; L_len h w
theorem L_ixtX {xs : List U} {i : Int} (w : ∃ v, atL xs i = some v ∧ Q v s) : (ixU (.tup xs) (.int i) s).W Q X := let ⟨_, h, w⟩ := w; L_ixt h w
theorem L_ixlX {xs : List U} {i : Int} (w : ∃ v, atL xs i = some v ∧ Q v s) : (ixU (.lst xs) (.int i) s).W Q X := let ⟨_, h, w⟩ := w; L_ixl h w
theorem L_ixqX {xs : List U} {i : Int} (w : ∃ v, atL xs i = some v ∧ Q v s) : (ixSq (some xs) (.int i) s).W Q X := let ⟨_, h, w⟩ := w; L_ixq h w
theorem L_ixrX {r : Nat} {i : Int} (w : ∃ xs, s.hp[r]? = some (.lst xs) ∧ ∃ v, atL xs i = some v ∧ Q v s) : (ixU (.ref r) (.int i) s).W Q X := let ⟨_, h0, _, h, w⟩ := w; L_ixr h0 h w
theorem L_sset2X {K : Kt} {r : Nat} {v : U} {k : Int} (w : ∃ xs, s.hp[r]? = some (.lst xs) ∧ ∃ j, ixN xs.length k = some j ∧ ∀ hp', hp' = s.hp.set r (.lst (xs.set j v)) → hp'[r]? = some (.lst (xs.set j v)) → K.nx ⟨s.fr, hp'⟩) : (ixsU p (.ref r) (.int k) v s).W K := let ⟨_, h, _, h2, w⟩ := w; L_sset2 h h2 w
end
theorem g_Br {k : Bool} {A B : Prop} (w : Br k A B) : Br k A B := w
theorem g_Ex {α : Sort _} {P : α → Prop} (w : ∃ x, P x) : ∃ x, P x := w
def enumU (h : Hp) : U → Option Src
  | .tup xs => some (.snap (enumL 0 xs))
  | .lst xs => some (.snap (enumL 0 xs))
  | .ref r => (match h[r]? with
    | some (.lst _) => some (.live r true)
    | _ => none)
  | _ => none
theorem Wi_enum {p : Px} {s : St} {Q : Src → St → Prop} {X : Nat → U → St → Prop} {a : E} (w : (evE p a s).W (fun x s1 => ∃ src, enumU s1.hp x = some src ∧ Q src s1) X) : (evIt p (.enum a) s).W Q X := by
  rw [evIt, W_bnd]
  refine Re.W.imp w (fun x s1 ⟨src, e, h⟩ => ?_) fun _ _ _ h => h
  cases x with
  | ref r =>
    unfold enumU at e
    dsimp only at e ⊢
    split at e
    · rename_i q; first | (rw [q]; cases e; exact h) | (cases e; exact h)
    · cases e
  | _ => first | (cases e; exact h) | cases e
end Pix
end
section
set_option Elab.async false
set_option linter.all false
set_option maxRecDepth 100000
set_option maxHeartbeats 1000000
/-! PixP4: plain facts of items, places, equality. -/
namespace Pix
theorem q_small_of {i : Int} (h1 : -(2 ^ 64) < i) (h2 : i < 2 ^ 64) : small i = true := by
  unfold small
  rw [decide_eq_true h1, decide_eq_true h2]; rfl
theorem small_mod {a m : Int} (h : 0 < m) (h2 : m ≤ 2 ^ 64) : small (a % m) = true := by
  have h3 := Int.emod_nonneg a (by omega : m ≠ 0)
  have h4 := Int.emod_lt_of_pos a h
  exact q_small_of (by omega) (by omega)
theorem ixN_nat {n i : Nat} (h : i < n) : ixN n (i : Int) = some i := by
  unfold ixN
  rw [if_pos (by omega), if_pos (by omega)]
  simp
theorem ixN_pos {n : Nat} {i : Int} (h0 : 0 ≤ i) (h : i < n) : ixN n i = some i.toNat := by
  unfold ixN
  rw [if_pos h0, if_pos h]
theorem ixN_neg {n : Nat} {i : Int} (h0 : i < 0) (h : -(n : Int) ≤ i) : ixN n i = some (i + n).toNat := by
  unfold ixN
  rw [if_neg (by omega), if_pos h]
theorem atL_nat {α : Type} {xs : List α} {i : Nat} {x : α} (h : xs[i]? = some x) : atL xs (i : Int) = some x := by
  unfold atL
  rw [ixN_nat (List.getElem?_eq_some_iff.mp h).1]
  exact h
theorem atL_pos {α : Type} {xs : List α} {i : Int} {x : α} (h0 : 0 ≤ i) (h : xs[i.toNat]? = some x) : atL xs i = some x := by
  have hl := (List.getElem?_eq_some_iff.mp h).1
  unfold atL
  rw [ixN_pos h0 (by omega)]
  exact h
theorem atL_some {α : Type} {xs : List α} {i : Int} (h0 : 0 ≤ i) (h : i < xs.length) : ∃ x, atL xs i = some x ∧ x ∈ xs ∧ xs[i.toNat]? = some x := by
  have hl : i.toNat < xs.length := by omega
  exact ⟨xs[i.toNat], atL_pos h0 (List.getElem?_eq_getElem hl), List.getElem_mem hl, List.getElem?_eq_getElem hl⟩
theorem atL_map {α β : Type} {f : α → β} {xs : List α} {i : Int} {x : α} (h : atL xs i = some x) : atL (xs.map f) i = some (f x) := by
  unfold atL at h ⊢
  rw [List.length_map]
  split at h
  · rename_i k e; rw [List.getElem?_map, h]; rfl
  · cases h
theorem ixN_lt {n k : Nat} {i : Int} (h : ixN n i = some k) : k < n := by
  unfold ixN at h
  split at h
  · split at h
    · cases h; omega
    · cases h
  · split at h
    · cases h; omega
    · cases h
theorem cutN_nat {n i : Nat} : cutN n (i : Int) = min i n := by unfold cutN; rw [if_neg (by omega)]; simp
theorem cutN_pos {n : Nat} {i : Int} (h : 0 ≤ i) : cutN n i = min i.toNat n := by unfold cutN; rw [if_neg (by omega)]
/-! ### equality of data -/
/-- nothing that is mutated, no script, no dict -/
inductive Flat : Nat → U → Prop
  | non {n : Nat} : Flat (n + 1) .non
  | bl {n : Nat} (b : Bool) : Flat (n + 1) (.bl b)
  | int {n : Nat} (i : Int) : Flat (n + 1) (.int i)
  | str {n : Nat} (s : List Nat) : Flat (n + 1) (.str s)
  | tup {n : Nat} {xs : List U} (hl : xs.length ≤ SZ) (h : ∀ x ∈ xs, Flat n x) : Flat (n + 1) (.tup xs)
  | lst {n : Nat} {xs : List U} (hl : xs.length ≤ SZ) (h : ∀ x ∈ xs, Flat n x) : Flat (n + 1) (.lst xs)
theorem mapO_id {α : Type} {f : α → Option α} : ∀ {xs : List α}, (∀ x ∈ xs, f x = some x) → mapO f xs = some xs
  | [], _ => rfl
  | x :: xs, h => by unfold mapO; rw [h x (by simp), mapO_id fun y hy => h y (by simp [hy])]
theorem mapO_map {α β : Type} {f : α → Option β} {g : α → β} : ∀ {xs : List α}, (∀ x ∈ xs, f x = some (g x)) → mapO f xs = some (xs.map g)
  | [], _ => rfl
  | x :: xs, h => by unfold mapO; rw [h x (by simp), mapO_map fun y hy => h y (by simp [hy])]; rfl
theorem Flat.mono {n m : Nat} {u : U} (h : Flat n u) (e : n ≤ m) : Flat m u := by
  induction h generalizing m with
  | non => obtain ⟨k, rfl⟩ : ∃ k, m = k + 1 := ⟨m - 1, by omega⟩; exact .non
  | bl b => obtain ⟨k, rfl⟩ : ∃ k, m = k + 1 := ⟨m - 1, by omega⟩; exact .bl b
  | int i => obtain ⟨k, rfl⟩ : ∃ k, m = k + 1 := ⟨m - 1, by omega⟩; exact .int i
  | str s => obtain ⟨k, rfl⟩ : ∃ k, m = k + 1 := ⟨m - 1, by omega⟩; exact .str s
  | tup hl h ih => obtain ⟨k, rfl⟩ : ∃ k, m = k + 1 := ⟨m - 1, by omega⟩; exact .tup hl fun x hx => ih x hx (by omega)
  | lst hl h ih => obtain ⟨k, rfl⟩ : ∃ k, m = k + 1 := ⟨m - 1, by omega⟩; exact .lst hl fun x hx => ih x hx (by omega)
theorem Flat.res {h : Hp} {n : Nat} {u : U} (f : Flat n u) : ∀ {m : Nat}, n ≤ m → res h m u = some u := by
  induction f with
  | non => intro m e; obtain ⟨k, rfl⟩ : ∃ k, m = k + 1 := ⟨m - 1, by omega⟩; rfl
  | bl b => intro m e; obtain ⟨k, rfl⟩ : ∃ k, m = k + 1 := ⟨m - 1, by omega⟩; rfl
  | int i => intro m e; obtain ⟨k, rfl⟩ : ∃ k, m = k + 1 := ⟨m - 1, by omega⟩; rfl
  | str s => intro m e; obtain ⟨k, rfl⟩ : ∃ k, m = k + 1 := ⟨m - 1, by omega⟩; rfl
  | tup hl h ih =>
    intro m e
    obtain ⟨k, rfl⟩ : ∃ k, m = k + 1 := ⟨m - 1, by omega⟩
    unfold Pix.res
    dsimp only
    rw [mapO_id fun x hx => ih x hx (by omega)]; rfl
  | lst hl h ih =>
    intro m e
    obtain ⟨k, rfl⟩ : ∃ k, m = k + 1 := ⟨m - 1, by omega⟩
    unfold Pix.res
    dsimp only
    rw [mapO_id fun x hx => ih x hx (by omega)]; rfl
theorem eqUs_rfl : ∀ {xs : List U}, (∀ x ∈ xs, eqU x x = true) → eqUs xs xs = true
  | [], _ => by simp [eqUs]
  | x :: xs, h => by
    have ih : eqUs xs xs = true := eqUs_rfl fun y hy => h y (List.mem_cons_of_mem _ hy)
    simp only [eqUs, h x List.mem_cons_self, ih, Bool.and_self]
theorem Flat.eqU {n : Nat} {u : U} (f : Flat n u) : eqU u u = true := by
  induction f with
  | tup hl h ih => simp only [Pix.eqU, eqUs_rfl ih]
  | lst hl h ih => simp only [Pix.eqU, eqUs_rfl ih]
  | _ => simp [Pix.eqU]
theorem Flat.eqH {h : Hp} {u : U} (f : Flat 20 u) : eqH h u u = some true := by
  unfold Pix.eqH
  rw [f.res (Nat.le_refl _)]
  dsimp only
  rw [f.eqU]
theorem eqU_ints {xs ys : List Int} : eqUs (xs.map .int) (ys.map .int) = decide (xs = ys) := by
  induction xs generalizing ys with
  | nil => cases ys <;> simp [eqUs]
  | cons x xs ih =>
    cases ys with
    | nil => simp [eqUs]
    | cons y ys => simp only [List.map_cons, eqUs, eqU, ih, List.cons.injEq, Bool.decide_and]
theorem intsOf_map {xs : List Int} : intsOf (xs.map .int) = some xs := by
  induction xs with
  | nil => rfl
  | cons x xs ih => unfold intsOf at ih ⊢; simp only [List.map_cons, mapO, ih]
theorem strsOf_map {xs : List (List Nat)} : strsOf (xs.map .str) = some xs := by
  induction xs with
  | nil => rfl
  | cons x xs ih => unfold strsOf at ih ⊢; simp only [List.map_cons, mapO, ih]
theorem blsOf_map {xs : List Bool} : blsOf (xs.map .bl) = some xs := by
  induction xs with
  | nil => rfl
  | cons x xs ih => unfold blsOf at ih ⊢; simp only [List.map_cons, mapO, ih]
theorem rngL_len {lo c : Int} : ∀ {n : Nat}, (rngL lo c n).length = n
  | 0 => rfl
  | n + 1 => by unfold rngL; rw [List.length_cons, rngL_len]
theorem q_rngL_get {c : Int} : ∀ {n i : Nat} {lo : Int}, i < n → (rngL lo c n)[i]? = some (.int (lo + c * i))
  | 0, i, _, h => by omega
  | n + 1, 0, lo, _ => by unfold rngL; simp
  | n + 1, i + 1, lo, h => by
    unfold rngL
    rw [List.getElem?_cons_succ, q_rngL_get (by omega)]
    congr 2
    push_cast
    rw [Int.mul_add, Int.mul_one]; omega
theorem rng_get {n i : Nat} {lo : Int} {x : U} (h : (rngL lo 1 n)[i]? = some x) : i < n ∧ x = .int (lo + i) := by
  have hl := (List.getElem?_eq_some_iff.mp h).1
  rw [rngL_len] at hl
  rw [q_rngL_get hl] at h
  cases h
  exact ⟨hl, by rw [Int.one_mul]⟩
/-- a comprehension that only looks -/
theorem comp_map {β : Type} {p : Px} {elt : E} {t : T} {own : List Nat} {fr : List Sl} {hp : Hp} {Q : List U → St → Prop} {zs : List β} (f g : β → U) (hn : noOwn fr own = true) (hl : zs.length ≤ SZ)
    (step : ∀ z ∈ zs, ∃ fr1, bindT t (f z) (wipe fr own) = some fr1 ∧ (evE p elt ⟨fr1, hp⟩).W (fun y s2 => wipe s2.fr own = wipe fr own ∧ s2.hp = hp ∧ y = g z) (fun _ _ _ => False))
    (hend : Q (zs.map g) ⟨fr, hp⟩) :
    if noOwn fr own = true then (compS t own (evC p .no) (evE p elt) (.snap (zs.map f)) ⟨fr, hp⟩).W (fun ys s2 => if ys.length ≤ SZ then Ap Q ys { s2 with fr := back fr s2.fr own } else False) (fun _ _ _ => False) else False := by
  refine comp_rule (fun i ys h => h = hp ∧ ys = (zs.take i).map g) hn (by rw [List.length_map]; exact hl) ⟨rfl, rfl⟩ (fun i x ys h hx ⟨e1, e2⟩ => ?_) fun ys hp2 _ ⟨e1, e2⟩ => ?_
  · subst e1 e2
    rw [List.getElem?_map] at hx
    obtain ⟨z, hz, rfl⟩ := Option.map_eq_some_iff.mp hx
    obtain ⟨fr1, b, w⟩ := step z (List.mem_of_getElem? hz)
    refine ⟨fr1, b, Wt_no ?_⟩
    rw [if_pos rfl]
    refine w.imp (fun y s2 ⟨h1, h2, h3⟩ => ⟨h1, h2, ?_⟩) fun _ _ _ h => h
    rw [h3, List.take_add_one, hz, List.map_append]; rfl
  · subst e1 e2
    rw [List.length_map, List.take_length]
    exact hend
theorem comp_mapU {p : Px} {elt : E} {t : T} {own : List Nat} {fr : List Sl} {hp : Hp} {Q : List U → St → Prop} {zs : List U} (g : U → U) (hn : noOwn fr own = true) (hl : zs.length ≤ SZ)
    (step : ∀ z ∈ zs, ∃ fr1, bindT t z (wipe fr own) = some fr1 ∧ (evE p elt ⟨fr1, hp⟩).W (fun y s2 => wipe s2.fr own = wipe fr own ∧ s2.hp = hp ∧ y = g z) (fun _ _ _ => False))
    (hend : Q (zs.map g) ⟨fr, hp⟩) :
    if noOwn fr own = true then (compS t own (evC p .no) (evE p elt) (.snap zs) ⟨fr, hp⟩).W (fun ys s2 => if ys.length ≤ SZ then Ap Q ys { s2 with fr := back fr s2.fr own } else False) (fun _ _ _ => False) else False := by
  have h := comp_map (p := p) (elt := elt) (t := t) (own := own) (fr := fr) (hp := hp) (Q := Q) (zs := zs) (fun x => x) g hn hl step hend
  rwa [List.map_id'] at h
end Pix
end
section
set_option Elab.async false
set_option linter.all false
set_option maxRecDepth 100000
set_option maxHeartbeats 1000000
/-! PixP5: sorting texts; a dict made of unlike keys. -/
namespace Pix
theorem q_strLe_iff {a b : List Nat} : strLe a b = true ↔ a ≤ b := by
  unfold strLe
  rw [Bool.not_eq_true', decide_eq_false_iff_not]
  exact Iff.rfl
theorem insL_comm {a b : List Nat} : ∀ {l : List (List Nat)}, insL strLe a (insL strLe b l) = insL strLe b (insL strLe a l)
  | [] => by
    simp only [insL]
    by_cases h1 : strLe a b = true
    · by_cases h2 : strLe b a = true
      · have e := List.le_antisymm (q_strLe_iff.mp h1) (q_strLe_iff.mp h2)
        subst e; rfl
      · rw [if_pos h1, if_neg h2]
    · by_cases h2 : strLe b a = true
      · rw [if_neg h1, if_pos h2]
      · exact absurd (List.le_total a b) (fun h => h.elim (fun h => h1 (q_strLe_iff.mpr h)) fun h => h2 (q_strLe_iff.mpr h))
  | c :: l => by
    have ih := insL_comm (a := a) (b := b) (l := l)
    have tr : ∀ {x y z : List Nat}, strLe x y = true → strLe y z = true → strLe x z = true := fun h1 h2 => q_strLe_iff.mpr (List.le_trans (q_strLe_iff.mp h1) (q_strLe_iff.mp h2))
    have an : ∀ {x y : List Nat}, strLe x y = true → strLe y x = true → x = y := fun h1 h2 => List.le_antisymm (q_strLe_iff.mp h1) (q_strLe_iff.mp h2)
    have tot : ∀ (x y : List Nat), strLe x y = true ∨ strLe y x = true := fun x y => (List.le_total x y).imp q_strLe_iff.mpr q_strLe_iff.mpr
    by_cases hac : strLe a c = true <;> by_cases hbc : strLe b c = true <;> by_cases hab : strLe a b = true <;> by_cases hba : strLe b a = true
    all_goals first
      | (have e := an hab hba; subst e; rfl)
      | (exact absurd (tot a b) (fun h => h.elim hab hba))
      | (simp only [insL, hac, hbc, hab, hba, if_true, if_false, ih]; done)
      | (exact absurd (tr hab hbc) hac)
      | (exact absurd (tr hba hac) hbc)
      | simp [insL, hac, hbc, hab, hba, ih]
theorem q_isort_perm {xs ys : List (List Nat)} (h : xs.Perm ys) : isort strLe xs = isort strLe ys := by
  induction h with
  | nil => rfl
  | cons x _ ih => simp only [isort, ih]
  | swap x y l => simp only [isort]; exact insL_comm
  | trans _ _ h1 h2 => exact h1.trans h2
theorem isort2 {a b : List Nat} : isort strLe [a, b] = [a, b] ∨ isort strLe [a, b] = [b, a] := by
  simp only [isort, insL]
  split
  · exact .inl rfl
  · exact .inr rfl
theorem isort2_ne {a b c d : List Nat} (h1 : ¬ (a = c ∧ b = d)) (h2 : ¬ (a = d ∧ b = c)) : isort strLe [a, b] ≠ isort strLe [c, d] := by
  intro e
  rcases isort2 (a := a) (b := b) with x | x <;> rcases isort2 (a := c) (b := d) with y | y <;> rw [x, y] at e <;> simp at e
  · exact h1 e
  · exact h2 e
  · exact h2 ⟨e.2, e.1⟩
  · exact h1 ⟨e.2, e.1⟩
theorem eqUs_strs {xs ys : List (List Nat)} : eqUs (xs.map .str) (ys.map .str) = decide (xs = ys) := by
  induction xs generalizing ys with
  | nil => cases ys <;> simp [eqUs]
  | cons x xs ih =>
    cases ys with
    | nil => simp [eqUs]
    | cons y ys => simp only [List.map_cons, eqUs, eqU, ih, List.cons.injEq, Bool.decide_and]
theorem mapO_res_strs {h : Hp} {n : Nat} {ws : List (List Nat)} : mapO (res h (n + 1)) (ws.map .str) = some (ws.map .str) :=
  mapO_id fun x hx => by obtain ⟨w, _, rfl⟩ := List.mem_map.mp hx; rfl
theorem any_eq_strs {a : List Nat} {ws : List (List Nat)} : ((ws.map U.str).any fun y => eqU y (.str a)) = decide (a ∈ ws) := by
  induction ws with
  | nil => rfl
  | cons w ws ih =>
    rw [List.map_cons, List.any_cons, ih]
    simp only [eqU, List.mem_cons, Bool.decide_or]
    rw [show decide (w = a) = decide (a = w) from decide_eq_decide.mpr ⟨Eq.symm, Eq.symm⟩]
theorem in_strs {h : Hp} {a : List Nat} {ws : List (List Nat)} : inH h (.str a) (.tup (ws.map .str)) = some (decide (a ∈ ws)) := by
  show (match res h DEEP (.str a), mapO (res h DEEP) (ws.map .str) with
    | some x, some ys => some (ys.any fun y => eqU y x)
    | _, _ => none) = _
  rw [mapO_res_strs (n := 19), show res h DEEP (.str a) = some (.str a) from rfl]
  dsimp only
  rw [any_eq_strs]
theorem dput_new {kvs : List (U × U)} {k v : U} (h : ∀ q ∈ kvs, eqU q.1 k = false) : dput k v kvs = kvs ++ [(k, v)] := by
  unfold dput
  rw [if_neg]
  intro hc
  obtain ⟨q, hq, e⟩ := List.any_eq_true.mp hc
  rw [h q hq] at e
  cases e
/-- a dict of unlike keys, each with the same value -/
theorem compD_keys {t : T} {own : List Nat} {kv : St → Re (U × U)} {w : List Sl} {hp : Hp} {v : U} {Q : List (U × U) → St → Prop} {X : Nat → U → St → Prop} : ∀ {xs : List U} {acc : List (U × U)} {s : St}, s.hp = hp → wipe s.fr own = w →
    (∀ x ∈ xs, ∃ fr1, bindT t x w = some fr1 ∧ (kv ⟨fr1, hp⟩).W (fun p s2 => wipe s2.fr own = w ∧ s2.hp = hp ∧ p = (x, v)) (fun _ _ _ => False)) →
    xs.Pairwise (fun a b => eqU a b = false) → (∀ q ∈ acc, ∀ x ∈ xs, eqU q.1 x = false) →
    (∀ s2, wipe s2.fr own = w → s2.hp = hp → Q (acc ++ xs.map fun x => (x, v)) s2) → (compD t own kv xs s acc).W Q X
  | [], acc, s, h1, h2, _, _, _, hq => by
    unfold compD
    have := hq s h2 h1
    rwa [List.map_nil, List.append_nil] at this
  | x :: xs, acc, s, h1, h2, step, hd, ha, hq => by
    obtain ⟨fr1, e, q⟩ := step x List.mem_cons_self
    unfold compD
    rw [h2, e]
    dsimp only
    rw [W_bnd, h1]
    refine q.imp (fun p s2 ⟨q1, q2, q3⟩ => ?_) fun _ _ _ h => h.elim
    subst q3
    rw [dput_new fun q hq => ha q hq x List.mem_cons_self]
    rw [List.pairwise_cons] at hd
    refine compD_keys q2 q1 (fun y hy => step y (List.mem_cons_of_mem _ hy)) hd.2 (fun q hq y hy => ?_) fun s3 r1 r2 => ?_
    · rcases List.mem_append.mp hq with h | h
      · exact ha q h y (List.mem_cons_of_mem _ hy)
      · rw [List.mem_singleton.mp h]; exact hd.1 y hy
    · rw [List.append_assoc]
      exact hq s3 r1 r2
theorem Wd_comp {p : Px} {tk : Bool} {k v : E} {t : T} {it : It} {own : List Nat} {s : St} {Q : Bool × List (U × U) → St → Prop} {X : Nat → U → St → Prop}
    (w : (evIt p it s).W (fun src s1 => ∃ xs c, src = .snap xs ∧ noOwn s1.fr own = true ∧ xs.length < SZ ∧
      (∀ x ∈ xs, ∃ fr1, bindT t x (wipe s1.fr own) = some fr1 ∧ (evE p k ⟨fr1, s1.hp⟩).W (fun z s2 => putOk p tk z = true ∧ (evE p v s2).W (fun y s3 => wipe s3.fr own = wipe s1.fr own ∧ s3.hp = s1.hp ∧ z = x ∧ y = c) (fun _ _ _ => False)) (fun _ _ _ => False)) ∧
      xs.Pairwise (fun a b => eqU a b = false) ∧ Q (tk, xs.map fun x => (x, c)) s1) X) : (evD p (.comp tk k v t it own) s).W Q X := by
  rw [evD, W_bnd]
  refine w.imp (fun src s1 ⟨xs, c, e, hn, hl, step, hd, hq⟩ => ?_) fun _ _ _ h => h
  subst e
  dsimp only
  rw [if_pos hn, W_bnd, W_noEx]
  refine compD_keys (w := wipe s1.fr own) (hp := s1.hp) (v := c) rfl rfl (fun x hx => ?_) hd (fun q hq => by cases hq) fun s2 h1 h2 => ?_
  · obtain ⟨fr1, e, q⟩ := step x hx
    refine ⟨fr1, e, ?_⟩
    rw [W_bnd]
    refine q.imp (fun z s2 ⟨r1, r2⟩ => ?_) fun _ _ _ h => h
    rw [if_pos r1, W_bnd]
    refine r2.imp (fun y s3 ⟨m1, m2, m3, m4⟩ => ?_) fun _ _ _ h => h
    subst m3 m4
    exact ⟨m1, m2, rfl⟩
  · rw [List.nil_append, if_pos (by rw [List.length_map]; exact hl), q_back_eq h1]
    show Q _ ⟨s1.fr, s2.hp⟩
    rw [h2]
    exact hq
end Pix
end
section
set_option Elab.async false
set_option linter.all false
set_option maxRecDepth 100000
/-! PixB1: how own values and heaps stand in the layer's. -/
namespace Pix
open PySem PySem.Spec PyProof.Rows L2

/-- where the boxed objects stand; what is known of frozen ones -/
structure Wd where
  m : List Addr
  fz : Addr → Option HO

/-- the exception that is handled, if any: its address, its class, its dict -/
abbrev Exa := Option (Addr × Value × Option Addr)
/-- what is fixed: the written part, the classes' addresses, the name of an exception's field -/
structure Gl0 where
  K : PySem.W.Frag
  ca : Nat → Addr
  /-- the exception classes -/
  xa : Nat → Addr
  xf : Nat → PySem.Str
  kts : List (List U)
  /-- how many classes have instances -/
  nc : Nat
  /-- the exception that is handled -/
  exa : Exa

def KTup (K : PySem.W.Frag) (a : Addr) (xs : List V) : Prop :=
  ∃ (o : Obj) (its : Array Value) (n : Nat), K.lookup a = some o ∧ o.cls = .type "tuple" ∧ o.data = .seq its n ∧ its.size ≤ sizeLine ∧ Vals xs its.toList
def ScrAt (K : PySem.W.Frag) (W : Wd) (a : Addr) (vs : List V) : Prop :=
  (∃ o, W.fz a = some (.frz o (.lst vs))) ∨ ∃ (o : Obj) (its : Array Value) (n : Nat), K.lookup a = some o ∧ o.cls = .type "list" ∧ o.dict = none ∧ o.data = .seq its n ∧ its.size ≤ sizeLine ∧ Vals vs its.toList

/-- a key -/
def keyOf : U → Option Key
  | .int i => some (.inl i)
  | .str s => some (.inr ⟨s.toArray⟩)
  | _ => none
def keysOf : U → Option (List Key)
  | .tup xs => mapO keyOf xs
  | _ => none

mutual
inductive Rep (G : Gl0) (W : Wd) : U → V → Prop
  | non : Rep G W .non .non
  | bl (b : Bool) : Rep G W (.bl b) (.bl b)
  | int (i : Int) : Rep G W (.int i) (.int i)
  | str (s : List Nat) (h : s.length ≤ SZ) (hc : ∀ c ∈ s, c < 1114112) : Rep G W (.str s) (.str ⟨s.toArray⟩)
  | tup {xs : List U} {a : Addr} {vs : List V} (h : W.fz a = some (.tup vs)) (r : Reps G W xs vs) : Rep G W (.tup xs) (.ref a)
  | ktup {xs : List U} {a : Addr} {vs : List V} (h : KTup G.K a vs) (hk : (G.kts.any fun k => eqUs k xs) = true) (r : Reps G W xs vs) : Rep G W (.tup xs) (.ref a)
  | lst {xs : List U} {a : Addr} {vs : List V} (h : W.fz a = some (.lst vs)) (r : Reps G W xs vs) : Rep G W (.lst xs) (.ref a)
  | ref {r : Nat} {a : Addr} (h : W.m[r]? = some a) : Rep G W (.ref r) (.ref a)
  | scr {ns : List Int} {a : Addr} (h : ScrAt G.K W a (ns.map V.int)) : Rep G W (.scr ns) (.ref a)
  | dK {kvs : List (U × U)} {a : Addr} {es : List (Key × V)} (h : W.fz a = some (.dK es)) (r : RepK G W kvs es) : Rep G W (.dct false kvs) (.ref a)
  | dT {kvs : List (U × U)} {a : Addr} {es : List (List Key × V)} (h : W.fz a = some (.dT es)) (r : RepT G W kvs es) : Rep G W (.dct true kvs) (.ref a)
inductive Reps (G : Gl0) (W : Wd) : List U → List V → Prop
  | nil : Reps G W [] []
  | cons {x : U} {xs : List U} {v : V} {vs : List V} (r : Rep G W x v) (rs : Reps G W xs vs) : Reps G W (x :: xs) (v :: vs)
inductive RepK (G : Gl0) (W : Wd) : List (U × U) → List (Key × V) → Prop
  | nil : RepK G W [] []
  | cons {p : U × U} {ps : List (U × U)} {k : Key} {v : V} {es : List (Key × V)} (hk : keyOf p.1 = some k) (r : Rep G W p.2 v) (rs : RepK G W ps es) : RepK G W (p :: ps) ((k, v) :: es)
inductive RepT (G : Gl0) (W : Wd) : List (U × U) → List (List Key × V) → Prop
  | nil : RepT G W [] []
  | cons {p : U × U} {ps : List (U × U)} {k : List Key} {v : V} {es : List (List Key × V)} (hk : keysOf p.1 = some k) (r : Rep G W p.2 v) (rs : RepT G W ps es) : RepT G W (p :: ps) ((k, v) :: es)
end

/-- a world grows -/
structure Wd.le (W W' : Wd) : Prop where
  m : ∃ l, W'.m = W.m ++ l
  fz : ∀ a o, W.fz a = some o → W'.fz a = some o
theorem Wd.le.rfl' {W : Wd} : W.le W := ⟨⟨[], by simp⟩, fun _ _ h => h⟩
theorem Wd.le.trans {W W1 W2 : Wd} (a : W.le W1) (b : W1.le W2) : W.le W2 := by
  obtain ⟨l, e⟩ := a.m
  obtain ⟨l2, e2⟩ := b.m
  exact ⟨⟨l ++ l2, by rw [e2, e, List.append_assoc]⟩, fun x o h => b.fz x o (a.fz x o h)⟩
theorem Wd.le.get {W W' : Wd} (h : W.le W') {r : Nat} {a : Addr} (e : W.m[r]? = some a) : W'.m[r]? = some a := by
  obtain ⟨l, q⟩ := h.m
  obtain ⟨h1, _⟩ := List.getElem?_eq_some_iff.mp e
  rw [q, List.getElem?_append_left h1, e]

section
variable {G : Gl0} {W W' : Wd}
theorem ScrAt.mono (h : W.le W') {a : Addr} {vs : List V} {K : PySem.W.Frag} (t : ScrAt K W a vs) : ScrAt K W' a vs := t.imp (fun ⟨o, e⟩ => ⟨o, h.fz _ _ e⟩) id
mutual
theorem Rep.mono (h : W.le W') {u : U} {v : V} (r : Rep G W u v) : Rep G W' u v := match r with
  | .non => .non
  | .bl b => .bl b
  | .int i => .int i
  | .str s hs hc => .str s hs hc
  | .tup t r => .tup (h.fz _ _ t) (Reps.mono h r)
  | .ktup t k r => .ktup t k (Reps.mono h r)
  | .lst t r => .lst (h.fz _ _ t) (Reps.mono h r)
  | .ref e => .ref (h.get e)
  | .scr t => .scr (t.mono h)
  | .dK t r => .dK (h.fz _ _ t) (RepK.mono h r)
  | .dT t r => .dT (h.fz _ _ t) (RepT.mono h r)
theorem Reps.mono (h : W.le W') {u : List U} {v : List V} (r : Reps G W u v) : Reps G W' u v := match r with
  | .nil => .nil
  | .cons r rs => .cons (Rep.mono h r) (Reps.mono h rs)
theorem RepK.mono (h : W.le W') {u : List (U × U)} {v : List (Key × V)} (r : RepK G W u v) : RepK G W' u v := match r with
  | .nil => .nil
  | .cons k r rs => .cons k (Rep.mono h r) (RepK.mono h rs)
theorem RepT.mono (h : W.le W') {u : List (U × U)} {v : List (List Key × V)} (r : RepT G W u v) : RepT G W' u v := match r with
  | .nil => .nil
  | .cons k r rs => .cons k (Rep.mono h r) (RepT.mono h rs)
end
theorem Reps.length {us : List U} {vs : List V} (r : Reps G W us vs) : us.length = vs.length := match r with
  | .nil => rfl
  | .cons _ rs => congrArg Nat.succ (Reps.length rs)
theorem Reps.get {us : List U} {vs : List V} (r : Reps G W us vs) {i : Nat} {u : U} (e : us[i]? = some u) : ∃ v, vs[i]? = some v ∧ Rep G W u v := match r, i with
  | .nil, _ => by simp at e
  | .cons r _, 0 => by simp at e; subst e; exact ⟨_, rfl, r⟩
  | .cons _ rs, i + 1 => by simpa using Reps.get rs (by simpa using e)
theorem Reps.app {us us' : List U} {vs vs' : List V} (r : Reps G W us vs) (r' : Reps G W us' vs') : Reps G W (us ++ us') (vs ++ vs') := match r with
  | .nil => r'
  | .cons a b => .cons a (Reps.app b r')
theorem Reps.one {u : U} {v : V} (r : Rep G W u v) : Reps G W [u] [v] := .cons r .nil
theorem Reps.take {us : List U} {vs : List V} (r : Reps G W us vs) (n : Nat) : Reps G W (us.take n) (vs.take n) := match r, n with
  | .nil, _ => by simp; exact .nil
  | .cons _ _, 0 => by simp; exact .nil
  | .cons a b, n + 1 => .cons a (Reps.take b n)
theorem Reps.drop {us : List U} {vs : List V} (r : Reps G W us vs) (n : Nat) : Reps G W (us.drop n) (vs.drop n) := match r, n with
  | .nil, _ => by simp; exact .nil
  | .cons a b, 0 => .cons a b
  | .cons _ b, n + 1 => Reps.drop b n
theorem Reps.rev {us : List U} {vs : List V} (r : Reps G W us vs) : Reps G W us.reverse vs.reverse := match r with
  | .nil => .nil
  | .cons a b => by rw [List.reverse_cons, List.reverse_cons]; exact (Reps.rev b).app (.one a)
theorem Reps.set {us : List U} {vs : List V} (r : Reps G W us vs) {u : U} {v : V} (h : Rep G W u v) (i : Nat) : Reps G W (us.set i u) (vs.set i v) := match r, i with
  | .nil, _ => by simp; exact .nil
  | .cons _ b, 0 => .cons h b
  | .cons a b, i + 1 => .cons a (Reps.set b h i)
theorem Reps.erase {us : List U} {vs : List V} (r : Reps G W us vs) (i : Nat) : Reps G W (us.eraseIdx i) (vs.eraseIdx i) := match r, i with
  | .nil, _ => by simp; exact .nil
  | .cons _ b, 0 => b
  | .cons a b, i + 1 => .cons a (Reps.erase b i)
theorem Reps.dropLast {us : List U} {vs : List V} (r : Reps G W us vs) : Reps G W us.dropLast vs.dropLast := by
  rw [List.dropLast_eq_take, List.dropLast_eq_take, r.length]
  exact r.take _
theorem Reps.ints : ∀ (ns : List Int), Reps G W (ns.map U.int) (ns.map V.int)
  | [] => .nil
  | n :: ns => .cons (.int n) (Reps.ints ns)
theorem Reps.ints_of : ∀ {ns : List Int} {vs : List V}, Reps G W (ns.map U.int) vs → vs = ns.map V.int
  | [], _, .nil => rfl
  | n :: ns, _, .cons r rs => by
    cases r
    rw [Reps.ints_of rs] <;> rfl
theorem Reps.strs : ∀ {ns : List (List Nat)} {vs : List V}, Reps G W (ns.map U.str) vs → vs = ns.map fun s => V.str ⟨s.toArray⟩
  | [], _, .nil => rfl
  | n :: ns, _, .cons r rs => by
    cases r
    rw [Reps.strs rs] <;> rfl
theorem Reps.bls : ∀ {ns : List Bool} {vs : List V}, Reps G W (ns.map U.bl) vs → vs = ns.map V.bl
  | [], _, .nil => rfl
  | n :: ns, _, .cons r rs => by
    cases r
    rw [Reps.bls rs] <;> rfl
end

/-! ### heaps -/
inductive FsRep (G : Gl0) (W : Wd) : List (String × U) → List (PySem.Str × V) → Prop
  | nil : FsRep G W [] []
  | cons {f : String} {u : U} {v : V} {fs : List (String × U)} {es : List (PySem.Str × V)} (r : Rep G W u v) (rs : FsRep G W fs es) : FsRep G W ((f, u) :: fs) ((PySem.Str.ofString f, v) :: es)
theorem FsRep.mono {G : Gl0} {W W' : Wd} (h : W.le W') {fs : List (String × U)} {es : List (PySem.Str × V)} (r : FsRep G W fs es) : FsRep G W' fs es := match r with
  | .nil => .nil
  | .cons r rs => .cons (r.mono h) (FsRep.mono h rs)

def BoxAt (G : Gl0) (W : Wd) (H : L2.Hp) (o : O) (a : Addr) : Prop := match o with
  | .lst xs => ∃ vs, H a = some (.lst vs) ∧ Reps G W xs vs
  | .dct false kvs => ∃ es, H a = some (.dK es) ∧ RepK G W kvs es
  | .dct true kvs => ∃ es, H a = some (.dT es) ∧ RepT G W kvs es
  | .ins c fs => c < G.nc ∧ ∃ dx es, H a = some (.ins (G.ca c) dx es) ∧ FsRep G W fs es
theorem BoxAt.mono {G : Gl0} {W W' : Wd} {H H' : L2.Hp} {o : O} {a : Addr} (h : W.le W') (e : H' a = H a) (b : BoxAt G W H o a) : BoxAt G W' H' o a := match o, b with
  | .lst _, ⟨vs, h1, r⟩ => ⟨vs, e.trans h1, r.mono h⟩
  | .dct false _, ⟨es, h1, r⟩ => ⟨es, e.trans h1, r.mono h⟩
  | .dct true _, ⟨es, h1, r⟩ => ⟨es, e.trans h1, r.mono h⟩
  | .ins _ _, ⟨hc, dx, es, h1, r⟩ => ⟨hc, dx, es, e.trans h1, r.mono h⟩
theorem BoxAt.some {G : Gl0} {W : Wd} {H : L2.Hp} {o : O} {a : Addr} (b : BoxAt G W H o a) : ∃ x, H a = some x := match o, b with
  | .lst _, ⟨_, h1, _⟩ => ⟨_, h1⟩
  | .dct false _, ⟨_, h1, _⟩ => ⟨_, h1⟩
  | .dct true _, ⟨_, h1, _⟩ => ⟨_, h1⟩
  | .ins _ _, ⟨_, _, _, h1, _⟩ => ⟨_, h1⟩

/-- the heap alone -/
structure HSim (G : Gl0) (W : Wd) (hp : Hp) (H : L2.Hp) : Prop where
  fz : ∀ a o, W.fz a = some o → H a = some o
  len : hp.length = W.m.length
  nd : W.m.Nodup
  mf : ∀ a ∈ W.m, W.fz a = none
  box : ∀ (r : Nat) (o : O) (a : Addr), hp[r]? = some o → W.m[r]? = some a → BoxAt G W H o a
  und : ∀ a, (∃ o, W.fz a = some o) → ∀ x, H a ≠ some (.own x)

/-- what the frame's own lists stand at -/
def OwnA (fr : List Sl) (σ : L2.St) (a : Addr) : Prop := ∃ (i : Nat) (xs : List U), fr[i]? = some (.own xs) ∧ σ[i]? = some (some (.ref a))

/-- the ground of a run: the world and the heap at its beginning, what else it may change -/
structure Ba where
  W0 : Wd
  H0 : L2.Hp
  Ow : Addr → Prop

structure FSim (G : Gl0) (W : Wd) (fr : List Sl) (σ : L2.St) (H : L2.Hp) : Prop where
  frl : fr.length = σ.length
  val : ∀ (i : Nat) (u : U), fr[i]? = some (.val u) → ∃ v, σ[i]? = some (some v) ∧ Rep G W u v
  own : ∀ (i : Nat) (xs : List U), fr[i]? = some (.own xs) → ∃ a vs, σ[i]? = some (some (.ref a)) ∧ H a = some (.lst vs) ∧ Reps G W xs vs ∧ W.fz a = none ∧ a ∉ W.m
  ownu : ∀ (i j : Nat) (a : Addr) (xs ys : List U), fr[i]? = some (.own xs) → fr[j]? = some (.own ys) → σ[i]? = some (some (.ref a)) → σ[j]? = some (some (.ref a)) → i = j
  exc : ∀ (i c : Nat) (u : U), fr[i]? = some (.exc c u) → ∃ a d v, σ[i]? = some (some (.ref a)) ∧ W.fz d = some (.xd [(G.xf c, v)]) ∧ Rep G W u v ∧ G.exa = some (a, .ref (G.xa c), some d)

/-- from W0, H0 on: what has stayed -/
structure HExt (W0 : Wd) (H0 : L2.Hp) (Ow : Addr → Prop) (W : Wd) (H : L2.Hp) : Prop where
  le : W0.le W
  pres : ∀ a o, H0 a = some o → a ∉ W0.m → ¬ Ow a → H a = some o
  mono : ∀ a o, H0 a = some o → ∃ o', H a = some o'
  new : ∀ a, (a ∈ W.m ∨ ∃ o, W.fz a = some o) → a ∈ W0.m ∨ (∃ o, W0.fz a = some o) ∨ H0 a = none ∨ Ow a

structure BSim (G : Gl0) (b : Ba) (W : Wd) (s : St) (σ : L2.St) (H : L2.Hp) : Prop where
  h : HSim G W s.hp H
  f : FSim G W s.fr σ H
  e : HExt b.W0 b.H0 b.Ow W H
  ob : ∀ a, OwnA s.fr σ a → b.H0 a = none ∨ b.Ow a

theorem HExt.refl {W : Wd} {H : L2.Hp} {Ow : Addr → Prop} : HExt W H Ow W H := ⟨.rfl', fun _ _ h _ _ => h, fun _ o h => ⟨o, h⟩, fun a h => h.elim .inl fun h => .inr (.inl h)⟩
/-- a further run, over the ground where the first one ended -/
theorem HExt.trans {W0 W1 W2 : Wd} {H0 H1 H2 : L2.Hp} {Ow O1 : Addr → Prop} (a : HExt W0 H0 Ow W1 H1) (mf : ∀ x ∈ W1.m, W1.fz x = none) (b : HExt W1 H1 O1 W2 H2) (hO : ∀ x, O1 x → H0 x = none ∨ Ow x) : HExt W0 H0 Ow W2 H2 where
  le := a.le.trans b.le
  pres := fun x o h hm ho => by
    refine b.pres x o (a.pres x o h hm ho) (fun hx => ?_) fun q => ?_
    · rcases a.new x (.inl hx) with q | ⟨o', q⟩ | q | q
      · exact hm q
      · have z := a.le.fz x o' q
        rw [mf x hx] at z; cases z
      · rw [q] at h; cases h
      · exact ho q
    · rcases hO x q with z | z
      · rw [z] at h; cases h
      · exact ho z
  mono := fun x o h => let ⟨o1, h1⟩ := a.mono x o h; b.mono x o1 h1
  new := fun x h => by
    rcases b.new x h with q | ⟨o, q⟩ | q | q
    · exact a.new x (.inl q)
    · exact a.new x (.inr ⟨o, q⟩)
    · cases e : H0 x with
      | none => exact .inr (.inr (.inl rfl))
      | some o =>
        obtain ⟨o1, h1⟩ := a.mono x o e
        rw [h1] at q; cases q
    · exact (hO x q).elim (fun z => .inr (.inr (.inl z))) fun z => .inr (.inr (.inr z))

/-! ### steps -/
section
variable {G : Gl0} {b : Ba} {W : Wd} {s : St} {σ : L2.St} {H : L2.Hp}
def Wd.addF (W : Wd) (a : Addr) (o : HO) : Wd := ⟨W.m, fun x => if x = a then some o else W.fz x⟩
def Wd.addB (W : Wd) (a : Addr) : Wd := ⟨W.m ++ [a], W.fz⟩
theorem Wd.addF_same {a : Addr} {o : HO} : (W.addF a o).fz a = some o := if_pos rfl
theorem Wd.addF_ne {a x : Addr} {o : HO} (h : x ≠ a) : (W.addF a o).fz x = W.fz x := if_neg h
theorem Wd.le_addF {a : Addr} {o : HO} (h : W.fz a = none) : W.le (W.addF a o) := ⟨⟨[], by simp [Wd.addF]⟩, fun x u e => by
  have : x ≠ a := fun z => by rw [z, h] at e; cases e
  rw [Wd.addF_ne this]; exact e⟩
theorem Wd.le_addB {a : Addr} : W.le (W.addB a) := ⟨⟨[a], rfl⟩, fun _ _ e => e⟩

/-- nothing stands at p: it is none of ours -/
theorem BSim.free_m (B : BSim G b W s σ H) {p : Addr} (hp : H p = none) : p ∉ W.m := fun hm => by
  obtain ⟨r, hr, e⟩ := List.mem_iff_getElem.mp hm
  have hr' : r < s.hp.length := by rw [B.h.len]; exact hr
  obtain ⟨x, q⟩ := (B.h.box r s.hp[r] p (by simp [hr']) (by rw [List.getElem?_eq_getElem hr, e])).some
  rw [hp] at q; cases q
theorem BSim.free_f (B : BSim G b W s σ H) {p : Addr} (hp : H p = none) : W.fz p = none := by
  cases e : W.fz p with
  | none => rfl
  | some o => have := B.h.fz p o e; rw [hp] at this; cases this
theorem BSim.free_o (B : BSim G b W s σ H) {p : Addr} (hp : H p = none) : ¬ OwnA s.fr σ p := fun ⟨i, xs, h1, h2⟩ => by
  obtain ⟨a, vs, q1, q2, _⟩ := B.f.own i xs h1
  rw [h2] at q1; cases q1
  rw [hp] at q2; cases q2
theorem BSim.free_b (B : BSim G b W s σ H) {p : Addr} (hp : H p = none) : b.H0 p = none := by
  cases e : b.H0 p with
  | none => rfl
  | some o => obtain ⟨o', q⟩ := B.e.mono p o e; rw [hp] at q; cases q

/-- a heap in which more stands -/
theorem BSim.more {H' : L2.Hp} (B : BSim G b W s σ H) (k : ∀ a o, H a = some o → H' a = some o) : BSim G b W s σ H' where
  h := ⟨fun a o e => k a o (B.h.fz a o e), B.h.len, B.h.nd, B.h.mf, fun r o a h1 h2 => by
    have q := B.h.box r o a h1 h2
    obtain ⟨x, hx⟩ := q.some
    exact q.mono .rfl' ((k a x hx).trans hx.symm), fun a ⟨o, e⟩ x z => by
      have q := k a o (B.h.fz a o e)
      have q0 := B.h.und a ⟨o, e⟩ x
      rw [q] at z
      exact q0 ((B.h.fz a o e).trans z)⟩
  f := ⟨B.f.frl, B.f.val, fun i xs e => let ⟨a, vs, h1, h2, h3⟩ := B.f.own i xs e; ⟨a, vs, h1, k a _ h2, h3⟩, B.f.ownu, B.f.exc⟩
  e := ⟨B.e.le, fun a o h1 h2 h3 => k a o (B.e.pres a o h1 h2 h3), fun a o h => let ⟨o', q⟩ := B.e.mono a o h; ⟨o', k a o' q⟩, B.e.new⟩
  ob := B.ob
/-- an object new or of the frame's own is known from now on, for ever -/
theorem BSim.freeze {a : Addr} {o : HO} (B : BSim G b W s σ H) (ha : H a = some o) (hf : W.fz a = none) (hm : a ∉ W.m) (ho : ¬ OwnA s.fr σ a) (hb : b.H0 a = none ∨ b.Ow a) (hx : ∀ x, o ≠ .own x) :
    BSim G b (W.addF a o) s σ H where
  h := ⟨fun x u e => by
    by_cases q : x = a
    · subst q; rw [Wd.addF_same] at e; cases e; exact ha
    · rw [Wd.addF_ne q] at e; exact B.h.fz x u e, B.h.len, B.h.nd, fun x hxm => by
      have : x ≠ a := fun z => hm (z ▸ hxm)
      rw [Wd.addF_ne this]; exact B.h.mf x hxm, fun r u x h1 h2 => (B.h.box r u x h1 h2).mono (Wd.le_addF hf) rfl, fun x ⟨u, e⟩ y z => by
      by_cases q : x = a
      · subst q; rw [ha] at z; exact hx y (Option.some.inj z)
      · rw [Wd.addF_ne q] at e; exact B.h.und x ⟨u, e⟩ y z⟩
  f := ⟨B.f.frl, fun i u e => let ⟨v, h1, h2⟩ := B.f.val i u e; ⟨v, h1, h2.mono (Wd.le_addF hf)⟩, fun i xs e => by
    obtain ⟨x, vs, h1, h2, h3, h4, h5⟩ := B.f.own i xs e
    have : x ≠ a := fun z => ho ⟨i, xs, e, z ▸ h1⟩
    exact ⟨x, vs, h1, h2, h3.mono (Wd.le_addF hf), (Wd.addF_ne this).trans h4, h5⟩, B.f.ownu, fun i c u e => by
    obtain ⟨x, d, v, h1, h2, h3, h4⟩ := B.f.exc i c u e
    exact ⟨x, d, v, h1, (Wd.le_addF hf).fz _ _ h2, h3.mono (Wd.le_addF hf), h4⟩⟩
  e := ⟨B.e.le.trans (Wd.le_addF hf), B.e.pres, B.e.mono, fun x h => by
    by_cases q : x = a
    · subst q; exact hb.elim (fun z => .inr (.inr (.inl z))) fun z => .inr (.inr (.inr z))
    · rcases h with h | ⟨u, h⟩
      · exact B.e.new x (.inl h)
      · rw [Wd.addF_ne q] at h; exact B.e.new x (.inr ⟨u, h⟩)⟩
  ob := B.ob
/-- a new object is boxed -/
theorem BSim.box {a : Addr} {o : O} (B : BSim G b W s σ H) (ha : BoxAt G W H o a) (hf : W.fz a = none) (hm : a ∉ W.m) (ho : ¬ OwnA s.fr σ a) (hb : b.H0 a = none ∨ b.Ow a) :
    BSim G b (W.addB a) { s with hp := s.hp ++ [o] } σ H where
  h := ⟨B.h.fz, by simp [Wd.addB, B.h.len], by
    show (W.m ++ [a]).Nodup
    rw [List.nodup_append]
    exact ⟨B.h.nd, by simp, fun x hx y hy z => hm (by simp at hy; subst hy; exact z ▸ hx)⟩, fun x hx => by
    rcases List.mem_append.mp hx with q | q
    · exact B.h.mf x q
    · simp at q; subst q; exact hf, fun r u x h1 h2 => by
    by_cases hr : r < s.hp.length
    · rw [List.getElem?_append_left hr] at h1
      have h2' : (W.m ++ [a])[r]? = some x := h2
      rw [List.getElem?_append_left (by rw [← B.h.len]; exact hr)] at h2'
      exact (B.h.box r u x h1 h2').mono Wd.le_addB rfl
    · have hl : r = s.hp.length := by
        obtain ⟨q, _⟩ := List.getElem?_eq_some_iff.mp h1
        simp at q; omega
      subst hl
      have h2' : (W.m ++ [a])[s.hp.length]? = some x := h2
      rw [B.h.len, List.getElem?_concat_length] at h2'
      cases h2'
      simp at h1
      subst h1
      exact ha.mono Wd.le_addB rfl, B.h.und⟩
  f := ⟨B.f.frl, fun i u e => let ⟨v, h1, h2⟩ := B.f.val i u e; ⟨v, h1, h2.mono Wd.le_addB⟩, fun i xs e => by
    obtain ⟨x, vs, h1, h2, h3, h4, h5⟩ := B.f.own i xs e
    have : x ≠ a := fun z => ho ⟨i, xs, e, z ▸ h1⟩
    refine ⟨x, vs, h1, h2, h3.mono Wd.le_addB, h4, fun q => ?_⟩
    rcases List.mem_append.mp q with q | q
    · exact h5 q
    · simp at q; exact this q, B.f.ownu, fun i c u e => by
    obtain ⟨x, d, v, h1, h2, h3, h4⟩ := B.f.exc i c u e
    exact ⟨x, d, v, h1, h2, h3.mono Wd.le_addB, h4⟩⟩
  e := ⟨B.e.le.trans Wd.le_addB, B.e.pres, B.e.mono, fun x h => by
    rcases h with h | ⟨u, h⟩
    · rcases List.mem_append.mp h with q | q
      · exact B.e.new x (.inl q)
      · simp at q; subst q; exact hb.elim (fun z => .inr (.inr (.inl z))) fun z => .inr (.inr (.inr z))
    · exact B.e.new x (.inr ⟨u, h⟩)⟩
  ob := B.ob
theorem nodup_get {l : List Addr} (h : l.Nodup) {i j : Nat} {a : Addr} (hi : l[i]? = some a) (hj : l[j]? = some a) : i = j := by
  obtain ⟨h1, e1⟩ := List.getElem?_eq_some_iff.mp hi
  obtain ⟨h2, e2⟩ := List.getElem?_eq_some_iff.mp hj
  exact (List.getElem_inj h).mp (e1.trans e2.symm)
/-- a boxed object is changed -/
theorem BSim.wr {r : Nat} {a : Addr} {o : O} {x : HO} (B : BSim G b W s σ H) (hr : r < s.hp.length) (hm : W.m[r]? = some a) (ho : BoxAt G W (upd H a x) o a) : BSim G b W { s with hp := s.hp.set r o } σ (upd H a x) := by
  have ham : a ∈ W.m := List.mem_of_getElem? hm
  have nf : W.fz a = none := B.h.mf a ham
  have hne : ∀ y u, W.fz y = some u → y ≠ a := fun y u e z => by rw [z, nf] at e; cases e
  refine ⟨⟨fun y u e => by rw [upd_ne (hne y u e)]; exact B.h.fz y u e, by simpa using B.h.len, B.h.nd, B.h.mf, fun k u y h1 h2 => ?_, fun y ⟨u, e⟩ z q => ?_⟩, ⟨B.f.frl, B.f.val, fun i xs e => ?_, B.f.ownu, B.f.exc⟩, ⟨B.e.le, fun y u h1 h2 h3 => ?_, fun y u h1 => ?_, B.e.new⟩, B.ob⟩
  · by_cases hk : k = r
    · subst hk
      rw [hm] at h2; cases h2
      have h1' : (s.hp.set k o)[k]? = some u := h1
      rw [List.getElem?_set_self hr] at h1'
      cases h1'
      exact ho
    · have h1' : (s.hp.set r o)[k]? = some u := h1
      rw [List.getElem?_set_ne (Ne.symm hk)] at h1'
      have : y ≠ a := fun z => hk (nodup_get B.h.nd h2 (z ▸ hm))
      exact (B.h.box k u y h1' h2).mono .rfl' (upd_ne this)
  · rw [upd_ne (hne y u e)] at q; exact B.h.und y ⟨u, e⟩ z q
  · obtain ⟨y, vs, h1, h2, h3, h4, h5⟩ := B.f.own i xs e
    have : y ≠ a := fun z => h5 (z ▸ ham)
    exact ⟨y, vs, h1, by rw [upd_ne this]; exact h2, h3, h4, h5⟩
  · have q := B.e.pres y u h1 h2 h3
    by_cases hy : y = a
    · subst hy
      rcases B.e.new y (.inl ham) with z | ⟨o', z⟩ | z | z
      · exact absurd z h2
      · have := B.e.le.fz y o' z; rw [nf] at this; cases this
      · rw [z] at h1; cases h1
      · exact absurd z h3
    · rw [upd_ne hy]; exact q
  · by_cases hy : y = a
    · subst hy; exact ⟨_, upd_same⟩
    · rw [upd_ne hy]; exact B.e.mono y u h1
/-- the frame's own list is changed -/
theorem BSim.wrOwn {i : Nat} {xs ys : List U} {a : Addr} {vs : List V} (B : BSim G b W s σ H) (hi : s.fr[i]? = some (.own xs)) (ha : σ[i]? = some (some (.ref a))) (r : Reps G W ys vs) :
    BSim G b W { s with fr := s.fr.set i (.own ys) } σ (upd H a (.lst vs)) := by
  have hil : i < s.fr.length := (List.getElem?_eq_some_iff.mp hi).1
  obtain ⟨a', vs', q1, q2, q3, q4, q5⟩ := B.f.own i xs hi
  rw [ha] at q1; cases q1
  have hne : ∀ y u, W.fz y = some u → y ≠ a := fun y u e z => by rw [z, q4] at e; cases e
  have get : ∀ k, k ≠ i → (s.fr.set i (.own ys))[k]? = s.fr[k]? := fun k hk => List.getElem?_set_ne (Ne.symm hk)
  have geti : (s.fr.set i (.own ys))[i]? = some (.own ys) := List.getElem?_set_self hil
  refine ⟨⟨fun y u e => by rw [upd_ne (hne y u e)]; exact B.h.fz y u e, B.h.len, B.h.nd, B.h.mf, fun k u y h1 h2 => ?_, fun y ⟨u, e⟩ z q => ?_⟩, ⟨?_, fun k u e => ?_, fun k zs e => ?_, fun k l y zs ws e1 e2 e3 e4 => ?_, fun k c u e => ?_⟩, ⟨B.e.le, fun y u h1 h2 h3 => ?_, fun y u h1 => ?_, B.e.new⟩, fun y ⟨k, zs, e1, e2⟩ => ?_⟩
  · have : y ≠ a := fun z => q5 (z ▸ List.mem_of_getElem? h2)
    exact (B.h.box k u y h1 h2).mono .rfl' (upd_ne this)
  · rw [upd_ne (hne y u e)] at q; exact B.h.und y ⟨u, e⟩ z q
  · show (s.fr.set i (.own ys)).length = σ.length
    rw [List.length_set]; exact B.f.frl
  · have e' : (s.fr.set i (.own ys))[k]? = some (.val u) := e
    by_cases hk : k = i
    · subst hk; rw [geti] at e'; cases e'
    · rw [get k hk] at e'; exact B.f.val k u e'
  · have e' : (s.fr.set i (.own ys))[k]? = some (.own zs) := e
    by_cases hk : k = i
    · subst hk; rw [geti] at e'; cases e'
      exact ⟨a, vs, ha, upd_same, r, q4, q5⟩
    · rw [get k hk] at e'
      obtain ⟨y, ws, h1, h2, h3, h4, h5⟩ := B.f.own k zs e'
      have : y ≠ a := fun z => hk (B.f.ownu k i a zs xs e' hi (z ▸ h1) ha)
      exact ⟨y, ws, h1, by rw [upd_ne this]; exact h2, h3, h4, h5⟩
  · have un : ∀ (k : Nat) (zs : List U), (s.fr.set i (.own ys))[k]? = some (.own zs) → ∃ zs', s.fr[k]? = some (.own zs') := fun k zs e => by
      by_cases hk : k = i
      · subst hk; exact ⟨xs, hi⟩
      · rw [get k hk] at e; exact ⟨zs, e⟩
    obtain ⟨z1, e1'⟩ := un k zs e1
    obtain ⟨z2, e2'⟩ := un l ws e2
    exact B.f.ownu k l y z1 z2 e1' e2' e3 e4
  · have e' : (s.fr.set i (.own ys))[k]? = some (.exc c u) := e
    by_cases hk : k = i
    · subst hk; rw [geti] at e'; cases e'
    · rw [get k hk] at e'; exact B.f.exc k c u e'
  · have q := B.e.pres y u h1 h2 h3
    by_cases hy : y = a
    · subst hy
      rcases B.ob y ⟨i, xs, hi, ha⟩ with z | z
      · rw [z] at h1; cases h1
      · exact absurd z h3
    · rw [upd_ne hy]; exact q
  · by_cases hy : y = a
    · subst hy; exact ⟨_, upd_same⟩
    · rw [upd_ne hy]; exact B.e.mono y u h1
  · have e' : (s.fr.set i (.own ys))[k]? = some (.own zs) := e1
    by_cases hk : k = i
    · subst hk; exact B.ob y ⟨k, xs, hi, e2⟩
    · rw [get k hk] at e'; exact B.ob y ⟨k, zs, e', e2⟩
/-- the frame's own list is given away: it is known from now on, for ever -/
theorem BSim.give {i : Nat} {xs : List U} (B : BSim G b W s σ H) (hi : s.fr[i]? = some (.own xs)) :
    ∃ a W', σ[i]? = some (some (.ref a)) ∧ W.le W' ∧ Rep G W' (.lst xs) (.ref a) ∧ BSim G b W' { s with fr := s.fr.set i (.val (.lst xs)) } σ H := by
  have hil : i < s.fr.length := (List.getElem?_eq_some_iff.mp hi).1
  obtain ⟨a, vs, q1, q2, q3, q4, q5⟩ := B.f.own i xs hi
  have get : ∀ k, k ≠ i → (s.fr.set i (.val (.lst xs)))[k]? = s.fr[k]? := fun k hk => List.getElem?_set_ne (Ne.symm hk)
  have geti : (s.fr.set i (.val (.lst xs)))[i]? = some (.val (.lst xs)) := List.getElem?_set_self hil
  have le : W.le (W.addF a (.lst vs)) := Wd.le_addF q4
  have rp : Rep G (W.addF a (.lst vs)) (.lst xs) (.ref a) := .lst Wd.addF_same (q3.mono le)
  refine ⟨a, W.addF a (.lst vs), q1, le, rp, ?_⟩
  refine ⟨⟨fun y u e => ?_, B.h.len, B.h.nd, fun y hy => ?_, fun k u y h1 h2 => (B.h.box k u y h1 h2).mono le rfl, fun y ⟨u, e⟩ z q => ?_⟩, ⟨?_, fun k u e => ?_, fun k zs e => ?_, fun k l y zs ws e1 e2 e3 e4 => ?_, fun k c u e => ?_⟩, ⟨B.e.le.trans le, B.e.pres, B.e.mono, fun y h => ?_⟩, fun y ⟨k, zs, e1, e2⟩ => ?_⟩
  · by_cases q : y = a
    · subst q; rw [Wd.addF_same] at e; cases e; exact q2
    · rw [Wd.addF_ne q] at e; exact B.h.fz y u e
  · have : y ≠ a := fun z => q5 (z ▸ hy)
    rw [Wd.addF_ne this]; exact B.h.mf y hy
  · by_cases h : y = a
    · subst h; rw [q2] at q; cases q
    · rw [Wd.addF_ne h] at e; exact B.h.und y ⟨u, e⟩ z q
  · show (s.fr.set i (.val (.lst xs))).length = σ.length
    rw [List.length_set]; exact B.f.frl
  · have e' : (s.fr.set i (.val (.lst xs)))[k]? = some (.val u) := e
    by_cases hk : k = i
    · subst hk; rw [geti] at e'; cases e'
      exact ⟨_, q1, rp⟩
    · rw [get k hk] at e'
      obtain ⟨v, h1, h2⟩ := B.f.val k u e'
      exact ⟨v, h1, h2.mono le⟩
  · have e' : (s.fr.set i (.val (.lst xs)))[k]? = some (.own zs) := e
    by_cases hk : k = i
    · subst hk; rw [geti] at e'; cases e'
    · rw [get k hk] at e'
      obtain ⟨y, ws, h1, h2, h3, h4, h5⟩ := B.f.own k zs e'
      have : y ≠ a := fun z => hk (B.f.ownu k i a zs xs e' hi (z ▸ h1) q1)
      exact ⟨y, ws, h1, h2, h3.mono le, (Wd.addF_ne this).trans h4, h5⟩
  · have un : ∀ (k : Nat) (zs : List U), (s.fr.set i (.val (.lst xs)))[k]? = some (.own zs) → s.fr[k]? = some (.own zs) := fun k zs e => by
      by_cases hk : k = i
      · subst hk; rw [geti] at e; cases e
      · rw [get k hk] at e; exact e
    exact B.f.ownu k l y zs ws (un k zs e1) (un l ws e2) e3 e4
  · have e' : (s.fr.set i (.val (.lst xs)))[k]? = some (.exc c u) := e
    by_cases hk : k = i
    · subst hk; rw [geti] at e'; cases e'
    · rw [get k hk] at e'
      obtain ⟨y, d, v, h1, h2, h3, h4⟩ := B.f.exc k c u e'
      exact ⟨y, d, v, h1, le.fz _ _ h2, h3.mono le, h4⟩
  · by_cases q : y = a
    · subst q
      exact (B.ob y ⟨i, xs, hi, q1⟩).elim (fun z => .inr (.inr (.inl z))) fun z => .inr (.inr (.inr z))
    · rcases h with h | ⟨u, h⟩
      · exact B.e.new y (.inl h)
      · rw [Wd.addF_ne q] at h; exact B.e.new y (.inr ⟨u, h⟩)
  · have e' : (s.fr.set i (.val (.lst xs)))[k]? = some (.own zs) := e1
    by_cases hk : k = i
    · subst hk; rw [geti] at e'; cases e'
    · rw [get k hk] at e'; exact B.ob y ⟨k, zs, e', e2⟩
/-- a slot takes a value -/
theorem BSim.put {i : Nat} {u : U} {v : V} (B : BSim G b W s σ H) (hi : i < s.fr.length) (r : Rep G W u v) : BSim G b W { s with fr := s.fr.set i (.val u) } (σ.set i (some v)) H := by
  have his : i < σ.length := by rw [← B.f.frl]; exact hi
  have get : ∀ k, k ≠ i → (s.fr.set i (.val u))[k]? = s.fr[k]? := fun k hk => List.getElem?_set_ne (Ne.symm hk)
  have gets : ∀ k, k ≠ i → (σ.set i (some v))[k]? = σ[k]? := fun k hk => List.getElem?_set_ne (Ne.symm hk)
  have geti : (s.fr.set i (.val u))[i]? = some (.val u) := List.getElem?_set_self hi
  refine ⟨B.h, ⟨?_, fun k w e => ?_, fun k zs e => ?_, fun k l y zs ws e1 e2 e3 e4 => ?_, fun k c w e => ?_⟩, B.e, fun y ⟨k, zs, e1, e2⟩ => ?_⟩
  · show (s.fr.set i (.val u)).length = (σ.set i (some v)).length
    rw [List.length_set, List.length_set]; exact B.f.frl
  · have e' : (s.fr.set i (.val u))[k]? = some (.val w) := e
    by_cases hk : k = i
    · subst hk; rw [geti] at e'; cases e'
      exact ⟨v, List.getElem?_set_self his, r⟩
    · rw [get k hk] at e'; rw [gets k hk]; exact B.f.val k w e'
  · have e' : (s.fr.set i (.val u))[k]? = some (.own zs) := e
    by_cases hk : k = i
    · subst hk; rw [geti] at e'; cases e'
    · rw [get k hk] at e'; rw [gets k hk]; exact B.f.own k zs e'
  · have un : ∀ (k : Nat) (zs : List U), (s.fr.set i (.val u))[k]? = some (.own zs) → k ≠ i ∧ s.fr[k]? = some (.own zs) := fun k zs e => by
      by_cases hk : k = i
      · subst hk; rw [geti] at e; cases e
      · rw [get k hk] at e; exact ⟨hk, e⟩
    obtain ⟨n1, f1⟩ := un k zs e1
    obtain ⟨n2, f2⟩ := un l ws e2
    rw [gets k n1] at e3
    rw [gets l n2] at e4
    exact B.f.ownu k l y zs ws f1 f2 e3 e4
  · have e' : (s.fr.set i (.val u))[k]? = some (.exc c w) := e
    by_cases hk : k = i
    · subst hk; rw [geti] at e'; cases e'
    · rw [get k hk] at e'; rw [gets k hk]; exact B.f.exc k c w e'
  · have e' : (s.fr.set i (.val u))[k]? = some (.own zs) := e1
    by_cases hk : k = i
    · subst hk; rw [geti] at e'; cases e'
    · rw [get k hk] at e'; rw [gets k hk] at e2; exact B.ob y ⟨k, zs, e', e2⟩
/-- a slot takes a new list as its own -/
theorem BSim.putOwn {i : Nat} {us : List U} {a : Addr} {vs : List V} (B : BSim G b W s σ H) (hi : i < s.fr.length) (ha : H a = some (.lst vs)) (r : Reps G W us vs) (hf : W.fz a = none) (hm : a ∉ W.m) (ho : ¬ OwnA s.fr σ a) (hb : b.H0 a = none) :
    BSim G b W { s with fr := s.fr.set i (.own us) } (σ.set i (some (.ref a))) H := by
  have his : i < σ.length := by rw [← B.f.frl]; exact hi
  have get : ∀ k, k ≠ i → (s.fr.set i (.own us))[k]? = s.fr[k]? := fun k hk => List.getElem?_set_ne (Ne.symm hk)
  have gets : ∀ k, k ≠ i → (σ.set i (some (.ref a)))[k]? = σ[k]? := fun k hk => List.getElem?_set_ne (Ne.symm hk)
  have geti : (s.fr.set i (.own us))[i]? = some (.own us) := List.getElem?_set_self hi
  have getsi : (σ.set i (some (.ref a)))[i]? = some (some (.ref a)) := List.getElem?_set_self his
  refine ⟨B.h, ⟨?_, fun k w e => ?_, fun k zs e => ?_, fun k l y zs ws e1 e2 e3 e4 => ?_, fun k c w e => ?_⟩, B.e, fun y ⟨k, zs, e1, e2⟩ => ?_⟩
  · show (s.fr.set i (.own us)).length = (σ.set i (some (.ref a))).length
    rw [List.length_set, List.length_set]; exact B.f.frl
  · have e' : (s.fr.set i (.own us))[k]? = some (.val w) := e
    by_cases hk : k = i
    · subst hk; rw [geti] at e'; cases e'
    · rw [get k hk] at e'; rw [gets k hk]; exact B.f.val k w e'
  · have e' : (s.fr.set i (.own us))[k]? = some (.own zs) := e
    by_cases hk : k = i
    · subst hk; rw [geti] at e'; cases e'
      exact ⟨a, vs, getsi, ha, r, hf, hm⟩
    · rw [get k hk] at e'; rw [gets k hk]; exact B.f.own k zs e'
  · have e1' : (s.fr.set i (.own us))[k]? = some (.own zs) := e1
    have e2' : (s.fr.set i (.own us))[l]? = some (.own ws) := e2
    by_cases hk : k = i
    · by_cases hl : l = i
      · rw [hk, hl]
      · subst hk
        rw [getsi] at e3; cases e3
        rw [get l hl] at e2'; rw [gets l hl] at e4
        exact absurd ⟨l, ws, e2', e4⟩ ho
    · rw [get k hk] at e1'; rw [gets k hk] at e3
      by_cases hl : l = i
      · subst hl
        rw [getsi] at e4; cases e4
        exact absurd ⟨k, zs, e1', e3⟩ ho
      · rw [get l hl] at e2'; rw [gets l hl] at e4
        exact B.f.ownu k l y zs ws e1' e2' e3 e4
  · have e' : (s.fr.set i (.own us))[k]? = some (.exc c w) := e
    by_cases hk : k = i
    · subst hk; rw [geti] at e'; cases e'
    · rw [get k hk] at e'; rw [gets k hk]; exact B.f.exc k c w e'
  · have e' : (s.fr.set i (.own us))[k]? = some (.own zs) := e1
    by_cases hk : k = i
    · subst hk; rw [getsi] at e2; cases e2; exact .inl hb
    · rw [get k hk] at e'; rw [gets k hk] at e2; exact B.ob y ⟨k, zs, e', e2⟩
/-- a slot is forgotten -/
theorem BSim.drop {i : Nat} {o : Option V} (B : BSim G b W s σ H) : BSim G b W { s with fr := s.fr.set i .emp } (σ.set i o) H := by
  have get : ∀ k, k ≠ i → (s.fr.set i .emp)[k]? = s.fr[k]? := fun k hk => List.getElem?_set_ne (Ne.symm hk)
  have gets : ∀ k, k ≠ i → (σ.set i o)[k]? = σ[k]? := fun k hk => List.getElem?_set_ne (Ne.symm hk)
  have ne : ∀ (k : Nat) (x : Sl), (s.fr.set i Sl.emp)[k]? = some x → x ≠ .emp → k ≠ i ∧ s.fr[k]? = some x := fun k x e hx => by
    by_cases hk : k = i
    · subst hk
      by_cases hl : k < s.fr.length
      · rw [List.getElem?_set_self hl] at e; cases e; exact absurd rfl hx
      · rw [List.getElem?_eq_none (by simpa using hl)] at e; cases e
    · rw [get k hk] at e; exact ⟨hk, e⟩
  refine ⟨B.h, ⟨?_, fun k w e => ?_, fun k zs e => ?_, fun k l y zs ws e1 e2 e3 e4 => ?_, fun k c w e => ?_⟩, B.e, fun y ⟨k, zs, e1, e2⟩ => ?_⟩
  · show (s.fr.set i Sl.emp).length = (σ.set i o).length
    rw [List.length_set, List.length_set]; exact B.f.frl
  · obtain ⟨n, f⟩ := ne k _ e (by simp)
    rw [gets k n]; exact B.f.val k w f
  · obtain ⟨n, f⟩ := ne k _ e (by simp)
    rw [gets k n]; exact B.f.own k zs f
  · obtain ⟨n1, f1⟩ := ne k _ e1 (by simp)
    obtain ⟨n2, f2⟩ := ne l _ e2 (by simp)
    rw [gets k n1] at e3
    rw [gets l n2] at e4
    exact B.f.ownu k l y zs ws f1 f2 e3 e4
  · obtain ⟨n, f⟩ := ne k _ e (by simp)
    rw [gets k n]; exact B.f.exc k c w f
  · obtain ⟨n, f⟩ := ne k _ e1 (by simp)
    rw [gets k n] at e2; exact B.ob y ⟨k, zs, f, e2⟩
end
end Pix
end
section
set_option Elab.async false
set_option linter.all false
set_option maxRecDepth 100000
set_option maxHeartbeats 1000000
/-! PixB2: operations by values: the own ones against the layer's. -/
namespace Pix
open PySem PySem.Spec PyProof.Rows L2

section
variable {G : Gl0} {b : Ba} {W : Wd} {s : St} {σ : L2.St} {H : L2.Hp} {p : Addr} {o : HO} {Wx : WX}

/-- what is wanted of a run's end -/
def okR {α : Type} (G : Gl0) (b : Ba) (W : Wd) (σ : L2.St) (Wx : WX) (k : Wd → St → α → L2.Hp → Prop) : Re α → Prop
  | .ok a s => ∀ W' H', W.le W' → BSim G b W' s σ H' → k W' s a H'
  | .ex c u s => ∀ W' H' d v, W.le W' → BSim G b W' s σ H' → W'.fz d = some (.xd [(G.xf c, v)]) → Rep G W' u v → Wx (.ref (G.xa c)) (some d) σ H'
  | .bad => False
theorem okR.imp {α : Type} {k k' : Wd → St → α → L2.Hp → Prop} {r : Re α} (h : okR G b W σ Wx k r) (f : ∀ W' s' a H', r = .ok a s' → W.le W' → BSim G b W' s' σ H' → k W' s' a H' → k' W' s' a H') : okR G b W σ Wx k' r := by
  cases r with
  | ok a s1 => exact fun W' H' l B => f W' s1 a H' rfl l B (h W' H' l B)
  | ex c u s1 => exact h
  | bad => exact h
theorem okR.le {α : Type} {k : Wd → St → α → L2.Hp → Prop} {r : Re α} {W1 : Wd} (l : W.le W1) (h : okR G b W σ Wx k r) : okR G b W1 σ Wx k r := by
  cases r with
  | ok a s1 => exact fun W' H' l' B => h W' H' (l.trans l') B
  | ex c u s1 => exact fun W' H' d v l' B => h W' H' d v (l.trans l') B
  | bad => exact h
theorem okR.bnd {α β : Type} {k : Wd → St → β → L2.Hp → Prop} {r : Re α} {f : α → St → Re β} (h : okR G b W σ Wx k (r.bnd f)) : okR G b W σ Wx (fun W1 s1 a H1 => okR G b W1 σ Wx k (f a s1)) r := by
  cases r with
  | ok a s1 => exact fun W' H' l B => okR.le l h
  | ex c u s1 => exact h
  | bad => exact h
/-- the wish of a value -/
abbrev kV1 (G : Gl0) (Q : VK) : Wd → St → U → L2.Hp → Prop := fun W' _ u H' => ∀ v, Rep G W' u v → Q v H'
abbrev kVs (G : Gl0) (Q : List V → L2.Hp → Prop) : Wd → St → List U → L2.Hp → Prop := fun W' _ us H' => ∀ vs, Reps G W' us vs → Q vs H'

theorem BSim.fzin (B : BSim G b W s σ H) {a : Addr} {o : HO} (e : W.fz a = some o) : H a = some o := B.h.fz a o e
/-- a tuple's items, as the layer has them -/
theorem tup_rep {v : V} {xs : List U} (B : BSim G b W s σ H) (r : Rep G W (.tup xs) v) : ∃ a vs, v = .ref a ∧ SqT G.K H a vs ∧ Reps G W xs vs := by
  cases r with
  | tup t rs => exact ⟨_, _, rfl, SqT.of (B.fzin t), rs⟩
  | ktup t _ rs => exact ⟨_, _, rfl, .inr t, rs⟩
theorem ScrAt.sq {K : PySem.W.Frag} {a : Addr} {vs : List V} (fz : ∀ a o, W.fz a = some o → H a = some o) (t : ScrAt K W a vs) : SqL K H a vs := t.elim (fun ⟨o, e⟩ => .inl (.inr ⟨o, fz _ _ e⟩)) fun k => .inr k
theorem BSim.newF (B : BSim G b W s σ H) (hp : H p = none) (ho : ∀ x, o ≠ .own x) : BSim G b (W.addF p o) s σ (upd H p o) := by
  have k : ∀ a u, H a = some u → upd H p o a = some u := fun a u e => by rw [upd_ne (ne_of_none e hp)]; exact e
  exact (B.more k).freeze upd_same (B.free_f hp) (B.free_m hp) (B.free_o hp) (.inl (B.free_b hp)) ho
theorem BSim.le_newF (B : BSim G b W s σ H) (hp : H p = none) : W.le (W.addF p o) := Wd.le_addF (B.free_f hp)

/-- a list's or a tuple's items, as the layer has them -/
theorem seqOf_rep {u : U} {v : V} {xs : List U} (B : BSim G b W s σ H) (r : Rep G W u v) (e : seqOf s.hp u = some xs) : ∃ a vs, v = .ref a ∧ (SqL G.K H a vs ∨ SqT G.K H a vs) ∧ Reps G W xs vs := by
  cases r with
  | tup t rs => simp only [seqOf, Option.some.injEq] at e; subst e; exact ⟨_, _, rfl, .inr (SqT.of (B.fzin t)), rs⟩
  | ktup t _ rs => simp only [seqOf, Option.some.injEq] at e; subst e; exact ⟨_, _, rfl, .inr (.inr t), rs⟩
  | lst t rs => simp only [seqOf, Option.some.injEq] at e; subst e; exact ⟨_, _, rfl, .inl (SqL.of (B.fzin t)), rs⟩
  | scr t => simp only [seqOf, Option.some.injEq] at e; subst e; exact ⟨_, _, rfl, .inl (t.sq B.h.fz), Reps.ints _⟩
  | @ref k a hm =>
    simp only [seqOf] at e
    split at e
    · rename_i ys hk
      cases e
      obtain ⟨vs, h1, h2⟩ := B.h.box k (.lst xs) a hk hm
      exact ⟨a, vs, rfl, .inl (SqL.of h1), h2⟩
    · cases e
  | _ => simp [seqOf] at e
theorem lstOf_rep {u : U} {v : V} {xs : List U} (B : BSim G b W s σ H) (r : Rep G W u v) (e : lstOf s.hp u = some xs) : ∃ a vs, v = .ref a ∧ H a = some (.lst vs) ∧ Reps G W xs vs := by
  cases r with
  | lst t rs => simp only [lstOf, Option.some.injEq] at e; subst e; exact ⟨_, _, rfl, B.fzin t, rs⟩
  | @ref k a hm =>
    simp only [lstOf] at e
    split at e
    · rename_i ys hk
      cases e
      obtain ⟨vs, h1, h2⟩ := B.h.box k (.lst xs) a hk hm
      exact ⟨a, vs, rfl, h1, h2⟩
    · cases e
  | _ => simp [lstOf] at e
theorem line_eq : (sizeLine : Nat) = SZ := sizeLine_eq

/-! ### + -/
def rAdd4 (K : PySem.W.Frag) : R2 := fun x y H Q => rI0 (fun i j => .int (i + j)) x y H Q ∨ (∃ i j, x = .str i ∧ y = .str j ∧ i.length + j.length ≤ sizeLine ∧ Q (.str (i ++ j)) H) ∨ rCatA K x y H Q ∨ rCat x y H Q
theorem op_add4 {X : Cx} : OpR X (binaryOp .Add) (rAdd4 X.K) := OpR.or op_add (OpR.or op_add_str (OpR.or op_catA op_cat))
theorem str_app (x y : List Nat) : (⟨x.toArray⟩ : PySem.Str) ++ ⟨y.toArray⟩ = ⟨(x ++ y).toArray⟩ := by
  show (⟨x.toArray ++ y.toArray⟩ : PySem.Str) = _
  simp
theorem str_len (x : List Nat) : (⟨x.toArray⟩ : PySem.Str).length = x.length := by
  show x.toArray.size = _
  simp
theorem add_snd {Q : VK} {u u2 : U} {v v2 : V} (B : BSim G b W s σ H) (r1 : Rep G W u v) (r2 : Rep G W u2 v2) (ok : okR G b W σ Wx (kV1 G Q) (addU u u2 s)) : rAdd4 G.K v v2 H Q := by
  have hl := line_eq
  cases u with
  | int i =>
    cases u2 with
    | int j => cases r1; cases r2; exact .inl ⟨i, j, rfl, rfl, ok W H .rfl' B _ (.int _)⟩
    | _ => exact (show False from ok).elim
  | str x =>
    cases u2 with
    | str y =>
      cases r1 with
      | str _ hx hxc =>
      cases r2 with
      | str _ hy hyc =>
      simp only [addU] at ok
      split at ok
      · rename_i hz
        refine .inr (.inl ⟨_, _, rfl, rfl, by rw [str_len, str_len]; omega, ?_⟩)
        rw [str_app]
        exact ok W H .rfl' B _ (.str _ (by rw [List.length_append]; exact hz) fun c hc => (List.mem_append.mp hc).elim (hxc c) (hyc c))
      · exact (show False from ok).elim
    | _ => exact (show False from ok).elim
  | tup xs =>
    cases u2 with
    | tup ys =>
      obtain ⟨a, vs, rfl, t, rs⟩ := tup_rep B r1
      obtain ⟨a2, ws, rfl, t2, rs2⟩ := tup_rep B r2
      simp only [addU] at ok
      split at ok
      · rename_i hz
        have l1 := rs.length
        have l2 := rs2.length
        refine .inr (.inr (.inl ⟨a, a2, vs, ws, rfl, rfl, t, t2, by omega, fun e => ?_, fun _ e => ?_, fun _ _ p hp => ?_⟩))
        · have : xs = [] := List.length_eq_zero_iff.mp (by rw [l1, e]; rfl)
          subst this
          exact ok W H .rfl' B _ r2
        · have : ys = [] := List.length_eq_zero_iff.mp (by rw [l2, e]; rfl)
          subst this
          rw [List.append_nil] at ok
          exact ok W H .rfl' B _ r1
        · have le := B.le_newF (o := .tup (vs ++ ws)) hp
          exact ok _ _ le (B.newF hp (fun _ z => by cases z)) _ (.tup Wd.addF_same ((rs.app rs2).mono le))
      · exact (show False from ok).elim
    | _ => exact (show False from ok).elim
  | lst xs =>
    cases u2 with
    | lst ys =>
      cases r1 with
      | @lst _ a vs t rs =>
      cases r2 with
      | @lst _ a2 ws t2 rs2 =>
      simp only [addU] at ok
      split at ok
      · rename_i hz
        have l1 := rs.length
        have l2 := rs2.length
        refine .inr (.inr (.inr ⟨a, a2, vs, ws, rfl, rfl, B.fzin t, B.fzin t2, by omega, fun p hp => ?_⟩))
        have le := B.le_newF (o := .lst (vs ++ ws)) hp
        exact ok _ _ le (B.newF hp (fun _ z => by cases z)) _ (.lst Wd.addF_same ((rs.app rs2).mono le))
      · exact (show False from ok).elim
    | _ => exact (show False from ok).elim
  | _ => cases u2 <;> exact (show False from ok).elim

/-! ### the other ones -/
def binR (K : PySem.W.Frag) : Bop → R2
  | .add => rAdd4 K
  | .sub => rI0 fun i j => .int (i - j)
  | .mul => rI CMul fun i j => .int (i * j)
  | .fdiv => rI CDivW fun i j => .int (i / j)
  | .mod => rI (fun _ j => 0 < j) fun i j => .int (i % j)
  | .pow => rI CPow fun i j => .int (i ^ j.toNat)
def bopP : Bop → Operator
  | .add => .Add | .sub => .Sub | .mul => .Mult | .fdiv => .FloorDiv | .mod => .Mod | .pow => .Pow
theorem op_bin {X : Cx} (op : Bop) : OpR X (binaryOp (bopP op)) (binR X.K op) := by
  cases op with
  | add => exact op_add4
  | sub => exact op_sub
  | mul => exact op_mul
  | fdiv => exact op_fdivW
  | mod => exact op_mod
  | pow => exact op_pow
theorem small_of {i : Int} (h : small i = true) : -(2 ^ 64) < i ∧ i < 2 ^ 64 := by
  unfold small at h
  simp only [Bool.and_eq_true, decide_eq_true_eq] at h
  exact h
theorem bin_snd {Q : VK} {op : Bop} {u u2 : U} {v v2 : V} (B : BSim G b W s σ H) (r1 : Rep G W u v) (r2 : Rep G W u2 v2) (ok : okR G b W σ Wx (kV1 G Q) (binU op u u2 s)) : binR G.K op v v2 H Q := by
  cases op with
  | add => exact add_snd B r1 r2 ok
  | sub => cases r1 <;> cases r2 <;> first | exact (show False from ok).elim | exact ⟨_, _, rfl, rfl, ok W H .rfl' B _ (.int _)⟩
  | mul =>
    cases r1 <;> cases r2 <;> first
      | exact (show False from ok).elim
      | (simp only [binU] at ok
         split at ok
         · rename_i i j hz
           rcases Bool.or_eq_true_iff.mp hz with q | q
           · exact ⟨_, _, rfl, rfl, .inl (small_of q), ok W H .rfl' B _ (.int _)⟩
           · exact ⟨_, _, rfl, rfl, .inr (small_of q), ok W H .rfl' B _ (.int _)⟩
         · exact (show False from ok).elim)
  | fdiv =>
    cases r1 <;> cases r2 <;> first
      | exact (show False from ok).elim
      | (simp only [binU] at ok
         split at ok
         · rename_i hz
           exact ⟨_, _, rfl, rfl, wide_div (b := 200) hz.1 (by have := hz.2; omega) (by decide) (by decide), ok W H .rfl' B _ (.int _)⟩
         · exact (show False from ok).elim)
  | mod =>
    cases r1 <;> cases r2 <;> first
      | exact (show False from ok).elim
      | (simp only [binU] at ok
         split at ok
         · rename_i hz
           exact ⟨_, _, rfl, rfl, hz, ok W H .rfl' B _ (.int _)⟩
         · exact (show False from ok).elim)
  | pow =>
    cases r1 <;> cases r2 <;> first
      | exact (show False from ok).elim
      | (simp only [binU] at ok
         split at ok
         · rename_i i j hz
           obtain ⟨h1, h2, h3⟩ := hz
           have q := small_of h3
           refine ⟨_, _, rfl, rfl, ⟨h1, by omega, by omega⟩, ok W H .rfl' B _ (.int _)⟩
         · exact (show False from ok).elim)

/-! ### truth -/
theorem truth_snd {u : U} {v : V} {k : Bool} (B : BSim G b W s σ H) (r : Rep G W u v) (e : truth s.hp u = some k) : TruV G.K v H k := by
  have hl := line_eq
  have ie : ∀ {xs : List U} {vs : List V}, Reps G W xs vs → (!xs.isEmpty) = !vs.isEmpty := fun r => by cases r <;> rfl
  cases r with
  | non => simp [truth] at e; exact e.symm ▸ rfl
  | bl k' => simp [truth] at e; exact e.symm ▸ rfl
  | int i => simp [truth] at e; exact e.symm ▸ rfl
  | str x hx hxc =>
    simp only [truth, Option.some.injEq] at e
    refine ⟨by rw [str_len]; omega, ?_⟩
    rw [str_len, ← e]
    cases x with
    | nil => rfl
    | cons c cs =>
      have : (((List.length (c :: cs) : Nat) : Int) != 0) = true := by simp only [List.length_cons]; exact bne_iff_ne.mpr (by omega)
      rw [this] <;> rfl
  | tup t rs => simp only [truth, Option.some.injEq] at e; exact .inr (.inl ⟨_, SqT.of (B.fzin t), by rw [← e]; exact ie rs⟩)
  | ktup t _ rs => simp only [truth, Option.some.injEq] at e; exact .inr (.inl ⟨_, .inr t, by rw [← e]; exact ie rs⟩)
  | lst t rs => simp only [truth, Option.some.injEq] at e; exact .inl ⟨_, SqL.of (B.fzin t), by rw [← e]; exact ie rs⟩
  | @ref n a hm =>
    simp only [truth] at e
    split at e
    · rename_i xs hk
      simp only [Option.some.injEq] at e
      obtain ⟨vs, h1, h2⟩ := B.h.box n (.lst xs) a hk hm
      exact .inl ⟨_, SqL.of h1, by rw [← e]; exact ie h2⟩
    · cases e
  | _ => simp [truth] at e

/-! ### data -/
def toD : U → PyData
  | .non => .none
  | .bl b => .bool b
  | .int i => .int i
  | .str s => .str ⟨s.toArray⟩
  | .tup xs => .tuple (toDs xs)
  | .lst xs => .list (toDs xs)
  | _ => .none
where toDs : List U → List PyData
  | [] => []
  | x :: xs => toD x :: toDs xs
/-- plain data: no dict, no reference -/
def plainU : U → Bool
  | .non => true
  | .bl _ => true
  | .int _ => true
  | .str _ => true
  | .tup xs => plains xs
  | .lst xs => plains xs
  | _ => false
where plains : List U → Bool
  | [] => true
  | x :: xs => plainU x && plains xs
theorem arr_eq {x y : List Nat} : ((⟨x.toArray⟩ : PySem.Str) == ⟨y.toArray⟩) = decide (x = y) := by
  rw [Bool.eq_iff_iff]
  simp
mutual
theorem eqU_toD : ∀ (x y : U), plainU x = true → plainU y = true → eqU x y = PyData.eqv (toD x) (toD y)
  | .non, y, _, hy => by cases y <;> first | rfl | (exact absurd hy Bool.false_ne_true) | simp [eqU, toD, PyData.eqv]
  | .bl a, y, _, hy => by cases y <;> first | rfl | (exact absurd hy Bool.false_ne_true) | (simp [eqU, toD, PyData.eqv, Bool.beq_eq_decide_eq])
  | .int a, y, _, hy => by cases y <;> first | rfl | (exact absurd hy Bool.false_ne_true) | (simp [eqU, toD, PyData.eqv, Bool.beq_eq_decide_eq])
  | .str a, y, _, hy => by cases y <;> first | (exact absurd hy Bool.false_ne_true) | (simp [eqU, toD, PyData.eqv, arr_eq]; done)
  | .tup xs, y, hx, hy => by
    cases y <;> first | (exact absurd hy Bool.false_ne_true) | (simp [eqU, toD, PyData.eqv]; done) | skip
    rename_i ys
    simp only [eqU, toD, PyData.eqv]
    exact eqUs_toD xs ys hx hy
  | .lst xs, y, hx, hy => by
    cases y <;> first | (exact absurd hy Bool.false_ne_true) | (simp [eqU, toD, PyData.eqv]; done) | skip
    rename_i ys
    simp only [eqU, toD, PyData.eqv]
    exact eqUs_toD xs ys hx hy
  | .dct _ _, _, hx, _ => absurd hx Bool.false_ne_true
  | .ref _, _, hx, _ => absurd hx Bool.false_ne_true
  | .scr _, _, hx, _ => absurd hx Bool.false_ne_true
theorem eqUs_toD : ∀ (xs ys : List U), plainU.plains xs = true → plainU.plains ys = true → eqUs xs ys = PyData.eqvAll (toD.toDs xs) (toD.toDs ys)
  | [], ys, _, _ => by cases ys <;> simp [eqUs, toD.toDs, PyData.eqvAll]
  | x :: xs, ys, hx, hy => by
    cases ys with
    | nil => simp [eqUs, toD.toDs, PyData.eqvAll]
    | cons y ys =>
      simp only [plainU.plains, Bool.and_eq_true] at hx hy
      simp only [eqUs, toD.toDs, PyData.eqvAll]
      rw [eqU_toD x y hx.1 hy.1, eqUs_toD xs ys hx.2 hy.2]
end
theorem mapO_some {α β : Type} {f : α → Option β} : ∀ {xs : List α} {ys : List β}, mapO f xs = some ys → Paired (fun x y => f x = some y) xs ys
  | [], ys, h => by simp only [mapO, Option.some.injEq] at h; subst h; exact .nil
  | x :: xs, ys, h => by
    simp only [mapO] at h
    split at h
    · cases h
    · rename_i y hy
      split at h
      · cases h
      · rename_i zs hz
        cases h
        exact .cons hy (mapO_some hz)
/-- resolved data, as the layer reads it -/
structure DpOk (K : PySem.W.Frag) (H : L2.Hp) (n : Nat) (v : V) (w : U) : Prop where
  dp : Dp K H v (toD w)
  pl : plainU w = true
  lay : (toD w).canLay0 = true
  dep : (toD w).depth ≤ n
theorem dpAll {n : Nat} {xs : List U} {ws : List U} {vs : List V} {hp : Hp} (ih : ∀ (x : U) (v : V) (w : U), Rep G W x v → res hp n x = some w → DpOk G.K H n v w) (rs : Reps G W xs vs) (h : mapO (res hp n) xs = some ws) :
    DpAll G.K H vs (toD.toDs ws) ∧ plainU.plains ws = true ∧ PyData.canLayAll0 (toD.toDs ws) = true ∧ PyData.depthAll (toD.toDs ws) ≤ n := by
  have q := mapO_some h
  induction q generalizing vs with
  | nil => cases rs; exact ⟨.nil, rfl, by simp [toD.toDs, PyData.canLayAll0], by simp [toD.toDs, PyData.depthAll]⟩
  | @cons x w xs ws hx q ih2 =>
    cases rs with
    | cons r rs =>
      have h2 : mapO (res hp n) xs = some ws := by
        simp only [mapO, hx] at h
        split at h
        · cases h
        · rename_i zs hz
          cases h
          exact hz
      obtain ⟨a1, a2, a3, a4⟩ := ih2 rs h2
      have d := ih x _ w r hx
      refine ⟨.cons d.dp a1, ?_, ?_, ?_⟩
      · simp only [plainU.plains, d.pl, a2, Bool.and_self]
      · simp only [toD.toDs, PyData.canLayAll0, d.lay, a3, Bool.and_self]
      · simp only [toD.toDs, PyData.depthAll]
        have := d.dep
        omega
theorem res_snd (B : BSim G b W s σ H) : ∀ (n : Nat) (x : U) (v : V) (w : U), Rep G W x v → res s.hp n x = some w → DpOk G.K H n v w
  | 0, x, v, w, _, h => by simp [res] at h
  | n + 1, x, v, w, r, h => by
    have ih : ∀ (x : U) (v : V) (w : U), Rep G W x v → res s.hp n x = some w → DpOk G.K H n v w := fun x v w r h => res_snd B n x v w r h
    cases r with
    | non => simp only [res, Option.some.injEq] at h; subst h; exact ⟨.non, rfl, by simp [toD, PyData.canLay0], by simp [toD, PyData.depth]⟩
    | bl k => simp only [res, Option.some.injEq] at h; subst h; exact ⟨.bl k, rfl, by simp [toD, PyData.canLay0], by simp [toD, PyData.depth]⟩
    | int i => simp only [res, Option.some.injEq] at h; subst h; exact ⟨.int i, rfl, by simp [toD, PyData.canLay0], by simp [toD, PyData.depth]⟩
    | str x hx hc =>
      simp only [res, Option.some.injEq] at h; subst h
      refine ⟨.str _, rfl, ?_, by simp [toD, PyData.depth]⟩
      simp only [toD, PyData.canLay0, PySem.PyData.strOk]
      simpa using hc
    | tup t rs =>
      simp only [res] at h
      obtain ⟨ws, hw, e⟩ := Option.map_eq_some_iff.mp h
      subst e
      obtain ⟨a1, a2, a3, a4⟩ := dpAll ih rs hw
      exact ⟨.tup (SqT.of (B.fzin t)) a1, a2, by simpa only [toD, PyData.canLay0] using a3, by simp only [toD, PyData.depth]; omega⟩
    | ktup t _ rs =>
      simp only [res] at h
      obtain ⟨ws, hw, e⟩ := Option.map_eq_some_iff.mp h
      subst e
      obtain ⟨a1, a2, a3, a4⟩ := dpAll ih rs hw
      exact ⟨.tup (.inr t) a1, a2, by simpa only [toD, PyData.canLay0] using a3, by simp only [toD, PyData.depth]; omega⟩
    | lst t rs =>
      simp only [res] at h
      obtain ⟨ws, hw, e⟩ := Option.map_eq_some_iff.mp h
      subst e
      obtain ⟨a1, a2, a3, a4⟩ := dpAll ih rs hw
      exact ⟨.lst (SqL.of (B.fzin t)) a1, a2, by simpa only [toD, PyData.canLay0] using a3, by simp only [toD, PyData.depth]; omega⟩
    | @ref k a hm =>
      simp only [res] at h
      split at h
      · rename_i xs hk
        obtain ⟨ws, hw, e⟩ := Option.map_eq_some_iff.mp h
        subst e
        obtain ⟨vs, h1, h2⟩ := B.h.box k (.lst xs) a hk hm
        obtain ⟨a1, a2, a3, a4⟩ := dpAll ih h2 hw
        exact ⟨.lst (SqL.of h1) a1, a2, by simpa only [toD, PyData.canLay0] using a3, by simp only [toD, PyData.depth]; omega⟩
      · cases h
    | scr t => simp [res] at h
    | dK t r => simp [res] at h
    | dT t r => simp [res] at h
theorem DpOk.shaped {K : PySem.W.Frag} {n : Nat} {v : V} {w : U} (d : DpOk K H n v w) (h : n ≤ 64) : SeqAt.shaped (toD w) = true := by
  unfold SeqAt.shaped
  rw [d.lay, decide_eq_true (Nat.le_trans d.dep h)] <;> rfl
end
end Pix
end
section
set_option Elab.async false
set_option linter.all false
set_option maxRecDepth 100000
set_option maxHeartbeats 1000000
/-! PixB3: comparisons, in, len, subscripts, slices, stores: the own ones against the layer's. -/
namespace Pix
open PySem PySem.Spec PyProof.Rows L2

section
variable {G : Gl0} {b : Ba} {W : Wd} {s : St} {σ : L2.St} {H : L2.Hp} {p : Addr} {o : HO} {Wx : WX}

/-! ### keys -/
theorem keyOf_some {u : U} (h : keyB u = true) : ∃ k, keyOf u = some k := by
  cases u <;> first | exact ⟨_, rfl⟩ | exact absurd h Bool.false_ne_true
theorem keyOf_rep {u : U} {v : V} {k : Key} (r : Rep G W u v) (e : keyOf u = some k) : v = kV k := by
  cases r <;> first | (simp only [keyOf, Option.some.injEq] at e; subst e; rfl) | (simp [keyOf] at e; done)
theorem eqU_key {u w : U} {k l : Key} (e : keyOf u = some k) (e2 : keyOf w = some l) : eqU u w = decide (k = l) := by
  cases u <;> first | (simp [keyOf] at e; done) | skip
  · cases w <;> first | (simp [keyOf] at e2; done) | skip
    · simp only [keyOf, Option.some.injEq] at e e2; subst e e2
      simp only [eqU]; rw [Bool.eq_iff_iff]; simp
    · simp only [keyOf, Option.some.injEq] at e e2; subst e e2
      simp [eqU]
  · cases w <;> first | (simp [keyOf] at e2; done) | skip
    · simp only [keyOf, Option.some.injEq] at e e2; subst e e2
      simp [eqU]
    · simp only [keyOf, Option.some.injEq] at e e2; subst e e2
      simp only [eqU]; rw [Bool.eq_iff_iff]; simp
theorem mapO_key : ∀ {xs : List U}, xs.all keyB = true → ∃ ks, mapO keyOf xs = some ks
  | [], _ => ⟨[], rfl⟩
  | x :: xs, h => by
    rw [List.all_cons, Bool.and_eq_true] at h
    obtain ⟨k, e⟩ := keyOf_some h.1
    obtain ⟨ks, e2⟩ := mapO_key h.2
    exact ⟨k :: ks, by simp only [mapO, e, e2]⟩
theorem keys_rep : ∀ {xs : List U} {vs : List V} {ks : List Key}, Reps G W xs vs → mapO keyOf xs = some ks → vs = ks.map kV
  | [], _, ks, .nil, e => by simp only [mapO, Option.some.injEq] at e; subst e; rfl
  | x :: xs, _, ks, .cons r rs, e => by
    simp only [mapO] at e
    split at e
    · cases e
    · rename_i k hk
      split at e
      · cases e
      · rename_i ks' hks
        cases e
        rw [keyOf_rep r hk, keys_rep rs hks]; rfl
theorem eqUs_keys : ∀ {xs ys : List U} {k l : List Key}, mapO keyOf xs = some k → mapO keyOf ys = some l → eqUs xs ys = decide (k = l)
  | [], ys, k, l, e, e2 => by
    simp only [mapO, Option.some.injEq] at e; subst e
    cases ys with
    | nil => simp only [mapO, Option.some.injEq] at e2; subst e2; rfl
    | cons y ys =>
      simp only [mapO] at e2
      split at e2
      · cases e2
      · split at e2
        · cases e2
        · cases e2; rfl
  | x :: xs, ys, k, l, e, e2 => by
    simp only [mapO] at e
    split at e
    · cases e
    · rename_i a ha
      split at e
      · cases e
      · rename_i as has
        cases e
        cases ys with
        | nil => simp only [mapO, Option.some.injEq] at e2; subst e2; rfl
        | cons y ys =>
          simp only [mapO] at e2
          split at e2
          · cases e2
          · rename_i c hc
            split at e2
            · cases e2
            · rename_i cs hcs
              cases e2
              simp only [eqUs]
              rw [eqU_key ha hc, eqUs_keys has hcs, Bool.eq_iff_iff]
              simp
theorem eqU_keys {u w : U} {k l : List Key} (e : keysOf u = some k) (e2 : keysOf w = some l) : eqU u w = decide (k = l) := by
  cases u <;> first | (simp [keysOf] at e; done) | skip
  cases w <;> first | (simp [keysOf] at e2; done) | skip
  simp only [eqU]
  exact eqUs_keys e e2

theorem valK {u : U} {k : Key} (hu : keyOf u = some k) : ∀ {kvs : List (U × U)} {es : List (Key × V)}, RepK G W kvs es → (match dget kvs u with | some w => ∃ v, valV es k = some v ∧ Rep G W w v | none => valV es k = none)
  | [], _, .nil => rfl
  | q :: qs, _, .cons hk r rs => by
    have ih := valK hu rs
    by_cases e : (eqU q.1 u) = true
    · have d : dget (q :: qs) u = some q.2 := by simp [dget, List.find?_cons, e]
      rw [d]
      rw [eqU_key hk hu] at e
      exact ⟨_, valV_pos (of_decide_eq_true e), r⟩
    · have d : dget (q :: qs) u = dget qs u := by simp [dget, List.find?_cons, e]
      rw [d]
      rw [eqU_key hk hu] at e
      have ne : ¬ _ = k := fun z => e (decide_eq_true z)
      cases hd : dget qs u with
      | none => rw [hd] at ih; rw [valV_neg ne]; exact ih
      | some w =>
        rw [hd] at ih
        obtain ⟨v, h1, h2⟩ := ih
        exact ⟨v, by rw [valV_neg ne]; exact h1, h2⟩
theorem valT {u : U} {k : List Key} (hu : keysOf u = some k) : ∀ {kvs : List (U × U)} {es : List (List Key × V)}, RepT G W kvs es → (match dget kvs u with | some w => ∃ v, valV es k = some v ∧ Rep G W w v | none => valV es k = none)
  | [], _, .nil => rfl
  | q :: qs, _, .cons hk r rs => by
    have ih := valT hu rs
    by_cases e : (eqU q.1 u) = true
    · have d : dget (q :: qs) u = some q.2 := by simp [dget, List.find?_cons, e]
      rw [d]
      rw [eqU_keys hk hu] at e
      exact ⟨_, valV_pos (of_decide_eq_true e), r⟩
    · have d : dget (q :: qs) u = dget qs u := by simp [dget, List.find?_cons, e]
      rw [d]
      rw [eqU_keys hk hu] at e
      have ne : ¬ _ = k := fun z => e (decide_eq_true z)
      cases hd : dget qs u with
      | none => rw [hd] at ih; rw [valV_neg ne]; exact ih
      | some w =>
        rw [hd] at ih
        obtain ⟨v, h1, h2⟩ := ih
        exact ⟨v, by rw [valV_neg ne]; exact h1, h2⟩
theorem RepK.length : ∀ {kvs : List (U × U)} {es : List (Key × V)}, RepK G W kvs es → kvs.length = es.length
  | _, _, .nil => rfl
  | _, _, .cons _ _ rs => congrArg Nat.succ (RepK.length rs)
theorem RepT.length : ∀ {kvs : List (U × U)} {es : List (List Key × V)}, RepT G W kvs es → kvs.length = es.length
  | _, _, .nil => rfl
  | _, _, .cons _ _ rs => congrArg Nat.succ (RepT.length rs)
theorem anyK {u : U} {k : Key} (hu : keyOf u = some k) : ∀ {kvs : List (U × U)} {es : List (Key × V)}, RepK G W kvs es → (kvs.any fun p => eqU p.1 u) = es.any fun p => decide (p.1 = k)
  | [], _, .nil => rfl
  | q :: qs, _, .cons hk r rs => by rw [List.any_cons, List.any_cons, anyK hu rs, eqU_key hk hu]
theorem anyT {u : U} {k : List Key} (hu : keysOf u = some k) : ∀ {kvs : List (U × U)} {es : List (List Key × V)}, RepT G W kvs es → (kvs.any fun p => eqU p.1 u) = es.any fun p => decide (p.1 = k)
  | [], _, .nil => rfl
  | q :: qs, _, .cons hk r rs => by rw [List.any_cons, List.any_cons, anyT hu rs, eqU_keys hk hu]
theorem RepK.snoc {u w : U} {k : Key} {v : V} (hu : keyOf u = some k) (rv : Rep G W w v) : ∀ {kvs : List (U × U)} {es : List (Key × V)}, RepK G W kvs es → RepK G W (kvs ++ [(u, w)]) (es ++ [(k, v)])
  | [], _, .nil => .cons hu rv .nil
  | q :: qs, _, .cons hk r rs => .cons hk r (RepK.snoc hu rv rs)
theorem RepT.snoc {u w : U} {k : List Key} {v : V} (hu : keysOf u = some k) (rv : Rep G W w v) : ∀ {kvs : List (U × U)} {es : List (List Key × V)}, RepT G W kvs es → RepT G W (kvs ++ [(u, w)]) (es ++ [(k, v)])
  | [], _, .nil => .cons hu rv .nil
  | q :: qs, _, .cons hk r rs => .cons hk r (RepT.snoc hu rv rs)
theorem RepK.repl {u w : U} {k : Key} {v : V} (hu : keyOf u = some k) (rv : Rep G W w v) : ∀ {kvs : List (U × U)} {es : List (Key × V)}, RepK G W kvs es → RepK G W (kvs.map fun p => if eqU p.1 u = true then (p.1, w) else p) (es.map fun p => if p.1 = k then (p.1, v) else p)
  | [], _, .nil => .nil
  | q :: qs, _, .cons hk r rs => by
    have ih := RepK.repl hu rv rs
    rw [List.map_cons, List.map_cons]
    have e := eqU_key hk hu
    split
    · rename_i z
      rw [e] at z
      rw [if_pos (of_decide_eq_true z)]
      exact .cons hk rv ih
    · rename_i z
      rw [e] at z
      rw [if_neg fun y => z (decide_eq_true y)]
      exact .cons hk r ih
theorem RepT.repl {u w : U} {k : List Key} {v : V} (hu : keysOf u = some k) (rv : Rep G W w v) : ∀ {kvs : List (U × U)} {es : List (List Key × V)}, RepT G W kvs es → RepT G W (kvs.map fun p => if eqU p.1 u = true then (p.1, w) else p) (es.map fun p => if p.1 = k then (p.1, v) else p)
  | [], _, .nil => .nil
  | q :: qs, _, .cons hk r rs => by
    have ih := RepT.repl hu rv rs
    rw [List.map_cons, List.map_cons]
    have e := eqU_keys hk hu
    split
    · rename_i z
      rw [e] at z
      rw [if_pos (of_decide_eq_true z)]
      exact .cons hk rv ih
    · rename_i z
      rw [e] at z
      rw [if_neg fun y => z (decide_eq_true y)]
      exact .cons hk r ih
theorem RepK.put {u w : U} {k : Key} {v : V} {kvs : List (U × U)} {es : List (Key × V)} (hu : keyOf u = some k) (rv : Rep G W w v) (r : RepK G W kvs es) : RepK G W (dput u w kvs) (putK es k v) := by
  unfold dput putK
  rw [anyK hu r]
  split
  · exact r.repl hu rv
  · exact r.snoc hu rv
theorem RepT.put {u w : U} {k : List Key} {v : V} {kvs : List (U × U)} {es : List (List Key × V)} (hu : keysOf u = some k) (rv : Rep G W w v) (r : RepT G W kvs es) : RepT G W (dput u w kvs) (putK es k v) := by
  unfold dput putK
  rw [anyT hu r]
  split
  · exact r.repl hu rv
  · exact r.snoc hu rv

/-! ### a dict that is read -/
/-- what the dict at a holds at the key y, which may be written -/
def DGetK (K : PySem.W.Frag) (H : L2.Hp) (a : Addr) (y : V) (r : Option V) : Prop :=
  (∃ kvs k, Rd H a (.dK kvs) ∧ y = kV k ∧ r = valV kvs k) ∨ ∃ kvs k b, Rd H a (.dT kvs) ∧ y = .ref b ∧ SqT K H b (k.map kV) ∧ r = valV kvs k
section
variable {X : Cx} {pins : List (Addr × Obj)} {s : Shared} {a : Addr} {y v : V} {u r : Value} {o : Option V} {A : Around} {E : Value → Shared → Prop}
theorem key_ofT {σ : L2.St} {ks : List Key} {b : Addr} (I : Inv X pins σ H s) (e : SqT X.K H b (ks.map kV)) : (tupleKind (mixKind X.prog X.w)).is s.heap ks b := by
  obtain ⟨its, r, ⟨o, h1, h2, n, h3⟩, _⟩ := I.tuple e
  exact ⟨o, its.toArray, n, h1, h2, h3, by simpa using items_are r⟩
theorem dk_getItem {Q : Value → Shared → Prop} (hu : A.units + 1 < cLine) (I : Inv X pins σ H s) (g : DGetK X.K H a y (some v)) (ry : RelV y u) (h : ∀ w' s', Inv X pins σ H s' → RelV v w' → Q w' s') :
    wpAny (model X.prog X.w) A (getItem (.ref a) u) Q E s := by
  rcases g with ⟨kvs, k, e, ey, l⟩ | ⟨kvs, k, b, e, ey, eb, l⟩
  · exact d_getItem hu I (.inl ⟨kvs, k, e, ey, l⟩) ry h
  · subst ey
    cases (show u = Value.ref b from ry)
    obtain ⟨z, hd, xs, rel, dd⟩ := dt_rd I.hok e
    obtain ⟨w', hw, rw'⟩ := RelO.some_of (v := v) (o := (atKey xs k).map (·.2)) (by rw [l]; exact rel.val k)
    obtain ⟨p, hp, hp2⟩ := Option.map_eq_some_iff.mp hw
    refine wpAny_getItem_heap (tupleKind_room_in1 hu) (key_ofT I eb) dd hp ?_
    rw [hp2]
    exact h w' _ (I.tok _) rw'
theorem dk_in {Q : Value → Shared → Prop} (hu : A.units + 1 < cLine) (I : Inv X pins σ H s) (g : DGetK X.K H a y o) (ry : RelV y u) (h : ∀ s', Inv X pins σ H s' → Q (.bool o.isSome) s') :
    wpAny (model X.prog X.w) A (compareOp .In u (.ref a)) Q E s := by
  rcases g with ⟨kvs, k, e, ey, l⟩ | ⟨kvs, k, b, e, ey, eb, l⟩
  · exact d_in hu I (.inl ⟨kvs, k, e, ey, l⟩) ry h
  · subst ey
    cases (show u = Value.ref b from ry)
    obtain ⟨z, hd, xs, rel, dd⟩ := dt_rd I.hok e
    refine wpAny_in_heap (tupleKind_room_in1 hu) (key_ofT I eb) hd dd ?_
    have q := (rel.val k).isSome_eq
    rw [Option.isSome_map] at q
    rw [← q, ← l]
    exact h _ (I.tok _)
theorem dk_notIn {Q : Value → Shared → Prop} (hu : A.units + 1 < cLine) (I : Inv X pins σ H s) (g : DGetK X.K H a y o) (ry : RelV y u) (h : ∀ s', Inv X pins σ H s' → Q (.bool (!o.isSome)) s') :
    wpAny (model X.prog X.w) A (compareOp .NotIn u (.ref a)) Q E s := by
  rcases g with ⟨kvs, k, e, ey, l⟩ | ⟨kvs, k, b, e, ey, eb, l⟩
  · exact d_notIn hu I (.inl ⟨kvs, k, e, ey, l⟩) ry h
  · subst ey
    cases (show u = Value.ref b from ry)
    obtain ⟨z, hd, xs, rel, dd⟩ := dt_rd I.hok e
    refine wpAny_notIn_heap (tupleKind_room_in1 hu) (key_ofT I eb) hd dd ?_
    have q := (rel.val k).isSome_eq
    rw [Option.isSome_map] at q
    rw [← q, ← l]
    exact h _ (I.tok _)
end
/-- a dict, a key: what the layer finds -/
theorem dget_rep {t : Bool} {kvs : List (U × U)} {u uk : U} {v vk : V} (B : BSim G b W s σ H) (r : Rep G W u v) (e : dctOf s.hp u = some (t, kvs)) (rk : Rep G W uk vk) (hk : keyOk t uk = true) :
    ∃ a o, v = .ref a ∧ DGetK G.K H a vk o ∧ (match dget kvs uk with | some w => ∃ x, o = some x ∧ Rep G W w x | none => o = none) := by
  have main : ∀ a, v = .ref a → ((t = false ∧ ∃ es, H a = some (.dK es) ∧ RepK G W kvs es) ∨ (t = true ∧ ∃ es, H a = some (.dT es) ∧ RepT G W kvs es)) →
      ∃ a o, v = .ref a ∧ DGetK G.K H a vk o ∧ (match dget kvs uk with | some w => ∃ x, o = some x ∧ Rep G W w x | none => o = none) := by
    rintro a ea (⟨ht, es, he, rr⟩ | ⟨ht, es, he, rr⟩)
    · subst ht
      obtain ⟨k, ek⟩ := keyOf_some hk
      have q := valK ek rr
      exact ⟨a, valV es k, ea, .inl ⟨es, k, .inl he, keyOf_rep rk ek, rfl⟩, q⟩
    · subst ht
      cases uk <;> first | exact absurd hk Bool.false_ne_true | skip
      rename_i xs
      obtain ⟨ks, ek⟩ := mapO_key (xs := xs) hk
      obtain ⟨bb, ws, rfl, sq, rws⟩ := tup_rep B rk
      have q := valT (u := .tup xs) (k := ks) ek rr
      exact ⟨a, valV es ks, ea, .inr ⟨es, ks, bb, .inl he, rfl, by rw [← keys_rep rws ek]; exact sq, rfl⟩, q⟩
  cases r with
  | dK h rr =>
    simp only [dctOf, Option.some.injEq, Prod.mk.injEq] at e
    obtain ⟨rfl, rfl⟩ := e
    exact main _ rfl (.inl ⟨rfl, _, B.fzin h, rr⟩)
  | dT h rr =>
    simp only [dctOf, Option.some.injEq, Prod.mk.injEq] at e
    obtain ⟨rfl, rfl⟩ := e
    exact main _ rfl (.inr ⟨rfl, _, B.fzin h, rr⟩)
  | @ref n a hm =>
    simp only [dctOf] at e
    split at e
    · rename_i t' kvs' hk'
      simp only [Option.some.injEq, Prod.mk.injEq] at e
      obtain ⟨rfl, rfl⟩ := e
      have q := B.h.box n _ a hk' hm
      cases t'
      · exact main a rfl (.inl ⟨rfl, q⟩)
      · exact main a rfl (.inr ⟨rfl, q⟩)
    · cases e
  | _ => simp [dctOf] at e

/-! ### comparisons -/
def rInT (K : PySem.W.Frag) : R2 := fun x y H Q => ∃ d ds, Dp K H x d ∧ Dp K H y (.tuple ds) ∧ SeqAt.shaped d = true ∧ SeqAt.shaped (.tuple ds) = true ∧ Q (.bl (ds.any fun z => PyData.eqv z d)) H
def rNotInT (K : PySem.W.Frag) : R2 := fun x y H Q => ∃ d ds, Dp K H x d ∧ Dp K H y (.tuple ds) ∧ SeqAt.shaped d = true ∧ SeqAt.shaped (.tuple ds) = true ∧ Q (.bl (!ds.any fun z => PyData.eqv z d)) H
theorem op_inT {X : Cx} (hu : X.A.units + 65 < cLine) : OpR X (compareOp .In) (rInT X.K) := by
  intro pins s σ H x y v u Q I rx ry h
  obtain ⟨d, ds, hd, he, sd, se, q⟩ := h
  obtain ⟨as, r1⟩ := Dp.reads I d x v hd rx
  obtain ⟨bs, r2⟩ := Dp.reads I (.tuple ds) y u he ry
  exact SeqAt.in_tuple_reads r2 r1 (SeqAt.canLay_of_shaped se) (SeqAt.canLay_of_shaped sd) (room_in_shaped sd hu) ⟨.bl _, H, I, rfl, q⟩
theorem op_notInT {X : Cx} (hu : X.A.units + 65 < cLine) : OpR X (compareOp .NotIn) (rNotInT X.K) := by
  intro pins s σ H x y v u Q I rx ry h
  obtain ⟨d, ds, hd, he, sd, se, q⟩ := h
  obtain ⟨as, r1⟩ := Dp.reads I d x v hd rx
  obtain ⟨bs, r2⟩ := Dp.reads I (.tuple ds) y u he ry
  exact SeqAt.notIn_tuple_reads r2 r1 (SeqAt.canLay_of_shaped se) (SeqAt.canLay_of_shaped sd) (room_in_shaped sd hu) ⟨.bl _, H, I, rfl, q⟩
def rInK (K : PySem.W.Frag) : R2 := fun x y H Q => ∃ a o, y = .ref a ∧ DGetK K H a x o ∧ Q (.bl o.isSome) H
def rNotInK (K : PySem.W.Frag) : R2 := fun x y H Q => ∃ a o, y = .ref a ∧ DGetK K H a x o ∧ Q (.bl (!o.isSome)) H
theorem op_inK {X : Cx} (hu : X.A.units + 1 < cLine) : OpR X (compareOp .In) (rInK X.K) := by
  intro pins s σ H x y v u Q I rx ry h
  obtain ⟨a, o, rfl, g, q⟩ := h
  cases ry
  exact dk_in hu I g rx fun s' I' => ⟨.bl _, H, I', rfl, q⟩
theorem op_notInK {X : Cx} (hu : X.A.units + 1 < cLine) : OpR X (compareOp .NotIn) (rNotInK X.K) := by
  intro pins s σ H x y v u Q I rx ry h
  obtain ⟨a, o, rfl, g, q⟩ := h
  cases ry
  exact dk_notIn hu I g rx fun s' I' => ⟨.bl _, H, I', rfl, q⟩
def rSign : R2 := fun x y H Q => ∃ (c : Nat) (z : PySem.Str), x = .str ⟨#[c]⟩ ∧ y = .str z ∧ Q (.bl (decide (c ∈ z.cps.toList))) H
def rNotSign : R2 := fun x y H Q => ∃ (c : Nat) (z : PySem.Str), x = .str ⟨#[c]⟩ ∧ y = .str z ∧ Q (.bl (!decide (c ∈ z.cps.toList))) H
def cmpR (K : PySem.W.Frag) : Cop → R2
  | .eq => rEqD K
  | .ne => rNeD K
  | .lt => rI0 fun i j => .bl (decide (i < j))
  | .le => rI0 fun i j => .bl (decide (i ≤ j))
  | .gt => rI0 fun i j => .bl (decide (j < i))
  | .ge => rI0 fun i j => .bl (decide (j ≤ i))
  | .isin => fun x y H Q => rSign x y H Q ∨ rInD K x y H Q ∨ rInT K x y H Q ∨ rInK K x y H Q
  | .notin => fun x y H Q => rNotSign x y H Q ∨ rNotInD K x y H Q ∨ rNotInT K x y H Q ∨ rNotInK K x y H Q
def copP : Cop → CmpOp
  | .eq => .Eq | .ne => .NotEq | .lt => .Lt | .le => .LtE | .gt => .Gt | .ge => .GtE | .isin => .In | .notin => .NotIn
theorem op_cmp {X : Cx} (hu : X.A.units + 65 < cLine) (op : Cop) : OpR X (compareOp (copP op)) (cmpR X.K op) := by
  cases op with
  | eq => exact op_eqD (by omega)
  | ne => exact op_neD (by omega)
  | lt => exact op_lt
  | le => exact op_le
  | gt => exact op_gt
  | ge => exact op_ge
  | isin => exact OpR.or op_in_sign (OpR.or (op_inD hu) (OpR.or (op_inT hu) (op_inK (by omega))))
  | notin => exact OpR.or op_notIn_sign (OpR.or (op_notInD hu) (OpR.or (op_notInT hu) (op_notInK (by omega))))

theorem any_toD {x : U} (hx : plainU x = true) : ∀ {ys : List U}, plainU.plains ys = true → (ys.any fun y => eqU y x) = (toD.toDs ys).any fun z => PyData.eqv z (toD x)
  | [], _ => rfl
  | y :: ys, h => by
    simp only [plainU.plains, Bool.and_eq_true] at h
    simp only [toD.toDs, List.any_cons]
    rw [any_toD hx h.2, eqU_toD y x h.1 hx]
theorem shaped_all {d : PyData} (h1 : d.canLay0 = true) (h2 : d.depth ≤ 64) : SeqAt.shaped d = true := by
  unfold SeqAt.shaped
  rw [h1, decide_eq_true h2] <;> rfl
/-- eq, ne -/
theorem eqH_snd {k : Bool} {u u2 : U} {v v2 : V} (B : BSim G b W s σ H) (r1 : Rep G W u v) (r2 : Rep G W u2 v2) (e : eqH s.hp u u2 = some k) :
    ∃ d d2, Dp G.K H v d ∧ Dp G.K H v2 d2 ∧ SeqAt.shaped d = true ∧ SeqAt.shaped d2 = true ∧ PyData.eqv d d2 = k := by
  unfold eqH at e
  split at e
  · rename_i x y hx hy
    have d1 := res_snd B DEEP u v x r1 hx
    have d2 := res_snd B DEEP u2 v2 y r2 hy
    simp only [Option.some.injEq] at e
    exact ⟨_, _, d1.dp, d2.dp, d1.shaped (by decide), d2.shaped (by decide), by rw [← eqU_toD x y d1.pl d2.pl]; exact e⟩
  · cases e
/-- in -/
theorem inH_snd {k : Bool} {u u2 : U} {v v2 : V} (B : BSim G b W s σ H) (r1 : Rep G W u v) (r2 : Rep G W u2 v2) (e : inH s.hp u u2 = some k) :
    (∃ (c : Nat) (z : PySem.Str), v = .str ⟨#[c]⟩ ∧ v2 = .str z ∧ decide (c ∈ z.cps.toList) = k) ∨
    (∃ d ds, Dp G.K H v d ∧ Dp G.K H v2 (.list ds) ∧ SeqAt.shaped d = true ∧ SeqAt.shaped (.list ds) = true ∧ (ds.any fun z => PyData.eqv z d) = k) ∨
    (∃ d ds, Dp G.K H v d ∧ Dp G.K H v2 (.tuple ds) ∧ SeqAt.shaped d = true ∧ SeqAt.shaped (.tuple ds) = true ∧ (ds.any fun z => PyData.eqv z d) = k) ∨
    (∃ a o, v2 = .ref a ∧ DGetK G.K H a v o ∧ o.isSome = k) := by
  have seqs : ∀ {xs : List U} {vs : List V}, Reps G W xs vs → (match res s.hp DEEP u, mapO (res s.hp DEEP) xs with
      | some x, some ys => some (ys.any fun y => eqU y x)
      | _, _ => none) = some k → ∃ d ds, Dp G.K H v d ∧ DpAll G.K H vs ds ∧ SeqAt.shaped d = true ∧ PyData.canLayAll0 ds = true ∧ PyData.depthAll ds ≤ 20 ∧ (ds.any fun z => PyData.eqv z d) = k := by
    intro xs vs rs e
    split at e
    · rename_i x ys hx hy
      simp only [Option.some.injEq] at e
      have d1 := res_snd B DEEP u v x r1 hx
      obtain ⟨a1, a2, a3, a4⟩ := dpAll (fun x v w => res_snd B DEEP x v w) rs hy
      exact ⟨_, _, d1.dp, a1, d1.shaped (by decide), a3, a4, by rw [← any_toD d1.pl a2]; exact e⟩
    · cases e
  have dcts : ∀ {t : Bool} {kvs : List (U × U)}, dctOf s.hp u2 = some (t, kvs) → (if keyOk t u then some (dget kvs u).isSome else none) = some k → ∃ a o, v2 = .ref a ∧ DGetK G.K H a v o ∧ o.isSome = k := by
    intro t kvs h1 h2
    split at h2
    · rename_i hk
      simp only [Option.some.injEq] at h2
      obtain ⟨a, o, e1, e2, e3⟩ := dget_rep B r2 h1 r1 hk
      refine ⟨a, o, e1, e2, ?_⟩
      cases hd : dget kvs u with
      | none => rw [hd] at e3 h2; rw [show o = none from e3, ← h2]; rfl
      | some w =>
        rw [hd] at e3 h2
        obtain ⟨x, e4, _⟩ := e3
        rw [e4, ← h2]; rfl
    · cases h2
  have sq : ∀ {ds : List PyData}, PyData.canLayAll0 ds = true → PyData.depthAll ds ≤ 20 → SeqAt.shaped (.list ds) = true ∧ SeqAt.shaped (.tuple ds) = true := fun h1 h2 =>
    ⟨shaped_all (by simpa only [PyData.canLay0] using h1) (by simp only [PyData.depth]; omega), shaped_all (by simpa only [PyData.canLay0] using h1) (by simp only [PyData.depth]; omega)⟩
  cases r2 with
  | str z hz hzc =>
    cases u <;> first | (simp [inH] at e; done) | skip
    rename_i x
    cases r1
    simp only [inH] at e
    split at e
    · rename_i c hc
      simp only [U.str.injEq] at hc
      subst hc
      simp only [Option.some.injEq] at e
      exact .inl ⟨c, _, rfl, rfl, by simpa using e⟩
    · cases e
  | tup h rs =>
    obtain ⟨d, ds, h1, h2, h3, h4, h5, h6⟩ := seqs rs e
    exact .inr (.inr (.inl ⟨d, ds, h1, .tup (SqT.of (B.fzin h)) h2, h3, (sq h4 h5).2, h6⟩))
  | ktup h _ rs =>
    obtain ⟨d, ds, h1, h2, h3, h4, h5, h6⟩ := seqs rs e
    exact .inr (.inr (.inl ⟨d, ds, h1, .tup (.inr h) h2, h3, (sq h4 h5).2, h6⟩))
  | lst h rs =>
    obtain ⟨d, ds, h1, h2, h3, h4, h5, h6⟩ := seqs rs e
    exact .inr (.inl ⟨d, ds, h1, .lst (SqL.of (B.fzin h)) h2, h3, (sq h4 h5).1, h6⟩)
  | @ref n a hm =>
    simp only [inH] at e
    split at e
    · rename_i t kvs hk
      exact .inr (.inr (.inr (dcts (by simp only [dctOf, hk]) e)))
    · rename_i xs hk
      obtain ⟨vs, q1, q2⟩ := B.h.box n (.lst xs) a hk hm
      obtain ⟨d, ds, h1, h2, h3, h4, h5, h6⟩ := seqs q2 e
      exact .inr (.inl ⟨d, ds, h1, .lst (SqL.of q1) h2, h3, (sq h4 h5).1, h6⟩)
    · cases e
  | dK h rr => exact .inr (.inr (.inr (dcts rfl e)))
  | dT h rr => exact .inr (.inr (.inr (dcts rfl e)))
  | _ => simp [inH] at e
theorem cmp_snd {Q : VK} {op : Cop} {k : Bool} {u u2 : U} {v v2 : V} (B : BSim G b W s σ H) (r1 : Rep G W u v) (r2 : Rep G W u2 v2) (e : cmpH s.hp op u u2 = some k) (q : Q (.bl k) H) : cmpR G.K op v v2 H Q := by
  cases op with
  | eq =>
    obtain ⟨d, d2, h1, h2, h3, h4, rfl⟩ := eqH_snd B r1 r2 e
    exact ⟨d, d2, h1, h2, h3, h4, q⟩
  | ne =>
    obtain ⟨k', e', rfl⟩ := Option.map_eq_some_iff.mp e
    obtain ⟨d, d2, h1, h2, h3, h4, rfl⟩ := eqH_snd B r1 r2 e'
    exact ⟨d, d2, h1, h2, h3, h4, q⟩
  | isin =>
    rcases inH_snd B r1 r2 e with ⟨c, z, h1, h2, rfl⟩ | ⟨d, ds, h1, h2, h3, h4, rfl⟩ | ⟨d, ds, h1, h2, h3, h4, rfl⟩ | ⟨a, o, h1, h2, rfl⟩
    · exact .inl ⟨c, z, h1, h2, q⟩
    · exact .inr (.inl ⟨d, ds, h1, h2, h3, h4, q⟩)
    · exact .inr (.inr (.inl ⟨d, ds, h1, h2, h3, h4, q⟩))
    · exact .inr (.inr (.inr ⟨a, o, h1, h2, q⟩))
  | notin =>
    obtain ⟨k', e', rfl⟩ := Option.map_eq_some_iff.mp e
    rcases inH_snd B r1 r2 e' with ⟨c, z, h1, h2, rfl⟩ | ⟨d, ds, h1, h2, h3, h4, rfl⟩ | ⟨d, ds, h1, h2, h3, h4, rfl⟩ | ⟨a, o, h1, h2, rfl⟩
    · exact .inl ⟨c, z, h1, h2, q⟩
    · exact .inr (.inl ⟨d, ds, h1, h2, h3, h4, q⟩)
    · exact .inr (.inr (.inl ⟨d, ds, h1, h2, h3, h4, q⟩))
    · exact .inr (.inr (.inr ⟨a, o, h1, h2, q⟩))
  | lt => cases r1 <;> cases r2 <;> first | (simp [cmpH] at e; done) | (simp only [cmpH, Option.some.injEq] at e; subst e; exact ⟨_, _, rfl, rfl, q⟩)
  | le => cases r1 <;> cases r2 <;> first | (simp [cmpH] at e; done) | (simp only [cmpH, Option.some.injEq] at e; subst e; exact ⟨_, _, rfl, rfl, q⟩)
  | gt => cases r1 <;> cases r2 <;> first | (simp [cmpH] at e; done) | (simp only [cmpH, Option.some.injEq] at e; subst e; exact ⟨_, _, rfl, rfl, q⟩)
  | ge => cases r1 <;> cases r2 <;> first | (simp [cmpH] at e; done) | (simp only [cmpH, Option.some.injEq] at e; subst e; exact ⟨_, _, rfl, rfl, q⟩)
end
end Pix
end
section
set_option Elab.async false
set_option linter.all false
set_option maxRecDepth 100000
set_option maxHeartbeats 1000000
/-! PixB4: len, subscripts, slices, stores, built-ins: the own ones against the layer's. -/
namespace Pix
open PySem PySem.Spec PyProof.Rows L2

section
variable {G : Gl0} {b : Ba} {W : Wd} {s : St} {σ : L2.St} {H : L2.Hp} {p : Addr} {o : HO} {Wx : WX}

theorem CallR.or {X : Cx} {f : Value} {r r' : List V → L2.Hp → VK → Prop} (h : CallR X f r) (h' : CallR X f r') : CallR X f (fun xs H Q => r xs H Q ∨ r' xs H Q) := by
  intro pins s σ H xs us Q I r q
  rcases q with q | q
  · exact h pins s σ H xs us Q I r q
  · exact h' pins s σ H xs us Q I r q

/-! ### len -/
def rLen3 (K : PySem.W.Frag) : List V → L2.Hp → VK → Prop := fun xs H Q => (∃ x n, xs = [x] ∧ LenV K x H n ∧ Q (.int n) H) ∨ (∃ a kvs, xs = [V.ref a] ∧ H a = some (.dK kvs) ∧ Q (.int kvs.length) H) ∨ rLenT xs H Q
theorem cr_len {X : Cx} : CallR X (.builtin "len") (rLen3 X.K) := CallR.or call_len (CallR.or call_lenD call_len_dT)
theorem len_snd {Q : VK} {u : U} {v : V} {n : Nat} (B : BSim G b W s σ H) (r : Rep G W u v) (e : lenH s.hp u = some n) (q : Q (.int n) H) : rLen3 G.K [v] H Q := by
  have hl := line_eq
  cases r with
  | str x hx hxc => simp only [lenH, Option.some.injEq] at e; subst e; exact .inl ⟨_, _, rfl, ⟨by rw [str_len]; omega, by rw [str_len]⟩, q⟩
  | tup h rs => simp only [lenH, Option.some.injEq] at e; subst e; exact .inl ⟨_, _, rfl, .inr ⟨_, SqT.of (B.fzin h), rfl⟩, by rw [← rs.length]; exact q⟩
  | ktup h _ rs => simp only [lenH, Option.some.injEq] at e; subst e; exact .inl ⟨_, _, rfl, .inr ⟨_, .inr h, rfl⟩, by rw [← rs.length]; exact q⟩
  | lst h rs => simp only [lenH, Option.some.injEq] at e; subst e; exact .inl ⟨_, _, rfl, .inl ⟨_, SqL.of (B.fzin h), rfl⟩, by rw [← rs.length]; exact q⟩
  | scr t => simp only [lenH, Option.some.injEq] at e; subst e; exact .inl ⟨_, _, rfl, .inl ⟨_, t.sq B.h.fz, rfl⟩, by rw [List.length_map]; exact q⟩
  | dK h rr => simp only [lenH, Option.some.injEq] at e; subst e; exact .inr (.inl ⟨_, _, rfl, B.fzin h, by rw [← rr.length]; exact q⟩)
  | dT h rr => simp only [lenH, Option.some.injEq] at e; subst e; exact .inr (.inr ⟨_, _, rfl, B.fzin h, by rw [← rr.length]; exact q⟩)
  | @ref k a hm =>
    simp only [lenH] at e
    split at e
    · rename_i xs hk
      simp only [Option.some.injEq] at e; subst e
      obtain ⟨vs, h1, h2⟩ := B.h.box k (.lst xs) a hk hm
      exact .inl ⟨_, _, rfl, .inl ⟨_, SqL.of h1, rfl⟩, by rw [← h2.length]; exact q⟩
    · rename_i t kvs hk
      simp only [Option.some.injEq] at e; subst e
      have z := B.h.box k _ a hk hm
      cases t
      · obtain ⟨es, h1, h2⟩ := z
        exact .inr (.inl ⟨_, _, rfl, h1, by rw [← h2.length]; exact q⟩)
      · obtain ⟨es, h1, h2⟩ := z
        exact .inr (.inr ⟨_, _, rfl, h1, by rw [← h2.length]; exact q⟩)
    · cases e
  | _ => simp [lenH] at e

/-! ### subscripts -/
theorem ixN_eq (n : Nat) (i : Int) : L2.ixN n i = Pix.ixN n i := rfl
theorem atL_rep {xs : List U} {vs : List V} {i : Int} {x : U} (r : Reps G W xs vs) (e : atL xs i = some x) : ∃ v, atI vs i = some v ∧ Rep G W x v := by
  unfold atL at e
  split at e
  · rename_i k hk
    obtain ⟨v, h1, h2⟩ := r.get e
    refine ⟨v, ?_, h2⟩
    unfold atI
    rw [ixN_eq, ← r.length, hk]
    exact h1
  · cases e
def rIxD (K : PySem.W.Frag) : R2 := fun x y H Q => ∃ a v, x = .ref a ∧ DGetK K H a y (some v) ∧ Q v H
def rIx4 (K : PySem.W.Frag) : R2 := fun x y H Q => rIx K x y H Q ∨ rIxD K x y H Q
theorem dk_typeIs {X : Cx} {pins : List (Addr × Obj)} {σ : L2.St} {H : L2.Hp} {s : Shared} {a : Addr} {y : V} {o : Option V} (I : Inv X pins σ H s) (g : DGetK X.K H a y o) : s.TypeIs (.ref a) "dict" := by
  rcases g with ⟨kvs, k, e, _, _⟩ | ⟨kvs, k, b, e, _, _, _⟩
  · obtain ⟨_, _, vs, _, dd⟩ := dk_rd I.hok e
    exact dd.typeIs
  · obtain ⟨_, _, xs, _, dd⟩ := dt_rd I.hok e
    exact dd.typeIs
theorem ix_dK {X : Cx} (hu : X.A.units + 1 < cLine) : IxR X (rIxD X.K) := by
  intro value slice pins s σ H x y v u Q I rx ry h hs
  obtain ⟨a, z, rfl, g, q⟩ := h
  cases rx
  exact tail_any (dk_typeIs I g) PySem.F.slot_dict_getitem.lookup (dk_getItem hu I g ry fun w' s' I' r' => ⟨z, H, I', r', q⟩) hs
theorem ix4 {X : Cx} (hu : X.A.units + 1 < cLine) : IxR X (rIx4 X.K) := ix_seq.or (ix_dK hu)
/-- ixU told apart: a dict, a text, a list or a tuple -/
theorem ixU_ok {a c x : U} {s s' : St} (e : ixU a c s = .ok x s') : s' = s ∧ ((∃ t kvs, dctOf s.hp a = some (t, kvs) ∧ keyOk t c = true ∧ dget kvs c = some x) ∨ (∃ z i d, a = .str z ∧ c = .int i ∧ atL z i = some d ∧ x = .str [d]) ∨ ∃ xs i, seqOf s.hp a = some xs ∧ c = .int i ∧ atL xs i = some x) := by
  have dd : ∀ {t kvs}, dixU t kvs c s = .ok x s' → s' = s ∧ keyOk t c = true ∧ dget kvs c = some x := by
    intro t kvs h
    unfold dixU at h
    split at h
    · rename_i hk
      split at h
      · rename_i v hv
        cases h; exact ⟨rfl, hk, hv⟩
      · cases h
    · cases h
  have oo : ∀ {o : Option U}, opt o s = .ok x s' → s' = s ∧ o = some x := by
    intro o h
    unfold opt at h
    split at h
    · cases h; exact ⟨rfl, rfl⟩
    · cases h
  have sq : ∀ {o : Option (List U)}, ixSq o c s = .ok x s' → s' = s ∧ ∃ xs i, o = some xs ∧ c = .int i ∧ atL xs i = some x := by
    intro o h
    cases c <;> first | (cases h; done) | skip
    rename_i i
    cases o with
    | none => cases h
    | some xs =>
      obtain ⟨h1, h2⟩ := oo h
      exact ⟨h1, xs, i, rfl, rfl, h2⟩
  have fin : ixSq (seqOf s.hp a) c s = .ok x s' → s' = s ∧ ((∃ t kvs, dctOf s.hp a = some (t, kvs) ∧ keyOk t c = true ∧ dget kvs c = some x) ∨ (∃ z i d, a = .str z ∧ c = .int i ∧ atL z i = some d ∧ x = .str [d]) ∨ ∃ xs i, seqOf s.hp a = some xs ∧ c = .int i ∧ atL xs i = some x) := fun h =>
    let ⟨h1, h2⟩ := sq h; ⟨h1, .inr (.inr h2)⟩
  cases a with
  | dct t kvs =>
    obtain ⟨h1, h2, h3⟩ := dd e
    exact ⟨h1, .inl ⟨_, _, rfl, h2, h3⟩⟩
  | ref r =>
    cases hk : s.hp[r]? with
    | none => simp only [ixU, hk] at e; cases e
    | some o =>
      cases o with
      | dct t kvs =>
        simp only [ixU, hk] at e
        obtain ⟨h1, h2, h3⟩ := dd e
        exact ⟨h1, .inl ⟨t, kvs, by simp only [dctOf, hk], h2, h3⟩⟩
      | lst xs =>
        simp only [ixU, hk] at e
        refine fin ?_
        simp only [seqOf, hk]
        exact e
      | ins cc fs => simp only [ixU, hk] at e; cases e
  | str z =>
    cases c <;> first | (cases e; done) | skip
    rename_i i
    simp only [ixU] at e
    cases hd : atL z i with
    | none => simp only [hd] at e; cases e
    | some d =>
      simp only [hd] at e
      cases e
      exact ⟨rfl, .inr (.inl ⟨z, i, d, rfl, rfl, hd, rfl⟩)⟩
  | _ => exact fin e
theorem opt_nex {α : Type} {o : Option α} {s s' : St} {c : Nat} {x : U} (h : opt o s = .ex c x s') : False := by
  unfold opt at h
  split at h <;> cases h
theorem dixU_nex {t : Bool} {kvs : List (U × U)} {y : U} {s s' : St} {c : Nat} {x : U} (h : dixU t kvs y s = .ex c x s') : False := by
  unfold dixU at h
  split at h
  · split at h <;> cases h
  · cases h
theorem ixSq_nex {o : Option (List U)} {y : U} {s s' : St} {c : Nat} {x : U} (e : ixSq o y s = .ex c x s') : False := by
  cases y <;> first | (cases e; done) | skip
  cases o with
  | none => cases e
  | some xs => exact opt_nex e
theorem ixU_nex {a y : U} {s s' : St} {c : Nat} {x : U} (e : ixU a y s = .ex c x s') : False := by
  cases a with
  | dct t kvs => exact dixU_nex e
  | ref r =>
    cases hk : s.hp[r]? with
    | none => simp only [ixU, hk] at e; cases e
    | some o => cases o <;> simp only [ixU, hk] at e <;> first | exact dixU_nex e | exact ixSq_nex e | cases e
  | str z =>
    cases y <;> first | (cases e; done) | skip
    rename_i i
    cases hd : atL z i <;> simp only [ixU, hd] at e <;> cases e
  | _ => (simp only [ixU] at e; exact ixSq_nex e)
/-- from okR of a result that is ok or bad -/
theorem okR.get {α : Type} {k : Wd → St → α → L2.Hp → Prop} {r : Re α} (h : okR G b W σ Wx k r) (nex : ∀ c u s', r ≠ .ex c u s') : ∃ a s', r = .ok a s' ∧ ∀ W' H', W.le W' → BSim G b W' s' σ H' → k W' s' a H' := by
  cases r with
  | ok a s1 => exact ⟨a, s1, rfl, h⟩
  | ex c u s1 => exact absurd rfl (nex c u s1)
  | bad => exact (show False from h).elim
theorem ix_snd {Q : VK} {u u2 : U} {v v2 : V} (B : BSim G b W s σ H) (r1 : Rep G W u v) (r2 : Rep G W u2 v2) (ok : okR G b W σ Wx (kV1 G Q) (ixU u u2 s)) : rIx4 G.K v v2 H Q := by
  have hl := line_eq
  obtain ⟨x, s', e, k⟩ := ok.get fun c y s' z => ixU_nex z
  obtain ⟨rfl, h⟩ := ixU_ok e
  have k' := k W H .rfl' B
  rcases h with ⟨t, kvs, h1, h2, h3⟩ | ⟨z, i, d, rfl, rfl, h3, rfl⟩ | ⟨xs, i, h1, rfl, h3⟩
  · obtain ⟨a, o, e1, e2, e3⟩ := dget_rep B r1 h1 r2 h2
    rw [h3] at e3
    obtain ⟨y, rfl, hy⟩ := e3
    exact .inr ⟨a, y, e1, e2, k' y hy⟩
  · cases r1 with
    | str _ hz hzc =>
    cases r2
    unfold atL at h3
    split at h3
    · rename_i j hj
      refine .inl (.inr (.inr ⟨_, i, d, rfl, rfl, by rw [str_len]; omega, ?_, ?_⟩))
      · unfold atI
        rw [ixN_eq]
        simp only [hj]
        simpa using h3
      · exact k' _ (.str [d] (by show (1:Nat) ≤ SZ; decide) fun c hc => by simp at hc; subst hc; exact hzc _ (List.mem_of_getElem? h3))
    · cases h3
  · obtain ⟨a, vs, rfl, h4, rs⟩ := seqOf_rep B r1 h1
    obtain ⟨y, h5, h6⟩ := atL_rep rs h3
    cases r2
    rcases h4 with h4 | h4
    · exact .inl (.inl ⟨a, vs, i, y, rfl, rfl, h4, h5, k' y h6⟩)
    · exact .inl (.inr (.inl ⟨a, vs, i, y, rfl, rfl, h4, h5, k' y h6⟩))
/-- xs[i] by itself: a list or a dict -/
theorem get_list {X : Cx} : PGet X (rIxL X.K) := by
  intro pins s σ H x y v u Q I rx ry h
  obtain ⟨p, xs, i, z, rfl, rfl, hq, he, q⟩ := h
  cases rx
  obtain ⟨t, rfl⟩ := ry
  obtain ⟨its, r, pl, hz⟩ := I.list hq
  obtain ⟨j, h1, h2, h3, h4, h5⟩ := atI_get he
  obtain ⟨w, ew, rw'⟩ := r.get h2
  have hl := r.length
  have hn := line63
  have fin : EP X pins σ Q w s := ⟨z, H, I, rw', q⟩
  by_cases h0 : 0 ≤ i
  · have hj : i.toNat = j := by
      rw [seqIndex_of h0 h5] at h1
      exact Option.some.inj h1
    exact wpAny_getItem_list pl.isList h0 (by omega) (by rw [hj]; simpa using ew) fin
  · have hj : (i + (its.toArray.size : Int)).toNat = j := by
      rw [seqIndex_neg (by omega) h4] at h1
      rw [List.size_toArray, ← hl]
      exact Option.some.inj h1
    exact wpAny_getItem_list_neg pl.isList (by omega) (by rw [List.size_toArray] <;> omega) (by omega) (by rw [hj]; simpa using ew) fin
theorem get_dK {X : Cx} (hu : X.A.units + 1 < cLine) : PGet X (rIxD X.K) := by
  intro pins s σ H x y v u Q I rx ry h
  obtain ⟨a, z, rfl, g, q⟩ := h
  cases rx
  exact dk_getItem hu I g ry fun w' s' I' r' => ⟨z, H, I', r', q⟩
def rGet2 (K : PySem.W.Frag) : R2 := fun x y H Q => rIxL K x y H Q ∨ rIxD K x y H Q
theorem get2 {X : Cx} (hu : X.A.units + 1 < cLine) : PGet X (rGet2 X.K) := by
  intro pins s σ H x y v u Q I rx ry h
  rcases h with h | h
  · exact get_list pins s σ H x y v u Q I rx ry h
  · exact get_dK hu pins s σ H x y v u Q I rx ry h

/-! ### slices -/
theorem sIx_cut (n d : Nat) (i : Int) : HT.sIx n d (some i) = cutN n i := rfl
theorem cutN_le (n : Nat) (i : Int) : cutN n i ≤ n ∨ i < 0 := by
  unfold cutN
  split
  · exact .inr (by assumption)
  · exact .inl (Nat.min_le_right _ _)
theorem cut_of {α : Type} (xs : List α) (lo hi : Option Int) : cut xs lo hi = (xs.drop (HT.sIx xs.length 0 lo)).take (HT.sIx xs.length xs.length hi - HT.sIx xs.length 0 lo) := by
  cases lo with
  | none =>
    cases hi with
    | none =>
      show xs = (xs.drop 0).take (xs.length - 0)
      simp
    | some j =>
      show xs.take (cutN xs.length j) = (xs.drop 0).take (cutN xs.length j - 0)
      simp
  | some i =>
    cases hi with
    | none =>
      show xs.drop (cutN xs.length i) = (xs.drop (cutN xs.length i)).take (xs.length - cutN xs.length i)
      rw [List.take_of_length_le (by simp)]
    | some j =>
      show (xs.take (cutN xs.length j)).drop (cutN xs.length i) = (xs.drop (cutN xs.length i)).take (cutN xs.length j - cutN xs.length i)
      rw [List.drop_take]
theorem Reps.cut {xs : List U} {vs : List V} (r : Reps G W xs vs) (lo hi : Option Int) : Reps G W (Pix.cut xs lo hi) (cutV vs lo hi) := by
  rw [cut_of]
  unfold cutV
  rw [← r.length]
  exact (r.drop _).take _
def rSl3 (K : PySem.W.Frag) : V → Option Int → Option Int → L2.Hp → VK → Prop := fun x lo hi H Q => rSlL K x lo hi H Q ∨ rSlA K x lo hi H Q ∨ rSlS x lo hi H Q
theorem sl3 {X : Cx} : SlR X (rSl3 X.K) := sl_list.or (sl_tupA.or sl_str)
theorem whole_cut {xs : List U} {lo hi : Option Int} (h : HT.sIx xs.length 0 lo = 0 ∧ HT.sIx xs.length xs.length hi = xs.length) : Pix.cut xs lo hi = xs := by
  rw [cut_of, h.1, h.2]; simp
theorem cutU_snd {Q : VK} {u : U} {v : V} {lo hi : Option Int} (B : BSim G b W s σ H) (r : Rep G W u v) (ok : okR G b W σ Wx (kV1 G Q) (cutU u lo hi s)) : rSl3 G.K v lo hi H Q := by
  have hl := line_eq
  have lst : ∀ {xs : List U}, lstOf s.hp u = some xs → okR G b W σ Wx (kV1 G Q) (.ok (.lst (Pix.cut xs lo hi)) s) → rSl3 G.K v lo hi H Q := by
    intro xs e ok
    obtain ⟨a, vs, rfl, h1, rs⟩ := lstOf_rep B r e
    refine .inl ⟨a, vs, rfl, SqL.of h1, fun p hp => ?_⟩
    have le := B.le_newF (o := .lst (cutV vs lo hi)) hp
    exact ok _ _ le (B.newF hp (fun _ z => by cases z)) _ (.lst Wd.addF_same ((rs.cut lo hi).mono le))
  cases u with
  | str x =>
    cases r with
    | str _ hx hxc =>
    refine .inr (.inr ⟨_, rfl, by rw [str_len]; omega, ?_⟩)
    have e : cutS ⟨x.toArray⟩ lo hi = ⟨(Pix.cut x lo hi).toArray⟩ := by
      unfold cutS
      rw [cut_of, str_len]
    rw [e]
    have le : ∀ c ∈ Pix.cut x lo hi, c ∈ x := fun c hc => by
      rw [cut_of] at hc
      exact List.mem_of_mem_drop (List.mem_of_mem_take hc)
    have ln : (Pix.cut x lo hi).length ≤ x.length := by
      rw [cut_of]; simp; omega
    exact ok W H .rfl' B _ (.str _ (by omega) fun c hc => hxc c (le c hc))
  | tup xs =>
    obtain ⟨a, vs, rfl, t, rs⟩ := tup_rep B r
    refine .inr (.inl ⟨a, vs, rfl, t, fun hw => ?_, fun _ p hp => ?_⟩)
    · rw [← rs.length] at hw
      have e := whole_cut hw
      refine ok W H .rfl' B _ ?_
      rw [e]; exact r
    · have le := B.le_newF (o := .tup (cutV vs lo hi)) hp
      exact ok _ _ le (B.newF hp (fun _ z => by cases z)) _ (.tup Wd.addF_same ((rs.cut lo hi).mono le))
  | lst xs => exact lst rfl ok
  | ref n =>
    simp only [cutU] at ok
    split at ok
    · rename_i xs hx
      exact lst hx ok
    · exact (show False from ok).elim
  | _ => exact (show False from ok).elim
theorem revU_snd {Q : VK} {u : U} {v : V} (B : BSim G b W s σ H) (r : Rep G W u v) {xs : List U} (e : lstOf s.hp u = some xs) (ok : okR G b W σ Wx (kV1 G Q) (.ok (.lst xs.reverse) s)) : ∃ a vs, v = .ref a ∧ SqL G.K H a vs ∧ ∀ p, H p = none → Q (.ref p) (upd H p (.lst vs.reverse)) := by
  obtain ⟨a, vs, rfl, h1, rs⟩ := lstOf_rep B r e
  refine ⟨a, vs, rfl, SqL.of h1, fun p hp => ?_⟩
  have le := B.le_newF (o := .lst vs.reverse) hp
  exact ok _ _ le (B.newF hp (fun _ z => by cases z)) _ (.lst Wd.addF_same (rs.rev.mono le))
end
end Pix
end
section
set_option Elab.async false
set_option linter.all false
set_option maxRecDepth 100000
set_option maxHeartbeats 1000000
/-! PixB5: isinstance, built-ins: the own ones against the layer's. -/
namespace Pix
open PySem PySem.Spec PyProof.Rows L2

/-! ### isinstance -/
def tyNm : Ty → String
  | .int => "int" | .bool => "bool" | .str => "str" | .tup => "tuple" | .lst => "list" | .cls _ => ""
def tyVal (G : Gl0) : Ty → Value
  | .cls c => .ref (G.ca c)
  | t => .type (tyNm t)
def tyVv (G : Gl0) : Ty → V
  | .cls c => .ref (G.ca c)
  | t => .ty (tyNm t)
theorem tyCls (G : Gl0) (t : Ty) : ClsV (tyVv G t) (tyVal G t) := by
  cases t <;> first | exact .ty _ | exact .own _
def tyOk (n : Nat) : Ty → Bool
  | .cls c => decide (c < n)
  | _ => true
structure ClsF (K : PySem.W.Frag) (C : Addr) : Prop where
  cl : Cls K C
  ha : PySem.W.findIn K (.ref C) "__class__" = some (some (.builtin "object.__class__"))
  hn : PySem.W.specialIn K (.builtin "object.__class__") "__get__" = some (some (.builtin "getset_descriptor.__get__"))
  htk : PySem.W.takesIn K (.builtin "object.__class__") = some true
  hm : PySem.W.mroIn K C (.type "object") = some true
/-- what is known of the written part -/
structure KOk (G : Gl0) : Prop where
  cls : ∀ c, c < G.nc → ClsF G.K (G.ca c)
  kty : ∀ c, c < G.nc → ∀ T ∈ ["int", "bool", "str", "tuple", "list"], PySem.W.kitOne G.K (.ref (G.ca c)) (.type T) = some false
  kcc : ∀ c d, c < G.nc → d < G.nc → PySem.W.kitOne G.K (.ref (G.ca c)) (.ref (G.ca d)) = some (decide (c = d))
  ktc : ∀ d, d < G.nc → ∀ T ∈ ["NoneType", "int", "bool", "str", "tuple", "list", "dict"], PySem.W.kitOne G.K (.type T) (.ref (G.ca d)) = some false
theorem kit_b (K : PySem.W.Frag) {a c : String} {r : Bool} (h : kitB a c = some r) : PySem.W.kitOne K (.type a) (.type c) = some r := kit_ty h
def kitTab : Bool := ["NoneType", "int", "bool", "str", "tuple", "list", "dict"].all fun a => ["int", "bool", "str", "tuple", "list"].all fun c => kitB a c == some (a == c || (a == "bool" && c == "int"))
theorem kitTab_ok : kitTab = true := by decide +kernel
theorem kit_tab (K : PySem.W.Frag) {a c : String} (ha : a ∈ ["NoneType", "int", "bool", "str", "tuple", "list", "dict"]) (hc : c ∈ ["int", "bool", "str", "tuple", "list"]) : PySem.W.kitOne K (.type a) (.type c) = some (a == c || (a == "bool" && c == "int")) := by
  have h := kitTab_ok
  unfold kitTab at h
  have h1 := List.all_eq_true.mp h a ha
  have h2 := List.all_eq_true.mp h1 c hc
  exact kit_b K (beq_iff_eq.mp h2)

section
variable {G : Gl0} {b : Ba} {W : Wd} {s : St} {σ : L2.St} {H : L2.Hp} {p : Addr} {o : HO} {Wx : WX}
theorem tyNm_mem {t : Ty} (h : ∀ c, t ≠ .cls c) : tyNm t ∈ ["int", "bool", "str", "tuple", "list"] := by
  cases t <;> first | exact absurd rfl (h _) | simp [tyNm]
/-- the type's name of a value that is no instance of an own class -/
theorem isi_base (k : KOk G) {a : String} {f : Ty → Bool} (ha : a ∈ ["NoneType", "int", "bool", "str", "tuple", "list", "dict"]) (hc : ∀ c, f (.cls c) = false)
    (hf : f .int = (a == "int" || a == "bool") ∧ f .bool = (a == "bool") ∧ f .str = (a == "str") ∧ f .tup = (a == "tuple") ∧ f .lst = (a == "list")) (t : Ty) (ht : tyOk G.nc t = true) :
    PySem.W.kitOne G.K (.type a) (tyVal G t) = some (f t) := by
  obtain ⟨h1, h2, h3, h4, h5⟩ := hf
  cases t with
  | cls c => rw [hc]; exact k.ktc c (of_decide_eq_true ht) a ha
  | int =>
    rw [h1, show tyVal G .int = .type "int" from rfl, kit_tab G.K ha (by simp)]
    simp
  | bool => rw [h2, show tyVal G .bool = .type "bool" from rfl, kit_tab G.K ha (by simp)]; simp
  | str => rw [h3, show tyVal G .str = .type "str" from rfl, kit_tab G.K ha (by simp)]; simp
  | tup => rw [h4, show tyVal G .tup = .type "tuple" from rfl, kit_tab G.K ha (by simp)]; simp
  | lst => rw [h5, show tyVal G .lst = .type "list" from rfl, kit_tab G.K ha (by simp)]; simp
theorem isi_snd (k : KOk G) {u : U} {v : V} (B : BSim G b W s σ H) (r : Rep G W u v) : ∃ tv, TyX G.K H v tv ∧ ∀ t, tyOk G.nc t = true → PySem.W.kitOne G.K tv (tyVal G t) = some (isI s.hp u t) := by
  cases r with
  | non => exact ⟨_, .base .non, isi_base k (by simp) (fun _ => rfl) ⟨rfl, rfl, rfl, rfl, rfl⟩⟩
  | bl x => exact ⟨_, .base (.bl _), isi_base k (by simp) (fun _ => rfl) ⟨rfl, rfl, rfl, rfl, rfl⟩⟩
  | int x => exact ⟨_, .base (.int _), isi_base k (by simp) (fun _ => rfl) ⟨rfl, rfl, rfl, rfl, rfl⟩⟩
  | str x _ _ => exact ⟨_, .base (.str _), isi_base k (by simp) (fun _ => rfl) ⟨rfl, rfl, rfl, rfl, rfl⟩⟩
  | tup h _ => exact ⟨_, .base (.tup (B.fzin h)), isi_base k (by simp) (fun _ => rfl) ⟨rfl, rfl, rfl, rfl, rfl⟩⟩
  | ktup h _ _ =>
    obtain ⟨o, its, n, h1, h2, _⟩ := h
    exact ⟨_, .kTuple h1 h2, isi_base k (by simp) (fun _ => rfl) ⟨rfl, rfl, rfl, rfl, rfl⟩⟩
  | lst h _ => exact ⟨_, .base (.lst (B.fzin h)), isi_base k (by simp) (fun _ => rfl) ⟨rfl, rfl, rfl, rfl, rfl⟩⟩
  | scr t =>
    rcases t with ⟨o, h⟩ | ⟨o, its, n, h1, h2, _⟩
    · exact ⟨_, .base (.frz (B.fzin h)), isi_base k (by simp) (fun _ => rfl) ⟨rfl, rfl, rfl, rfl, rfl⟩⟩
    · exact ⟨_, .kList h1 h2, isi_base k (by simp) (fun _ => rfl) ⟨rfl, rfl, rfl, rfl, rfl⟩⟩
  | dK h _ => exact ⟨_, .base (.dK (B.fzin h)), isi_base k (by simp) (fun _ => rfl) ⟨rfl, rfl, rfl, rfl, rfl⟩⟩
  | dT h _ => exact ⟨_, .base (.dT (B.fzin h)), isi_base k (by simp) (fun _ => rfl) ⟨rfl, rfl, rfl, rfl, rfl⟩⟩
  | @ref n a hm =>
    have hn : n < s.hp.length := by rw [B.h.len]; exact (List.getElem?_eq_some_iff.mp hm).1
    have hk : s.hp[n]? = some s.hp[n] := List.getElem?_eq_getElem hn
    have q := B.h.box n _ a hk hm
    generalize s.hp[n] = o at hk q
    cases o with
    | lst xs =>
      obtain ⟨vs, h1, _⟩ := q
      exact ⟨_, .base (.lst h1), isi_base k (by simp) (fun c => by simp only [isI, ins?, hk]; rfl) ⟨rfl, rfl, rfl, rfl, by simp only [isI, hk]; rfl⟩⟩
    | dct t kvs =>
      have e5 : isI s.hp (.ref n) .lst = false := by simp only [isI, hk]
      have ec : ∀ c, isI s.hp (.ref n) (.cls c) = false := fun c => by simp only [isI, ins?, hk]; rfl
      cases t
      · obtain ⟨es, h1, _⟩ := q
        exact ⟨_, .base (.dK h1), isi_base k (by simp) ec ⟨rfl, rfl, rfl, rfl, e5⟩⟩
      · obtain ⟨es, h1, _⟩ := q
        exact ⟨_, .base (.dT h1), isi_base k (by simp) ec ⟨rfl, rfl, rfl, rfl, e5⟩⟩
    | ins c fs =>
      obtain ⟨hc, dx, es, h1, _⟩ := q
      have F := k.cls c hc
      refine ⟨_, .base (.ins h1 F.cl F.ha F.hn F.htk F.hm), fun t ht => ?_⟩
      cases t with
      | cls d =>
        have e : isI s.hp (.ref n) (.cls d) = decide (c = d) := by simp only [isI, ins?, hk, Option.some.injEq]
        rw [e]; exact k.kcc c d hc (of_decide_eq_true ht)
      | lst =>
        have e : isI s.hp (.ref n) .lst = false := by simp only [isI, hk]
        rw [e]; exact k.kty c hc "list" (by simp)
      | int => exact k.kty c hc "int" (by simp)
      | bool => exact k.kty c hc "bool" (by simp)
      | str => exact k.kty c hc "str" (by simp)
      | tup => exact k.kty c hc "tuple" (by simp)
theorem isi_any {K : PySem.W.Frag} {tv : Value} {f : Ty → Bool} : ∀ {ts : List Ty}, (∀ t ∈ ts, PySem.W.kitOne K tv (tyVal G t) = some (f t)) → PySem.W.kitAny K tv (ts.map (tyVal G)) = some (ts.any f)
  | [], _ => rfl
  | t :: ts, h => by
    rw [List.map_cons]
    exact kitAny_cons (h t (by simp)) (fun e => by rw [List.any_cons, e, Bool.false_or]; exact isi_any fun x hx => h x (by simp [hx])) fun e => by rw [List.any_cons, e] <;> rfl

/-! ### built-ins of one argument -/
theorem ints_of : ∀ {xs : List U} {ns : List Int}, intsOf xs = some ns → xs = ns.map U.int
  | [], ns, h => by simp only [intsOf, mapO, Option.some.injEq] at h; subst h; rfl
  | x :: xs, ns, h => by
    unfold intsOf at h
    simp only [mapO] at h
    split at h
    · cases h
    · rename_i y hy
      split at h
      · cases h
      · rename_i ys hys
        cases h
        rw [ints_of (xs := xs) (ns := ys) hys]
        cases x <;> simp at hy
        subst hy; rfl
theorem strs_of : ∀ {xs : List U} {ns : List (List Nat)}, strsOf xs = some ns → xs = ns.map U.str
  | [], ns, h => by simp only [strsOf, mapO, Option.some.injEq] at h; subst h; rfl
  | x :: xs, ns, h => by
    unfold strsOf at h
    simp only [mapO] at h
    split at h
    · cases h
    · rename_i y hy
      split at h
      · cases h
      · rename_i ys hys
        cases h
        rw [strs_of (xs := xs) (ns := ys) hys]
        cases x <;> simp at hy
        subst hy; rfl
theorem bls_of : ∀ {xs : List U} {ns : List Bool}, blsOf xs = some ns → xs = ns.map U.bl
  | [], ns, h => by simp only [blsOf, mapO, Option.some.injEq] at h; subst h; rfl
  | x :: xs, ns, h => by
    unfold blsOf at h
    simp only [mapO] at h
    split at h
    · cases h
    · rename_i y hy
      split at h
      · cases h
      · rename_i ys hys
        cases h
        rw [bls_of (xs := xs) (ns := ys) hys]
        cases x <;> simp at hy
        subst hy; rfl
theorem Reps.strs_of : ∀ {ns : List (List Nat)} {vs : List V}, Reps G W (ns.map U.str) vs → ∀ x ∈ ns, x.length ≤ SZ ∧ ∀ c ∈ x, c < 1114112
  | [], _, .nil, x, hx => by simp at hx
  | n :: ns, _, .cons r rs, x, hx => by
    rcases List.mem_cons.mp hx with e | hx
    · subst e
      cases r with
      | str _ h hc => exact ⟨h, hc⟩
    · exact Reps.strs_of rs x hx
theorem Reps.of_strs : ∀ {ns : List (List Nat)}, (∀ x ∈ ns, x.length ≤ SZ ∧ ∀ c ∈ x, c < 1114112) → Reps G W (ns.map U.str) (ns.map fun s => V.str ⟨s.toArray⟩)
  | [], _ => .nil
  | n :: ns, h => .cons (.str n (h n (by simp)).1 (h n (by simp)).2) (Reps.of_strs fun x hx => h x (by simp [hx]))
theorem maxL_ge : ∀ (ns : List Int) (m : Int), m ≤ maxL m ns ∧ ∀ y ∈ ns, y ≤ maxL m ns
  | [], m => ⟨Int.le_refl _, fun y hy => by simp at hy⟩
  | x :: xs, m => by
    have ih := maxL_ge xs (if x > m then x else m)
    simp only [maxL]
    have h1 : m ≤ (if x > m then x else m) := by split <;> omega
    have h2 : x ≤ (if x > m then x else m) := by split <;> omega
    refine ⟨Int.le_trans h1 ih.1, fun y hy => ?_⟩
    rcases List.mem_cons.mp hy with e | hy
    · subst e; exact Int.le_trans h2 ih.1
    · exact ih.2 y hy
theorem maxL_mem : ∀ (ns : List Int) (m : Int), maxL m ns = m ∨ maxL m ns ∈ ns
  | [], m => .inl rfl
  | x :: xs, m => by
    simp only [maxL]
    rcases maxL_mem xs (if x > m then x else m) with h | h
    · rw [h]
      split
      · exact .inr (by simp)
      · exact .inl rfl
    · exact .inr (List.mem_cons_of_mem _ h)
theorem minL_le : ∀ (ns : List Int) (m : Int), minL m ns ≤ m ∧ ∀ y ∈ ns, minL m ns ≤ y
  | [], m => ⟨Int.le_refl _, fun y hy => by simp at hy⟩
  | x :: xs, m => by
    have ih := minL_le xs (if x < m then x else m)
    simp only [minL]
    have h1 : (if x < m then x else m) ≤ m := by split <;> omega
    have h2 : (if x < m then x else m) ≤ x := by split <;> omega
    refine ⟨Int.le_trans ih.1 h1, fun y hy => ?_⟩
    rcases List.mem_cons.mp hy with e | hy
    · subst e; exact Int.le_trans ih.1 h2
    · exact ih.2 y hy
theorem minL_mem : ∀ (ns : List Int) (m : Int), minL m ns = m ∨ minL m ns ∈ ns
  | [], m => .inl rfl
  | x :: xs, m => by
    simp only [minL]
    rcases minL_mem xs (if x < m then x else m) with h | h
    · rw [h]
      split
      · exact .inr (by simp)
      · exact .inl rfl
    · exact .inr (List.mem_cons_of_mem _ h)

theorem ofString_S (x : String) : PySem.Str.ofString x = ⟨(S x).toArray⟩ := by
  exact PySem.Str.ofString_eq_toList x
theorem S_ok (x : String) : ∀ c ∈ S x, c < 1114112 := by
  intro c hc
  unfold S at hc
  obtain ⟨d, _, rfl⟩ := List.mem_map.mp hc
  have := d.valid
  rcases this with h | h
  · show d.val.toNat < _; omega
  · show d.val.toNat < _; omega

def b1R (K : PySem.W.Frag) : B1 → List V → L2.Hp → VK → Prop
  | .int => fun xs H Q => (∃ i, xs = [.int i] ∧ Q (.int i) H) ∨ ∃ k, xs = [.bl k] ∧ Q (.int (if k then 1 else 0)) H
  | .abs => fun xs H Q => ∃ i, xs = [.int i] ∧ Q (.int (if i < 0 then -i else i)) H
  | .len => rLen3 K
  | .tup => fun xs H Q => ∃ p ys, xs = [.ref p] ∧ ((SqL K H p ys ∧ ∀ l, H l = none → Q (.ref l) (upd H l (.tup ys))) ∨ (SqT K H p ys ∧ Q (.ref p) H))
  | .sum => rSum K
  | .max => rMax K
  | .min => rMin K
  | .any => rAny K
  | .all => rAll K
  | .str => fun xs H Q => ∃ i, xs = [.int i] ∧ i.natAbs.log2 < 1920 ∧ Q (.str (toString i)) H
  | .repr => fun _ _ _ => False
  | .lenset => fun _ _ _ => False
theorem b1L_snd {Q : VK} {op : B1} {xs : List U} {a : Addr} {vs : List V} (B : BSim G b W s σ H) (hq : SqL G.K H a vs) (rs : Reps G W xs vs) (ok : okR G b W σ Wx (kV1 G Q) (b1L op xs s)) : b1R G.K op [.ref a] H Q := by
  have done : ∀ {w : U} {x : V}, okR G b W σ Wx (kV1 G Q) (.ok w s) → Rep G W w x → Q x H := fun ok r => ok W H .rfl' B _ r
  cases op with
  | len => exact .inl ⟨_, _, rfl, .inl ⟨_, hq, rfl⟩, by rw [← rs.length]; exact done ok (.int _)⟩
  | tup =>
    refine ⟨a, vs, rfl, .inl ⟨hq, fun l hl => ?_⟩⟩
    have le := B.le_newF (o := .tup vs) hl
    exact ok _ _ le (B.newF hl (fun _ z => by cases z)) _ (.tup Wd.addF_same (rs.mono le))
  | sum =>
    simp only [b1L] at ok
    split at ok
    · rename_i ns h2
      rw [ints_of h2] at rs
      rw [Reps.ints_of rs] at hq
      exact ⟨a, ns, rfl, hq, done ok (.int _)⟩
    · exact (show False from ok).elim
  | max =>
    simp only [b1L] at ok
    split at ok
    · rename_i n ns h2
      rw [ints_of h2] at rs
      rw [Reps.ints_of rs] at hq
      refine ⟨a, n :: ns, rfl, hq, by simp, fun m hm hy => ?_⟩
      have e : m = maxL n ns := by
        have g := maxL_ge ns n
        have g2 : m ≤ maxL n ns := by
          rcases List.mem_cons.mp hm with e | e
          · rw [e]; exact g.1
          · exact g.2 m e
        have g3 : maxL n ns ≤ m := by
          rcases maxL_mem ns n with e | e
          · rw [e]; exact hy n (by simp)
          · exact hy _ (List.mem_cons_of_mem _ e)
        omega
      rw [e]; exact done ok (.int _)
    · exact (show False from ok).elim
  | min =>
    simp only [b1L] at ok
    split at ok
    · rename_i n ns h2
      rw [ints_of h2] at rs
      rw [Reps.ints_of rs] at hq
      refine ⟨a, n :: ns, rfl, hq, by simp, fun m hm hy => ?_⟩
      have e : m = minL n ns := by
        have g := minL_le ns n
        have g2 : minL n ns ≤ m := by
          rcases List.mem_cons.mp hm with e | e
          · rw [e]; exact g.1
          · exact g.2 m e
        have g3 : m ≤ minL n ns := by
          rcases minL_mem ns n with e | e
          · rw [e]; exact hy n (by simp)
          · exact hy _ (List.mem_cons_of_mem _ e)
        omega
      rw [e]; exact done ok (.int _)
    · exact (show False from ok).elim
  | any =>
    simp only [b1L] at ok
    split at ok
    · rename_i ns h2
      rw [bls_of h2] at rs
      rw [Reps.bls rs] at hq
      exact ⟨a, ns, rfl, hq, done ok (.bl _)⟩
    · exact (show False from ok).elim
  | all =>
    simp only [b1L] at ok
    split at ok
    · rename_i ns h2
      rw [bls_of h2] at rs
      rw [Reps.bls rs] at hq
      exact ⟨a, ns, rfl, hq, done ok (.bl _)⟩
    · exact (show False from ok).elim
  | _ => exact (show False from ok).elim
theorem onL_snd {Q : VK} {op : B1} {u : U} {v : V} (B : BSim G b W s σ H) (r : Rep G W u v) (ok : okR G b W σ Wx (kV1 G Q) (onL op u s)) : b1R G.K op [v] H Q := by
  unfold onL at ok
  split at ok
  · rename_i xs e
    obtain ⟨a, vs, rfl, h1, h2⟩ := lstOf_rep B r e
    exact b1L_snd B (SqL.of h1) h2 ok
  · exact (show False from ok).elim
theorem b1_snd {Q : VK} {op : B1} {u : U} {v : V} (B : BSim G b W s σ H) (r : Rep G W u v) (ho : op ≠ .lenset) (ok : okR G b W σ Wx (kV1 G Q) (b1U op u s)) : b1R G.K op [v] H Q := by
  have done : ∀ {w : U} {x : V}, okR G b W σ Wx (kV1 G Q) (.ok w s) → Rep G W w x → Q x H := fun ok r => ok W H .rfl' B _ r
  cases op with
  | int =>
    cases r <;> first
      | exact (show False from ok).elim
      | exact .inl ⟨_, rfl, done ok (.int _)⟩
      | exact .inr ⟨_, rfl, done ok (.int _)⟩
  | abs => cases r <;> first | exact (show False from ok).elim | exact ⟨_, rfl, done ok (.int _)⟩
  | len =>
    simp only [b1U] at ok
    split at ok
    · rename_i n hn
      exact len_snd B r hn (done ok (.int _))
    · exact (show False from ok).elim
  | tup =>
    cases u with
    | tup xs =>
      obtain ⟨a, vs, rfl, t, rs⟩ := tup_rep B r
      exact ⟨a, vs, rfl, .inr ⟨t, done ok r⟩⟩
    | _ => exact onL_snd (op := .tup) B r ok
  | str =>
    cases r <;> first
      | exact (show False from ok).elim
      | (simp only [b1U] at ok
         split at ok
         · rename_i i hz
           refine ⟨_, rfl, hz.1, ?_⟩
           show Q (.str (PySem.Str.ofString (toString _))) H
           rw [ofString_S]
           exact done ok (.str _ hz.2 (S_ok _))
         · exact (show False from ok).elim)
  | repr => exact (show False from ok).elim
  | lenset => exact absurd rfl ho
  | sum => exact onL_snd (op := .sum) B r ok
  | max => exact onL_snd (op := .max) B r ok
  | min => exact onL_snd (op := .min) B r ok
  | any => exact onL_snd (op := .any) B r ok
  | all => exact onL_snd (op := .all) B r ok
/-- .. of the frame's own list -/
theorem b1_own {Q : VK} {op : B1} {xs : List U} {a : Addr} {vs : List V} (B : BSim G b W s σ H) (hq : SqL G.K H a vs) (rs : Reps G W xs vs) (ho : op ≠ .lenset) (ok : okR G b W σ Wx (kV1 G Q) (b1U op (.lst xs) s)) : b1R G.K op [.ref a] H Q := by
  cases op with
  | lenset => exact absurd rfl ho
  | int => exact (show False from ok).elim
  | abs => exact (show False from ok).elim
  | str => exact (show False from ok).elim
  | repr => exact (show False from ok).elim
  | len => exact b1L_snd (op := .len) B hq rs ok
  | tup => exact b1L_snd (op := .tup) B hq rs ok
  | sum => exact b1L_snd (op := .sum) B hq rs ok
  | max => exact b1L_snd (op := .max) B hq rs ok
  | min => exact b1L_snd (op := .min) B hq rs ok
  | any => exact b1L_snd (op := .any) B hq rs ok
  | all => exact b1L_snd (op := .all) B hq rs ok

/-! ### join -/
def uS (x : List Nat) : PySem.Str := ⟨x.toArray⟩
theorem uS_app (x y : List Nat) : uS x ++ uS y = uS (x ++ y) := str_app x y
theorem join_uS (sep : List Nat) : ∀ ys : List (List Nat), Txt.join (uS sep) (ys.map uS) = uS (joinL sep ys) := by
  intro ys
  show Builtin.Str.glued _ _ = _
  rw [PySem.StrLaws.glued_eq_join]
  induction ys with
  | nil => rfl
  | cons x ys ih =>
    cases ys with
    | nil => rfl
    | cons y ys =>
      rw [List.map_cons] at ih ⊢
      rw [List.map_cons]
      show uS x ++ uS sep ++ PySem.Str.join (uS sep) (uS y :: ys.map uS) = uS (x ++ sep ++ joinL sep (y :: ys))
      rw [ih, uS_app, uS_app]
theorem joinL_len (sep : List Nat) : ∀ ys : List (List Nat), (joinL sep ys).length ≤ (ys.map List.length).sum + ys.length * sep.length
  | [] => by simp [joinL]
  | [x] => by simp [joinL]
  | x :: y :: ys => by
    have ih := joinL_len sep (y :: ys)
    simp only [joinL, List.length_append, List.map_cons, List.sum_cons, List.length_cons, Nat.succ_mul] at ih ⊢
    omega
theorem joinL_mem {sep : List Nat} {c : Nat} : ∀ {ys : List (List Nat)}, c ∈ joinL sep ys → c ∈ sep ∨ ∃ y ∈ ys, c ∈ y
  | [], h => by simp [joinL] at h
  | [x], h => .inr ⟨x, by simp, h⟩
  | x :: y :: ys, h => by
    simp only [joinL, List.mem_append] at h
    rcases h with (h | h) | h
    · exact .inr ⟨x, by simp, h⟩
    · exact .inl h
    · rcases joinL_mem h with h | ⟨z, hz, hc⟩
      · exact .inl h
      · exact .inr ⟨z, by simp [hz], hc⟩
def rJoin (K : PySem.W.Frag) : V → List V → L2.Hp → VK → Prop := fun x xs H Q => ∃ a p, ∃ ys : List PySem.Str, x = .str a ∧ xs = [.ref p] ∧ (SqL K H p (ys.map V.str) ∨ SqT K H p (ys.map V.str)) ∧
    (ys.map (·.length)).sum + ys.length * a.length ≤ 16777216 ∧ Q (.str (Txt.join a ys)) H
theorem join_snd {Q : VK} {u u2 : U} {v v2 : V} (B : BSim G b W s σ H) (r1 : Rep G W u v) (r2 : Rep G W u2 v2) (ok : okR G b W σ Wx (kV1 G Q) (b2U .join u u2 s)) : rJoin G.K v [v2] H Q := by
  simp only [b2U] at ok
  split at ok
  · rename_i x ys hy
    obtain ⟨xs, h1, h2⟩ := Option.bind_eq_some_iff.mp hy
    obtain ⟨a, vs, rfl, h3, h4⟩ := seqOf_rep B r2 h1
    rw [strs_of h2] at h4
    have e := Reps.strs h4
    split at ok
    · rename_i hz
      cases r1 with
      | str _ hx hxc =>
      have hall := Reps.strs_of h4
      have em : vs = (ys.map uS).map V.str := by rw [e, List.map_map]; rfl
      refine ⟨uS x, a, ys.map uS, rfl, rfl, by rw [← em]; exact h3, ?_, ?_⟩
      · have e1 : ((ys.map uS).map (·.length)) = ys.map List.length := by rw [List.map_map]; exact List.map_congr_left fun y _ => str_len y
        rw [e1, List.length_map, show (uS x).length = x.length from str_len x]
        exact hz
      · rw [join_uS]
        refine ok W H .rfl' B _ (.str _ (Nat.le_trans (joinL_len _ _) hz) fun c hc => ?_)
        rcases joinL_mem hc with h | ⟨y, hy, h⟩
        · exact hxc c h
        · exact (hall y hy).2 c h
    · exact (show False from ok).elim
  · exact (show False from ok).elim
end
end Pix
end
section
set_option Elab.async false
set_option linter.all false
set_option maxRecDepth 100000
set_option maxHeartbeats 1000000
/-! PixS: sorted, of lists and of tuples. -/
namespace Pix
open PySem PySem.Spec PyProof.Rows L2

/-! ### sorting by insertion -/
section
variable {α : Type} {le : α → α → Bool}
theorem insL_perm (x : α) : ∀ ys : List α, (insL le x ys).Perm (x :: ys)
  | [] => .refl _
  | y :: ys => by
    simp only [insL]
    split
    · exact .refl _
    · exact ((insL_perm x ys).cons y).trans (.swap x y ys)
theorem isort_perm : ∀ xs : List α, (isort le xs).Perm xs
  | [] => .refl _
  | x :: xs => (insL_perm x _).trans ((isort_perm xs).cons x)
theorem insL_sorted (tot : ∀ a b, le a b = true ∨ le b a = true) (tr : ∀ a b c, le a b = true → le b c = true → le a c = true) (x : α) : ∀ ys : List α, ys.Pairwise (fun a b => le a b = true) → (insL le x ys).Pairwise (fun a b => le a b = true)
  | [], _ => List.pairwise_singleton _ _
  | y :: ys, h => by
    simp only [insL]
    have hy := List.pairwise_cons.mp h
    split
    · rename_i e
      refine List.pairwise_cons.mpr ⟨fun z hz => ?_, h⟩
      rcases List.mem_cons.mp hz with q | q
      · subst q; exact e
      · exact tr _ _ _ e (hy.1 z q)
    · rename_i e
      refine List.pairwise_cons.mpr ⟨fun z hz => ?_, insL_sorted tot tr x ys hy.2⟩
      rcases List.mem_cons.mp ((insL_perm x ys).mem_iff.mp hz) with q | q
      · subst q
        exact (tot y z).resolve_right e
      · exact hy.1 z q
theorem isort_sorted (tot : ∀ a b, le a b = true ∨ le b a = true) (tr : ∀ a b c, le a b = true → le b c = true → le a c = true) : ∀ xs : List α, (isort le xs).Pairwise (fun a b => le a b = true)
  | [] => List.Pairwise.nil
  | x :: xs => insL_sorted tot tr x _ (isort_sorted tot tr xs)
theorem sorted_unique (an : ∀ a b, le a b = true → le b a = true → a = b) : ∀ {xs ys : List α}, xs.Perm ys → xs.Pairwise (fun a b => le a b = true) → ys.Pairwise (fun a b => le a b = true) → xs = ys
  | [], ys, p, _, _ => (List.nil_perm.mp p).symm
  | x :: xs, [], p, _, _ => absurd p.length_eq (by simp)
  | x :: xs, y :: ys, p, hx, hy => by
    have hx' := List.pairwise_cons.mp hx
    have hy' := List.pairwise_cons.mp hy
    have e : x = y := by
      have h1 : x ∈ y :: ys := p.mem_iff.mp (by simp)
      have h2 : y ∈ x :: xs := p.mem_iff.mpr (by simp)
      rcases List.mem_cons.mp h1 with q | q
      · exact q
      · rcases List.mem_cons.mp h2 with r | r
        · exact r.symm
        · exact an _ _ (hx'.1 _ r) (hy'.1 _ q)
    subst e
    rw [sorted_unique an (List.Perm.cons_inv p) hx'.2 hy'.2]
/-- the one order -/
theorem isort_eq (tot : ∀ a b, le a b = true ∨ le b a = true) (tr : ∀ a b c, le a b = true → le b c = true → le a c = true) (an : ∀ a b, le a b = true → le b a = true → a = b) {xs ys : List α} (p : ys.Perm xs) (h : ys.Pairwise (fun a b => le a b = true)) : ys = isort le xs :=
  sorted_unique an (p.trans (isort_perm xs).symm) h (isort_sorted tot tr xs)
end
theorem strLe_iff {a b : List Nat} : strLe a b = true ↔ a ≤ b := by
  unfold strLe
  rw [Bool.not_eq_true', decide_eq_false_iff_not]
  exact List.not_lt
theorem strLe_tot (a b : List Nat) : strLe a b = true ∨ strLe b a = true := by
  rw [strLe_iff, strLe_iff]; exact List.le_total a b
theorem strLe_tr (a b c : List Nat) (h1 : strLe a b = true) (h2 : strLe b c = true) : strLe a c = true := by
  rw [strLe_iff] at *; exact List.le_trans h1 h2
theorem strLe_an (a b : List Nat) (h1 : strLe a b = true) (h2 : strLe b a = true) : a = b := by
  rw [strLe_iff] at *; exact List.le_antisymm h1 h2
end Pix

namespace PyProof.Rows
open PySem PySem.Spec
section
variable {prog : Program} {w : World} {A : Around} {E : Value → Shared → Prop} {s : Shared}
theorem collect_tupP {l : Addr} {vs : List Value} {Q : List Value → Shared → Prop} (hl : IsTup s.heap l vs.toArray)
    (h : Q vs { s with heap := (s.heap.push (seqObj "list" #[] 0)).update s.heap.objs.size (Obj.mapSeq (· ++ vs.toArray)) }) (hsz : vs.length ≤ sizeLine := by size_fits) :
    wpAny (model prog w) A (collect (.ref l)) Q E s := by
  obtain ⟨o, ho, hc, n, hd⟩ := id hl
  unfold collect
  refine wpAny_bind (wpAny_runValue (codeAny_builtin entry_proto_collect' ?_))
  show wpAny _ _ (do again (.builtin "list.__iadd__" ⟨[← newList [], .ref l], []⟩)) _ _ s
  refine wpAny_bind (wpAny_newList (wpAny_pure ⟨Code.quiet_builtin _ (by decide +kernel), codeAny_builtin entry_list_iadd' ?_⟩))
  show wpAny _ _ (Builtin.List.listExtendWith (.ref s.heap.objs.size) (.ref l) (.ref s.heap.objs.size)) _ _ { s with heap := s.heap.push (seqObj "list" #[] 0) }
  unfold Builtin.List.listExtendWith
  have ho' : (s.heap.push (seqObj "list" #[] 0)).get? l = some o := Heap.get?_push_of_some _ ho
  refine wpAny_bind (wpAny_typeOf (T := "tuple") ⟨o, ho', hc⟩ ?_)
  have ht : (Value.type "tuple" == Value.type "tuple") = true := by rfl
  rw [if_pos (by rw [ht]; simp)]
  refine wpAny_bind (listItems_at ho' hd ?_)
  refine wpAny_bind (listItems_at (xs := #[]) (n := 0) (Heap.get?_push_size _ rfl) rfl ?_)
  rw [if_neg (by simp)]
  refine wpAny_bind (listUpdate_at (xs := #[]) (n := 0) (Heap.get?_push_size _ rfl) rfl ?_ (Nat.zero_le _) (by show (#[] ++ vs.toArray).size ≤ sizeLine + 1; simp only [Array.size_append, List.size_toArray, List.length_nil]; omega))
  refine wpAny_pure ?_
  show wpAny (model prog w) A (do
      let o ← load s.heap.objs.size
      match o.data with
      | .seq xs _ => pure xs.toList
      | _ => unsupported "internal:collect") Q E { s with heap := (s.heap.push (seqObj "list" #[] 0)).update s.heap.objs.size (Obj.mapSeq (· ++ vs.toArray)) }
  refine wpAny_bind (wpAny_load (get?_update_seq (Heap.get?_push_size _ rfl) _) ?_)
  show wpAny _ _ (pure ((#[] : Array Value) ++ vs.toArray).toList) Q E _
  rw [show ((#[] : Array Value) ++ vs.toArray).toList = vs by simp]
  exact wpAny_pure h
theorem sortedK_tupP {κ : KeyKind} (hO : κ.OneLt) {l : Addr} {vs : List Value} {Q : Value → Shared → Prop} (hl : IsTup s.heap l vs.toArray) (h0 : KeysOf κ (pairsOf vs)) (hkk : ∀ v₁ v₂ rest, vs = v₁ :: v₂ :: rest → keyKind' (v₁ :: v₂ :: rest).toArray = pure oneType') (hL : vs.length ≤ sizeLine)
    (h : ∀ st' : SortSt, (arrOf st').Perm (pairsOf vs) → SortedToK κ (arrOf st') (pairsOf vs).size → Q (.ref (s.heap.objs.size + 1)) { s with heap := sortedAll s.heap vs ((arrOf st').map (·.2)) }) :
    wpAny (model prog w) A (call (.builtin "sorted") [.ref l]) Q E s := by
  refine Calls.call_function_entry kind_sorted plain_sorted entry_sorted (args_sorted1 _) ?_
  unfold Builtin.«sorted»
  refine wpAny_bind (m := checkCount "sorted" 1 1 _) (wpAny_pure ?_)
  refine wpAny_bind (collect_tupP hl ?_)
  refine wpAny_bind (wpAny_newList ?_)
  have hsz : ((s.heap.push (seqObj "list" #[] 0)).update s.heap.objs.size (Obj.mapSeq (· ++ vs.toArray))).objs.size = s.heap.objs.size + 1 := by
    rw [Heap.size_update, size_push']
  have hoL : (((s.heap.push (seqObj "list" #[] 0)).update s.heap.objs.size (Obj.mapSeq (· ++ vs.toArray))).push (seqObj "list" vs.toArray 0)).get? (s.heap.objs.size + 1) = some (seqObj "list" vs.toArray 0) := by
    rw [← hsz]; exact Heap.get?_push_size _ rfl
  show wpAny _ _ _ _ _ { s with heap := ((s.heap.push (seqObj "list" #[] 0)).update s.heap.objs.size (Obj.mapSeq (· ++ vs.toArray))).push (seqObj "list" vs.toArray 0) }
  rw [hsz]
  refine wpAny_bind (wpAny_holding (wpAny_call_entry slot_list_sort ⟨_, hoL, rfl⟩ entry_list_sort (list_sort_treeKAny hO hoL h0 hkk hL fun st' a1 a2 => ⟨_, rfl, ?_⟩) (args_list_sort _)))
  exact wpAny_pure ⟨_, rfl, h st' a1 a2⟩
theorem sorted_strs_tupP {l : Addr} {vs : List Value} {ss : List Str} {Q : Value → Shared → Prop} (hl : IsTup s.heap l vs.toArray) (hS : StrsAre vs ss) (hL : vs.length ≤ sizeLine)
    (h : ∀ (out : Array Value) (ss' : List Str), StrsAre out.toList ss' → ss'.Perm ss → sortedS ss' = true → Q (.ref (s.heap.objs.size + 1)) { s with heap := sortedAll s.heap vs out }) :
    wpAny (model prog w) A (call (.builtin "sorted") [.ref l]) Q E s := by
  refine sortedK_tupP strKind_oneLt hl hS.keysOf (fun v₁ v₂ rest e => keyKind_strs (by rw [← e]; exact hS)) hL fun st' hp hs => ?_
  obtain ⟨ss', h1, h2, h3⟩ := sorted_out_str hS hp hs
  exact h _ ss' h1 h2 h3
end
end PyProof.Rows

namespace Pix
open PySem PySem.Spec PyProof.Rows L2
/-- sorted(xs), texts, any number of them, a list or a tuple -/
def rSortS (K : PySem.W.Frag) : List V → L2.Hp → VK → Prop := fun vs H Q => ∃ (a : Addr) (xs : List PySem.Str), vs = [V.ref a] ∧ (SqL K H a (xs.map V.str) ∨ SqT K H a (xs.map V.str)) ∧
  ∀ (ys : List PySem.Str) (p : Addr), ys.Perm xs → sortedS ys = true → H p = none → Q (.ref p) (upd H p (.lst (ys.map V.str)))
theorem cr_sortS {X : Cx} : CallR X (.builtin "sorted") (rSortS X.K) := by
  intro pins s σ H vs us Q I r h
  obtain ⟨a, xs, rfl, hs, q⟩ := h
  rw [Vals.ref1 r]
  have fin : ∀ (its : List Value), Vals (xs.map V.str) its → (xs.map V.str).length ≤ sizeLine → ∀ (out : Array Value) (ys : List PySem.Str), StrsAre out.toList ys → ys.Perm xs → sortedS ys = true → EP X pins σ Q (.ref (s.heap.objs.size + 1)) { s with heap := sortedAll s.heap its out } := by
    intro its rv hz out ys h1 h2 h3
    obtain ⟨ep, he'⟩ := PyProof.Rows.sortedAll_at s.heap its out
    have hlen : (ys.map V.str).length ≤ sizeLine := by
      rw [List.length_map, h2.length_eq]
      rw [List.length_map] at hz
      exact hz
    exact ⟨.ref _, upd H (s.heap.objs.size + 1) (.lst (ys.map V.str)), I.laid (t' := s.toks) (fun _ _ => PyProof.Rows.sortedAll_old) (Nat.le_succ _) ⟨hlen, out.toList, ep, vals_of_strs h1, he'⟩, rfl, q ys _ h2 h3 (I.hok.fresh (Nat.le_succ _))⟩
  rcases hs with hs | hs
  · obtain ⟨its, rv, hl, hz⟩ := I.list hs
    exact PyProof.Rows.sorted_strsAny hl.isList rv.strs (by rw [← rv.length]; exact hz) fun out ys h1 h2 h3 => fin its rv hz out ys h1 h2 h3
  · obtain ⟨its, rv, hl, hz⟩ := I.tuple hs
    exact PyProof.Rows.sorted_strs_tupP hl rv.strs (by rw [← rv.length]; exact hz) fun out ys h1 h2 h3 => fin its rv hz out ys h1 h2 h3
end Pix
end
section
set_option Elab.async false
set_option linter.all false
set_option maxRecDepth 100000
set_option maxHeartbeats 1000000
/-! PixC1: calls, blocks: the ground changes. -/
namespace Pix
open PySem PySem.Spec PyProof.Rows L2
section
variable {G : Gl0} {b b' : Ba} {W W' : Wd} {s s' : St} {σ σ' : L2.St} {H H' : L2.Hp} {Wx : WX}

/-- the ground of a part of a run: all that stands is kept, but what is boxed and the frame's own lists -/
def Ba.at (b : Ba) (W : Wd) (H : L2.Hp) (fr : List Sl) (σ : L2.St) : Ba := ⟨W, H, OwnA fr σ⟩
theorem BSim.start (B : BSim G b W s σ H) : BSim G (b.at W H s.fr σ) W s σ H := ⟨B.h, B.f, HExt.refl, fun a h => .inr h⟩
/-- the part's run as one of the whole -/
theorem BSim.back_to (B : BSim G b W s σ H) (B' : BSim G (b.at W H s.fr σ) W' s' σ' H') : BSim G b W' s' σ' H' where
  h := B'.h
  f := B'.f
  e := HExt.trans B.e B.h.mf B'.e fun x h => B.ob x h
  ob := fun a h => by
    rcases B'.ob a h with z | z
    · cases e : b.H0 a with
      | none => exact .inl rfl
      | some o =>
        obtain ⟨o', q⟩ := B.e.mono a o e
        have z' : H a = none := z
        rw [z'] at q; cases q
    · exact B.ob a z
/-- behind a call -/
theorem BSim.call {hp' : Hp} (B : BSim G b W s σ H) (h : HSim G W' hp' H') (e : HExt W H (fun _ => False) W' H') : BSim G b W' { s with hp := hp' } σ H' where
  h := h
  f := by
    refine ⟨B.f.frl, fun i u q => let ⟨v, h1, h2⟩ := B.f.val i u q; ⟨v, h1, h2.mono e.le⟩, fun i xs q => ?_, B.f.ownu, fun i c u q => let ⟨a, d, v, h1, h2, h3, h4⟩ := B.f.exc i c u q; ⟨a, d, v, h1, e.le.fz _ _ h2, h3.mono e.le, h4⟩⟩
    obtain ⟨a, vs, h1, h2, h3, h4, h5⟩ := B.f.own i xs q
    have nn : ¬ (a ∈ W'.m ∨ ∃ o, W'.fz a = some o) := fun z => by
      rcases e.new a z with y | ⟨o, y⟩ | y | y
      · exact h5 y
      · rw [h4] at y; cases y
      · rw [h2] at y; cases y
      · exact y
    refine ⟨a, vs, h1, e.pres a _ h2 h5 (fun z => z), h3.mono e.le, ?_, fun z => nn (.inl z)⟩
    cases q : W'.fz a with
    | none => rfl
    | some o => exact absurd (.inr ⟨o, q⟩) nn
  e := HExt.trans B.e B.h.mf e fun x h => h.elim
  ob := B.ob
/-- an object that is none of ours is forgotten -/
theorem BSim.less {D : Addr} (B : BSim G b W s σ H) (hf : W.fz D = none) (hm : D ∉ W.m) (ho : ¬ OwnA s.fr σ D) (hb : b.H0 D = none) : BSim G b W s σ (fun x => if x = D then none else H x) where
  h := ⟨fun a o e => by
      have : a ≠ D := fun z => by rw [z, hf] at e; cases e
      show (if a = D then none else H a) = _
      rw [if_neg this]; exact B.h.fz a o e, B.h.len, B.h.nd, B.h.mf, fun r o a h1 h2 => (B.h.box r o a h1 h2).mono .rfl' (by
      have : a ≠ D := fun z => hm (z ▸ List.mem_of_getElem? h2)
      show (if a = D then none else H a) = _
      rw [if_neg this]), fun a h x z => by
      have z' : (if a = D then none else H a) = some (.own x) := z
      split at z'
      · cases z'
      · exact B.h.und a h x z'⟩
  f := ⟨B.f.frl, B.f.val, fun i xs e => by
      obtain ⟨a, vs, h1, h2, h3, h4, h5⟩ := B.f.own i xs e
      have : a ≠ D := fun z => ho ⟨i, xs, e, z ▸ h1⟩
      refine ⟨a, vs, h1, ?_, h3, h4, h5⟩
      show (if a = D then none else H a) = _
      rw [if_neg this]; exact h2, B.f.ownu, B.f.exc⟩
  e := ⟨B.e.le, fun a o h1 h2 h3 => by
      have : a ≠ D := fun z => by rw [z, hb] at h1; cases h1
      show (if a = D then none else H a) = _
      rw [if_neg this]; exact B.e.pres a o h1 h2 h3, fun a o h => by
      have : a ≠ D := fun z => by rw [z, hb] at h; cases h
      obtain ⟨o', q⟩ := B.e.mono a o h
      refine ⟨o', ?_⟩
      show (if a = D then none else H a) = _
      rw [if_neg this]; exact q, B.e.new⟩
  ob := B.ob
theorem upd_less {D : Addr} {o : HO} (h : H D = some o) : upd (fun x => if x = D then none else H x) D o = H := by
  funext x
  by_cases q : x = D
  · subst q; rw [upd_same, h]
  · rw [upd_ne q, if_neg q]

/-- the block's own slots forgotten -/
theorem BSim.wipes (B : BSim G b W s σ H) : ∀ vs : List Nat, BSim G b W { s with fr := wipe s.fr vs } (L2.wipe σ vs) H
  | [] => B
  | v :: vs => (BSim.wipes B vs).drop (i := v) (o := none)
theorem wipe_get {fr : List Sl} {i : Nat} {x : Sl} : ∀ {vs : List Nat}, (wipe fr vs)[i]? = some x → x ≠ .emp → fr[i]? = some x ∧ i ∉ vs
  | [], h, _ => ⟨h, by simp⟩
  | v :: vs, h, hx => by
    unfold wipe at h
    by_cases hi : v = i
    · subst hi
      by_cases hv : v < (wipe fr vs).length
      · rw [List.getElem?_set_self hv] at h; cases h; exact absurd rfl hx
      · rw [List.getElem?_eq_none (by simpa using hv)] at h; cases h
    · rw [List.getElem?_set_ne hi] at h
      obtain ⟨h1, h2⟩ := wipe_get h hx
      exact ⟨h1, by simp only [List.mem_cons, not_or]; exact ⟨fun e => hi e.symm, h2⟩⟩
theorem wipe_len (fr : List Sl) : ∀ vs : List Nat, (wipe fr vs).length = fr.length
  | [] => rfl
  | v :: vs => by unfold wipe; rw [List.length_set, wipe_len fr vs]
theorem back_len (old new : List Sl) : ∀ vs : List Nat, (back old new vs).length = new.length
  | [] => rfl
  | v :: vs => by
    unfold back
    split
    · rw [List.length_set, back_len old new vs]
    · exact back_len old new vs
/-- a slot of the frame behind a block -/
theorem back_get {old new : List Sl} (hl : old.length = new.length) : ∀ (vs : List Nat) (i : Nat), (back old new vs)[i]? = if i ∈ vs then old[i]? else new[i]?
  | [], i => by simp [back]
  | v :: vs, i => by
    have ih := back_get hl vs i
    unfold back
    by_cases hv : v < old.length
    · rw [List.getElem?_eq_getElem hv]
      by_cases hi : v = i
      · subst hi
        have : v < (back old new vs).length := by rw [back_len, ← hl]; exact hv
        simp only [List.getElem?_set_self this, List.mem_cons, true_or, if_true, List.getElem?_eq_getElem hv]
      · simp only [List.getElem?_set_ne hi, ih, List.mem_cons]
        have : ¬ i = v := fun z => hi z.symm
        simp [this]
    · have hnone : old[v]? = none := List.getElem?_eq_none (Nat.le_of_not_lt hv)
      rw [hnone]
      show (back old new vs)[i]? = _
      rw [ih]
      by_cases hi : i = v
      · subst hi
        have h2 : new[i]? = none := List.getElem?_eq_none (by rw [← hl]; exact Nat.le_of_not_lt hv)
        simp [hnone, h2]
      · simp [hi]
theorem wipeσ_get {i : Nat} : ∀ {vs : List Nat}, i ∉ vs → (L2.wipe σ vs)[i]? = σ[i]?
  | [], _ => rfl
  | v :: vs, h => by
    simp only [List.mem_cons, not_or] at h
    unfold L2.wipe
    rw [List.getElem?_set_ne (fun z => h.1 z.symm)]
    exact wipeσ_get h.2
theorem noOwn_get {fr : List Sl} {vs : List Nat} (h : noOwn fr vs = true) {i : Nat} (hi : i ∈ vs) : ∃ x, fr[i]? = some x ∧ (∀ xs, x ≠ .own xs) ∧ ∀ c u, x ≠ .exc c u := by
  have q := List.all_eq_true.mp h i hi
  cases e : fr[i]? with
  | none => rw [e] at q; cases q
  | some x =>
    rw [e] at q
    refine ⟨x, rfl, fun xs z => ?_, fun c u z => ?_⟩
    · subst z; cases q
    · subst z; cases q
/-- the frame behind a block: σ2 has come of wipe σ -/
theorem BSim.blockEnd {vs : List Nat} {s1 s2 : St} {σ2 : L2.St} (B : BSim G b W s1 σ H) (B2 : BSim G b W' s2 σ2 H') (le : W.le W') (hs : L2.wipe σ2 vs = L2.wipe σ vs) (hn : noOwn s1.fr vs = true) (hl : s1.fr.length = s2.fr.length) :
    BSim G b W' { s2 with fr := back s1.fr s2.fr vs } σ H' := by
  have get := back_get hl vs
  have same : ∀ i, i ∉ vs → σ2[i]? = σ[i]? := fun i hi => by rw [← wipeσ_get (σ := σ2) hi, hs, wipeσ_get hi]
  have own : ∀ {i : Nat} {xs : List U}, (back s1.fr s2.fr vs)[i]? = some (.own xs) → i ∉ vs ∧ s2.fr[i]? = some (.own xs) := fun {i xs} e => by
    rw [get i] at e
    by_cases hi : i ∈ vs
    · rw [if_pos hi] at e
      obtain ⟨x, h1, h2, _⟩ := noOwn_get hn hi
      rw [h1] at e; exact absurd (Option.some.inj e) (h2 xs)
    · rw [if_neg hi] at e; exact ⟨hi, e⟩
  refine ⟨B2.h, ⟨?_, fun i u e => ?_, fun i xs e => ?_, fun i j a xs ys e1 e2 e3 e4 => ?_, fun i c u e => ?_⟩, B2.e, fun a ⟨i, xs, e1, e2⟩ => ?_⟩
  · show (back s1.fr s2.fr vs).length = σ.length
    rw [back_len, ← hl]; exact B.f.frl
  · have e' : (back s1.fr s2.fr vs)[i]? = some (.val u) := e
    rw [get i] at e'
    by_cases hi : i ∈ vs
    · rw [if_pos hi] at e'
      obtain ⟨v, h1, h2⟩ := B.f.val i u e'
      exact ⟨v, h1, h2.mono le⟩
    · rw [if_neg hi] at e'
      rw [← same i hi]
      exact B2.f.val i u e'
  · obtain ⟨hi, e'⟩ := own e
    rw [← same i hi]
    exact B2.f.own i xs e'
  · obtain ⟨hi, e1'⟩ := own e1
    obtain ⟨hj, e2'⟩ := own e2
    rw [← same i hi] at e3
    rw [← same j hj] at e4
    exact B2.f.ownu i j a xs ys e1' e2' e3 e4
  · have e' : (back s1.fr s2.fr vs)[i]? = some (.exc c u) := e
    rw [get i] at e'
    by_cases hi : i ∈ vs
    · rw [if_pos hi] at e'
      obtain ⟨x, h1, _, h2⟩ := noOwn_get hn hi
      rw [h1] at e'; exact absurd (Option.some.inj e') (h2 c u)
    · rw [if_neg hi] at e'
      rw [← same i hi]
      exact B2.f.exc i c u e'
  · obtain ⟨hi, e'⟩ := own e1
    rw [← same i hi] at e2
    exact B2.ob a ⟨i, xs, e', e2⟩

/-! ### a call's promise -/
def spC (G : Gl0) (n : Nat) (call : List U → Hp → Rc) : Sp := fun vs H Q E => ∃ W us hp, HSim G W hp H ∧ Reps G W us vs ∧ vs.length = n ∧ match call us hp with
  | .ok u hp' => ∀ W' H' v, HSim G W' hp' H' → HExt W H (fun _ => False) W' H' → Rep G W' u v → Q v H'
  | .ex c u hp' => ∀ W' H' d v, HSim G W' hp' H' → HExt W H (fun _ => False) W' H' → W'.fz d = some (.xd [(G.xf c, v)]) → Rep G W' u v → E (.ref (G.xa c)) (some d) H'
  | .bad => False
end
end Pix
end
section
set_option Elab.async false
set_option linter.all false
set_option maxRecDepth 100000
set_option maxHeartbeats 1000000
/-! PixC2: readings; one rule a construct. -/
namespace Pix
open PySem PySem.Spec PyProof.Rows L2

/-! ### facts of expressions' forms -/
def notStar : Expr → Bool
  | .Starred _ _ => false
  | _ => true
theorem star_of {e : Expr} (h : notStar e = true) (es : List Expr) (env : Env) : starEach (e :: es) env = (false, eval e env) :: starEach es env := by
  cases e <;> first | rfl | exact absurd h Bool.false_ne_true
theorem plain_stars {env : Env} {pos : Pos} : ∀ {es : List Expr}, es.all notStar = true → (backTo pos (starEach es env)).any (·.1) = false := by
  have h0 : ∀ (es : List Expr), es.all notStar = true → (starEach es env).any (·.1) = false := by
    intro es
    induction es with
    | nil => intro _; rfl
    | cons e es ih =>
      intro h
      rw [List.all_cons, Bool.and_eq_true] at h
      rw [star_of h.1, List.any_cons, ih h.2] <;> rfl
  intro es h
  have h1 := h0 es h
  unfold backTo
  rw [List.any_map]
  exact h1
/-- an expression whose truth is tested as a value's -/
def isPlain : Expr → Bool
  | .UnaryOp .Not _ _ => false
  | .BoolOp _ _ _ => false
  | .IfExp _ _ _ _ => false
  | .Compare _ _ _ _ => false
  | _ => true
theorem plain_of {e : Expr} (h : isPlain e = true) (env : Env) (whole : Sem Value) : isTrue e env whole = (do let v ← whole; standAt e.pos; holding [v] (truthy v)) := by
  cases e <;> first | rfl | exact absurd h Bool.false_ne_true | skip
  rename_i op x p
  cases op <;> first | rfl | exact absurd h Bool.false_ne_true
def notSlice : Expr → Bool
  | .Slice _ _ _ _ => false
  | _ => true
theorem plainIx_of {e : Expr} (h : notSlice e = true) : PlainIx e := by
  intro o i
  cases e <;> first | rfl | exact absurd h Bool.false_ne_true
def notSet : Expr → Bool
  | .Set _ _ _ => false
  | _ => true
theorem noMarks_of {e : Expr} (h : notSet e = true) (op : CmpOp) : behindInMarks op e = false := by
  cases e <;> first | rfl | exact absurd h Bool.false_ne_true
theorem noFold_of {e : Expr} (h : notSet e = true) (env : Env) (x : Value) : foldedSetIterable e env x = pure x := by
  cases e <;> first | rfl | exact absurd h Bool.false_ne_true
def notComp : Expr → Bool
  | .ListComp _ _ _ _ => false
  | .SetComp _ _ _ _ => false
  | .DictComp _ _ _ _ _ => false
  | _ => true
theorem noSwap_of {e : Expr} (h : notComp e = true) (t : Option Expr) (n : Nat) (env : Env) : swapsWith e t n env = pure false := by
  cases e <;> first | rfl | exact absurd h Bool.false_ne_true

/-! ### readings -/
section
variable {G : Gl0} {p : Px} {X : Cx} {Wx : WX}
/-- what is known of an operand that is only looked at: it may be the frame's own list -/
def Opd (G : Gl0) (W : Wd) (H : L2.Hp) (u : U) (v : V) : Prop := Rep G W u v ∨ ∃ xs a vs, u = .lst xs ∧ v = .ref a ∧ H a = some (.lst vs) ∧ Reps G W xs vs
abbrev kVp (G : Gl0) (Q : VK) : Wd → St → U → L2.Hp → Prop := fun W' _ u H' => ∀ v, Opd G W' H' u v → Q v H'
abbrev kT (Q : Bool → L2.Hp → Prop) : Wd → St → Bool → L2.Hp → Prop := fun _ _ k H' => Q k H'
/-- a fresh list -/
abbrev kF (G : Gl0) (Q : VK) : Wd → St → List U → L2.Hp → Prop := fun W' _ us H' => ∀ l vs, Reps G W' us vs → H' l = none → Q (.ref l) (upd H' l (.lst vs))
def RE (G : Gl0) (Wx : WX) (f : St → Re U) : TE := fun σ H Q => ∃ b W s, BSim G b W s σ H ∧ okR G b W σ Wx (kV1 G Q) (f s)
def RP (G : Gl0) (Wx : WX) (f : St → Re U) : TE := fun σ H Q => ∃ b W s, BSim G b W s σ H ∧ okR G b W σ Wx (kVp G Q) (f s)
def RT (G : Gl0) (Wx : WX) (f : St → Re Bool) : TT := fun σ H Q => ∃ b W s, BSim G b W s σ H ∧ okR G b W σ Wx (kT Q) (f s)
def RA (G : Gl0) (Wx : WX) (f : St → Re (List U)) : TA := fun σ H Q => ∃ b W s, BSim G b W s σ H ∧ okR G b W σ Wx (kVs G Q) (f s)
def RO (G : Gl0) (Wx : WX) (f : St → Re (Option Int)) : TO := fun σ H Q => ∃ b W s, BSim G b W s σ H ∧ okR G b W σ Wx (fun _ _ o H' => Q o H') (f s)
def RF (G : Gl0) (Wx : WX) (f : St → Re (List U)) : TE := fun σ H Q => ∃ b W s, BSim G b W s σ H ∧ okR G b W σ Wx (kF G Q) (f s)

theorem PE.imp {e : Expr} {t t' : TE} (h : PE X e t) (f : ∀ σ H Q, t' σ H Q → t σ H Q) : PE X e t' := ⟨fun pins s σ H Q I hw => h.run pins s σ H Q I (f σ H Q hw)⟩
theorem PT.imp {e : Expr} {t t' : TT} (h : PT X e t) (f : ∀ σ H Q, t' σ H Q → t σ H Q) : PT X e t' := ⟨fun pins s σ H Q I hw => h.run pins s σ H Q I (f σ H Q hw)⟩
theorem PW.imp {e : Expr} {t t' : TT} (h : PW X e t) (f : ∀ σ H Q, t' σ H Q → t σ H Q) : PW X e t' := ⟨fun wh pins s σ H Q I hw => h.run wh pins s σ H Q I (f σ H Q hw)⟩
theorem PA.imp {e : List Expr} {t t' : TA} (h : PA X e t) (f : ∀ σ H Q, t' σ H Q → t σ H Q) : PA X e t' := ⟨fun pos pins s σ H Q I hw => h.run pos pins s σ H Q I (f σ H Q hw)⟩
theorem PO.imp {e : Option Expr} {t t' : TO} (h : PO X e t) (f : ∀ σ H Q, t' σ H Q → t σ H Q) : PO X e t' := ⟨fun pins s σ H Q I hw => h.run pins s σ H Q I (f σ H Q hw)⟩

/-- the run goes on: what is left is read where it stands -/
theorem okR.then {α β : Type} {b : Ba} {W : Wd} {σ : L2.St} {k : Wd → St → β → L2.Hp → Prop} {k' : Wd → St → α → L2.Hp → Prop} {r : Re α} {f : α → St → Re β} (h : okR G b W σ Wx k (r.bnd f))
    (g : ∀ W' s' a H', W.le W' → BSim G b W' s' σ H' → okR G b W' σ Wx k (f a s') → k' W' s' a H') : okR G b W σ Wx k' r :=
  h.bnd.imp fun W' s' a H' _ le B q => g W' s' a H' le B q
theorem okR.to {α : Type} {b : Ba} {W : Wd} {σ : L2.St} {k k' : Wd → St → α → L2.Hp → Prop} {r : Re α} (h : okR G b W σ Wx k r) (g : ∀ W' s' a H', W.le W' → BSim G b W' s' σ H' → k W' s' a H' → k' W' s' a H') : okR G b W σ Wx k' r :=
  h.imp fun W' s' a H' _ le B q => g W' s' a H' le B q
theorem re_rp {f : St → Re U} {e : Expr} (h : PE X e (RE G Wx f)) : PE X e (RP G Wx f) :=
  PE.imp h fun σ H Q ⟨b, W, s, B, ok⟩ => ⟨b, W, s, B, ok.to fun _ _ _ _ _ _ q v r => q v (.inl r)⟩
/-- a value that is at hand -/
theorem okR.val {b : Ba} {W : Wd} {s : St} {σ : L2.St} {H : L2.Hp} {Q : VK} {u : U} {v : V} (B : BSim G b W s σ H) (r : Rep G W u v) (ok : okR G b W σ Wx (kV1 G Q) (.ok u s)) : Q v H := ok W H .rfl' B v r

/-! ### one rule a construct -/
variable {a c d : Expr} {fa fb fc : St → Re U} {pos : Pos}
theorem xe_const {u : U} {v : V} {e : Expr} (h : PE X e (tC v)) (r : ∀ W, Rep G W u v) : PE X e (RE G Wx fun s => .ok u s) :=
  PE.imp h fun σ H Q ⟨b, W, s, B, ok⟩ => okR.val B (r W) ok
theorem xe_var {i : Nat} {x : PySem.Str} (hN : X.N[i]? = some x) (hv : Vis X.env.scope x) (h1 : (x == ("__debug__" : PySem.Str)) = false) (h2 : (x == ("__classdict__" : PySem.Str)) = false) :
    PE X (.Name x pos) (RE G Wx (evE p (.var i))) := by
  refine PE.imp (pe_var hN hv h1 h2) fun σ H Q ⟨b, W, s, B, ok⟩ => ?_
  simp only [evE] at ok
  split at ok
  · rename_i u e
    obtain ⟨v, h1, h2⟩ := B.f.val i u e
    exact ⟨v, h1, okR.val B h2 ok⟩
  · rename_i xs e
    obtain ⟨l, W', h1, le, h2, B'⟩ := B.give e
    exact ⟨_, h1, ok W' H le B' _ h2⟩
  · exact (show False from ok).elim
theorem xp_peek {i : Nat} {x : PySem.Str} (hN : X.N[i]? = some x) (hv : Vis X.env.scope x) (h1 : (x == ("__debug__" : PySem.Str)) = false) (h2 : (x == ("__classdict__" : PySem.Str)) = false) :
    PE X (.Name x pos) (RP G Wx (evE p (.peek i))) := by
  refine PE.imp (pe_var hN hv h1 h2) fun σ H Q ⟨b, W, s, B, ok⟩ => ?_
  simp only [evE] at ok
  split at ok
  · rename_i u e
    obtain ⟨v, h1, h2⟩ := B.f.val i u e
    exact ⟨v, h1, ok W H .rfl' B v (.inl h2)⟩
  · rename_i xs e
    obtain ⟨l, vs, h1, h2, h3, _⟩ := B.f.own i xs e
    exact ⟨_, h1, ok W H .rfl' B _ (.inr ⟨xs, l, vs, rfl, rfl, h2, h3⟩)⟩
  · exact (show False from ok).elim
theorem xe_glb {x : PySem.Str} {v : V} {w : Value} {g : Nat} (hg : Gl X x) (hm : X.mg x = some w) (r : RelV v w) (rr : ∀ W, Rep G W (p.glb g) v) (hd : (x == ("__debug__" : PySem.Str)) = false) : PE X (.Name x pos) (RE G Wx (evE p (.glb g))) :=
  PE.imp (pe_glob hg hm r hd) fun σ H Q ⟨b, W, s, B, ok⟩ => okR.val B (rr W) ok
theorem xe_bin (hK : X.K = G.K) (op : Bop) (ha : PE X a (RE G Wx fa)) (hb : PE X c (RE G Wx fb)) : PE X (.BinOp a (bopP op) c pos) (RE G Wx fun s => (fa s).bnd fun x s1 => (fb s1).bnd fun y s2 => binU op x y s2) := by
  refine PE.imp (pe_op (op_bin op) ha hb) fun σ H Q ⟨b, W, s, B, ok⟩ => ⟨b, W, s, B, ok.then fun W1 s1 x H1 le B1 q v r => ⟨b, W1, s1, B1, q.then fun W2 s2 y H2 le2 B2 q2 v2 r2 => ?_⟩⟩
  rw [hK]
  exact bin_snd B2 (r.mono le2) r2 q2
theorem xe_neg (ha : PE X a (RE G Wx fa)) : PE X (.UnaryOp .USub a pos) (RE G Wx fun s => (fa s).bnd fun x s1 => match x with
    | .int i => .ok (.int (-i)) s1
    | _ => .bad) := by
  refine PE.imp (pe_un un_neg ha) fun σ H Q ⟨b, W, s, B, ok⟩ => ⟨b, W, s, B, ok.then fun W1 s1 x H1 le B1 q v r => ?_⟩
  cases r <;> first | exact (show False from q).elim | exact ⟨_, rfl, okR.val B1 (.int _) q⟩
theorem tst_snd {b : Ba} {W : Wd} {s : St} {σ : L2.St} {H : L2.Hp} {Q : Bool → L2.Hp → Prop} {u : U} {v : V} (B : BSim G b W s σ H) (r : Opd G W H u v) (ok : okR G b W σ Wx (kT Q) (tst u s)) : ∃ k, TruV G.K v H k ∧ Q k H := by
  unfold tst at ok
  split at ok
  · rename_i k e
    rcases r with r | ⟨xs, a, vs, rfl, rfl, h1, h2⟩
    · exact ⟨k, truth_snd B r e, ok W H .rfl' B⟩
    · simp only [truth, Option.some.injEq] at e
      refine ⟨k, .inl ⟨vs, SqL.of h1, ?_⟩, ok W H .rfl' B⟩
      rw [← e]
      cases h2 <;> rfl
  · exact (show False from ok).elim
theorem tst_snd2 {β : Type} {b : Ba} {W : Wd} {s : St} {σ : L2.St} {H : L2.Hp} {k : Wd → St → β → L2.Hp → Prop} {g : Bool → St → Re β} {u : U} {v : V} (B : BSim G b W s σ H) (r : Opd G W H u v) (ok : okR G b W σ Wx k ((tst u s).bnd g)) : ∃ t, TruV G.K v H t ∧ okR G b W σ Wx k (g t s) := by
  unfold tst at ok
  split at ok
  · rename_i t e
    refine ⟨t, ?_, ok⟩
    rcases r with r | ⟨xs, a, vs, rfl, rfl, h1, h2⟩
    · exact truth_snd B r e
    · simp only [truth, Option.some.injEq] at e
      refine .inl ⟨vs, SqL.of h1, ?_⟩
      rw [← e]
      cases h2 <;> rfl
  · exact (show False from ok).elim
/-- a value as a test -/
theorem xt_val (hK : X.K = G.K) (ha : PE X a (RP G Wx fa)) (hp : isPlain a = true) : PT X a (RT G Wx fun s => (fa s).bnd tst) := by
  refine PT.imp (pt_truth ha fun w => plain_of hp X.env w) fun σ H Q ⟨b, W, s, B, ok⟩ => ⟨b, W, s, B, ok.then fun W1 s1 x H1 le B1 q v r => ?_⟩
  rw [hK]
  exact tst_snd B1 r q
/-- not -/
theorem xe_nt (hK : X.K = G.K) (ha : PE X a (RP G Wx fa)) : PE X (.UnaryOp .Not a pos) (RE G Wx fun s => (fa s).bnd fun x s1 => (tst x s1).bnd fun k s2 => .ok (.bl (!k)) s2) := by
  refine PE.imp (pe_notT ha) fun σ H Q ⟨b, W, s, B, ok⟩ => ⟨b, W, s, B, ok.then fun W1 s1 x H1 le B1 q v r => ?_⟩
  obtain ⟨t, h1, h2⟩ := tst_snd2 B1 r q
  rw [hK]
  exact ⟨t, h1, okR.val B1 (.bl _) h2⟩
theorem xt_nt {f : St → Re Bool} {fa' : St → Re U} (hf : ∀ s, f s = (fa' s).bnd tst) (ha : PT X a (RT G Wx f)) : PT X (.UnaryOp .Not a pos) (RT G Wx fun s => ((fa' s).bnd fun x s1 => (tst x s1).bnd fun k s2 => .ok (.bl (!k)) s2).bnd tst) := by
  refine PT.imp (pt_not ha) fun σ H Q ⟨b, W, s, B, ok⟩ => ⟨b, W, s, B, ?_⟩
  rw [hf]
  dsimp only at ok
  cases e : fa' s with
  | bad => rw [e] at ok; exact (show False from ok).elim
  | ex c u s1 => rw [e] at ok; exact ok
  | ok x s1 =>
    rw [e] at ok
    simp only [Re.bnd] at ok ⊢
    cases e2 : tst x s1 with
    | bad => rw [e2] at ok; exact (show False from ok).elim
    | ex c u s2 => rw [e2] at ok; exact ok
    | ok k s2 => rw [e2] at ok; exact fun W' H' le B' => ok W' H' le B'
/-- the tests' way of running: the value, then its truth -/
def tv (f : St → Re U) : St → Re Bool := fun s => (f s).bnd tst
theorem tst_bl {k : Bool} {s : St} : tst (.bl k) s = .ok k s := rfl
theorem xe_an {rest : List Expr} (hK : X.K = G.K) (ha : PE X a (RE G Wx fa)) (hb : PE X (.BoolOp .And (c :: rest) pos) (RE G Wx fb)) : PE X (.BoolOp .And (a :: c :: rest) pos) (RE G Wx fun s => (fa s).bnd fun x s1 => (tst x s1).bnd fun k s2 => match k with
    | true => fb s2
    | false => .ok x s2) := by
  refine PE.imp (pe_andT ha hb) fun σ H Q ⟨b, W, s, B, ok⟩ => ⟨b, W, s, B, ok.then fun W1 s1 x H1 le B1 q v r => ?_⟩
  obtain ⟨t, h1, h2⟩ := tst_snd2 B1 (.inl r) q
  rw [hK]
  refine ⟨t, h1, ?_⟩
  cases t with
  | true => exact ⟨b, W1, s1, B1, h2⟩
  | false => exact okR.val B1 r h2
theorem xe_or {rest : List Expr} (hK : X.K = G.K) (ha : PE X a (RE G Wx fa)) (hb : PE X (.BoolOp .Or (c :: rest) pos) (RE G Wx fb)) : PE X (.BoolOp .Or (a :: c :: rest) pos) (RE G Wx fun s => (fa s).bnd fun x s1 => (tst x s1).bnd fun k s2 => match k with
    | true => .ok x s2
    | false => fb s2) := by
  refine PE.imp (pe_orT ha hb) fun σ H Q ⟨b, W, s, B, ok⟩ => ⟨b, W, s, B, ok.then fun W1 s1 x H1 le B1 q v r => ?_⟩
  obtain ⟨t, h1, h2⟩ := tst_snd2 B1 (.inl r) q
  rw [hK]
  refine ⟨t, h1, ?_⟩
  cases t with
  | true => exact okR.val B1 r h2
  | false => exact ⟨b, W1, s1, B1, h2⟩
theorem xw_an {rest : List Expr} (ha : PT X a (RT G Wx (tv fa))) (hb : PW X (.BoolOp .And (c :: rest) pos) (RT G Wx (tv fb))) : PW X (.BoolOp .And (a :: c :: rest) pos) (RT G Wx (tv fun s => (fa s).bnd fun x s1 => (tst x s1).bnd fun k s2 => match k with
    | true => fb s2
    | false => .ok x s2)) := by
  refine PW.imp (pw_and ha hb) fun σ H Q ⟨b, W, s, B, ok⟩ => ⟨b, W, s, B, ?_⟩
  unfold tv at ok ⊢
  dsimp only at ok
  cases e : fa s with
  | bad => rw [e] at ok; exact (show False from ok).elim
  | ex c u s1 => rw [e] at ok; exact ok
  | ok x s1 =>
    rw [e] at ok
    simp only [Re.bnd] at ok ⊢
    cases e2 : tst x s1 with
    | bad => rw [e2] at ok; exact (show False from ok).elim
    | ex c u s2 => rw [e2] at ok; exact ok
    | ok k s2 =>
      have es : s2 = s1 := by unfold tst at e2; split at e2 <;> cases e2; rfl
      subst es
      rw [e2] at ok
      cases k with
      | true => exact fun W' H' le B' => ⟨b, W', s2, B', ok.le le⟩
      | false =>
        simp only [Re.bnd, e2] at ok
        exact fun W' H' le B' => ok W' H' le B'
theorem xw_or {rest : List Expr} (ha : PT X a (RT G Wx (tv fa))) (hb : PW X (.BoolOp .Or (c :: rest) pos) (RT G Wx (tv fb))) : PW X (.BoolOp .Or (a :: c :: rest) pos) (RT G Wx (tv fun s => (fa s).bnd fun x s1 => (tst x s1).bnd fun k s2 => match k with
    | true => .ok x s2
    | false => fb s2)) := by
  refine PW.imp (pw_or ha hb) fun σ H Q ⟨b, W, s, B, ok⟩ => ⟨b, W, s, B, ?_⟩
  unfold tv at ok ⊢
  dsimp only at ok
  cases e : fa s with
  | bad => rw [e] at ok; exact (show False from ok).elim
  | ex c u s1 => rw [e] at ok; exact ok
  | ok x s1 =>
    rw [e] at ok
    simp only [Re.bnd] at ok ⊢
    cases e2 : tst x s1 with
    | bad => rw [e2] at ok; exact (show False from ok).elim
    | ex c u s2 => rw [e2] at ok; exact ok
    | ok k s2 =>
      have es : s2 = s1 := by unfold tst at e2; split at e2 <;> cases e2; rfl
      subst es
      rw [e2] at ok
      cases k with
      | false => exact fun W' H' le B' => ⟨b, W', s2, B', ok.le le⟩
      | true =>
        simp only [Re.bnd, e2] at ok
        exact fun W' H' le B' => ok W' H' le B'
theorem cmpU_ok {op : Cop} {x y : U} {s : St} {b : Ba} {W : Wd} {σ : L2.St} {H : L2.Hp} {k : Wd → St → U → L2.Hp → Prop} (B : BSim G b W s σ H) (ok : okR G b W σ Wx k (cmpU op x y s)) : ∃ t, cmpH s.hp op x y = some t ∧ k W s (.bl t) H := by
  unfold cmpU at ok
  split at ok
  · rename_i t e
    exact ⟨t, e, ok W H .rfl' B⟩
  · exact (show False from ok).elim
theorem xe_cmp (hK : X.K = G.K) (hu : X.A.units + 65 < cLine) (op : Cop) (ha : PE X a (RE G Wx fa)) (hb : PE X c (RE G Wx fb)) (hs : notSet c = true) : PE X (.Compare a [copP op] [c] pos) (RE G Wx fun s => (fa s).bnd fun x s1 => (fb s1).bnd fun y s2 => cmpU op x y s2) := by
  refine PE.imp (pe_cmpR (op_cmp hu op) ha hb (noMarks_of hs _)) fun σ H Q ⟨b, W, s, B, ok⟩ => ⟨b, W, s, B, ok.then fun W1 s1 x H1 le B1 q v r => ⟨b, W1, s1, B1, q.then fun W2 s2 y H2 le2 B2 q2 v2 r2 => ?_⟩⟩
  obtain ⟨t, e, h⟩ := cmpU_ok B2 q2
  rw [hK]
  exact cmp_snd B2 (r.mono le2) r2 e (h _ (.bl _))
theorem xt_cmp (hK : X.K = G.K) (hu : X.A.units + 65 < cLine) (op : Cop) (ha : PE X a (RE G Wx fa)) (hb : PE X c (RE G Wx fb)) (hs : notSet c = true) : PT X (.Compare a [copP op] [c] pos) (RT G Wx (tv fun s => (fa s).bnd fun x s1 => (fb s1).bnd fun y s2 => cmpU op x y s2)) := by
  refine PT.imp (pt_cmpR (op_cmp hu op) ha hb (noMarks_of hs _)) fun σ H Q ⟨b, W, s, B, ok⟩ => ?_
  have ok' : okR G b W σ Wx (fun W2 s2 u H2 => okR G b W2 σ Wx (kT Q) (tst u s2)) ((fa s).bnd fun x s1 => (fb s1).bnd fun y s2 => cmpU op x y s2) := okR.bnd ok
  refine ⟨b, W, s, B, ok'.then fun W1 s1 x H1 le B1 q v r => ⟨b, W1, s1, B1, q.then fun W2 s2 y H2 le2 B2 q2 v2 r2 => ?_⟩⟩
  obtain ⟨t, e, h⟩ := cmpU_ok B2 q2
  rw [hK]
  exact cmp_snd B2 (r.mono le2) r2 e ⟨t, rfl, h W2 H2 .rfl' B2⟩
theorem xe_isN (no : Bool) {j pos'} (ha : PE X a (RE G Wx fa)) : PE X (.Compare a [if no then .IsNot else .Is] [.Constant .none j pos'] pos) (RE G Wx fun s => (fa s).bnd fun x s1 => .ok (.bl (match x with | .non => !no | _ => no)) s1) := by
  have key : ∀ {W : Wd} {u : U} {v : V}, Rep G W u v → decide (v = .non) = (match u with | .non => true | _ => false) := fun r => by cases r <;> rfl
  cases no with
  | false =>
    refine PE.imp (pe_cmp (pc_isN ha)) fun σ H Q ⟨b, W, s, B, ok⟩ => ⟨b, W, s, B, ok.then fun W1 s1 x H1 le B1 q v r => ?_⟩
    show Q (.bl (decide (v = .non))) H1
    rw [key r]
    have h := okR.val B1 (.bl _) q
    cases x <;> exact h
  | true =>
    refine PE.imp (pe_cmp (pc_notN ha)) fun σ H Q ⟨b, W, s, B, ok⟩ => ⟨b, W, s, B, ok.then fun W1 s1 x H1 le B1 q v r => ?_⟩
    show Q (.bl (!decide (v = .non))) H1
    rw [key r]
    have h := okR.val B1 (.bl _) q
    cases x <;> exact h
theorem xt_isN (no : Bool) {j pos'} (ha : PE X a (RE G Wx fa)) : PT X (.Compare a [if no then .IsNot else .Is] [.Constant .none j pos'] pos) (RT G Wx (tv fun s => (fa s).bnd fun x s1 => .ok (.bl (match x with | .non => !no | _ => no)) s1)) := by
  have key : ∀ {W : Wd} {u : U} {v : V}, Rep G W u v → decide (v = .non) = (match u with | .non => true | _ => false) := fun r => by cases r <;> rfl
  have use : ∀ {b : Ba} {W : Wd} {s : St} {σ : L2.St} {Q : Bool → L2.Hp → Prop}, okR G b W σ Wx (kT Q) (tv (fun s => (fa s).bnd fun x s1 => .ok (.bl (match x with | .non => !no | _ => no)) s1) s) →
      okR G b W σ Wx (fun W2 s2 u H2 => Q (match u with | .non => !no | _ => no) H2) (fa s) := fun {b W s σ Q} ok => by
    unfold tv at ok
    dsimp only at ok
    cases e : fa s with
    | bad => rw [e] at ok; exact (show False from ok).elim
    | ex c u s1 => rw [e] at ok; exact ok
    | ok x s1 => rw [e] at ok; exact fun W' H' le B' => ok W' H' le B'
  cases no with
  | false =>
    refine PT.imp (pt_cmp (pc_isN ha)) fun σ H Q ⟨b, W, s, B, ok⟩ => ⟨b, W, s, B, (use ok).to fun W1 s1 x H1 le B1 q v r => ?_⟩
    refine ⟨_, rfl, ?_⟩
    rw [key r]
    cases x <;> exact q
  | true =>
    refine PT.imp (pt_cmp (pc_notN ha)) fun σ H Q ⟨b, W, s, B, ok⟩ => ⟨b, W, s, B, (use ok).to fun W1 s1 x H1 le B1 q v r => ?_⟩
    refine ⟨_, rfl, ?_⟩
    rw [key r]
    cases x <;> exact q
end
end Pix
end
section
set_option Elab.async false
set_option linter.all false
set_option maxRecDepth 100000
set_option maxHeartbeats 1000000
/-! PixN: exceptions whose context is None. -/
namespace Pix
open PySem PySem.Spec PyProof.Rows L2
abbrev Takes (X : Cx) (W : WX) : Prop := L2N.Takes X W
abbrev XE (X : Cx) (W : WX) (u : Value) (s' : Shared) : Prop := L2N.XE X W u s'
abbrev CX (P : Program) (w : World) : List Env → L2.Hp → Shared → XK → Value → Shared → Prop := L2N.CX P w
abbrev MkP (X : Cx) (pins : List (Addr × Obj)) (σ : L2.St) (Q : XK) (u : Value) (s' : Shared) : Prop := L2N.MkP X pins σ Q u s'
abbrev PMk (X : Cx) (e : Expr) (t : L2.St → L2.Hp → XK → Prop) : Prop := L2N.PMk X e t
abbrev Zc (cls : Value) (d : Option Addr) : Obj → Prop := L2N.Zn cls d
theorem Zc.steady {cls : Value} {d : Option Addr} : PXN.Steady1 (Zc cls d) := L2N.Zn.steady
theorem takes_none5 {X : Cx} : Takes X (fun _ _ _ _ => False) := fun _ _ ⟨_, _, _, _, _, _, _, _, _, _, _, _, _, _, _, _, w⟩ => w.elim
theorem XE.of_call {X : Cx} {pins : List (Addr × Obj)} {σ : L2.St} {H : L2.Hp} {s s' : Shared} {W : WX} {E : XK} (I : Inv X pins σ H s) (hW : ∀ cls d H', E cls d H' → W cls d σ H') {u : Value} (c : CX X.prog X.w X.stack H s E u s') : XE X W u s' := L2N.XE.of_call I hW c
theorem takes_of {X : Cx} {E : XK} (hs : X.stack = X.env :: X.outer) (hf : X.env.frame = some X.env.locals) (hex : X.ex = []) {E₁ : Value → Shared → Prop}
    (hx : X.xe = fun e s' => wpAny (model X.prog X.w) X.A (leaving X.env e) (fun _ s'' => CX X.prog X.w X.outer X.H_0 X.s_0 E e s'') E₁ s') : Takes X (fun cls d _ H => E cls d H) := L2N.takes_of hs hf hex hx
theorem ps_raise {X : Cx} {W : WX} {e : Expr} {t : L2.St → L2.Hp → XK → Prop} {pos : Pos} (hc : X.calm = true) (tk : Takes X W) (he : PMk X e t) : PS X (.Raise (some e) none pos) (fun _ σ H => t σ H fun cls d H' => W cls d σ H') := L2N.ps_raise hc tk he
theorem ps_try_as {X : Cx} {x n : PySem.Str} {c : Value} {i : Nat} {body suite : List Stmt} {b₀ : Stmt} {np pos pos' : Pos} {tb : WX → TS} {ts : Addr → Value → Option Addr → TS} {Wout : WX}
    (hs : X.stack = X.env :: X.outer) (hf : X.env.frame = some X.env.locals) (hN : X.N.Nodup) (hi : X.N[i]? = some n) (hln : X.env.kindOf n = some .local) (hc : Names X x c) (tk : Takes X Wout)
    (hb : ∀ (W : WX) (pn : List (Addr × Obj)) (xe : Value → Shared → Prop), Takes (X.tr pn xe) W → PassesOwn (model X.prog X.w) X.A X.env xe → PSs (X.tr pn xe) body (tb W))
    (hsu : ∀ (a : Addr) (oe : Obj) (cls : Value) (d : Option Addr) (pn : List (Addr × Obj)), Zc cls d oe → (∃ vs, oe.data = .fields vs) → PSs (X.suite a ((a, oe) :: pn)) (b₀ :: suite) (ts a cls d)) :
    PS X (.Try body [.ExceptHandler (some (.Name x np)) (some n) (b₀ :: suite) pos'] [] [] pos) (fun D σ H => tb (wAs X.K c i ts Wout D) D σ H) := L2N.ps_try_as hs hf hN hi hln hc tk hb hsu
theorem Sky.land {s : Shared} {B : Heap} {M : Model} {A : Around} {E₁ : Value → Shared → Prop} {env : Env} {outer : List Env} {L a : Addr} {Z : Obj → Prop} {Q : Unit → Shared → Prop} (hZ : PXN.Steady1 Z) (hfr : A.frames = some (env :: outer)) (hf : env.frame = some L)
    (x : L2.Sky B (env :: outer) a Z L s.heap) (hQ : ∀ h', HandSPX.FlyingZ B (env :: outer) a Z h' → s.heap.UpToSlots h' → Q () { s with heap := h' }) :
    wpAny M A (noteFrame (.ref a) env) (fun _ s₂ => wpAny M A (setFlight (.ref a) none) Q E₁ s₂) E₁ s := L2N.Sky.land hZ hfr hf x hQ
end Pix
end
section
set_option Elab.async false
set_option linter.all false
set_option maxRecDepth 100000
set_option maxHeartbeats 1000000
/-! PixC3: more rules, one a construct. -/
namespace Pix
open PySem PySem.Spec PyProof.Rows L2
section
variable {G : Gl0} {p : Px} {X : Cx} {Wx : WX}
variable {a c d : Expr} {fa fb fc : St → Re U} {pos : Pos}

/-! ### chains, either-or -/
theorem chain_imp {b : Ba} {W : Wd} {s : St} {σ : L2.St} {H : L2.Hp} {Q : VK} {k : Wd → St → U → L2.Hp → Prop} (hK : X.K = G.K) (o1 o2 : Cop) (B : BSim G b W s σ H)
    (hk : ∀ W s t H, BSim G b W s σ H → k W s (.bl t) H → Q (.bl t) H)
    (ok : okR G b W σ Wx k ((fa s).bnd fun x s1 => (fb s1).bnd fun y s2 => (opt (cmpH s2.hp o1 x y) s2).bnd fun t s3 => match t with
      | true => (fc s3).bnd fun z s4 => cmpU o2 y z s4
      | false => .ok (.bl false) s3)) : tChain (cmpR X.K o1) (cmpR X.K o2) (RE G Wx fa) (RE G Wx fb) (RE G Wx fc) σ H Q := by
  rw [hK]
  refine ⟨b, W, s, B, ok.then fun W1 s1 x H1 le B1 q v r => ⟨b, W1, s1, B1, q.then fun W2 s2 y H2 le2 B2 q2 v2 r2 => ?_⟩⟩
  cases e : cmpH s2.hp o1 x y with
  | none => rw [e] at q2; exact (show False from q2).elim
  | some t =>
    rw [e] at q2
    refine cmp_snd B2 (r.mono le2) r2 e ⟨t, rfl, ?_⟩
    cases t with
    | false =>
      rw [if_neg (by decide)]
      exact hk W2 s2 false H2 B2 (q2 W2 H2 .rfl' B2)
    | true =>
      rw [if_pos rfl]
      refine ⟨b, W2, s2, B2, okR.then (r := fc s2) q2 fun W3 s3 z H3 le3 B3 q3 v3 r3 => ?_⟩
      obtain ⟨t, e3, h3⟩ := cmpU_ok B3 q3
      exact cmp_snd B3 (r2.mono le3) r3 e3 (hk W3 s3 t H3 B3 h3)
theorem lastMarks2 {op op' : CmpOp} {a c : Expr} (h : notSet c = true) : lastMarks [op, op'] [a, c] = false := noMarks_of h op'
theorem xe_chain (hK : X.K = G.K) (hu : X.A.units + 65 < cLine) (o1 o2 : Cop) (ha : PE X a (RE G Wx fa)) (hb : PE X c (RE G Wx fb)) (hc : PE X d (RE G Wx fc)) (hs : notSet d = true) :
    PE X (.Compare a [copP o1, copP o2] [c, d] pos) (RE G Wx fun s => (fa s).bnd fun x s1 => (fb s1).bnd fun y s2 => (opt (cmpH s2.hp o1 x y) s2).bnd fun t s3 => match t with
      | true => (fc s3).bnd fun z s4 => cmpU o2 y z s4
      | false => .ok (.bl false) s3) :=
  PE.imp (pe_chain (op_cmp hu o1) (op_cmp hu o2) ha hb hc (lastMarks2 hs)) fun σ H Q ⟨b, W, s, B, ok⟩ => chain_imp hK o1 o2 B (fun W s t H B h => h _ (.bl _)) ok
theorem xt_chain (hK : X.K = G.K) (hu : X.A.units + 65 < cLine) (o1 o2 : Cop) (ha : PE X a (RE G Wx fa)) (hb : PE X c (RE G Wx fb)) (hc : PE X d (RE G Wx fc)) (hs : notSet d = true) :
    PT X (.Compare a [copP o1, copP o2] [c, d] pos) (RT G Wx (tv fun s => (fa s).bnd fun x s1 => (fb s1).bnd fun y s2 => (opt (cmpH s2.hp o1 x y) s2).bnd fun t s3 => match t with
      | true => (fc s3).bnd fun z s4 => cmpU o2 y z s4
      | false => .ok (.bl false) s3)) :=
  PT.imp (pt_chain (op_cmp hu o1) (op_cmp hu o2) ha hb hc (lastMarks2 hs)) fun σ H Q ⟨b, W, s, B, ok⟩ => chain_imp hK o1 o2 B (fun W s t H B h => ⟨t, rfl, h W H .rfl' B⟩) (okR.bnd ok)
theorem iff_imp {α : Type} {b : Ba} {W : Wd} {s : St} {σ : L2.St} {H : L2.Hp} {k : Wd → St → α → L2.Hp → Prop} {f g : St → Re α} (B : BSim G b W s σ H) {P : Bool → L2.Hp → Prop}
    (h : ∀ W' s' H', BSim G b W' s' σ H' → (okR G b W' σ Wx k (f s') → P true H') ∧ (okR G b W' σ Wx k (g s') → P false H'))
    (ok : okR G b W σ Wx k ((fa s).bnd fun x s1 => (tst x s1).bnd fun t s2 => match t with
      | true => f s2
      | false => g s2)) : okR G b W σ Wx (kT P) ((tv fa) s) := by
  unfold tv
  cases e : fa s with
  | bad => rw [e] at ok; exact (show False from ok).elim
  | ex c u s1 => rw [e] at ok; exact ok
  | ok x s1 =>
    rw [e] at ok
    simp only [Re.bnd] at ok ⊢
    cases e2 : tst x s1 with
    | bad => rw [e2] at ok; exact (show False from ok).elim
    | ex c u s2 => rw [e2] at ok; exact ok
    | ok t s2 =>
      rw [e2] at ok
      cases t with
      | true => exact fun W' H' le B' => (h W' s2 H' B').1 (okR.le le ok)
      | false => exact fun W' H' le B' => (h W' s2 H' B').2 (okR.le le ok)
theorem xe_ite (hc : PT X d (RT G Wx (tv fc))) (ha : PE X a (RE G Wx fa)) (hb : PE X c (RE G Wx fb)) : PE X (.IfExp d a c pos) (RE G Wx fun s => (fc s).bnd fun x s1 => (tst x s1).bnd fun k s2 => match k with
    | true => fa s2
    | false => fb s2) := by
  refine PE.imp (pe_ifExp hc ha hb) fun σ H Q ⟨b, W, s, B, ok⟩ => ⟨b, W, s, B, iff_imp B (fun W' s' H' B' => ⟨fun q => ?_, fun q => ?_⟩) ok⟩
  · rw [if_pos rfl]; exact ⟨b, W', s', B', q⟩
  · rw [if_neg (by decide)]; exact ⟨b, W', s', B', q⟩
theorem pt_ifExp {ta tb tc : TT} (hc : PT X d tc) (ha : PT X a ta) (hb : PT X c tb) : PT X (.IfExp d a c pos) (fun σ H Q => tc σ H fun k H1 => if k = true then ta σ H1 Q else tb σ H1 Q) := by
  refine ⟨fun pins s σ H Q I h => ?_⟩
  show wpAny _ _ (do if ← isTrue d X.env (eval d X.env) then isTrue a X.env (eval a X.env) else isTrue c X.env (eval c X.env)) _ _ _
  refine wpAny_bind (thn (hc.run pins s σ H _ I h) fun k s1 ⟨H1, I1, q1⟩ => ?_)
  cases k with
  | true => exact ha.run pins s1 σ H1 Q I1 q1
  | false => exact hb.run pins s1 σ H1 Q I1 q1
theorem xt_ite (hc : PT X d (RT G Wx (tv fc))) (ha : PT X a (RT G Wx (tv fa))) (hb : PT X c (RT G Wx (tv fb))) : PT X (.IfExp d a c pos) (RT G Wx (tv fun s => (fc s).bnd fun x s1 => (tst x s1).bnd fun k s2 => match k with
    | true => fa s2
    | false => fb s2)) := by
  refine PT.imp (pt_ifExp hc ha hb) fun σ H Q ⟨b, W, s, B, ok⟩ => ⟨b, W, s, B, iff_imp (f := tv fa) (g := tv fb) (k := kT Q) B (fun W' s' H' B' => ⟨fun q => ?_, fun q => ?_⟩) ?_⟩
  · rw [if_pos rfl]; exact ⟨b, W', s', B', q⟩
  · rw [if_neg (by decide)]; exact ⟨b, W', s', B', q⟩
  · unfold tv at ok
    dsimp only at ok
    cases e : fc s with
    | bad => rw [e] at ok; exact (show False from ok).elim
    | ex c u s1 => rw [e] at ok; exact ok
    | ok x s1 =>
      rw [e] at ok
      simp only [Re.bnd] at ok ⊢
      cases e2 : tst x s1 with
      | bad => rw [e2] at ok; exact (show False from ok).elim
      | ex c u s2 => rw [e2] at ok; exact ok
      | ok t s2 =>
        rw [e2] at ok
        cases t <;> exact ok

/-! ### rows of arguments, displays -/
theorem xa_nil : PA X [] (RA G Wx fun s => .ok [] s) := PA.imp pa_nil fun σ H Q ⟨b, W, s, B, ok⟩ => ok W H .rfl' B [] .nil
theorem xa_cons {es : List Expr} {fs : St → Re (List U)} (ha : PE X a (RE G Wx fa)) (hs : PA X es (RA G Wx fs)) (h : notStar a = true) : PA X (a :: es) (RA G Wx fun s => (fa s).bnd fun u s1 => (fs s1).bnd fun us s2 => .ok (u :: us) s2) := by
  refine PA.imp (pa_cons ha hs (star_of h _ _)) fun σ H Q ⟨b, W, s, B, ok⟩ => ⟨b, W, s, B, ok.then fun W1 s1 x H1 le B1 q v r => ⟨b, W1, s1, B1, q.then fun W2 s2 us H2 le2 B2 q2 vs rs => ?_⟩⟩
  exact q2 W2 H2 .rfl' B2 _ (.cons (r.mono le2) rs)
/-- the last answer's length is known -/
theorem okR.len {α : Type} {b : Ba} {W : Wd} {σ : L2.St} {k k' : Wd → St → α → L2.Hp → Prop} {r : Re α} (h : okR G b W σ Wx k r) (g : ∀ W' s' a H', r = .ok a s' → W.le W' → BSim G b W' s' σ H' → k W' s' a H' → k' W' s' a H') : okR G b W σ Wx k' r := h.imp g
theorem then_eq {α β : Type} {b : Ba} {W : Wd} {σ : L2.St} {k : Wd → St → β → L2.Hp → Prop} {k' : Wd → St → α → L2.Hp → Prop} {r : Re α} {f : α → St → Re β} (h : okR G b W σ Wx k (r.bnd f))
    (g : ∀ W' s' a H', r = .ok a s' → W.le W' → BSim G b W' s' σ H' → okR G b W' σ Wx k (f a s') → k' W' s' a H') : okR G b W σ Wx k' r := h.bnd.imp g
theorem xe_tup {es : List Expr} {x1} {fs : St → Re (List U)} (hs : PA X es (RA G Wx fs)) (hl : ∀ s us s', fs s = .ok us s' → us.length ≤ SZ) : PE X (.Tuple es x1 pos) (RE G Wx fun s => (fs s).bnd fun us s1 => .ok (.tup us) s1) := by
  refine PE.imp (pe_tup hs) fun σ H Q ⟨b, W, s, B, ok⟩ => ⟨b, W, s, B, then_eq ok fun W1 s1 us H1 e le B1 q vs rs => ⟨by rw [← rs.length, line_eq]; exact hl _ _ _ e, fun l hp => ?_⟩⟩
  have le2 := B1.le_newF (o := .tup vs) hp
  exact q _ _ le2 (B1.newF hp (fun _ z => by cases z)) _ (.tup Wd.addF_same (rs.mono le2))
theorem xf_disp {es : List Expr} {fs : St → Re (List U)} (hs : PA X es (RA G Wx fs)) (hl : ∀ s us s', fs s = .ok us s' → us.length ≤ SZ) : PE X (.List es pos) (RF G Wx fs) := by
  refine PE.imp (pe_lst hs) fun σ H Q ⟨b, W, s, B, ok⟩ => ⟨b, W, s, B, ok.imp fun W1 s1 us H1 e le B1 q vs rs => ⟨by rw [← rs.length, line_eq]; exact hl _ _ _ e, fun l hp => ?_⟩⟩
  exact q l vs rs hp
/-- a fresh list, frozen -/
theorem xe_fr {e : Expr} {fs : St → Re (List U)} (h : PE X e (RF G Wx fs)) : PE X e (RE G Wx fun s => (fs s).bnd fun us s1 => .ok (.lst us) s1) := by
  refine PE.imp h fun σ H Q ⟨b, W, s, B, ok⟩ => ⟨b, W, s, B, ok.then fun W1 s1 us H1 le B1 q l vs rs hp => ?_⟩
  have le2 := B1.le_newF (o := .lst vs) hp
  exact q _ _ le2 (B1.newF hp (fun _ z => by cases z)) _ (.lst Wd.addF_same (rs.mono le2))
theorem BSim.newB {b : Ba} {W : Wd} {s : St} {σ : L2.St} {H : L2.Hp} {l : Addr} {o : O} {x : HO} (B : BSim G b W s σ H) (hp : H l = none) (hb : BoxAt G W (upd H l x) o l) : BSim G b (W.addB l) { s with hp := s.hp ++ [o] } σ (upd H l x) :=
  (B.more fun y u e => by rw [upd_ne (ne_of_none e hp)]; exact e).box hb (B.free_f hp) (B.free_m hp) (B.free_o hp) (.inl (B.free_b hp))
/-- a fresh list, boxed -/
theorem xe_bx {e : Expr} {fs : St → Re (List U)} (h : PE X e (RF G Wx fs)) : PE X e (RE G Wx fun s => (fs s).bnd fun us s1 => .ok (.ref s1.hp.length) { s1 with hp := s1.hp ++ [.lst us] }) := by
  refine PE.imp h fun σ H Q ⟨b, W, s, B, ok⟩ => ⟨b, W, s, B, ok.then fun W1 s1 us H1 le B1 q l vs rs hp => ?_⟩
  have B2 := B1.newB (o := .lst us) (x := .lst vs) hp ⟨vs, upd_same, rs⟩
  refine q _ _ Wd.le_addB B2 _ (.ref ?_)
  show (W1.m ++ [l])[s1.hp.length]? = some l
  rw [B1.h.len, List.getElem?_concat_length]
theorem xf_cat (ha : PE X a (RE G Wx fa)) (hb : PE X c (RE G Wx fb)) : PE X (.BinOp a .Add c pos) (RF G Wx fun s => (fa s).bnd fun x s1 => (fb s1).bnd fun y s2 => match x, y with
    | .lst xs, .lst ys => catL xs ys s2
    | _, _ => .bad) := by
  refine PE.imp (pe_op op_cat ha hb) fun σ H Q ⟨b, W, s, B, ok⟩ => ⟨b, W, s, B, ok.then fun W1 s1 x H1 le B1 q v r => ⟨b, W1, s1, B1, q.then fun W2 s2 y H2 le2 B2 q2 v2 r2 => ?_⟩⟩
  have r := r.mono le2
  cases x <;> cases y <;> first | exact (show False from q2).elim | skip
  cases r with
  | @lst _ l vs t rs =>
  cases r2 with
  | @lst _ l2 ws t2 rs2 =>
  simp only [catL] at q2
  split at q2
  · rename_i hz
    have e1 := rs.length
    have e2 := rs2.length
    have e3 := line_eq
    exact ⟨l, l2, vs, ws, rfl, rfl, B2.fzin t, B2.fzin t2, by omega, fun q hq => q2 W2 H2 .rfl' B2 q _ (rs.app rs2) hq⟩
  · exact (show False from q2).elim
theorem Reps.rep {W : Wd} {xs : List U} {vs : List V} (r : Reps G W xs vs) : ∀ n : Nat, Reps G W (List.replicate n xs).flatten (List.replicate n vs).flatten
  | 0 => .nil
  | n + 1 => by rw [List.replicate_succ, List.replicate_succ, List.flatten_cons, List.flatten_cons]; exact r.app (Reps.rep r n)
theorem xf_rep (ha : PE X a (RE G Wx fa)) (hb : PE X c (RE G Wx fb)) : PE X (.BinOp a .Mult c pos) (RF G Wx fun s => (fa s).bnd fun x s1 => (fb s1).bnd fun y s2 => match x, y with
    | .lst xs, .int k => if xs.length * k.toNat ≤ SZ ∧ k.natAbs < 2 ^ 62 then .ok (List.replicate k.toNat xs).flatten s2 else .bad
    | _, _ => .bad) := by
  refine PE.imp (pe_op op_rep ha hb) fun σ H Q ⟨b, W, s, B, ok⟩ => ⟨b, W, s, B, ok.then fun W1 s1 x H1 le B1 q v r => ⟨b, W1, s1, B1, q.then fun W2 s2 y H2 le2 B2 q2 v2 r2 => ?_⟩⟩
  have r := r.mono le2
  cases x <;> cases y <;> first | exact (show False from q2).elim | skip
  cases r with
  | @lst _ l vs t rs =>
  cases r2
  simp only at q2
  split at q2
  · rename_i k hz
    have e1 := rs.length
    have e3 := line_eq
    obtain ⟨h1, h2⟩ := hz
    exact ⟨l, _, vs, rfl, rfl, B2.fzin t, by omega, by omega, by rw [← e1, e3]; exact h1, fun q hq => q2 W2 H2 .rfl' B2 q _ (rs.rep _) hq⟩
  · exact (show False from q2).elim

/-! ### subscripts, slices -/
theorem xe_ix (hK : X.K = G.K) (hu : X.A.units + 65 < cLine) (ha : PE X a (RE G Wx fa)) (hb : PE X c (RE G Wx fb)) (hs : notSlice c = true) : PE X (.Subscript a c pos) (RE G Wx fun s => (fa s).bnd fun x s1 => (fb s1).bnd fun y s2 => ixU x y s2) := by
  refine PE.imp (pe_ix (ix4 (by omega)) ha hb (plainIx_of hs)) fun σ H Q ⟨b, W, s, B, ok⟩ => ⟨b, W, s, B, ok.then fun W1 s1 x H1 le B1 q v r => ⟨b, W1, s1, B1, q.then fun W2 s2 y H2 le2 B2 q2 v2 r2 => ?_⟩⟩
  rw [hK]
  exact ix_snd B2 (r.mono le2) r2 q2
theorem xo_no : PO X none (RO G Wx fun s => .ok none s) := PO.imp po_none fun σ H Q ⟨b, W, s, B, ok⟩ => ok W H .rfl' B
theorem xo_so (ha : PE X a (RE G Wx fa)) : PO X (some a) (RO G Wx fun s => (fa s).bnd fun u s1 => match u with
    | .int i => .ok (some i) s1
    | _ => .bad) := by
  refine PO.imp (po_some ha) fun σ H Q ⟨b, W, s, B, ok⟩ => ⟨b, W, s, B, ok.then fun W1 s1 x H1 le B1 q v r => ?_⟩
  cases r <;> first | exact (show False from q).elim | exact ⟨_, rfl, q W1 H1 .rfl' B1⟩
theorem xe_sl {lo hi : Option Expr} {p2} {fl fh : St → Re (Option Int)} (hK : X.K = G.K) (ha : PE X a (RE G Wx fa)) (hl : PO X lo (RO G Wx fl)) (hh : PO X hi (RO G Wx fh)) : PE X (.Subscript a (.Slice lo hi none p2) pos) (RE G Wx fun s => (fa s).bnd fun x s1 => (fl s1).bnd fun l s2 => (fh s2).bnd fun h s3 => cutU x l h s3) := by
  refine PE.imp (pe_slice sl3 ha hl hh) fun σ H Q ⟨b, W, s, B, ok⟩ => ⟨b, W, s, B, ok.then fun W1 s1 x H1 le B1 q v r => ⟨b, W1, s1, B1, q.then fun W2 s2 l H2 le2 B2 q2 => ⟨b, W2, s2, B2, q2.then fun W3 s3 h H3 le3 B3 q3 => ?_⟩⟩⟩
  rw [hK]
  exact cutU_snd B3 ((r.mono le2).mono le3) q3
theorem xe_rev {k : Nat} {p1 p2 p3 : Pos} (hK : X.K = G.K) (ha : PE X a (RE G Wx fa)) : PE X (.Subscript a (.Slice none none (some (.UnaryOp .USub (.Constant (.int 1) k p1) p2)) p3) pos) (RE G Wx fun s => (fa s).bnd fun x s1 => revU x s1) := by
  refine PE.imp (pe_revL ha) fun σ H Q ⟨b, W, s, B, ok⟩ => ⟨b, W, s, B, ok.then fun W1 s1 x H1 le B1 q v r => ?_⟩
  unfold revU at q
  split at q
  · rename_i xs e
    rw [hK]
    exact revU_snd B1 r e q
  · exact (show False from q).elim

/-! ### calls of own functions -/
theorem run_own {n : Nat} {kk : Nat} {call : List U → Hp → Rc} {f : Addr} {fd : FuncData} {ps : List PySem.Str} (F : FnOk X.prog X.w X.K X.mg X.base (CX X.prog X.w) kk f fd ps (spC G n call)) (hr : Room kk X.A) (hb : Binds X.K fd ps []) (tk : Takes X Wx)
    {pins : List (Addr × Obj)} {s : Shared} {σ : L2.St} {H : L2.Hp} {Q : VK} {us : List Value} {vs : List V} (I : Inv X pins σ H s) (r : Vals vs us) (h : spC G n call vs H Q fun cl d H' => Wx cl d σ H') :
    wpAny (model X.prog X.w) X.A (PySem.call (.ref f) us) (EP X pins σ Q) X.xe s := by
  have hl : (us ++ []).length = ps.length := by rw [List.append_nil, ← r.length]; exact F.len _ _ _ _ h
  refine wpAny_call (codeAny_mono (F.run X.A X.stack s H ⟨us, []⟩ (us ++ []) vs Q _ hr I.env0 (hb s us I.kIn hl) (by rw [List.append_nil]; exact r) h) fun r s' hq => ?_)
  cases r with
  | error e => exact tk e s' (XE.of_call I (fun cls d H' h => h) hq)
  | ok fl =>
    cases fl with
    | ret u => exact I.after hq
    | next => exact False.elim hq
    | brk => exact False.elim hq
    | cont => exact False.elim hq
theorem call_imp {b : Ba} {W : Wd} {s : St} {σ : L2.St} {H : L2.Hp} {Q : VK} {n i : Nat} {us : List U} {vs : List V} (B : BSim G b W s σ H) (rs : Reps G W us vs) (hn : us.length = n) (ok : okR G b W σ Wx (kV1 G Q) (rets p i us s)) : spC G n (p.call i) vs H Q fun cl d H' => Wx cl d σ H' := by
  refine ⟨W, us, s.hp, B.h, rs, by rw [← rs.length]; exact hn, ?_⟩
  unfold rets at ok
  cases e : p.call i us s.hp with
  | bad => rw [e] at ok; exact (show False from ok).elim
  | ok u hp' =>
    rw [e] at ok
    exact fun W' H' v h1 h2 r => ok W' H' h2.le (B.call h1 h2) v r
  | ex c u hp' =>
    rw [e] at ok
    exact fun W' H' d v h1 h2 h3 r => ok W' H' d v h2.le (B.call h1 h2) h3 r
theorem xe_call {n i : Nat} {kk : Nat} {f : Addr} {fd : FuncData} {ps : List PySem.Str} {x : PySem.Str} {q : Pos} {e : Expr} {es : List Expr} {fs : St → Re (List U)} (F : FnOk X.prog X.w X.K X.mg X.base (CX X.prog X.w) kk f fd ps (spC G n (p.call i))) (hr : Room kk X.A) (hb : Binds X.K fd ps []) (tk : Takes X Wx)
    (hg : Gl X x) (hm : X.mg x = some (.ref f)) (hk : PySem.W.keepIn X.K (.ref f) = true) (hdb : (x == ("__debug__" : PySem.Str)) = false) (ha : PA X (e :: es) (RA G Wx fs)) (hs : (e :: es).all notStar = true) (hl : ∀ s us s', fs s = .ok us s' → us.length = n) :
    PE X (.Call (.Name x q) (e :: es) [] pos) (RE G Wx fun s => (fs s).bnd fun us s1 => rets p i us s1) := by
  have key : ∀ σ H Q, RE G Wx (fun s => (fs s).bnd fun us s1 => rets p i us s1) σ H Q → RA G Wx fs σ H fun vs H1 => spC G n (p.call i) vs H1 Q fun cl d H' => Wx cl d σ H' := fun σ H Q ⟨b, W, s, B, ok⟩ =>
    ⟨b, W, s, B, then_eq ok fun W1 s1 us H1 e le B1 q vs rs => call_imp B1 rs (hl _ _ _ e) q⟩
  rw [List.all_cons, Bool.and_eq_true] at hs
  refine ⟨fun pins s σ H Q I h => ?_⟩
  refine wpAny_Call_Name_kw (ld_glob I hg hm ?_ hdb)
  refine PySem.W.callWith_K (h₀ := X.base) I.ok.mod.kin hk (thn (ha.run pos pins s σ H _ I (key σ H Q h)) fun us s1 ⟨vs, H1, I1, r, q⟩ => ⟨I1.kIn, ?_⟩) (star_of hs.1 _ _) (plain_stars hs.2)
  exact run_own F hr hb tk I1 r q
theorem xe_call0 {i : Nat} {kk : Nat} {f : Addr} {fd : FuncData} {ps : List PySem.Str} {x : PySem.Str} {q : Pos} (F : FnOk X.prog X.w X.K X.mg X.base (CX X.prog X.w) kk f fd ps (spC G 0 (p.call i))) (hr : Room kk X.A) (hb : Binds X.K fd ps []) (tk : Takes X Wx)
    (hg : Gl X x) (hm : X.mg x = some (.ref f)) (hk : PySem.W.keepIn X.K (.ref f) = true) (hdb : (x == ("__debug__" : PySem.Str)) = false) :
    PE X (.Call (.Name x q) [] [] pos) (RE G Wx fun s => rets p i [] s) := by
  refine ⟨fun pins s σ H Q I ⟨b, W, s', B, ok⟩ => ?_⟩
  refine wpAny_Call_Name_kw (ld_glob I hg hm ?_ hdb)
  exact PySem.W.callWith_K0 I.kIn hk (run_own F hr hb tk I .nil (call_imp B .nil rfl ok))
end
end Pix
end
section
set_option Elab.async false
set_option linter.all false
set_option maxRecDepth 100000
set_option maxHeartbeats 1000000
/-! PixW1: tuples and lists are unpacked while an exception is handled. -/
namespace PixHot
open PySem PySem.Spec PyProof.Rows HotX
section
variable {prog : Program} {w : World} {A : Around} {E : Value → Shared → Prop} {s : Shared}
theorem next_tuple_end_hot {it t x1 : Addr} {i : Nat} {items} {Q : Option Value → Shared → Prop} (hot : HotAt A x1 s.heap)
    (hit : IsTupIter s.heap it t i) (ht : IsTup s.heap t items) (hx : items[i]? = none)
    (hQ : ∀ h', Heap.ExtBut it s.heap h' → Q none { s with heap := h' }) : wpAny (model prog w) A (pyNext (.ref it)) Q E s := by
  obtain ⟨o, ho, hc, hd⟩ := id hit
  obtain ⟨ol, hol, _, nl, hdl⟩ := ht
  obtain ⟨hh, o1, vs1, h1, d1, c1⟩ := hot
  have ne : x1 ≠ it := fun e => by
    rw [e, ho] at h1
    cases h1
    rw [hd] at d1
    cases d1
    simp at c1
  unfold pyNext
  refine wpAny_bind (wpAny_attempt (wpAny_callSpecial?_slot (name := Str.ofString "__next__") hit.typeIs slot_tupleiter_next
    (wpAny_call_entry slot_tupleiter_next hit.typeIs entry_tupleiter_next ?_ (args_tupleiter_next _))))
  show wpAny _ _ (field (.ref it) 0 >>= _) _ _ s
  refine wpAny_bind (wpAny_field ho hd (x := .ref t) rfl ?_)
  show wpAny _ _ (if (Value.ref t == Value.none) = true then _ else _) _ _ s
  rw [if_neg (show ¬ ((Value.ref t == Value.none) = true) from Bool.false_ne_true)]
  show wpAny _ _ (field (.ref it) 1 >>= _) _ _ s
  refine wpAny_bind (wpAny_field ho hd (x := .int i 0) rfl ?_)
  show wpAny _ _ (seqItems? (.ref t) >>= _) _ _ s
  refine wpAny_bind (wpAny_seqItems hol hdl ?_)
  simp only [Int.toNat_natCast, hx]
  refine wpAny_bind (wpAny_rule (wpAny_bind (wpAny_setField ho hd (by simp) ?_)))
  show wpAny _ _ (newExc (.type "StopIteration") [] >>= _) _ _ _
  refine wpAny_bind ?_
  simp only [newExc, newTuple]
  refine wpAny_bind (wpAny_newObj_type ?_ (by size_fits))
  refine wpAny_bind (m := firstArgMember _ _) (wpAny_of_eq (a := Value.none) (by first | rfl | (simp only [firstArgMember]; rfl)) ?_)
  refine wpAny_newObj_type ?_ (by size_fits)
  have up : ∀ b o, b ≠ it → s.heap.get? b = some o → (s.heap.update it (Obj.mapFields (·.setIfInBounds 0 .none))).get? b = some o := fun b o hb e => (Heap.get?_update_other _ _ (Ne.symm hb)).trans e
  have k2 := Heap.get?_push_of_some { cls := .type "tuple", data := .seq #[] } (up x1 o1 ne h1)
  refine raiseNew_hot ⟨hh, o1, vs1, Heap.get?_push_of_some _ (Heap.get?_push_of_some _ (up x1 o1 ne h1)), d1, c1⟩ (Nat.ne_of_lt (Heap.lt_size (Heap.get?_push_of_some _ (up x1 o1 ne h1)))) (Heap.get?_push_size _ rfl) rfl (by first | (simp; done) | (simp; omega) | (simp only [Array.size_append]; simp; omega)) ?_
  refine wpAny_bind (wpAny_isInstance (T := "StopIteration") (b := true) ⟨_, Heap.get?_update_self _ (Heap.get?_push_size _ rfl) rfl, rfl⟩ isSubtype_stop ?_)
  refine wpAny_pure (hQ _ fun b o hb e => ?_)
  rw [Heap.get?_update_other _ _ (Nat.ne_of_gt (Heap.lt_size (Heap.get?_push_of_some _ (up b o hb e))))]
  exact Heap.get?_push_of_some _ (Heap.get?_push_of_some _ (up b o hb e))
theorem next_list_end_hot {it l x1 : Addr} {i : Nat} {items} {Q : Option Value → Shared → Prop} (hot : HotAt A x1 s.heap)
    (hit : s.heap.IsListIter it l i) (hl : s.heap.IsList l items) (hx : items[i]? = none)
    (hQ : ∀ h', Heap.ExtBut it s.heap h' → Q none { s with heap := h' }) : wpAny (model prog w) A (pyNext (.ref it)) Q E s := by
  obtain ⟨o, ho, hc, hd⟩ := id hit
  obtain ⟨ol, hol, _, nl, hdl⟩ := hl
  obtain ⟨hh, o1, vs1, h1, d1, c1⟩ := hot
  have ne : x1 ≠ it := fun e => by
    rw [e, ho] at h1
    cases h1
    rw [hd] at d1
    cases d1
    simp at c1
  unfold pyNext
  refine wpAny_bind (wpAny_attempt (wpAny_callSpecial?_slot (name := Str.ofString "__next__") hit.typeIs slot_listiter_next
    (wpAny_call_entry slot_listiter_next hit.typeIs entry_listiter_next ?_ (args_listiter_next _))))
  show wpAny _ _ (field (.ref it) 0 >>= _) _ _ s
  refine wpAny_bind (wpAny_field ho hd (x := .ref l) rfl ?_)
  show wpAny _ _ (if (Value.ref l == Value.none) = true then _ else _) _ _ s
  rw [if_neg (show ¬ ((Value.ref l == Value.none) = true) from Bool.false_ne_true)]
  show wpAny _ _ (field (.ref it) 1 >>= _) _ _ s
  refine wpAny_bind (wpAny_field ho hd (x := .int i 0) rfl ?_)
  show wpAny _ _ (seqItems? (.ref l) >>= _) _ _ s
  refine wpAny_bind (wpAny_seqItems hol hdl ?_)
  simp only [Int.toNat_natCast, hx]
  refine wpAny_bind (wpAny_rule (wpAny_bind (wpAny_setField ho hd (by simp) ?_)))
  show wpAny _ _ (newExc (.type "StopIteration") [] >>= _) _ _ _
  refine wpAny_bind ?_
  simp only [newExc, newTuple]
  refine wpAny_bind (wpAny_newObj_type ?_ (by size_fits))
  refine wpAny_bind (m := firstArgMember _ _) (wpAny_of_eq (a := Value.none) (by first | rfl | (simp only [firstArgMember]; rfl)) ?_)
  refine wpAny_newObj_type ?_ (by size_fits)
  have up : ∀ b o, b ≠ it → s.heap.get? b = some o → (s.heap.update it (Obj.mapFields (·.setIfInBounds 0 .none))).get? b = some o := fun b o hb e => (Heap.get?_update_other _ _ (Ne.symm hb)).trans e
  refine raiseNew_hot ⟨hh, o1, vs1, Heap.get?_push_of_some _ (Heap.get?_push_of_some _ (up x1 o1 ne h1)), d1, c1⟩ (Nat.ne_of_lt (Heap.lt_size (Heap.get?_push_of_some _ (up x1 o1 ne h1)))) (Heap.get?_push_size _ rfl) rfl (by first | (simp; done) | (simp; omega) | (simp only [Array.size_append]; simp; omega)) ?_
  refine wpAny_bind (wpAny_isInstance (T := "StopIteration") (b := true) ⟨_, Heap.get?_update_self _ (Heap.get?_push_size _ rfl) rfl, rfl⟩ isSubtype_stop ?_)
  refine wpAny_pure (hQ _ fun b o hb e => ?_)
  rw [Heap.get?_update_other _ _ (Nat.ne_of_gt (Heap.lt_size (Heap.get?_push_of_some _ (up b o hb e))))]
  exact Heap.get?_push_of_some _ (Heap.get?_push_of_some _ (up b o hb e))
theorem hot_kept {x1 : Addr} {h h' : Heap} (hot : HotAt A x1 h) (k : ∀ o, h.get? x1 = some o → h'.get? x1 = some o) : HotAt A x1 h' := by
  obtain ⟨hh, o1, vs1, h1, d1, c1⟩ := hot
  exact ⟨hh, o1, vs1, k _ h1, d1, c1⟩
theorem hot_lt {x1 : Addr} {h : Heap} (hot : HotAt A x1 h) : x1 < h.objs.size := by
  obtain ⟨_, o1, vs1, h1, _⟩ := hot
  exact Heap.lt_size h1
theorem unpackItems_tuple_hot {t x1 : Addr} {items : Array Value} {Q : List Value → Shared → Prop} (hot : HotAt A x1 s.heap) (ht : IsTup s.heap t items)
    (hQ : ∀ h', Heap.ExtBut s.heap.objs.size s.heap h' → Q items.toList { s with heap := h' }) : wpAny (model prog w) A (unpackItems (.ref t) items.size none) Q E s := by
  have hlt : t ≠ s.heap.objs.size := by obtain ⟨o, ho, _⟩ := ht; exact Nat.ne_of_lt (Heap.lt_size ho)
  unfold unpackItems
  refine wpAny_bind ?_
  · unfold notIterableAtAll
    refine wpAny_bind (wpAny_specialOf ht.typeIs slot_tuple_iter.lookup ?_)
    refine wpAny_pure ?_
    simp only [Bool.false_eq_true, if_false]
    refine wpAny_bind (wpAny_holding (iter_tuple ht ?_))
    refine wpAny_bind (wpAny_holding (draw_tuple hlt items.size 0 _ _ ⟨_, Heap.get?_push_size _ rfl, rfl, rfl⟩ (ht.push _) (by omega) fun h₁ hit₁ hs₁ => ?_))
    have hall : List.take items.size (List.drop 0 items.toList) = items.toList := by
      rw [List.drop_zero]; exact List.take_of_length_le (by simp)
    rw [hall]
    rw [if_neg (by simp)]
    have ht₁ : IsTup h₁ t items := (ht.push _).extBut hs₁.extBut hlt
    have hot₁ : HotAt A x1 h₁ := hot_kept hot fun o e => hs₁.extBut x1 o (Nat.ne_of_lt (hot_lt hot)) (Heap.get?_push_of_some _ e)
    refine wpAny_bind (wpAny_holding (next_tuple_end_hot hot₁ hit₁ ht₁ (by simp) fun h₂ he₂ => ?_))
    simp only [Option.isSome_none, Bool.false_eq_true, if_false]
    refine wpAny_pure (hQ h₂ fun b o hb e => he₂ b o hb (hs₁.extBut b o hb (Heap.get?_push_of_some _ e)))
theorem unpackItems_list_hot {l x1 : Addr} {items : Array Value} {Q : List Value → Shared → Prop} (hot : HotAt A x1 s.heap) (hl : s.heap.IsList l items)
    (hQ : ∀ h', Heap.ExtBut s.heap.objs.size s.heap h' → Q items.toList { s with heap := h' }) : wpAny (model prog w) A (unpackItems (.ref l) items.size none) Q E s := by
  have hlt : l ≠ s.heap.objs.size := by obtain ⟨o, ho, _⟩ := hl; exact Nat.ne_of_lt (Heap.lt_size ho)
  unfold unpackItems
  refine wpAny_bind ?_
  · unfold notIterableAtAll
    refine wpAny_bind (wpAny_specialOf hl.typeIs slot_list_iter.lookup ?_)
    refine wpAny_pure ?_
    simp only [Bool.false_eq_true, if_false]
    refine wpAny_bind (wpAny_holding (wpAny_pyIter_list hl ?_))
    refine wpAny_bind (wpAny_holding (PySem.W.kun_draw hlt items.size 0 _ _ ⟨_, Heap.get?_push_size _ rfl, rfl, rfl⟩ (hl.push _) (by omega) fun h₁ hit₁ hs₁ => ?_))
    have hall : List.take items.size (List.drop 0 items.toList) = items.toList := by
      rw [List.drop_zero]; exact List.take_of_length_le (by simp)
    rw [hall]
    rw [if_neg (by simp)]
    have hl₁ : h₁.IsList l items := (hl.push _).extBut hs₁.extBut hlt
    have hot₁ : HotAt A x1 h₁ := hot_kept hot fun o e => hs₁.extBut x1 o (Nat.ne_of_lt (hot_lt hot)) (Heap.get?_push_of_some _ e)
    refine wpAny_bind (wpAny_holding (next_list_end_hot hot₁ hit₁ hl₁ (by simp) fun h₂ he₂ => ?_))
    simp only [Option.isSome_none, Bool.false_eq_true, if_false]
    refine wpAny_pure (hQ h₂ fun b o hb e => he₂ b o hb (hs₁.extBut b o hb (Heap.get?_push_of_some _ e)))
end
end PixHot
namespace Pix
open PySem PySem.Spec PyProof.Rows L2
section
variable {X : Cx} {pos : Pos}
theorem pg_tupH {es : List Expr} {k : Nat} {t : TGs} {n : Nat} (hc : L2H.HotC X) (h : PGs X es t)
    (hn : (assignEach es X.env).length = n := by rfl) (hst : (assignEach es X.env).findIdx? (·.1) = none := by rfl) : PG X (.Tuple es k pos) (gTup X.K n t) := by
  refine ⟨fun pins s σ H v u Q I r hw => ?_⟩
  obtain ⟨a, xs, e1, hq, hl, hw⟩ := hw
  subst e1
  cases r
  obtain ⟨its, rv, ht, hz⟩ := I.tuple hq
  obtain ⟨x1, hot⟩ := hc.at I
  have hn' : (assignEach es X.env).length = its.toArray.size := hn.trans (hl.symm.trans (rv.length.trans (by simp)))
  rw [PyProof.Rows.assign_Tuple]
  refine wpAny_bind (wpAny_standAt ?_)
  unfold unpack
  rw [hn', hst]
  refine wpAny_bind (wpAny_holding (PixHot.unpackItems_tuple_hot hot ht fun h' hx => ?_))
  have I1 : Inv X pins σ H { s with heap := h' } := I.kept (t' := s.toks) fun b o e => hx b o (Nat.ne_of_lt (Heap.lt_size e)) e
  exact h.run pins _ σ H xs _ Q I1 (by simpa using rv) hw
theorem pg_unlH {es : List Expr} {k : Nat} {t : TGs} {n : Nat} (hc : L2H.HotC X) (h : PGs X es t)
    (hn : (assignEach es X.env).length = n := by rfl) (hst : (assignEach es X.env).findIdx? (·.1) = none := by rfl) : PG X (.Tuple es k pos) (gUnl X.K n t) := by
  refine ⟨fun pins s σ H v u Q I r hw => ?_⟩
  obtain ⟨a, xs, e1, hq, hl, hw⟩ := hw
  subst e1
  cases r
  obtain ⟨its, rv, pl, hz⟩ := I.list hq
  have hl' : s.heap.IsList a its.toArray := by
    obtain ⟨o, m, e, c, d, q⟩ := pl
    exact ⟨o, e, c, m, q⟩
  obtain ⟨x1, hot⟩ := hc.at I
  have hn' : (assignEach es X.env).length = its.toArray.size := hn.trans (hl.symm.trans (rv.length.trans (by simp)))
  rw [PyProof.Rows.assign_Tuple]
  refine wpAny_bind (wpAny_standAt ?_)
  unfold unpack
  rw [hn', hst]
  refine wpAny_bind (wpAny_holding (PixHot.unpackItems_list_hot hot hl' fun h' hx => ?_))
  have I1 : Inv X pins σ H { s with heap := h' } := I.kept (t' := s.toks) fun b o e => hx b o (Nat.ne_of_lt (Heap.lt_size e)) e
  exact h.run pins _ σ H xs _ Q I1 (by simpa using rv) hw
end
end Pix
end
section
set_option Elab.async false
set_option linter.all false
set_option maxRecDepth 100000
set_option maxHeartbeats 1000000
/-! PixC5: targets, what is walked, comprehensions. -/
namespace Pix
open PySem PySem.Spec PyProof.Rows L2

/-! ### targets -/
mutual
def T.slots : T → List Nat
  | .s i => [i]
  | .t ts => T.slotss ts
def T.slotss : List T → List Nat
  | [] => []
  | x :: xs => T.slots x ++ T.slotss xs
end
section
variable {G : Gl0} {X : Cx} {Wx : WX} {σ : L2.St}
theorem wipe_set {i : Nat} {x : Option V} : ∀ {vs : List Nat} {σ : L2.St}, i ∈ vs → L2.wipe (σ.set i x) vs = L2.wipe σ vs
  | [], _, h => by simp at h
  | v :: vs, σ, h => by
    unfold L2.wipe
    by_cases hi : i ∈ vs
    · rw [wipe_set hi]
    · have e : i = v := by
        rcases List.mem_cons.mp h with q | q
        · exact q
        · exact absurd q hi
      subst e
      have com : ∀ (us : List Nat) (τ : L2.St), i ∉ us → L2.wipe (τ.set i x) us = (L2.wipe τ us).set i x := by
        intro us
        induction us with
        | nil => intro τ _; rfl
        | cons u us ih =>
          intro τ hu
          simp only [List.mem_cons, not_or] at hu
          unfold L2.wipe
          rw [ih τ hu.2, List.set_comm _ _ hu.1]
      rw [com vs σ hi, List.set_set]
def RG (G : Gl0) (t : T) : TG := fun v σ H Q => ∃ b W s u fr, BSim G b W s σ H ∧ Rep G W u v ∧ bindT t u s.fr = some fr ∧
  ∀ σ', (∀ vs : List Nat, (∀ i ∈ T.slots t, i ∈ vs) → L2.wipe σ' vs = L2.wipe σ vs) → BSim G b W { s with fr := fr } σ' H → Q σ' H
def RGd (G : Gl0) (t : T) : TG := fun v σ H Q => ∃ b W s u fr, BSim G b W s σ H ∧ Rep G W u v ∧ bindTd t s.hp u s.fr = some fr ∧
  ∀ σ', (∀ vs : List Nat, (∀ i ∈ T.slots t, i ∈ vs) → L2.wipe σ' vs = L2.wipe σ vs) → BSim G b W { s with fr := fr } σ' H → Q σ' H
def RGs (G : Gl0) (ts : List T) : TGs := fun vs σ H Q => ∃ b W s us fr, BSim G b W s σ H ∧ Reps G W us vs ∧ bindTs ts us s.fr = some fr ∧
  ∀ σ', (∀ vs : List Nat, (∀ i ∈ T.slotss ts, i ∈ vs) → L2.wipe σ' vs = L2.wipe σ vs) → BSim G b W { s with fr := fr } σ' H → Q σ' H
theorem PG.imp {e : Expr} {t t' : TG} (h : PG X e t) (f : ∀ v σ H Q, t' v σ H Q → t v σ H Q) : PG X e t' := ⟨fun pins s σ H v u Q I r hw => h.run pins s σ H v u Q I r (f v σ H Q hw)⟩
theorem PGs.imp {e : List Expr} {t t' : TGs} (h : PGs X e t) (f : ∀ v σ H Q, t' v σ H Q → t v σ H Q) : PGs X e t' := ⟨fun pins s σ H v u Q I r hw => h.run pins s σ H v u Q I r (f v σ H Q hw)⟩
theorem PG.or {e : Expr} {t t' : TG} (h : PG X e t) (h' : PG X e t') : PG X e (fun v σ H Q => t v σ H Q ∨ t' v σ H Q) := ⟨fun pins s σ H v u Q I r hw => hw.elim (h.run pins s σ H v u Q I r) (h'.run pins s σ H v u Q I r)⟩
theorem xg_s {i : Nat} {x : PySem.Str} {pos : Pos} (hN : X.N.Nodup) (hi : X.N[i]? = some x) (hx : Loc X.env.scope x) (hf : X.fn x = true ∨ X.env.scope.names.lookup x = some .local) : PG X (.Name x pos) (RG G (.s i)) := by
  refine PG.imp (pg_name hN hi hx hf) fun v σ H Q ⟨b, W, s, u, fr, B, r, e, k⟩ => ?_
  simp only [bindT] at e
  split at e
  · rename_i hl
    cases e
    exact k _ (fun vs h => wipe_set (h i (by simp [T.slots]))) (B.put hl r)
  · cases e
theorem xgs_nil : PGs X [] (RGs G []) := by
  refine PGs.imp pgs_nil fun v σ H Q ⟨b, W, s, us, fr, B, r, e, k⟩ => ?_
  cases us with
  | nil =>
    cases r
    simp only [bindTs, Option.some.injEq] at e
    subst e
    exact ⟨rfl, k σ (fun _ _ => rfl) B⟩
  | cons => simp [bindTs] at e
theorem assignEach_cons {e : Expr} (h : notStar e = true) (es : List Expr) (env : Env) : (assignEach (e :: es) env) = (false, assign e env) :: (assignEach es env) := by
  cases e <;> first | rfl | exact absurd h Bool.false_ne_true
theorem xgs_cons {e : Expr} {es : List Expr} {t : T} {ts : List T} (h : PG X e (RG G t)) (hs : PGs X es (RGs G ts)) (hn : notStar e = true) : PGs X (e :: es) (RGs G (t :: ts)) := by
  refine PGs.imp (pgs_cons h hs (by rw [assignEach_cons hn]; rfl)) fun v σ H Q ⟨b, W, s, us, fr, B, r, e, k⟩ => ?_
  cases us with
  | nil => simp [bindTs] at e
  | cons u us =>
    cases r with
    | @cons _ _ v vs r rs =>
    simp only [bindTs] at e
    split at e
    · cases e
    · rename_i fr1 e1
      refine ⟨v, vs, rfl, b, W, s, u, fr1, B, r, e1, fun σ1 w1 B1 => ⟨b, W, { s with fr := fr1 }, us, fr, B1, rs, e, fun σ2 w2 B2 => ?_⟩⟩
      exact k σ2 (fun vs h => (w2 vs fun i hi => h i (by simp [T.slotss, hi])).trans (w1 vs fun i hi => h i (by simp [T.slotss, hi]))) B2
theorem each_len {env : Env} : ∀ {es : List Expr}, es.all notStar = true → (assignEach es env).length = es.length ∧ (assignEach es env).findIdx? (·.1) = none
  | [], _ => ⟨rfl, rfl⟩
  | e :: es, h => by
    rw [List.all_cons, Bool.and_eq_true] at h
    obtain ⟨h1, h2⟩ := each_len (env := env) h.2
    rw [assignEach_cons h.1]
    exact ⟨by rw [List.length_cons, h1, List.length_cons], by rw [List.findIdx?_cons]; simp [h2]⟩
theorem bindTs_len : ∀ {ts : List T} {us : List U} {fr fr' : List Sl}, bindTs ts us fr = some fr' → us.length = ts.length
  | [], us, fr, fr', h => by cases us <;> simp [bindTs] at h; rfl
  | t :: ts, us, fr, fr', h => by
    cases us with
    | nil => simp [bindTs] at h
    | cons u us =>
      simp only [bindTs] at h
      split at h
      · cases h
      · rw [List.length_cons, List.length_cons, bindTs_len h]
theorem xg_t {es : List Expr} {k : Nat} {pos : Pos} {ts : List T} (hK : X.K = G.K) (hc : X.calm = true) (hs : PGs X es (RGs G ts)) (hn : es.all notStar = true) (hl : ts.length = es.length) : PG X (.Tuple es k pos) (RG G (.t ts)) := by
  obtain ⟨l1, l2⟩ := each_len (env := X.env) hn
  refine PG.imp (PG.or (pg_tup (n := es.length) hc hs l1 l2) (pg_unl (n := es.length) hc hs l1 l2)) fun v σ H Q ⟨b, W, s, u, fr, B, r, e, k⟩ => ?_
  rw [hK]
  cases u with
  | tup xs =>
    simp only [bindT] at e
    obtain ⟨a, vs, rfl, h1, h2⟩ := tup_rep B r
    exact .inl ⟨a, vs, rfl, h1, by rw [← h2.length, bindTs_len e, hl], b, W, s, xs, fr, B, h2, e, k⟩
  | lst xs =>
    simp only [bindT] at e
    cases r with
    | @lst _ a vs h1 h2 =>
    exact .inr ⟨a, vs, rfl, SqL.of (B.fzin h1), by rw [← h2.length, bindTs_len e, hl], b, W, s, xs, fr, B, h2, e, k⟩
  | _ => simp [bindT] at e
/-- what unpacks tuples and lists -/
theorem rgd_seq {K : PySem.W.Frag} {es : List Expr} {ts : List T} (hK : K = G.K) (hl : ts.length = es.length) {v : V} {σ : L2.St} {H : L2.Hp} {Q : L2.St → L2.Hp → Prop} (h : RGd G (.t ts) v σ H Q) : gTup K es.length (RGs G ts) v σ H Q ∨ gUnl K es.length (RGs G ts) v σ H Q := by
  obtain ⟨b, W, s, u, fr, B, r, e, k⟩ := h
  subst hK
  simp only [bindTd] at e
  split at e
  · rename_i xs hx
    obtain ⟨a, vs, rfl, h1, h2⟩ := seqOf_rep B r hx
    have ln : vs.length = es.length := by rw [← h2.length, bindTs_len e, hl]
    rcases h1 with h1 | h1
    · exact .inr ⟨a, vs, rfl, h1, ln, b, W, s, xs, fr, B, h2, e, k⟩
    · exact .inl ⟨a, vs, rfl, h1, ln, b, W, s, xs, fr, B, h2, e, k⟩
  · cases e
theorem xg_td {es : List Expr} {k : Nat} {pos : Pos} {ts : List T} (hK : X.K = G.K) (hc : X.calm = true) (hs : PGs X es (RGs G ts)) (hn : es.all notStar = true) (hl : ts.length = es.length) : PG X (.Tuple es k pos) (RGd G (.t ts)) := by
  obtain ⟨l1, l2⟩ := each_len (env := X.env) hn
  exact PG.imp (PG.or (pg_tup (n := es.length) hc hs l1 l2) (pg_unl (n := es.length) hc hs l1 l2)) fun v σ H Q h => rgd_seq hK hl h

/-! ### what is walked -/
/-- items that stand -/
def WalkL (G : Gl0) (W : Wd) (xs : List U) (J : L2.It) : Prop := ∀ b W1 s σ H i, BSim G b W1 s σ H → W.le W1 →
  (∀ u, xs[i]? = some u → J.go i H ∧ ∀ x H', J.yld i H x H' → ∃ W2, W1.le W2 ∧ Rep G W2 u x ∧ BSim G b W2 s σ H') ∧ (xs[i]? = none → J.stop i H)
theorem WalkL.le {W W' : Wd} {xs : List U} {J : L2.It} (h : WalkL G W xs J) (l : W.le W') : WalkL G W' xs J := fun b W1 s σ H i B le => h b W1 s σ H i B (l.trans le)
/-- a list that may change while it is walked -/
def WalkV (G : Gl0) (W : Wd) (r : Nat) (en : Bool) (J : L2.It) : Prop := ∀ b W1 s σ H i, BSim G b W1 s σ H → W.le W1 →
  (∀ u, liveAt s.hp r i en = some (some u) → J.go i H ∧ ∀ x H', J.yld i H x H' → ∃ W2, W1.le W2 ∧ Rep G W2 u x ∧ BSim G b W2 s σ H') ∧ (liveAt s.hp r i en = some none → J.stop i H)
def WalkG (G : Gl0) (W : Wd) (src : Src) (J : L2.It) : Prop := match src with
  | .snap xs => WalkL G W xs J
  | .live r en => WalkV G W r en J
def RI (G : Gl0) (Wx : WX) (f : St → Re Src) : TI := fun σ H R => ∃ b W s, BSim G b W s σ H ∧ okR G b W σ Wx (fun W' s' src H' => ∀ J, WalkG G W' src J → R J H') (f s)
theorem PI.imp {tg e : Expr} {t t' : TI} (h : PI X tg e t) (f : ∀ σ H Q, t' σ H Q → t σ H Q) : PI X tg e t' := ⟨fun pins s σ H Q I hw => h.run pins s σ H Q I (f σ H Q hw)⟩
theorem PI.or {tg e : Expr} {t t' : TI} (h : PI X tg e t) (h' : PI X tg e t') : PI X tg e (fun σ H Q => t σ H Q ∨ t' σ H Q) := ⟨fun pins s σ H Q I hw => hw.elim (h.run pins s σ H Q I) (h'.run pins s σ H Q I)⟩
theorem walk_list {W : Wd} {xs : List U} {vs : List V} {l : Addr} (rs : Reps G W xs vs) (h : ∀ H : L2.Hp, (∀ a o, W.fz a = some o → H a = some o) → SqL G.K H l vs) : WalkL G W xs (Itl G.K l) := by
  intro b W1 s σ H i B le
  have hq := h H fun a o e => B.fzin (le.fz a o e)
  refine ⟨fun u e => ?_, fun e => ⟨vs, hq, ?_⟩⟩
  · obtain ⟨v, h1, h2⟩ := rs.get e
    refine ⟨⟨vs, v, hq, h1⟩, fun x H' ⟨e1, e2⟩ => ?_⟩
    have := e2 vs hq
    rw [h1] at this
    cases this
    subst e1
    exact ⟨W1, .rfl', h2.mono le, B⟩
  · rw [← rs.length]; exact List.getElem?_eq_none_iff.mp e
theorem walk_live {W : Wd} {r : Nat} {l : Addr} (hm : W.m[r]? = some l) : WalkV G W r false (Itl G.K l) := by
  intro b W1 s σ H i B le
  have hm1 := le.get hm
  unfold liveAt
  cases hk : s.hp[r]? with
  | none => exact ⟨fun u e => (by simp at e), fun e => (by simp at e)⟩
  | some o =>
    cases o with
    | dct _ _ => exact ⟨fun u e => (by simp at e), fun e => (by simp at e)⟩
    | ins _ _ => exact ⟨fun u e => (by simp at e), fun e => (by simp at e)⟩
    | lst xs =>
      obtain ⟨vs, h1, h2⟩ := B.h.box r _ l hk hm1
      have hq : SqL G.K H l vs := SqL.of h1
      dsimp only
      refine ⟨fun u e => ?_, fun e => ⟨vs, hq, ?_⟩⟩
      · cases hx : xs[i]? with
        | none => rw [hx] at e; cases e
        | some x =>
          rw [hx] at e
          cases e
          obtain ⟨v, g1, g2⟩ := h2.get hx
          refine ⟨⟨vs, v, hq, g1⟩, fun y H' ⟨e1, e2⟩ => ?_⟩
          have := e2 vs hq
          rw [g1] at this
          cases this
          subst e1
          exact ⟨W1, .rfl', g2, B⟩
      · cases hx : xs[i]? with
        | none => rw [← h2.length]; exact List.getElem?_eq_none_iff.mp hx
        | some x => rw [hx] at e; cases e
theorem walk_tup {W : Wd} {xs : List U} {vs : List V} {l : Addr} (rs : Reps G W xs vs) (h : ∀ H : L2.Hp, (∀ a o, W.fz a = some o → H a = some o) → SqT G.K H l vs) : WalkL G W xs (Itt G.K l) := by
  intro b W1 s σ H i B le
  have hq := h H fun a o e => B.fzin (le.fz a o e)
  refine ⟨fun u e => ?_, fun e => ⟨vs, hq, ?_⟩⟩
  · obtain ⟨v, h1, h2⟩ := rs.get e
    refine ⟨⟨vs, v, hq, h1⟩, fun x H' ⟨e1, e2⟩ => ?_⟩
    have := e2 vs hq
    rw [h1] at this
    cases this
    subst e1
    exact ⟨W1, .rfl', h2.mono le, B⟩
  · rw [← rs.length]; exact List.getElem?_eq_none_iff.mp e
theorem walk_str {W : Wd} {z : List Nat} (hz : ∀ c ∈ z, c < 1114112) : WalkL G W (z.map fun c => .str [c]) (Its ⟨z.toArray⟩) := by
  intro b W1 s σ H i B le
  refine ⟨fun u e => ?_, fun e => ?_⟩
  · rw [List.getElem?_map] at e
    obtain ⟨c, h1, rfl⟩ := Option.map_eq_some_iff.mp e
    refine ⟨?_, fun x H' ⟨e1, c', h2, e2⟩ => ?_⟩
    · show i < z.toArray.size
      simpa using (List.getElem?_eq_some_iff.mp h1).1
    · have h2' : z.toArray[i]? = some c' := h2
      rw [List.getElem?_toArray, h1] at h2'
      cases h2'
      subst e1 e2
      exact ⟨W1, .rfl', .str [c] (by show (1 : Nat) ≤ SZ; decide) (fun d hd => by simp at hd; subst hd; exact hz _ (List.mem_of_getElem? h1)), B⟩
  · show z.toArray.size ≤ i
    rw [List.getElem?_map] at e
    have e' : z[i]? = none := by
      cases q : z[i]? with
      | none => rfl
      | some x => rw [q] at e; cases e
    simpa using List.getElem?_eq_none_iff.mp e'
theorem rngL_get : ∀ (n : Nat) (lo : Int) (i : Nat), (rngL lo 1 n)[i]? = if i < n then some (.int (lo + i)) else none
  | 0, lo, i => by simp [rngL]
  | n + 1, lo, 0 => by simp [rngL]
  | n + 1, lo, i + 1 => by
    simp only [rngL, List.getElem?_cons_succ]
    rw [rngL_get n (lo + 1) i]
    by_cases h : i < n
    · rw [if_pos h, if_pos (by omega)]
      congr 2
      omega
    · rw [if_neg h, if_neg (by omega)]
theorem walk_rng {W : Wd} (lo : Int) (n : Nat) : WalkL G W (rngL lo 1 n) (Itr lo n) := by
  intro b W1 s σ H i B le
  rw [rngL_get]
  refine ⟨fun u e => ?_, fun e => ?_⟩
  · split at e
    · rename_i h
      cases e
      exact ⟨h, fun x H' ⟨e1, e2⟩ => by subst e1 e2; exact ⟨W1, .rfl', .int _, B⟩⟩
    · cases e
  · split at e
    · cases e
    · rename_i h; exact Nat.le_of_not_lt h
def seqIt (x : U) (s1 : St) : Re Src := match x with
    | .str z => .ok (.snap (z.map fun c => .str [c])) s1
    | .tup xs => .ok (.snap xs) s1
    | .lst xs => .ok (.snap xs) s1
    | .scr xs => .ok (.snap (xs.map .int)) s1
    | .ref r => (match s1.hp[r]? with
      | some (.lst _) => .ok (.live r false) s1
      | _ => .bad)
    | _ => .bad
theorem xi_seq {a tg : Expr} {fa : St → Re U} (hK : X.K = G.K) (ha : PE X a (RE G Wx fa)) : PI X tg a (RI G Wx fun s => (fa s).bnd seqIt) := by
  refine PI.imp (PI.or (pi_list ha) (PI.or (pi_tup ha) (pi_str ha))) fun σ H R ⟨b, W, s, B, ok⟩ => ?_
  rw [hK]
  have lst : ∀ {x : U} {s1 : St}, fa s = .ok x s1 → (∀ W1 v H1, W.le W1 → BSim G b W1 s1 σ H1 → Rep G W1 x v → ∃ l xs vs, seqIt x s1 = .ok (.snap xs) s1 ∧ v = .ref l ∧ SqL G.K H1 l vs ∧ Reps G W1 xs vs ∧ ∀ H' : L2.Hp, (∀ a o, W1.fz a = some o → H' a = some o) → SqL G.K H' l vs) → iList G.K (RE G Wx fa) σ H R := by
    intro x s1 e h
    refine ⟨b, W, s, B, then_eq ok fun W1 s1' x' H1 e' le B1 q v r => ?_⟩
    rw [e] at e'; cases e'
    obtain ⟨l, xs, vs, h1, rfl, h2, h3, h4⟩ := h W1 v H1 le B1 r
    rw [h1] at q
    have q2 := q W1 H1 .rfl' B1
    exact ⟨l, rfl, ⟨vs, h2⟩, q2 _ (show WalkG G W1 (.snap xs) _ from walk_list h3 h4)⟩
  cases e : fa s with
  | bad => simp only [e] at ok; exact (show False from ok).elim
  | ex c u s1 =>
    refine .inl ⟨b, W, s, B, ?_⟩
    simp only [e] at ok ⊢
    exact ok
  | ok x s1 =>
    cases x with
    | lst xs =>
      refine .inl (lst e fun W1 v H1 le B1 r => ?_)
      cases r with
      | @lst _ l vs h1 h2 => exact ⟨l, xs, vs, rfl, rfl, SqL.of (B1.fzin h1), h2, fun H' k => SqL.of (k _ _ h1)⟩
    | scr xs =>
      refine .inl (lst e fun W1 v H1 le B1 r => ?_)
      cases r with
      | @scr _ l t => exact ⟨l, _, _, rfl, rfl, t.sq B1.h.fz, Reps.ints _, fun H' k => t.sq k⟩
    | tup xs =>
      refine .inr (.inl ⟨b, W, s, B, then_eq ok fun W1 s1' x' H1 e' le B1 q v r => ?_⟩)
      rw [e] at e'; cases e'
      have q2 := q W1 H1 .rfl' B1
      cases r with
      | @tup _ l vs h1 h2 => exact ⟨l, rfl, ⟨vs, SqT.of (B1.fzin h1)⟩, q2 _ (show WalkG G W1 (.snap xs) _ from walk_tup h2 fun H' k => SqT.of (k _ _ h1))⟩
      | @ktup _ l vs h1 _ h2 => exact ⟨l, rfl, ⟨vs, .inr h1⟩, q2 _ (show WalkG G W1 (.snap xs) _ from walk_tup h2 fun H' k => .inr h1)⟩
    | str z =>
      refine .inr (.inr ⟨b, W, s, B, then_eq ok fun W1 s1' x' H1 e' le B1 q v r => ?_⟩)
      rw [e] at e'; cases e'
      have q2 := q W1 H1 .rfl' B1
      cases r with
      | str _ hz hzc => exact ⟨_, rfl, q2 _ (show WalkG G W1 (.snap _) _ from walk_str hzc)⟩
    | ref r =>
      refine .inl ⟨b, W, s, B, then_eq ok fun W1 s1' x' H1 e' le B1 q v rr => ?_⟩
      rw [e] at e'; cases e'
      unfold seqIt at q
      dsimp only at q
      split at q
      · rename_i xs hk
        cases rr with
        | @ref _ l hm =>
        obtain ⟨vs, h1, h2⟩ := B1.h.box r _ l hk hm
        exact ⟨l, rfl, ⟨vs, SqL.of h1⟩, q W1 H1 .rfl' B1 _ (show WalkG G W1 (.live r false) _ from walk_live hm)⟩
      · exact (show False from q).elim
    | _ => simp only [e] at ok; exact (show False from ok).elim
end
end Pix
end
section
set_option Elab.async false
set_option linter.all false
set_option maxRecDepth 100000
set_option maxHeartbeats 1000000
/-! PixC6: comprehensions. -/
namespace Pix
open PySem PySem.Spec PyProof.Rows L2
section
variable {G : Gl0} {X : Cx} {Wx : WX} {σ : L2.St}
/-- in a block nothing is raised -/
abbrev W0 : WX := fun _ _ _ _ => False

theorem wipe_idem (σ : L2.St) (vs : List Nat) : L2.wipe (L2.wipe σ vs) vs = L2.wipe σ vs := by
  have gen : ∀ us : List Nat, (∀ i ∈ us, i ∈ vs) → ∀ τ : L2.St, L2.wipe (L2.wipe τ us) vs = L2.wipe τ vs := by
    intro us
    induction us with
    | nil => intro _ τ; rfl
    | cons u us ih =>
      intro h τ
      show L2.wipe ((L2.wipe τ us).set u none) vs = L2.wipe τ vs
      rw [wipe_set (h u (by simp)), ih (fun i hi => h i (by simp [hi]))]
  exact gen vs (fun _ h => h) σ
/-- an object that is none of ours is changed -/
theorem BSim.other {b : Ba} {W : Wd} {s : St} {H : L2.Hp} {D : Addr} {o : HO} (B : BSim G b W s σ H) (hf : W.fz D = none) (hm : D ∉ W.m) (ho : ¬ OwnA s.fr σ D) (hb : b.H0 D = none) : BSim G b W s σ (upd H D o) := by
  have B' := (B.less hf hm ho hb).more (H' := upd H D o) fun a x e => by
    have e' : (if a = D then none else H a) = some x := e
    by_cases q : a = D
    · rw [if_pos q] at e'; cases e'
    · rw [if_neg q] at e'; rw [upd_ne q]; exact e'
  exact B'
/-- how a new object D stands beside a run -/
structure Apart (b : Ba) (W : Wd) (s : St) (σ : L2.St) (D : Addr) : Prop where
  fz : W.fz D = none
  m : D ∉ W.m
  own : ¬ OwnA s.fr σ D
  h0 : b.H0 D = none
theorem BSim.apart {b : Ba} {W : Wd} {s : St} {H : L2.Hp} {D : Addr} (B : BSim G b W s σ H) (h : H D = none) : Apart b W s σ D := ⟨B.free_f h, B.free_m h, B.free_o h, B.free_b h⟩
/-- .. behind a part of the run -/
theorem Apart.on {b : Ba} {W W' : Wd} {s s' : St} {σ' : L2.St} {H H' : L2.Hp} {D : Addr} {o : HO} (A : Apart b W s σ D) (h : H D = some o) (B' : BSim G (b.at W H s.fr σ) W' s' σ' H') : Apart b W' s' σ' D ∧ H' D = some o := by
  have nn : ¬ (D ∈ W'.m ∨ ∃ x, W'.fz D = some x) := fun z => by
    rcases B'.e.new D z with y | ⟨x, y⟩ | y | y
    · exact A.m y
    · have y' : W.fz D = some x := y
      rw [A.fz] at y'; cases y'
    · have y' : H D = none := y
      rw [h] at y'; cases y'
    · exact A.own y
  refine ⟨⟨?_, fun z => nn (.inl z), fun z => ?_, A.h0⟩, B'.e.pres D o h A.m A.own⟩
  · cases q : W'.fz D with
    | none => rfl
    | some x => exact absurd (.inr ⟨x, q⟩) nn
  · rcases B'.ob D z with y | y
    · have y' : H D = none := y
      rw [h] at y'; cases y'
    · exact A.own y

theorem compL_ok {t : T} {vs : List Nat} {ft : St → Re Bool} {fe : St → Re U} {x : U} {xs ys : List U} {s s2 : St} (h : compL t vs ft fe (x :: xs) s = .ok ys s2) :
    ∃ fr k s3, bindT t x (wipe s.fr vs) = some fr ∧ ft { s with fr := fr } = .ok k s3 ∧ ((k = true ∧ ∃ y s4 r, fe s3 = .ok y s4 ∧ compL t vs ft fe xs s4 = .ok r s2 ∧ ys = y :: r) ∨ (k = false ∧ compL t vs ft fe xs s3 = .ok ys s2)) := by
  simp only [compL] at h
  split at h
  · cases h
  · rename_i fr e
    cases e1 : ft { s with fr := fr } with
    | bad => simp only [e1] at h; cases h
    | ex c u s3 => simp only [e1] at h; cases h
    | ok k s3 =>
      simp only [e1, Re.bnd] at h
      refine ⟨fr, k, s3, e, e1, ?_⟩
      cases k with
      | false => exact .inr ⟨rfl, h⟩
      | true =>
        simp only at h
        cases e2 : fe s3 with
        | bad => simp only [e2] at h; cases h
        | ex c u s4 => simp only [e2] at h; cases h
        | ok y s4 =>
          simp only [e2] at h
          cases e3 : compL t vs ft fe xs s4 with
          | bad => simp only [e3] at h; cases h
          | ex c u s5 => simp only [e3] at h; cases h
          | ok r s5 =>
            simp only [e3] at h
            cases h
            exact .inl ⟨rfl, y, s4, r, rfl, e3, rfl⟩
theorem compV_ok {t : T} {vs : List Nat} {ft : St → Re Bool} {fe : St → Re U} {r : Nat} {en : Bool} {n i : Nat} {x : U} {ys : List U} {s s2 : St} (hl : liveAt s.hp r i en = some (some x)) (h : compV t vs ft fe r en (n + 1) i s = .ok ys s2) :
    ∃ fr k s3, bindT t x (wipe s.fr vs) = some fr ∧ ft { s with fr := fr } = .ok k s3 ∧ ((k = true ∧ ∃ y s4 z, fe s3 = .ok y s4 ∧ compV t vs ft fe r en n (i + 1) s4 = .ok z s2 ∧ ys = y :: z) ∨ (k = false ∧ compV t vs ft fe r en n (i + 1) s3 = .ok ys s2)) := by
  simp only [compV, hl] at h
  split at h
  · cases h
  · rename_i fr e
    cases e1 : ft { s with fr := fr } with
    | bad => simp only [e1] at h; cases h
    | ex c u s3 => simp only [e1] at h; cases h
    | ok k s3 =>
      simp only [e1, Re.bnd] at h
      refine ⟨fr, k, s3, e, e1, ?_⟩
      cases k with
      | false => exact .inr ⟨rfl, h⟩
      | true =>
        simp only at h
        cases e2 : fe s3 with
        | bad => simp only [e2] at h; cases h
        | ex c u s4 => simp only [e2] at h; cases h
        | ok y s4 =>
          simp only [e2] at h
          cases e3 : compV t vs ft fe r en n (i + 1) s4 with
          | bad => simp only [e3] at h; cases h
          | ex c u s5 => simp only [e3] at h; cases h
          | ok z s5 =>
            simp only [e3] at h
            cases h
            exact .inl ⟨rfl, y, s4, z, rfl, e3, rfl⟩
theorem noEx_ok {α β : Type} {b : Ba} {W : Wd} {k : Wd → St → β → L2.Hp → Prop} {r : Re α} {f : α → St → Re β} (h : okR G b W σ Wx k ((noEx r).bnd f)) : ∃ a s, r = .ok a s ∧ okR G b W σ Wx k (f a s) := by
  cases r with
  | ok a s => exact ⟨a, s, rfl, h⟩
  | ex c u s => exact (show False from h).elim
  | bad => exact (show False from h).elim
theorem comp_imp {it elt : List U} {t : T} {vs : List Nat} {ft : St → Re Bool} {fe : St → Re U} {fi : St → Re Src} (hK : X.K = G.K) {b : Ba} {W : Wd} {s : St} {H : L2.Hp} {Q : VK} (B : BSim G b W s σ H) (hsl : ∀ i ∈ T.slots t, i ∈ vs)
    (ok : okR G b W σ Wx (kF G Q) ((fi s).bnd fun src s1 => if noOwn s1.fr vs then (noEx (compS t vs ft fe src s1)).bnd fun ys s2 => if ys.length ≤ SZ then .ok ys { s2 with fr := back s1.fr s2.fr vs } else .bad else .bad)) :
    tLc (RI G Wx fi) (RG G t) (RT G W0 ft) (RE G W0 fe) vs σ H Q := by
  refine ⟨b, W, s, B, ok.then fun W1 s1 src H1 le1 B1 q => ?_⟩
  split at q
  · rename_i hno
    cases src with
    | live r en =>
      intro J hJ D hD
      obtain ⟨ys, s2, e0, q⟩ := noEx_ok q
      split at q
      · rename_i hlen
        let Pv : Nat → Nat → L2.Hp → Prop := fun i m H => ∃ W' s' σ' au av yr, BSim G b W' s' σ' H ∧ W1.le W' ∧ L2.wipe σ' vs = L2.wipe σ vs ∧ Apart b W' s' σ' D ∧ H D = some (.lst av) ∧ Reps G W' au av ∧ compV t vs ft fe r en m i s' = .ok yr s2 ∧ ys = au ++ yr
        refine ⟨fun i m H => Pv i m H, ⟨SZ + 1, ?_⟩, ?_⟩
        · exact ⟨W1, s1, σ, [], [], ys, B1.more (fun a o e => by rw [upd_ne (ne_of_none e hD)]; exact e), .rfl', rfl, B1.apart hD, upd_same, .nil, e0, rfl⟩
        · rintro i m H2 ⟨W', s', σ', au, av, yr, B2, le2, hw, hA, hD2, rs, hc, hy⟩
          have B3 := B2.start
          have hJ' := (show WalkV G W1 r en J from hJ) _ W' s' σ' H2 i B3 le2
          cases m with
          | zero => cases hc
          | succ m =>
          cases hl : liveAt s'.hp r i en with
          | none => simp only [compV, hl] at hc; cases hc
          | some o =>
          cases o with
          | some y0 =>
            obtain ⟨hgo, hyl⟩ := hJ'.1 _ hl
            obtain ⟨fr, k, s3, hb, ht, hk⟩ := compV_ok hl hc
            refine .inr ⟨hgo, fun H' => Pv (i + 1) m H', fun H' p' => ⟨m, Nat.lt_succ_self m, p'⟩, fun x H' hxy => ?_⟩
            obtain ⟨W2, le3, r', B4⟩ := hyl x H' hxy
            have B5 := B4.wipes vs
            rw [hw] at B5
            refine ⟨_, W2, _, y0, fr, B5, r', hb, fun σ2 hw2 B6 => ⟨(hw2 vs hsl).trans (wipe_idem σ vs), _, W2, _, B6, ?_⟩⟩
            have hwσ : L2.wipe σ2 vs = L2.wipe σ vs := (hw2 vs hsl).trans (wipe_idem σ vs)
            have ht' : ft { fr := fr, hp := s'.hp } = .ok k s3 := ht
            rw [ht']
            intro W3 H3 le4 B7
            rcases hk with ⟨rfl, y, s4, yr', he, hc', hyr⟩ | ⟨rfl, hc'⟩
            · show RE G W0 fe σ2 H3 _
              refine ⟨_, W3, s3, B7, ?_⟩
              rw [he]
              intro W4 H4 le5 B8 v rv
              obtain ⟨hA4, hD4⟩ := hA.on hD2 B8
              have hlen' : au.length < ys.length := by rw [hy, hyr, List.length_append, List.length_cons]; omega
              have l1 := rs.length
              have l2 := line_eq
              refine ⟨av, hD4, by omega, W4, s4, σ2, au ++ [y], av ++ [v], yr', ?_, ((le2.trans le3).trans le4).trans le5, hwσ, hA4, upd_same, (rs.mono ((le3.trans le4).trans le5)).app (.one rv), hc', by rw [hy, hyr]; simp⟩
              exact (B2.back_to B8).other hA4.fz hA4.m hA4.own hA4.h0
            · show Pv (i + 1) m H3
              obtain ⟨hA4, hD4⟩ := hA.on hD2 B7
              exact ⟨W3, s3, σ2, au, av, yr, B2.back_to B7, (le2.trans le3).trans le4, hwσ, hA4, hD4, rs.mono (le3.trans le4), hc', hy⟩
          | none =>
            refine .inl ⟨hJ'.2 hl, ?_⟩
            simp only [compV, hl, Re.ok.injEq] at hc
            obtain ⟨rfl, rfl⟩ := hc
            rw [List.append_nil] at hy
            subst hy
            have B3 := (B2.less hA.fz hA.m hA.own hA.h0)
            have hl : s1.fr.length = s'.fr.length := by
              rw [B1.f.frl, B2.f.frl, ← L2.wipe_length σ' vs, hw, L2.wipe_length]
            have := q W' _ le2 (B1.blockEnd B3 le2 hw hno hl) D av rs (if_pos rfl)
            rw [upd_less hD2] at this
            exact this
      · exact (show False from q).elim
    | snap xs =>
      intro J hJ D hD
      have hJ : WalkL G W1 xs J := hJ
      obtain ⟨ys, s2, e0, q⟩ := noEx_ok q
      split at q
      · rename_i hlen
        let Pv : Nat → L2.Hp → Prop := fun i H => ∃ W' s' σ' au av yr, BSim G b W' s' σ' H ∧ W1.le W' ∧ L2.wipe σ' vs = L2.wipe σ vs ∧ Apart b W' s' σ' D ∧ H D = some (.lst av) ∧ Reps G W' au av ∧ compL t vs ft fe (xs.drop i) s' = .ok yr s2 ∧ ys = au ++ yr
        refine ⟨fun i m H => m = xs.length - i ∧ i ≤ xs.length ∧ Pv i H, ⟨xs.length, by simp, Nat.zero_le _, ?_⟩, ?_⟩
        · exact ⟨W1, s1, σ, [], [], ys, B1.more (fun a o e => by rw [upd_ne (ne_of_none e hD)]; exact e), .rfl', rfl, B1.apart hD, upd_same, .nil, by rw [List.drop_zero]; exact e0, rfl⟩
        · rintro i m H2 ⟨rfl, hi, W', s', σ', au, av, yr, B2, le2, hw, hA, hD2, rs, hc, hy⟩
          have B3 := B2.start
          have hJ' := hJ _ W' s' σ' H2 i B3 le2
          by_cases hlt : i < xs.length
          · have hx : xs[i]? = some xs[i] := List.getElem?_eq_getElem hlt
            obtain ⟨hgo, hyl⟩ := hJ'.1 _ hx
            rw [List.drop_eq_getElem_cons hlt] at hc
            obtain ⟨fr, k, s3, hb, ht, hk⟩ := compL_ok hc
            refine .inr ⟨hgo, Pv (i + 1), fun H' p' => ⟨xs.length - (i + 1), by omega, rfl, hlt, p'⟩, fun x H' hxy => ?_⟩
            obtain ⟨W2, le3, r, B4⟩ := hyl x H' hxy
            have B5 := B4.wipes vs
            rw [hw] at B5
            refine ⟨_, W2, _, xs[i], fr, B5, r, hb, fun σ2 hw2 B6 => ⟨(hw2 vs hsl).trans (wipe_idem σ vs), _, W2, _, B6, ?_⟩⟩
            have hwσ : L2.wipe σ2 vs = L2.wipe σ vs := (hw2 vs hsl).trans (wipe_idem σ vs)
            have ht' : ft { fr := fr, hp := s'.hp } = .ok k s3 := ht
            rw [ht']
            intro W3 H3 le4 B7
            rcases hk with ⟨rfl, y, s4, yr', he, hc', hyr⟩ | ⟨rfl, hc'⟩
            · show RE G W0 fe σ2 H3 _
              refine ⟨_, W3, s3, B7, ?_⟩
              rw [he]
              intro W4 H4 le5 B8 v rv
              obtain ⟨hA4, hD4⟩ := hA.on hD2 B8
              have hlen' : au.length < ys.length := by rw [hy, hyr, List.length_append, List.length_cons]; omega
              have l1 := rs.length
              have l2 := line_eq
              refine ⟨av, hD4, by omega, W4, s4, σ2, au ++ [y], av ++ [v], yr', ?_, ((le2.trans le3).trans le4).trans le5, hwσ, hA4, upd_same, (rs.mono ((le3.trans le4).trans le5)).app (.one rv), hc', by rw [hy, hyr]; simp⟩
              exact (B2.back_to B8).other hA4.fz hA4.m hA4.own hA4.h0
            · show Pv (i + 1) H3
              obtain ⟨hA4, hD4⟩ := hA.on hD2 B7
              exact ⟨W3, s3, σ2, au, av, yr, B2.back_to B7, (le2.trans le3).trans le4, hwσ, hA4, hD4, rs.mono (le3.trans le4), hc', hy⟩
          · have e : i = xs.length := by omega
            subst e
            refine .inl ⟨hJ'.2 (List.getElem?_eq_none (Nat.le_refl _)), ?_⟩
            rw [List.drop_length] at hc
            simp only [compL, Re.ok.injEq] at hc
            obtain ⟨rfl, rfl⟩ := hc
            rw [List.append_nil] at hy
            subst hy
            have B3 := (B2.less hA.fz hA.m hA.own hA.h0)
            have hl : s1.fr.length = s'.fr.length := by
              rw [B1.f.frl, B2.f.frl, ← L2.wipe_length σ' vs, hw, L2.wipe_length]
            have := q W' _ le2 (B1.blockEnd B3 le2 hw hno hl) D av rs (if_pos rfl)
            rw [upd_less hD2] at this
            exact this
      · exact (show False from q).elim
  · exact (show False from q).elim
end
end Pix
end
section
set_option Elab.async false
set_option linter.all false
set_option maxRecDepth 100000
set_option maxHeartbeats 1000000
/-! PixC7: comprehensions as expressions, ranges. -/
namespace Pix
open PySem PySem.Spec PyProof.Rows L2
section
variable {G : Gl0} {X : Cx} {Wx : WX} {σ : L2.St}
def compF (t : T) (vs : List Nat) (ft : St → Re Bool) (fe : St → Re U) (fi : St → Re Src) : St → Re (List U) := fun s => (fi s).bnd fun src s1 => if noOwn s1.fr vs then (noEx (compS t vs ft fe src s1)).bnd fun ys s2 => if ys.length ≤ SZ then .ok ys { s2 with fr := back s1.fr s2.fr vs } else .bad else .bad
theorem xf_comp {elt tg iter : Expr} {ifs : List Expr} {scope : Scope} {own : List (PySem.Str × Nat)} {pos : Pos} {t : T} {ft : St → Re Bool} {fe : St → Re U} {fi : St → Re Src} (hK : X.K = G.K) (hc : X.calm = true) (hN : X.N.Nodup) (hi : PI X tg iter (RI G Wx fi)) (ok : BlkOk X.N X.env.scope scope own)
    (hsl : ∀ i ∈ T.slots t, i ∈ own.map (·.2))
    (hg : ∀ (s : Shared) (H : L2.Hp) (C : Addr) (cl : List (PySem.Str × Addr)) (fp : List Addr), PG (X.blk s H scope (compEnvC scope cl C X.env) fp) tg (RG G t))
    (ht : ∀ (s : Shared) (H : L2.Hp) (C : Addr) (cl : List (PySem.Str × Addr)) (fp : List Addr), PTs (X.blk s H scope (compEnvC scope cl C X.env) fp) ifs (RT G W0 ft))
    (he : ∀ (s : Shared) (H : L2.Hp) (C : Addr) (cl : List (PySem.Str × Addr)) (fp : List Addr), PE (X.blk s H scope (compEnvC scope cl C X.env) fp) elt (RE G W0 fe)) (hs : notSet iter = true) :
    PE X (.ListComp elt [⟨tg, iter, ifs, 0⟩] scope pos) (RF G Wx (compF t (own.map (·.2)) ft fe fi)) :=
  PE.imp (pe_lc hc hN hi ok hg ht he (noFold_of hs X.env)) fun σ H Q ⟨b, W, s, B, q⟩ => comp_imp (it := []) (elt := []) hK B hsl q
theorem xts_nil : PTs X [] (RT G Wx fun s => .ok true s) := ⟨fun pins s σ H Q I ⟨b, W, s', B, ok⟩ => pts_nil.run pins s σ H Q I (ok W H .rfl' B)⟩
theorem xts_one {c : Expr} {f : St → Re Bool} (h : PT X c (RT G Wx f)) : PTs X [c] (RT G Wx f) := pts_one h

/-! ### ranges -/
def rng1 (x : U) (s1 : St) : Re Src := match x with
    | .int n => if n ≤ SZ ∧ -(2 ^ 62) ≤ n then .ok (.snap (rngL 0 1 n.toNat)) s1 else .bad
    | _ => .bad
def rng2 (x y : U) (s2 : St) : Re Src := match x, y with
    | .int m, .int n => if n - m ≤ SZ ∧ -(2 ^ 62) ≤ m ∧ m < 2 ^ 62 ∧ -(2 ^ 62) ≤ n ∧ n < 2 ^ 62 then .ok (.snap (rngL m 1 (n - m).toNat)) s2 else .bad
    | _, _ => .bad
theorem xi_rng1 {a tg : Expr} {fa : St → Re U} {p pos : Pos} (hg : Gl X "range") (hm : X.mg "range" = none) (ha : PE X a (RE G Wx fa)) (hs : notStar a = true) : PI X tg (.Call (.Name "range" p) [a] [] pos) (RI G Wx fun s => (fa s).bnd rng1) := by
  refine PI.imp (pi_range1 hg hm (pa_cons ha pa_nil (star_of hs _ _)) (star_of hs _ _)) fun σ H R ⟨b, W, s, B, ok⟩ => ⟨b, W, s, B, ok.then fun W1 s1 x H1 le B1 q v r => ?_⟩
  cases r <;> first | exact (show False from q).elim | skip
  rename_i n
  simp only [rng1] at q
  split at q
  · rename_i h
    have q := q W1 H1 .rfl' B1
    have : (SZ : Int) < 2 ^ 62 := by decide
    exact ⟨n, rfl, h.2, by omega, q _ (show WalkG G W1 (.snap _) _ from walk_rng 0 _)⟩
  · exact (show False from q).elim
theorem xi_rng2 {a c tg : Expr} {fa fb : St → Re U} {p pos : Pos} (hg : Gl X "range") (hm : X.mg "range" = none) (ha : PE X a (RE G Wx fa)) (hb : PE X c (RE G Wx fb)) (hs : notStar a = true) (hs2 : notStar c = true) : PI X tg (.Call (.Name "range" p) [a, c] [] pos) (RI G Wx fun s => (fa s).bnd fun x s1 => (fb s1).bnd fun y s2 => rng2 x y s2) := by
  refine PI.imp (pi_range2 hg hm (pa_cons ha (pa_cons hb pa_nil (star_of hs2 _ _)) (star_of hs _ _)) (by rw [star_of hs, star_of hs2]; rfl) (star_of hs2 _ _)) fun σ H R ⟨b, W, s, B, ok⟩ => ⟨b, W, s, B, ok.then fun W1 s1 x H1 le B1 q v r => ⟨b, W1, s1, B1, q.then fun W2 s2 y H2 le2 B2 q2 v2 r2 => ?_⟩⟩
  have r := r.mono le2
  cases r <;> cases r2 <;> first | exact (show False from q2).elim | skip
  rename_i m n
  simp only [rng2] at q2
  split at q2
  · rename_i h
    have q := q2 W2 H2 .rfl' B2
    exact ⟨m, n, rfl, h.2, q _ (show WalkG G W2 (.snap _) _ from walk_rng m _)⟩
  · exact (show False from q2).elim
end
end Pix
end
section
set_option Elab.async false
set_option linter.all false
set_option maxRecDepth 100000
set_option maxHeartbeats 1000000
/-! PixW4: comprehensions over range, and all(list), while an exception is handled. -/
namespace Pix
open PySem PySem.Spec PyProof.Rows L2
/-- a comprehension's block, the handled exception q within reach -/
abbrev Cx.blkH (X : Cx) (q : Addr × Obj) (s : Shared) (H : L2.Hp) (scope : Scope) (cenv : Env) (fp : List Addr) : Cx := { X.blk s H scope cenv fp with pn := [q] }
section
variable {X : Cx} {q : Addr × Obj}
theorem ok_blkH {s : Shared} {H : L2.Hp} {scope : Scope} {cenv : Env} {fp : List Addr} (ok : (X.blk s H scope cenv fp).Ok) : (Cx.blkH X q s H scope cenv fp).Ok :=
  ⟨ok.mod, ok.kind, ok.glob, ok.blt, ok.above, ok.inj, ok.has, ok.cab, ok.hd, ok.frames, ok.stk, ok.exf, ok.bs, ok.bsz, ok.noex, ok.exfs, ok.funs, ok.frf⟩
theorem inv_blkH {s s' : Shared} {H H' : L2.Hp} {σ' : L2.St} {scope : Scope} {cenv : Env} {fp : List Addr} (I : Inv (X.blk s H scope cenv fp) [] σ' H' s') (hq : s'.heap.get? q.1 = some q.2 ∧ H' q.1 = none ∧ q.1 ≠ cenv.locals ∧ q.1 ∉ frs X.stack ∧ ∀ v, q.2.data ≠ .cell v) :
    Inv (Cx.blkH X q s H scope cenv fp) [] σ' H' s' :=
  ⟨ok_blkH I.ok, I.os, I.bare, I.base, I.loc, I.cell, I.free, I.freeC, fun p hp => by
    have e : p = q := by simpa using (show p ∈ [q] ++ [] from hp)
    rw [e]; exact hq, I.hok, I.len⟩
theorem lc_coreH {pins : List (Addr × Obj)} {s : Shared} {σ : L2.St} {H : L2.Hp} {Q : VK} {elt tg iter : Expr} {ifs : List Expr} {scope : Scope} {own : List (PySem.Str × Nat)} {pos pos' : Pos} {wi : TI} {g : TG} {tt : TT} {te : TE} {use : Option (Value → Sem Unit)} {Qf : Value → Shared → Prop}
    (hot : L2H.Hot1 X.A q) (hq : q ∈ X.pn) (hN : X.N.Nodup) (I : Inv X pins σ H s) (hi : L2H.PIH X tg iter wi) (ok : BlkOk X.N X.env.scope scope own)
    (hg : ∀ (s : Shared) (H : L2.Hp) (C : Addr) (cl : List (PySem.Str × Addr)) (fp : List Addr), PG (Cx.blkH X q s H scope (compEnvC scope cl C X.env) fp) tg g) (ht : ∀ (s : Shared) (H : L2.Hp) (C : Addr) (cl : List (PySem.Str × Addr)) (fp : List Addr), PTs (Cx.blkH X q s H scope (compEnvC scope cl C X.env) fp) ifs tt)
    (he : ∀ (s : Shared) (H : L2.Hp) (C : Addr) (cl : List (PySem.Str × Addr)) (fp : List Addr), PE (Cx.blkH X q s H scope (compEnvC scope cl C X.env) fp) elt te) (hs : ∀ x, foldedSetIterable iter X.env x = pure x)
    (h : tLc wi g tt te (own.map (·.2)) σ H Q)
    (hRR : ∀ D C s' m H', Inv X pins σ H' s' → Q (.ref D) H' → s'.heap.Ns C m → FpOk X pins H' C → compPost (model X.prog X.w) X.A X.xe use Qf (.ref D) C (.ok .next) s') :
    wpAny (model X.prog X.w) X.A (comprehension (.ListComp elt [⟨tg, iter, ifs, 0⟩] scope pos) scope X.env pos' (newList []) false (eval iter X.env) use) Qf X.xe s := by
  have hfree : ∀ y ∈ scope.names, y.2 = .free → ∃ c, X.env.cells.lookup y.1 = some c := fun y hy e => by
    rcases ok.free y hy e with k | k
    · exact I.ok.has _ (.inl k)
    · exact I.ok.has _ (.inr k)
  refine wpAny_comprehension_free (use := use) rfl hs (closure_ok hfree) ok.kind (fun y hy e => by rw [ok.uniq y hy, e])
    (thn (hi.run pins s σ H _ I h) fun xv s1 hx => thn hx fun itv s2 h2 => ?_)
  obtain ⟨it, fp, tn, J, H2, e, I2, T, st2, f2, q2⟩ := h2
  subst e
  refine wpAny_newObj_type (newEnv_comp ?_) (by show 0 ≤ sizeLine; decide)
  generalize hD : s2.heap.objs.size = D
  have hDn : H2 D = none := I2.hok.fresh (Nat.le_of_eq hD)
  obtain ⟨W, ⟨m0, w0⟩, turn⟩ := q2 D hDn
  generalize hs3 : ({ s2 with heap := s2.heap.push { cls := .type "list", data := .seq ([] : List Value).toArray } } : Shared) = s3
  have I3 : Inv X pins σ (upd H2 D (.lst [])) s3 := by
    rw [← hs3]
    refine I2.laid (t' := s2.toks) (fun b o e => Heap.get?_push_of_some _ e) (Nat.le_of_eq hD) ⟨Nat.zero_le _, [], 0, .nil, ?_⟩
    rw [← hD]
    exact Heap.get?_push_size _ rfl
  have h3 : s3.heap = s2.heap.push { cls := .type "list", data := .seq ([] : List Value).toArray } := by rw [← hs3]
  have sz : ∀ b ∈ fp, b < s2.heap.objs.size := fun b hb => by
    obtain ⟨o, e, _⟩ := T.obj _ _ st2 b hb
    exact Heap.lt_size e
  have f3 : ∀ b ∈ fp, FpOk X pins (upd H2 D (.lst [])) b ∧ b < s3.heap.objs.size := fun b hb => by
    have hlt := sz b hb
    refine ⟨⟨?_, (f2 b hb).2⟩, by rw [h3, Heap.size_push]; exact Nat.lt_succ_of_lt hlt⟩
    rw [upd_ne (by rw [← hD]; exact Nat.ne_of_lt hlt)]
    exact (f2 b hb).1
  have st3 : tn 0 s3.heap := T.keep _ _ _ st2 fun b _ o e => by rw [h3]; exact Heap.get?_push_of_some _ e
  have I4 := block_start I3 ok hN f3
  have P3 := I3.pin q (List.mem_append_left _ hq)
  have pg := hg s3 (upd H2 D (.lst [])) s3.heap.objs.size (cellsFrom (s3.heap.objs.size + 1) scope.names (cloFrom X.env.cells scope.names [])) fp
  have pt := ht s3 (upd H2 D (.lst [])) s3.heap.objs.size (cellsFrom (s3.heap.objs.size + 1) scope.names (cloFrom X.env.cells scope.names [])) fp
  have pe := he s3 (upd H2 D (.lst [])) s3.heap.objs.size (cellsFrom (s3.heap.objs.size + 1) scope.names (cloFrom X.env.cells scope.names [])) fp
  show codeAny _ _ (.compStart (.ListComp elt [⟨tg, iter, ifs, 0⟩] scope pos) 0 (.ref it) (.ref D) (compEnvC scope (cellsFrom (s3.heap.objs.size + 1) scope.names (cloFrom X.env.cells scope.names [])) s3.heap.objs.size X.env)) (compPost (model X.prog X.w) X.A X.xe use Qf (.ref D) s3.heap.objs.size) { s3 with heap := pushCells (s3.heap.push { cls := .type "dict", data := .dict #[] }) scope.names }
  have nfp : ∀ b ∈ fp, (upd H2 D (.lst [])) b = none := fun b hb => (f3 b hb).1.1
  generalize hce : compEnvC scope (cellsFrom (s3.heap.objs.size + 1) scope.names (cloFrom X.env.cells scope.names [])) s3.heap.objs.size X.env = ce at I4 pg pt pe ⊢
  have cL : ce.locals = s3.heap.objs.size := by subst hce; rfl
  generalize hH3 : upd H2 D (.lst []) = H3 at I3 I4 pg pt pe w0 nfp f3 P3
  have I4 : Inv (Cx.blkH X q s3 H3 scope ce fp) [] (L2.wipe σ (own.map (·.2))) H3 { s3 with heap := pushCells (s3.heap.push { cls := .type "dict", data := .dict #[] }) scope.names } :=
    inv_blkH I4 ⟨pushCells_keeps _ _ _ _ (Heap.get?_push_of_some _ P3.1), P3.2.1, by rw [cL]; exact Nat.ne_of_lt (Heap.lt_size P3.1), fun hm => (List.mem_cons.mp (I3.stkSub q.1 hm)).elim P3.2.2.1 P3.2.2.2.1, P3.2.2.2.2⟩
  generalize hs4 : ({ s3 with heap := pushCells (s3.heap.push { cls := .type "dict", data := .dict #[] }) scope.names } : Shared) = s4 at I4 ⊢
  have st4 : tn 0 s4.heap := T.keep _ _ _ st3 fun b _ o e => by rw [← hs4]; exact pushCells_keeps _ _ _ _ (Heap.get?_push_of_some _ e)
  have hcB : L2H.HotC (Cx.blkH X q s3 H3 scope ce fp) := ⟨q, hot, List.mem_singleton.mpr rfl⟩
  have stat : ∀ {σ' : L2.St} {H' : L2.Hp} {s' : Shared}, Inv (Cx.blkH X q s3 H3 scope ce fp) [] σ' H' s' → (∀ b ∈ fp, H' b = none) → ∀ b ∈ fp, FpOk (Cx.blkH X q s3 H3 scope ce fp) [] H' b := fun {σ' H' s'} I' hn b hb =>
    ⟨hn b hb, (I'.ok.exf b hb).1, I'.ok.exfs b hb, .inl hb, fun x c e => (I'.ok.exf b hb).2 x c e, fun p hp => by
      have e : p = q := by simpa using (show p ∈ [q] ++ [] from hp)
      rw [e]
      exact (f3 b hb).1.2.2.2.2.2 q (List.mem_append_left _ hq)⟩
  have loop : codeAny (model X.prog X.w) X.A (.compLoop (.ListComp elt [⟨tg, iter, ifs, 0⟩] scope pos) 0 (.ref it) (.ref D) ce) (compPost (model X.prog X.w) X.A X.xe use Qf (.ref D) s3.heap.objs.size) s4 := by
    refine compLoop_any (fun n s' => ∃ i H', Inv (Cx.blkH X q s3 H3 scope ce fp) [] (L2.wipe σ (own.map (·.2))) H' s' ∧ tn i s'.heap ∧ (∀ b ∈ fp, H' b = none) ∧ W i n H') ?_ m0 ⟨0, H3, I4, st4, nfp, w0⟩
    rintro n s5 ⟨i, H5, I5, st5, n5, w5⟩
    rcases turn i n H5 w5 with ⟨stop, qq⟩ | ⟨go, Nx, hNx, step⟩
    · have td := T.done (Cx.blkH X q s3 H3 scope ce fp) rfl rfl rfl hcB i [] s5 _ H5 (fun _ _ => False) I5 (stat I5 n5) st5 stop
      refine thnF td fun r s6 ⟨hr, I6⟩ => ?_
      subst hr
      have I7 : Inv X pins σ H5 s6 := I3.call' (ch := fp) I6.os I6.base I6.hok I6.bare fun b hb => ⟨(f3 b hb).1.2.2.2.1, (f3 b hb).1.2.1, (f3 b hb).1.2.2.2.2.1, (f3 b hb).1.2.2.2.2.2⟩
      have nC : H5 s3.heap.objs.size = none := by
        have z : H5 ce.locals = none := I6.free
        rw [cL] at z
        exact z
      obtain ⟨m, hn, _⟩ := I6.loc
      have hn : s6.heap.Ns ce.locals m := hn
      rw [cL] at hn
      exact hRR D s3.heap.objs.size s6 m H5 I7 qq hn (I3.fpOk (Nat.le_refl _) nC)
    · have ti := T.item (Cx.blkH X q s3 H3 scope ce fp) rfl rfl rfl hcB i [] s5 _ H5 (fun _ _ => False) I5 (stat I5 n5) st5 go
      refine thnF ti fun r s6 ⟨u, hr, h6⟩ => ?_
      subst hr
      refine thnF h6 fun _ s7 ⟨x, H7, I7, r7, y7, st7, n7⟩ => ?_
      have I7' := I7.pinned (stat I7 n7) (T.obj _ _ st7)
      refine thnF (pg.run _ s7 _ H7 x u _ I7' r7 (step x H7 y7)) fun _ s8 ⟨σ8, H8, I8, hw8, q8⟩ => ?_
      refine thnF (pt.run _ s8 σ8 H8 _ I8 q8) fun b s9 ⟨H9, I9, q9⟩ => ?_
      have fin : ∀ {s' : Shared} {H' : L2.Hp}, Inv (Cx.blkH X q s3 H3 scope ce fp) ([] ++ pinsAt fp s7.heap) σ8 H' s' → Nx H' → ∃ m, m < n ∧ ∃ i H', Inv (Cx.blkH X q s3 H3 scope ce fp) [] (L2.wipe σ (own.map (·.2))) H' s' ∧ tn i s'.heap ∧ (∀ b ∈ fp, H' b = none) ∧ W i m H' := fun {s' H'} I' nx => by
        obtain ⟨m', hm, w'⟩ := hNx H' nx
        have pin' : ∀ b ∈ fp, ∀ o, s7.heap.get? b = some o → s'.heap.get? b = some o ∧ H' b = none := fun b hb o e =>
          let z := I'.pin (b, o) (List.mem_append_right _ (List.mem_append_right _ (mem_pinsAt hb e)))
          ⟨z.1, z.2.1⟩
        have hl : (L2.wipe σ (own.map (·.2))).length = σ8.length := by rw [← hw8, L2.wipe_length]
        refine ⟨m', hm, i + 1, H', (I'.unpinned (pins := [])).weak hl (fun j v e => ?_), T.keep _ _ _ st7 fun b hb o e => (pin' b hb o e).1, fun b hb => ?_, w'⟩
        · rw [← hw8] at e
          exact (L2.wipe_some e).1
        · obtain ⟨o, e, _⟩ := T.obj _ _ st7 b hb
          exact (pin' b hb o e).2
      cases b with
      | false =>
        simp only [Bool.false_eq_true, if_false] at q9 ⊢
        exact fin I9 q9
      | true =>
        simp only [if_true] at q9 ⊢
        refine thnF (pe.run _ s9 σ8 H9 _ I9 q9) fun z s10 ⟨yv, H10, I10, r10, acc, hD10, hz10, nx⟩ => ?_
        exact app_ok (X := Cx.blkH X q s3 H3 scope ce fp) I10 hD10 hz10 r10 fun s11 I11 => fin I11 nx
  exact codeAny_compStart_list loop (T.self X.A 0 _ _ _ st4 loop)
theorem pe_lcH {elt tg iter : Expr} {ifs : List Expr} {scope : Scope} {own : List (PySem.Str × Nat)} {pos : Pos} {wi : TI} {g : TG} {tt : TT} {te : TE} (hot : L2H.Hot1 X.A q) (hq : q ∈ X.pn) (hN : X.N.Nodup) (hi : L2H.PIH X tg iter wi) (ok : BlkOk X.N X.env.scope scope own)
    (hg : ∀ (s : Shared) (H : L2.Hp) (C : Addr) (cl : List (PySem.Str × Addr)) (fp : List Addr), PG (Cx.blkH X q s H scope (compEnvC scope cl C X.env) fp) tg g) (ht : ∀ (s : Shared) (H : L2.Hp) (C : Addr) (cl : List (PySem.Str × Addr)) (fp : List Addr), PTs (Cx.blkH X q s H scope (compEnvC scope cl C X.env) fp) ifs tt)
    (he : ∀ (s : Shared) (H : L2.Hp) (C : Addr) (cl : List (PySem.Str × Addr)) (fp : List Addr), PE (Cx.blkH X q s H scope (compEnvC scope cl C X.env) fp) elt te) (hs : ∀ x, foldedSetIterable iter X.env x = pure x) :
    PE X (.ListComp elt [⟨tg, iter, ifs, 0⟩] scope pos) (tLc wi g tt te (own.map (·.2))) := by
  refine ⟨fun pins s σ H Q I h => ?_⟩
  rw [eval_ListComp]
  refine lc_coreH hot hq hN I hi ok hg ht he hs h fun D C s' m H' I' q hn f => ⟨m, hn, fun h'' sb => ?_⟩
  obtain ⟨f0, f1, f2, f3, f4, f5⟩ := f
  exact ⟨.ref D, H', I'.turned (t' := s'.toks) (fun b o hb e => (sb.2 b hb).trans e) f0 f1 f3 f4 f5, rfl, q⟩
theorem xf_compH {G : Gl0} {Wx : WX} {elt tg iter : Expr} {ifs : List Expr} {scope : Scope} {own : List (PySem.Str × Nat)} {pos : Pos} {t : T} {ft : St → Re Bool} {fe : St → Re U} {fi : St → Re Src} (hK : X.K = G.K) (hot : L2H.Hot1 X.A q) (hq : q ∈ X.pn) (hN : X.N.Nodup) (hi : L2H.PIH X tg iter (RI G Wx fi)) (ok : BlkOk X.N X.env.scope scope own)
    (hsl : ∀ i ∈ T.slots t, i ∈ own.map (·.2))
    (hg : ∀ (s : Shared) (H : L2.Hp) (C : Addr) (cl : List (PySem.Str × Addr)) (fp : List Addr), PG (Cx.blkH X q s H scope (compEnvC scope cl C X.env) fp) tg (RG G t))
    (ht : ∀ (s : Shared) (H : L2.Hp) (C : Addr) (cl : List (PySem.Str × Addr)) (fp : List Addr), PTs (Cx.blkH X q s H scope (compEnvC scope cl C X.env) fp) ifs (RT G W0 ft))
    (he : ∀ (s : Shared) (H : L2.Hp) (C : Addr) (cl : List (PySem.Str × Addr)) (fp : List Addr), PE (Cx.blkH X q s H scope (compEnvC scope cl C X.env) fp) elt (RE G W0 fe)) (hs : notSet iter = true) :
    PE X (.ListComp elt [⟨tg, iter, ifs, 0⟩] scope pos) (RF G Wx (compF t (own.map (·.2)) ft fe fi)) :=
  PE.imp (pe_lcH hot hq hN hi ok hg ht he (noFold_of hs X.env)) fun σ H Q ⟨b, W, s, B, q⟩ => comp_imp (it := []) (elt := []) hK B hsl q
theorem walks_listH {prog : Program} {w : World} {A : Around} {x1 : Addr} {o1 : Obj} {vs1 : Array Value} (hh : A.handled = some (.ref x1)) (d1 : o1.data = .fields vs1) (c1 : vs1[2]? = some .none) (I ax : Addr) (hne : ax ≠ I) (hx : x1 ≠ I) (items : Array Value) :
    Walks prog w A I [I, ax, x1] [I] items.size (fun i v => items[i]? = some v) (fun i h => h.IsListIter I ax i ∧ h.IsList ax items ∧ h.get? x1 = some o1) where
  sub := fun b hb => by simp at hb; simp [hb]
  frame := fun _ _ _ st hk => ⟨st.1.at fun o e => hk I (by simp) o e, st.2.1.at fun o e => hk ax (by simp) o e, hk x1 (by simp) _ st.2.2⟩
  item := fun i s Q E hi st hQ => by
    refine wpAny_pyNext_list_item st.1 st.2.1 (x := items[i]) (by simp [hi]) fun h' hit' hs' => ?_
    exact hQ _ h' s.toks (by simp [hi]) ⟨hit', st.2.1.extBut hs'.extBut hne, hs'.extBut x1 o1 hx st.2.2⟩ fun b o hb e => hs'.extBut b o (fun h => hb (by simp [h])) e
  done := fun s Q E st hQ => PixHot.next_list_end_hot ⟨hh, o1, vs1, st.2.2, d1, c1⟩ st.1 st.2.1 (by simp) fun h' he' => hQ h' s.toks fun b o hb e => he' b o (fun h => hb (by simp [h])) e
  self := fun _ _ _ _ st hQ => wpAny_pyIter_listiter st.1 hQ
theorem cr_allH (hc : L2H.HotC X) : CallR X (.builtin "all") (rAll X.K) := by
  intro pins s σ H vs us Q I r h
  obtain ⟨a, bs, rfl, hs, q⟩ := h
  obtain ⟨its, rv, hl, _⟩ := I.list hs
  rw [Vals.ref1 r]
  have hb := rv.bls
  obtain ⟨x1, hh, o1, vs1, g1, d1, c1⟩ := hc.at I
  refine call_all_walk (iter_any hl.isList fun s₂ e2 st hne => ?_)
  subst e2
  refine ⟨_, _, _, _, _, _, _, rfl, walks_listH (A := X.A.in1) hh d1 c1 _ a hne (Nat.ne_of_lt (Heap.lt_size g1)) its.toArray, ⟨st.1, st.2, Heap.get?_push_of_some _ g1⟩, truth_bools hb, fun h' tk hk => ?_⟩
  refine ⟨.bl _, H, I.kept fun b o eo => hk b o (fun hmem => ?_) (Heap.get?_push_of_some _ eo), ?_, q⟩
  · rcases List.mem_cons.mp hmem with e1 | hmem
    · exact absurd (e1 ▸ Heap.lt_size eo) (Nat.lt_irrefl _)
    · cases hmem
  · show Value.bool _ = Value.bool _
    rw [← L2.all_range, hb, List.size_toArray, List.length_map]
end
end Pix
end
section
set_option Elab.async false
set_option linter.all false
set_option maxRecDepth 100000
set_option maxHeartbeats 1000000
/-! PixC4: built-ins, methods of texts and lists. -/
namespace Pix
open PySem PySem.Spec PyProof.Rows L2
section
variable {G : Gl0} {p : Px} {X : Cx} {Wx : WX}
variable {a c d : Expr} {fa fb fc : St → Re U} {pos q : Pos}

/-! ### built-ins of one argument -/
def b1Nm : B1 → PySem.Str
  | .int => "int" | .abs => "abs" | .len => "len" | .tup => "tuple" | .sum => "sum" | .max => "max" | .min => "min" | .any => "any" | .all => "all" | .str => "str" | .repr => "repr" | .lenset => "len"
/-- the ones that a handler's suite may call -/
def b1Hot : B1 → Bool
  | .int => true | .abs => true | .len => true | .tup => true | .str => true | _ => false
theorem xe_b1 (hK : X.K = G.K) (op : B1) (ho : op ≠ .lenset) (ho2 : op ≠ .repr) (hc : b1Hot op = false → op ≠ .all → X.calm = true) (hca : op = .all → X.calm = true ∨ L2H.HotC X) (hg : Gl X (b1Nm op)) (hm : X.mg (b1Nm op) = none) (ha : PE X a (RP G Wx fa)) (hs : notStar a = true) :
    PE X (.Call (.Name (b1Nm op) q) [a] [] pos) (RE G Wx fun s => (fa s).bnd fun x s1 => b1U op x s1) := by
  have key : ∀ σ H Q, RE G Wx (fun s => (fa s).bnd fun x s1 => b1U op x s1) σ H Q → tCB (b1R X.K op) (tCons (RP G Wx fa) tNil) σ H Q := fun σ H Q ⟨b, W, s, B, ok⟩ => by
    rw [hK]
    refine ⟨b, W, s, B, ok.then fun W1 s1 x H1 le B1 q v r => ?_⟩
    rcases r with r | ⟨xs, l, vs, rfl, rfl, h1, h2⟩
    · exact b1_snd B1 r ho q
    · exact b1_own B1 (SqL.of h1) h2 ho q
  have hA : PA X [a] (tCons (RP G Wx fa) tNil) := pa_cons ha pa_nil (star_of hs _ _)
  have h1 := star_of hs [] X.env
  cases op with
  | int => exact PE.imp (pe_callTy call_int1 hg hm boot_int hA (he := h1)) key
  | abs => exact PE.imp (pe_callB call_abs hg hm boot_abs hA (he := h1)) key
  | len => exact PE.imp (pe_callB cr_len hg hm boot_len hA (he := h1)) key
  | tup => exact PE.imp (pe_callTy call_tuple_of hg hm boot_tuple hA (he := h1)) key
  | sum => exact PE.imp (pe_callB (cr_sum (hc rfl (by intro z; cases z))) hg hm boot_sum hA (he := h1)) key
  | max => exact PE.imp (pe_callB (cr_max (hc rfl (by intro z; cases z))) hg hm boot_max hA (he := h1)) key
  | min => exact PE.imp (pe_callB (cr_min (hc rfl (by intro z; cases z))) hg hm boot_min hA (he := h1)) key
  | any => exact PE.imp (pe_callB (cr_any (hc rfl (by intro z; cases z))) hg hm boot_any hA (he := h1)) key
  | all => exact PE.imp (pe_callB ((hca rfl).elim cr_all cr_allH) hg hm boot_all hA (he := h1)) key
  | str => exact PE.imp (pe_callTy call_str_int hg hm boot_str hA (he := h1)) key
  | repr => exact absurd rfl ho2
  | lenset => exact absurd rfl ho
/-! ### of two -/
theorem xe_max2 (hc : X.calm = true) (hg : Gl X "max") (hm : X.mg "max" = none) (ha : PE X a (RE G Wx fa)) (hb : PE X c (RE G Wx fb)) (hs : notStar a = true) (hs2 : notStar c = true) :
    PE X (.Call (.Name "max" q) [a, c] [] pos) (RE G Wx fun s => (fa s).bnd fun x s1 => (fb s1).bnd fun y s2 => b2U .max x y s2) := by
  refine PE.imp (pe_callB (call_max2 hc) hg hm boot_max (pa_cons ha (pa_cons hb pa_nil (star_of hs2 _ _)) (star_of hs _ _)) (he := star_of hs _ _) (hpl := plain_stars (by simp [hs2]))) fun σ H Q ⟨b, W, s, B, ok⟩ => ⟨b, W, s, B, ok.then fun W1 s1 x H1 le B1 q v r => ⟨b, W1, s1, B1, q.then fun W2 s2 y H2 le2 B2 q2 v2 r2 => ?_⟩⟩
  have r := r.mono le2
  cases r <;> cases r2 <;> first | exact (show False from q2).elim | exact ⟨_, _, rfl, okR.val B2 (.int _) q2⟩
theorem xe_min2 (hc : X.calm = true) (hg : Gl X "min") (hm : X.mg "min" = none) (ha : PE X a (RE G Wx fa)) (hb : PE X c (RE G Wx fb)) (hs : notStar a = true) (hs2 : notStar c = true) :
    PE X (.Call (.Name "min" q) [a, c] [] pos) (RE G Wx fun s => (fa s).bnd fun x s1 => (fb s1).bnd fun y s2 => b2U .min x y s2) := by
  refine PE.imp (pe_callB (call_min2 hc) hg hm boot_min (pa_cons ha (pa_cons hb pa_nil (star_of hs2 _ _)) (star_of hs _ _)) (he := star_of hs _ _) (hpl := plain_stars (by simp [hs2]))) fun σ H Q ⟨b, W, s, B, ok⟩ => ⟨b, W, s, B, ok.then fun W1 s1 x H1 le B1 q v r => ⟨b, W1, s1, B1, q.then fun W2 s2 y H2 le2 B2 q2 v2 r2 => ?_⟩⟩
  have r := r.mono le2
  cases r <;> cases r2 <;> first | exact (show False from q2).elim | exact ⟨_, _, rfl, okR.val B2 (.int _) q2⟩

/-! ### isinstance -/
/-- what stands for the classes: one name, or several in brackets -/
def PCls (X : Cx) (G : Gl0) (e : Expr) (ts : List Ty) : Prop := (∃ t, ts = [t] ∧ PE X e (tC (tyVv G t))) ∨ PE X e (tTup fun _ H Q => Q (ts.map (tyVv G)) H)
def rIsi2 (K : PySem.W.Frag) : List V → L2.Hp → VK → Prop := fun xs H Q => rIsi K xs H Q ∨ rIsiT K xs H Q
theorem xe_isi (hK : X.K = G.K) (k : KOk G) {ts : List Ty} (ht : ∀ t ∈ ts, tyOk G.nc t = true) (hl : ts.length ≤ SZ) (hg : Gl X "isinstance") (hm : X.mg "isinstance" = none) (ha : PE X a (RE G Wx fa)) (hs : notStar a = true) (hc : PCls X G c ts) (hs2 : notStar c = true) :
    PE X (.Call (.Name "isinstance" q) [a, c] [] pos) (RE G Wx fun s => (fa s).bnd fun x s1 => .ok (.bl (ts.any fun t => isI s1.hp x t)) s1) := by
  have hp : (backTo pos (starEach [c] X.env)).any (·.1) = false := plain_stars (by simp [hs2])
  rcases hc with ⟨t, rfl, hc⟩ | hc
  · refine PE.imp (pe_callB call_isi hg hm boot_isinstance (pa_cons ha (pa_cons hc pa_nil (star_of hs2 _ _)) (star_of hs _ _)) (he := star_of hs _ _) (hpl := hp)) fun σ H Q ⟨b, W, s, B, ok⟩ => ⟨b, W, s, B, ok.then fun W1 s1 x H1 le B1 q v r => ?_⟩
    rw [hK]
    obtain ⟨tv, h1, h2⟩ := isi_snd k B1 r
    refine ⟨v, tyVv G t, tv, tyVal G t, _, rfl, tyCls G t, h1, h2 t (ht t (by simp)), ?_⟩
    have := okR.val B1 (.bl _) q
    simpa using this
  · refine PE.imp (pe_callB call_isiT hg hm boot_isinstance (pa_cons ha (pa_cons hc pa_nil (star_of hs2 _ _)) (star_of hs _ _)) (he := star_of hs _ _) (hpl := hp)) fun σ H Q ⟨b, W, s, B, ok⟩ => ⟨b, W, s, B, ok.then fun W1 s1 x H1 le B1 q v r => ?_⟩
    rw [hK]
    refine ⟨by rw [List.length_map, line_eq]; exact hl, fun l hl => ?_⟩
    have B2 : BSim G b W1 s1 σ (upd H1 l (.tup (ts.map (tyVv G)))) := B1.more fun y u e => by rw [upd_ne (ne_of_none e hl)]; exact e
    obtain ⟨tv, h1, h2⟩ := isi_snd k B2 r
    have pc : ∀ ts : List Ty, Paired ClsV (ts.map (tyVv G)) (ts.map (tyVal G)) := fun ts => by
      induction ts with
      | nil => exact .nil
      | cons t ts ih => exact .cons (tyCls G t) ih
    exact ⟨v, l, ts.map (tyVv G), tv, ts.map (tyVal G), _, rfl, upd_same, pc ts, h1, isi_any fun t h => h2 t (ht t h), q W1 _ .rfl' B2 _ (.bl _)⟩
theorem pcls_base {t : Ty} {x : PySem.Str} (hn : ∀ i, t ≠ .cls i) (hx : x = PySem.Str.ofString (tyNm t)) (hg : Gl X x) (hm : X.mg x = none) : PE X (.Name x pos) (tC (tyVv G t)) := by
  subst hx
  cases t with
  | cls i => exact absurd rfl (hn i)
  | int => exact pe_bltn (u := .type "int") hg hm boot_int rfl
  | bool => exact pe_bltn (u := .type "bool") hg hm boot_bool rfl
  | str => exact pe_bltn (u := .type "str") hg hm boot_str rfl
  | tup => exact pe_bltn (u := .type "tuple") hg hm boot_tuple rfl
  | lst => exact pe_bltn (u := .type "list") hg hm boot_list rfl

/-! ### join -/
theorem base_of {o : Expr} {nm : PySem.Str} (h : (match o with | .Call _ _ _ _ => false | _ => true) = true) (env : Env) : attributeBase o nm env (eval o env) = eval o env := by
  cases o <;> first | rfl | exact absurd h Bool.false_ne_true
def notCall : Expr → Bool
  | .Call _ _ _ _ => false
  | _ => true
theorem base_of' {o : Expr} {nm : PySem.Str} (h : notCall o = true) (env : Env) : attributeBase o nm env (eval o env) = eval o env := by
  cases o <;> first | rfl | exact absurd h Bool.false_ne_true
theorem few1 {e : Expr} {cpos : Pos} {env : Env} (h : notStar e = true) : ((backTo cpos (starEach [e] env)).all (fun x => !x.1) && (backToKw cpos (keywordEach [] env)).all (fun x => x.1.isSome)
      && decide (([e] : List Expr).length + ([] : List Keyword).length + (if ([] : List Keyword).isEmpty then 0 else 1) < 30)) = true := by
  rw [star_of h]; rfl
theorem xe_join {apos : Pos} (hK : X.K = G.K) (hl : (apos.endLine == pos.line) = true) (ha : PE X a (RE G Wx fa)) (hb : PE X c (RE G Wx fb)) (hs : notStar c = true) (hn : notCall a = true)
    (hstr : ∀ s x s', fa s = .ok x s' → ∃ z, x = .str z) : PE X (.Call (.Attribute a "join" apos) [c] [] pos) (RE G Wx fun s => (fa s).bnd fun x s1 => (fb s1).bnd fun y s2 => b2U .join x y s2) := by
  refine PE.imp (pe_bm PySem.F.plainAttrs_str PySem.F.slot_str_join PySem.F.type_str_join mt_join ha (pa_cons hb pa_nil (star_of hs _ _)) (base_of' hn _) (few1 hs) hl (star_of hs _ _) rfl) fun σ H Q ⟨b, W, s, B, ok⟩ => ⟨b, W, s, B, then_eq ok fun W1 s1 x H1 e le B1 q v r => ?_⟩
  obtain ⟨z, rfl⟩ := hstr _ _ _ e
  cases r with
  | str _ hz hzc =>
  refine ⟨rfl, b, W1, s1, B1, q.then fun W2 s2 y H2 le2 B2 q2 v2 r2 => ?_⟩
  rw [hK]
  exact join_snd B2 (.str z hz hzc) r2 q2

/-! ### lists that change: boxed ones -/
theorem isLst_rep {b : Ba} {W : Wd} {s : St} {σ : L2.St} {H : L2.Hp} {u : U} {v : V} (B : BSim G b W s σ H) (r : Rep G W u v) (h : isLst s.hp u = true) : ∃ n l xs vs, u = .ref n ∧ v = .ref l ∧ W.m[n]? = some l ∧ s.hp[n]? = some (.lst xs) ∧ H l = some (.lst vs) ∧ Reps G W xs vs := by
  cases r with
  | @ref n l hm =>
    simp only [isLst] at h
    split at h
    · rename_i xs hk
      obtain ⟨vs, h1, h2⟩ := B.h.box n (.lst xs) l hk hm
      exact ⟨n, l, xs, vs, rfl, rfl, hm, hk, h1, h2⟩
    · cases h
  | _ => cases h
/-- a boxed list later on -/
theorem box_lst {b : Ba} {W W2 : Wd} {s : St} {σ : L2.St} {H : L2.Hp} {n : Nat} {l : Addr} {xs : List U} (B : BSim G b W2 s σ H) (le : W.le W2) (hm : W.m[n]? = some l) (hk : s.hp[n]? = some (.lst xs)) : ∃ vs, H l = some (.lst vs) ∧ Reps G W2 xs vs ∧ n < s.hp.length ∧ W2.m[n]? = some l := by
  obtain ⟨vs, h1, h2⟩ := B.h.box n (.lst xs) l hk (le.get hm)
  exact ⟨vs, h1, h2, (List.getElem?_eq_some_iff.mp hk).1, le.get hm⟩
theorem xe_app {apos : Pos} (hK : X.K = G.K) (hl : (apos.endLine == pos.line) = true) (ha : PE X a (RE G Wx fa)) (hb : PE X c (RE G Wx fb)) (hs : notStar c = true) (hn : notCall a = true) :
    PE X (.Call (.Attribute a "append" apos) [c] [] pos) (RE G Wx fun s => (fa s).bnd fun x s1 => if isLst s1.hp x then (fb s1).bnd fun y s2 => (match x with
    | .ref r => (match s2.hp[r]? with
      | some (.lst xs) => if xs.length < SZ then .ok .non { s2 with hp := s2.hp.set r (.lst (xs ++ [y])) } else .bad
      | _ => .bad)
    | _ => .bad) else .bad) := by
  refine PE.imp (pe_bm PySem.F.plainAttrs_list PySem.F.slot_list_append PySem.F.type_list_append mt_append ha (pa_cons hb pa_nil (star_of hs _ _)) (base_of' hn _) (few1 hs) hl (star_of hs _ _) rfl) fun σ H Q ⟨b, W, s, B, ok⟩ => ⟨b, W, s, B, ok.then fun W1 s1 x H1 le B1 q v r => ?_⟩
  split at q
  · rename_i hx
    obtain ⟨n, l, xs0, vs0, rfl, rfl, hm, hk0, h1, _⟩ := isLst_rep B1 r hx
    refine ⟨.inl ⟨rfl, vs0, SqL.of h1⟩, b, W1, s1, B1, q.then fun W2 s2 y H2 le2 B2 q2 v2 r2 => ?_⟩
    simp only at q2
    split at q2
    · rename_i xs hk
      obtain ⟨vs, h2, rs, hlt, hm2⟩ := box_lst B2 le2 hm hk
      split at q2
      · rename_i hz
        have el := rs.length
        have e3 := line_eq
        exact ⟨l, vs, v2, rfl, rfl, h2, by omega, q2 W2 _ .rfl' (B2.wr hlt hm2 ⟨_, upd_same, rs.app (.one r2)⟩) _ .non⟩
      · exact (show False from q2).elim
    · exact (show False from q2).elim
  · exact (show False from q).elim
theorem xe_pop0 {apos : Pos} (hl : (apos.endLine == pos.line) = true) (ha : PE X a (RE G Wx fa)) (hn : notCall a = true) :
    PE X (.Call (.Attribute a "pop" apos) [] [] pos) (RE G Wx fun s => (fa s).bnd fun x s1 => match x with
    | .ref r => (match s1.hp[r]? with
      | some (.lst xs) => (match xs.getLast? with
        | some y => .ok y { s1 with hp := s1.hp.set r (.lst xs.dropLast) }
        | none => .bad)
      | _ => .bad)
    | _ => .bad) := by
  refine PE.imp (pe_bm0 PySem.F.plainAttrs_list PySem.F.slot_list_pop PySem.F.type_list_pop mt_pop ha (base_of' hn _) hl) fun σ H Q ⟨b, W, s, B, ok⟩ => ⟨b, W, s, B, ok.then fun W1 s1 x H1 le B1 q v r => ?_⟩
  split at q
  · split at q
    · rename_i hk
      split at q
      · rename_i y hy
        obtain ⟨n, l, xs0, vs0, e1, rfl, hm, hk0, h1, rs⟩ := isLst_rep B1 r (by unfold isLst; dsimp only; rw [hk])
        cases e1
        rw [hk] at hk0
        cases hk0
        rw [List.getLast?_eq_getElem?] at hy
        obtain ⟨w, hw, rw⟩ := rs.get hy
        have el := rs.length
        exact ⟨.inl ⟨rfl, vs0, SqL.of h1⟩, l, vs0, w, rfl, rfl, h1, by rw [← el]; exact hw, q W1 _ .rfl' (B1.wr (List.getElem?_eq_some_iff.mp hk).1 hm ⟨_, upd_same, rs.dropLast⟩) _ rw⟩
      · exact (show False from q).elim
    · exact (show False from q).elim
  · exact (show False from q).elim

/-! ### the frame's own lists -/
theorem own_get {b : Ba} {W : Wd} {s : St} {σ : L2.St} {H : L2.Hp} {i : Nat} (B : BSim G b W s σ H) (h : isOwn s.fr i = true) : ∃ l vs, σ[i]? = some (some (.ref l)) ∧ H l = some (.lst vs) := by
  unfold isOwn at h
  split at h
  · rename_i xs e
    obtain ⟨l, vs, h1, h2, _⟩ := B.f.own i xs e
    exact ⟨l, vs, h1, h2⟩
  · cases h
theorem set_get {b : Ba} {W : Wd} {s : St} {σ : L2.St} {H : L2.Hp} {i : Nat} (B : BSim G b W s σ H) (h : isSet s.fr i = true) : ∃ v, σ[i]? = some (some v) := by
  unfold isSet at h
  split at h
  · rename_i xs e
    obtain ⟨l, vs, h1, h2, _⟩ := B.f.own i xs e
    exact ⟨_, h1⟩
  · rename_i u e
    obtain ⟨v, h1, _⟩ := B.f.val i u e
    exact ⟨v, h1⟩
  · cases h
theorem seqIx_of {n k : Nat} {i : Int} (h : Pix.ixN n i = some k) : seqIndex? i n = some k ∧ k < n ∧ -(n : Int) ≤ i ∧ i < n := L2.ixN_seq (show L2.ixN n i = some k from h)
theorem xe_opop1 {apos : Pos} {i : Nat} {x : PySem.Str} {px : Pos} (hK : X.K = G.K) (hl : (apos.endLine == pos.line) = true) (hN : X.N[i]? = some x) (hv : Vis X.env.scope x) (h1 : (x == ("__debug__" : PySem.Str)) = false) (h2 : (x == ("__classdict__" : PySem.Str)) = false) (hb : PE X c (RE G Wx fb)) (hs : notStar c = true) :
    PE X (.Call (.Attribute (.Name x px) "pop" apos) [c] [] pos) (RE G Wx fun s => if isOwn s.fr i then (fb s).bnd fun y s1 => (match y, s1.fr[i]? with
    | .int j, some (.own xs) => if j.natAbs < 2 ^ 62 then (match ixN xs.length j with
      | some k => (match xs[k]? with
        | some z => .ok z { s1 with fr := s1.fr.set i (.own (xs.eraseIdx k)) }
        | none => .bad)
      | none => .bad) else .bad
    | _, _ => .bad) else .bad) := by
  refine PE.imp (pe_bm PySem.F.plainAttrs_list PySem.F.slot_list_pop PySem.F.type_list_pop mt_popAt (pe_var hN hv h1 h2) (pa_cons hb pa_nil (star_of hs _ _)) (base_of' rfl _) (few1 hs) hl (star_of hs _ _) rfl) fun σ H Q ⟨b, W, s, B, ok⟩ => ?_
  dsimp only at ok
  split at ok
  · rename_i ho
    obtain ⟨l, vs0, e1, e2⟩ := own_get B ho
    refine ⟨_, e1, .inl ⟨rfl, vs0, SqL.of e2⟩, b, W, s, B, okR.then ok fun W1 s1 y H1 le B1 q v r => ?_⟩
    cases r <;> first | exact (show False from q).elim | skip
    rename_i j
    cases he : s1.fr[i]? with
    | none => simp only [he] at q; exact (show False from q).elim
    | some sl =>
      cases sl with
      | own xs =>
        simp only [he] at q
        obtain ⟨l', vs, f1, f2, f3, f4, f5⟩ := B1.f.own i xs he
        rw [e1] at f1; cases f1
        split at q
        · rename_i hj
          split at q
          · rename_i k hk
            split at q
            · rename_i z hz
              obtain ⟨w, g1, g2⟩ := f3.get hz
              obtain ⟨k1, k2, k3, k4⟩ := seqIx_of hk
              have el := f3.length
              exact ⟨l, vs, j, k, w, rfl, rfl, f2, by omega, by omega, by rw [← el]; exact k1, g1, q W1 _ .rfl' (B1.wrOwn he e1 (f3.erase k)) _ g2⟩
            · exact (show False from q).elim
          · exact (show False from q).elim
        · exact (show False from q).elim
      | _ => simp only [he] at q; exact (show False from q).elim
  · exact (show False from ok).elim
end
end Pix
end
section
set_option Elab.async false
set_option linter.all false
set_option maxRecDepth 100000
set_option maxHeartbeats 1000000
/-! PixC8: list(x), sorted(x). -/
namespace Pix
open PySem PySem.Spec PyProof.Rows L2
section
variable {G : Gl0} {p : Px} {X : Cx} {Wx : WX} {a : Expr} {fa : St → Re U} {pos q : Pos}
theorem rising_pw : ∀ (l : List (List Nat)) (x : List Nat), risingS (uS x) (l.map uS) = true → (x :: l).Pairwise (fun a b => strLe a b = true)
  | [], x, _ => List.pairwise_singleton _ _
  | y :: l, x, h => by
    rw [List.map_cons] at h
    simp only [risingS, Bool.and_eq_true] at h
    obtain ⟨h1, h2⟩ := h
    have h1' : ltCps (uS y).cps.toList (uS x).cps.toList = false := by simpa using h1
    rw [ltCps_eq] at h1'
    have h3 : ¬ (y < x) := by simpa [uS] using of_decide_eq_false h1'
    have h1 : strLe x y = true := strLe_iff.mpr (List.not_lt.mp h3)
    have ih := rising_pw l y h2
    refine List.pairwise_cons.mpr ⟨fun z hz => ?_, ih⟩
    rcases List.mem_cons.mp hz with e | hz
    · subst e; exact h1
    · exact strLe_tr _ _ _ h1 ((List.pairwise_cons.mp ih).1 z hz)
theorem sorted_pw {l : List (List Nat)} (h : sortedS (l.map uS) = true) : l.Pairwise (fun a b => strLe a b = true) := by
  cases l with
  | nil => exact List.Pairwise.nil
  | cons x l => exact rising_pw l x h
theorem uS_inj {x y : List Nat} (h : uS x = uS y) : x = y := by
  have := congrArg (fun s : PySem.Str => s.cps.toList) h
  simpa [uS] using this
theorem map_uS : ∀ {ys : List PySem.Str}, ∃ zs : List (List Nat), ys = zs.map uS
  | [] => ⟨[], rfl⟩
  | y :: ys => by
    obtain ⟨zs, e⟩ := map_uS (ys := ys)
    refine ⟨y.cps.toList :: zs, ?_⟩
    rw [List.map_cons, e]
    cases y
    simp [uS]
theorem perm_uS : ∀ {zs xs : List (List Nat)}, (zs.map uS).Perm (xs.map uS) → zs.Perm xs := by
  intro zs xs h
  have := h.map (fun s : PySem.Str => s.cps.toList)
  rw [List.map_map, List.map_map] at this
  have e : ∀ l : List (List Nat), l.map ((fun s : PySem.Str => s.cps.toList) ∘ uS) = l := fun l => by
    conv => rhs; rw [← List.map_id l]
    exact List.map_congr_left fun s _ => by simp [uS]
  rwa [e, e] at this
theorem intLe_eq {ns ns' : List Int} (h1 : ns'.Perm ns) (h2 : ns'.Pairwise (· ≤ ·)) : ns' = isort (fun a b => if false = true then decide (b ≤ a) else decide (a ≤ b)) ns := by
  refine isort_eq (fun a b => ?_) (fun a b c h1 h2 => ?_) (fun a b h1 h2 => ?_) h1 (h2.imp fun h => by simpa using h)
  · simp only [Bool.false_eq_true, if_false, decide_eq_true_eq]; omega
  · simp only [Bool.false_eq_true, if_false, decide_eq_true_eq] at *; omega
  · simp only [Bool.false_eq_true, if_false, decide_eq_true_eq] at *; omega
/-- the items of what is only looked at -/
theorem seqOf_opd {b : Ba} {W : Wd} {s : St} {σ : L2.St} {H : L2.Hp} {u : U} {v : V} {xs : List U} (B : BSim G b W s σ H) (r : Opd G W H u v) (e : seqOf s.hp u = some xs) : ∃ l vs, v = .ref l ∧ (SqL G.K H l vs ∨ SqT G.K H l vs) ∧ Reps G W xs vs := by
  rcases r with r | ⟨ys, l, vs, rfl, rfl, h1, h2⟩
  · exact seqOf_rep B r e
  · simp only [seqOf, Option.some.injEq] at e
    subst e
    exact ⟨l, vs, rfl, .inl (SqL.of h1), h2⟩
theorem lstOf_opd {b : Ba} {W : Wd} {s : St} {σ : L2.St} {H : L2.Hp} {u : U} {v : V} {xs : List U} (B : BSim G b W s σ H) (r : Opd G W H u v) (e : lstOf s.hp u = some xs) : ∃ l vs, v = .ref l ∧ H l = some (.lst vs) ∧ Reps G W xs vs := by
  rcases r with r | ⟨ys, l, vs, rfl, rfl, h1, h2⟩
  · exact lstOf_rep B r e
  · simp only [lstOf, Option.some.injEq] at e
    subst e
    exact ⟨l, vs, rfl, h1, h2⟩
def rSrt (K : PySem.W.Frag) : List V → L2.Hp → VK → Prop := fun vs H Q => rSortedI K vs H Q ∨ rSortS K vs H Q
theorem srt_snd {b : Ba} {W : Wd} {s : St} {σ : L2.St} {H : L2.Hp} {Q : VK} {u : U} {v : V} (B : BSim G b W s σ H) (r : Opd G W H u v) (ok : okR G b W σ Wx (kF G Q) (srtU u false s)) : rSrt G.K [v] H Q := by
  unfold srtU at ok
  split at ok
  · rename_i ns hn
    obtain ⟨xs, h1, h2⟩ := Option.bind_eq_some_iff.mp hn
    obtain ⟨l, vs, rfl, h3, h4⟩ := lstOf_opd B r h1
    rw [ints_of h2] at h4
    have e := Reps.ints_of h4
    subst e
    refine .inl ⟨l, ns, rfl, SqL.of h3, fun ns' p k1 k2 hp => ?_⟩
    rw [intLe_eq k1 k2]
    exact ok W H .rfl' B p _ (Reps.ints _) hp
  · split at ok
    · rename_i ns hn
      simp only [Bool.false_eq_true, if_false] at ok
      obtain ⟨xs, h1, h2⟩ := Option.bind_eq_some_iff.mp hn
      obtain ⟨l, vs, rfl, h3, h4⟩ := seqOf_opd B r h1
      rw [strs_of h2] at h4
      have e := Reps.strs h4
      have hall := Reps.strs_of h4
      have em : vs = (ns.map uS).map V.str := by rw [e, List.map_map]; rfl
      refine .inr ⟨l, ns.map uS, rfl, by rw [← em]; exact h3, fun ys p k1 k2 hp => ?_⟩
      obtain ⟨zs, rfl⟩ := map_uS (ys := ys)
      have hz : zs = isort strLe ns := isort_eq strLe_tot strLe_tr strLe_an (perm_uS k1) (sorted_pw k2)
      subst hz
      have hmem : ∀ x ∈ isort strLe ns, x.length ≤ SZ ∧ ∀ c ∈ x, c < 1114112 := fun x hx => hall x ((isort_perm ns).mem_iff.mp hx)
      have := ok W H .rfl' B p _ (Reps.of_strs hmem) hp
      rw [List.map_map]
      exact this
    · exact (show False from ok).elim
theorem xf_srt (hK : X.K = G.K) (hg : Gl X "sorted") (hm : X.mg "sorted" = none) (ha : PE X a (RP G Wx fa)) (hs : notStar a = true) : PE X (.Call (.Name "sorted" q) [a] [] pos) (RF G Wx fun s => (fa s).bnd fun x s1 => srtU x false s1) := by
  refine PE.imp (pe_callB (CallR.or cr_sortedI cr_sortS) hg hm boot_sorted (pa_cons ha pa_nil (star_of hs _ _)) (he := star_of hs _ _)) fun σ H Q ⟨b, W, s, B, ok⟩ => ⟨b, W, s, B, ok.then fun W1 s1 x H1 le B1 q v r => ?_⟩
  rw [hK]
  exact srt_snd B1 r q

/-! ### list(x) -/
def rListS : List V → L2.Hp → VK → Prop := fun xs H Q => ∃ z : List Nat, xs = [.str (uS z)] ∧ z.length ≤ sizeLine ∧ ∀ l, H l = none → Q (.ref l) (upd H l (.lst (z.map fun c => V.str ⟨#[c]⟩)))
theorem vals_signs {z : List Nat} {acc : Array Value} (h : ItemsOf (SignAt (uS z)) acc z.length) : Vals (z.map fun c => V.str ⟨#[c]⟩) acc.toList := by
  have hl : acc.toList.length = z.length := by rw [Array.length_toList]; exact h.1
  have gen : ∀ (zs : List Nat) (us : List Value), us.length = zs.length → (∀ (i : Nat) (c : Nat), zs[i]? = some c → ∃ t : Tok, us[i]? = some (Value.str ⟨#[c]⟩ t)) → Vals (zs.map fun c => V.str ⟨#[c]⟩) us := by
    intro zs
    induction zs with
    | nil => intro us hu _; rw [List.length_eq_zero_iff.mp hu]; exact .nil
    | cons c zs ih =>
      intro us hu hi
      cases us with
      | nil => simp at hu
      | cons u us =>
        obtain ⟨t, e⟩ := hi 0 c rfl
        refine .cons ⟨t, by simpa using e⟩ (ih us (by simpa using hu) fun i c' e' => ?_)
        obtain ⟨t', e2⟩ := hi (i + 1) c' (by simpa using e')
        exact ⟨t', by simpa using e2⟩
  refine gen z acc.toList hl fun i c e => ?_
  have hi : i < acc.size := by rw [h.1]; exact (List.getElem?_eq_some_iff.mp e).1
  obtain ⟨c', t, e1, e2⟩ := h.2 i acc[i] (by simp [hi])
  have e1' : z[i]? = some c' := by simpa [uS] using e1
  rw [e] at e1'
  cases e1'
  exact ⟨t, by rw [Array.getElem?_toList, Array.getElem?_eq_getElem hi, e2]⟩
theorem cr_listS (hc : X.calm = true) : CallR X (.type "list") rListS := by
  intro pins s σ H xs us Q I r h
  obtain ⟨z, rfl, hz, q⟩ := h
  obtain ⟨u, rfl, t, rfl⟩ := vals1 r
  refine call_list_str (I.ok.hd hc) (uS z) t (fun h' tk acc c' kp e hi => ?_) (by simpa [uS] using hz)
  have hi' : ItemsOf (SignAt (uS z)) acc z.length := by simpa [uS] using hi
  have hv := vals_signs hi'
  refine ⟨.ref s.heap.objs.size, _, I.laid (t' := tk) kp (Nat.le_refl _) (show ObjOk X.prog X.w _ h' _ (.lst (z.map fun c => V.str ⟨#[c]⟩)) from ⟨by rw [List.length_map]; exact hz, acc.toList, c', hv, by simpa using e⟩), rfl, q _ (I.hok.fresh (Nat.le_refl _))⟩
def rOf (K : PySem.W.Frag) : List V → L2.Hp → VK → Prop := fun xs H Q => (∃ p ys, xs = [.ref p] ∧ (SqL K H p ys ∨ SqT K H p ys) ∧ ∀ l, H l = none → Q (.ref l) (upd H l (.lst ys))) ∨ rListS xs H Q
theorem of_snd {b : Ba} {W : Wd} {s : St} {σ : L2.St} {H : L2.Hp} {Q : VK} {u : U} {v : V} (B : BSim G b W s σ H) (r : Opd G W H u v) (ok : okR G b W σ Wx (kF G Q) (ofU u s)) : rOf G.K [v] H Q := by
  have sq : ∀ {xs : List U}, seqOf s.hp u = some xs → okR G b W σ Wx (kF G Q) (.ok xs s) → rOf G.K [v] H Q := fun e ok => by
    obtain ⟨l, vs, rfl, h1, h2⟩ := seqOf_opd B r e
    exact .inl ⟨l, vs, rfl, h1, fun p hp => ok W H .rfl' B p vs h2 hp⟩
  have main : ∀ o : Option (List U), o = seqOf s.hp u → okR G b W σ Wx (kF G Q) (opt o s) → rOf G.K [v] H Q := fun o e ok => by
    cases o with
    | none => exact (show False from ok).elim
    | some xs => exact sq e.symm ok
  cases u with
  | str z =>
    rcases r with r | ⟨_, _, _, h, _⟩
    · cases r with
      | str _ hz hzc =>
      refine .inr ⟨z, rfl, by rw [line_eq]; exact hz, fun l hl => ?_⟩
      have : ∀ zs : List Nat, (∀ c ∈ zs, c < 1114112) → Reps G W (zs.map fun c => U.str [c]) (zs.map fun c => V.str ⟨#[c]⟩) := by
        intro zs
        induction zs with
        | nil => intro _; exact .nil
        | cons c zs ih => intro h; exact .cons (.str [c] (by show (1 : Nat) ≤ SZ; decide) fun d hd => by simp at hd; subst hd; exact h d (by simp)) (ih fun d hd => h d (by simp [hd]))
      exact ok W H .rfl' B l _ (this z hzc) hl
    · cases h
  | _ => exact main _ rfl ok
theorem xf_of (hK : X.K = G.K) (hc : X.calm = true) (hg : Gl X "list") (hm : X.mg "list" = none) (ha : PE X a (RP G Wx fa)) (hs : notStar a = true) : PE X (.Call (.Name "list" q) [a] [] pos) (RF G Wx fun s => (fa s).bnd fun x s1 => ofU x s1) := by
  refine PE.imp (pe_callTy (CallR.or call_list_of (cr_listS hc)) hg hm boot_list (pa_cons ha pa_nil (star_of hs _ _)) (he := star_of hs _ _)) fun σ H Q ⟨b, W, s, B, ok⟩ => ⟨b, W, s, B, ok.then fun W1 s1 x H1 le B1 q v r => ?_⟩
  rw [hK]
  exact of_snd B1 r q
end
end Pix
end
section
set_option Elab.async false
set_option linter.all false
set_option maxRecDepth 100000
set_option maxHeartbeats 1000000
/-! PixC9: comprehensions with two fors. -/
namespace Pix
open PySem PySem.Spec PyProof.Rows L2
section
variable {G : Gl0} {X : Cx} {Wx : WX} {σ : L2.St}
def inner2 (t2 : T) (own2 : List Nat) (ft : St → Re Bool) (fe : St → Re U) (fi2 : St → Re Src) : St → Re (List U) := fun s2 => (fi2 s2).bnd fun src2 s3 => match src2 with
  | .snap ys => compL t2 own2 ft fe ys s3
  | _ => .bad
def compF2 (t : T) (vs : List Nat) (t2 : T) (own2 : List Nat) (ft : St → Re Bool) (fe : St → Re U) (fi fi2 : St → Re Src) : St → Re (List U) := fun s => (fi s).bnd fun src s1 => if noOwn s1.fr vs then (match src with
  | .snap xs => (noEx (compL2 t vs (inner2 t2 own2 ft fe fi2) xs s1)).bnd fun ys s2 => if ys.length ≤ SZ then .ok ys { s2 with fr := back s1.fr s2.fr vs } else .bad
  | _ => .bad) else .bad
theorem wipe_sub {us vs : List Nat} (h : ∀ i ∈ us, i ∈ vs) (τ : L2.St) : L2.wipe (L2.wipe τ us) vs = L2.wipe τ vs := by
  induction us generalizing τ with
  | nil => rfl
  | cons u us ih =>
    show L2.wipe ((L2.wipe τ us).set u none) vs = L2.wipe τ vs
    rw [wipe_set (h u (by simp)), ih (fun i hi => h i (by simp [hi]))]
theorem compL2_ok {t : T} {vs : List Nat} {inner : St → Re (List U)} {x : U} {xs ys : List U} {s s2 : St} (h : compL2 t vs inner (x :: xs) s = .ok ys s2) :
    ∃ fr y1 s3 y2, bindT t x (wipe s.fr vs) = some fr ∧ inner { s with fr := fr } = .ok y1 s3 ∧ compL2 t vs inner xs s3 = .ok y2 s2 ∧ ys = y1 ++ y2 := by
  simp only [compL2] at h
  split at h
  · cases h
  · rename_i fr e
    cases e1 : inner { s with fr := fr } with
    | bad => simp only [e1] at h; cases h
    | ex c u s3 => simp only [e1] at h; cases h
    | ok y1 s3 =>
      simp only [e1, Re.bnd] at h
      cases e2 : compL2 t vs inner xs s3 with
      | bad => simp only [e2] at h; cases h
      | ex c u s4 => simp only [e2] at h; cases h
      | ok y2 s4 =>
        simp only [e2, catL] at h
        split at h
        · cases h
          exact ⟨fr, y1, s3, y2, e, e1, e2, rfl⟩
        · cases h
theorem inner2_ok {t2 : T} {own2 : List Nat} {ft : St → Re Bool} {fe : St → Re U} {fi2 : St → Re Src} {s s3 : St} {ys : List U} (h : inner2 t2 own2 ft fe fi2 s = .ok ys s3) : ∃ zs s1, fi2 s = .ok (.snap zs) s1 ∧ compL t2 own2 ft fe zs s1 = .ok ys s3 := by
  unfold inner2 at h
  cases e : fi2 s with
  | bad => rw [e] at h; cases h
  | ex c u s1 => rw [e] at h; cases h
  | ok src s1 =>
    rw [e] at h
    cases src with
    | live r en => cases h
    | snap zs => exact ⟨zs, s1, rfl, h⟩
theorem comp2_imp {t t2 : T} {vs own2 : List Nat} {ft : St → Re Bool} {fe : St → Re U} {fi fi2 : St → Re Src} {b : Ba} {W : Wd} {s : St} {H : L2.Hp} {Q : VK} (B : BSim G b W s σ H) (hsl : ∀ i ∈ T.slots t, i ∈ vs) (hsl2 : ∀ i ∈ T.slots t2, i ∈ own2) (hsub : ∀ i ∈ own2, i ∈ vs)
    (ok : okR G b W σ Wx (kF G Q) (compF2 t vs t2 own2 ft fe fi fi2 s)) :
    tLc2 (RI G Wx fi) (RG G t) tYes (RI G W0 fi2) (RG G t2) (RT G W0 ft) (RE G W0 fe) vs own2 σ H Q := by
  refine ⟨b, W, s, B, okR.then (f := fun src s1 => if noOwn s1.fr vs then (match src with
    | .snap xs => (noEx (compL2 t vs (inner2 t2 own2 ft fe fi2) xs s1)).bnd fun ys s2 => if ys.length ≤ SZ then .ok ys { s2 with fr := back s1.fr s2.fr vs } else .bad
    | _ => .bad) else .bad) ok fun W1 s1 src H1 le1 B1 q => ?_⟩
  split at q
  · rename_i hno
    cases src with
    | live r en => exact (show False from q).elim
    | snap xs =>
      intro J hJ D hD
      have hJ : WalkL G W1 xs J := hJ
      obtain ⟨ys, s2, e0, q⟩ := noEx_ok q
      split at q
      · rename_i hlen
        let Pv : Nat → L2.Hp → Prop := fun i H => ∃ W' s' σ' au av yr, BSim G b W' s' σ' H ∧ W1.le W' ∧ L2.wipe σ' vs = L2.wipe σ vs ∧ Apart b W' s' σ' D ∧ H D = some (.lst av) ∧ Reps G W' au av ∧ compL2 t vs (inner2 t2 own2 ft fe fi2) (xs.drop i) s' = .ok yr s2 ∧ ys = au ++ yr
        refine ⟨fun i m H => m = xs.length - i ∧ i ≤ xs.length ∧ Pv i H, ⟨xs.length, by simp, Nat.zero_le _, ?_⟩, ?_⟩
        · exact ⟨W1, s1, σ, [], [], ys, B1.more (fun a o e => by rw [upd_ne (ne_of_none e hD)]; exact e), .rfl', rfl, B1.apart hD, upd_same, .nil, by rw [List.drop_zero]; exact e0, rfl⟩
        · rintro i m H2 ⟨rfl, hi, W', s', σ', au, av, yr, B2, le2, hw, hA, hD2, rs, hc, hy⟩
          have B3 := B2.start
          have hJ' := hJ _ W' s' σ' H2 i B3 le2
          by_cases hlt : i < xs.length
          · have hx : xs[i]? = some xs[i] := List.getElem?_eq_getElem hlt
            obtain ⟨hgo, hyl⟩ := hJ'.1 _ hx
            rw [List.drop_eq_getElem_cons hlt] at hc
            obtain ⟨fr, y1, s3, y2, hb, hin, hrest, hyr⟩ := compL2_ok hc
            obtain ⟨zs, s4, hit, hcl⟩ := inner2_ok hin
            refine .inr ⟨hgo, Pv (i + 1), fun H' p' => ⟨xs.length - (i + 1), by omega, rfl, hlt, p'⟩, fun x H' hxy => ?_⟩
            obtain ⟨W2, le3, r, B4⟩ := hyl x H' hxy
            have B5 := B4.wipes vs
            rw [hw] at B5
            refine ⟨_, W2, _, xs[i], fr, B5, r, hb, fun σ2 hw2 B6 => ⟨(hw2 vs hsl).trans (wipe_idem σ vs), ?_⟩⟩
            have hwσ : L2.wipe σ2 vs = L2.wipe σ vs := (hw2 vs hsl).trans (wipe_idem σ vs)
            show RI G W0 fi2 σ2 H' _
            have hit' : fi2 { fr := fr, hp := s'.hp } = .ok (.snap zs) s4 := hit
            refine ⟨_, W2, _, B6, ?_⟩
            rw [hit']
            intro W3 H3 le4 B7
            intro J1 hJ1
            have hJ1 : WalkL G W3 zs J1 := hJ1
            obtain ⟨hA3, hD3⟩ := hA.on hD2 B7
            -- the inner loop
            let Pw : Nat → L2.Hp → Prop := fun j H => ∃ W' s' σ' au' av' yr', BSim G b W' s' σ' H ∧ W3.le W' ∧ L2.wipe σ' own2 = L2.wipe σ2 own2 ∧ Apart b W' s' σ' D ∧ H D = some (.lst av') ∧ Reps G W' (au ++ au') av' ∧ compL t2 own2 ft fe (zs.drop j) s' = .ok yr' s3 ∧ y1 = au' ++ yr'
            refine ⟨fun j k H => k = zs.length - j ∧ j ≤ zs.length ∧ Pw j H, ⟨zs.length, by simp, Nat.zero_le _, W3, s4, σ2, [], av, y1, B2.back_to B7, .rfl', rfl, hA3, hD3, by rw [List.append_nil]; exact rs.mono (le3.trans le4), by rw [List.drop_zero]; exact hcl, rfl⟩, ?_⟩
            rintro j k H5 ⟨rfl, hj, W5, s5, σ5, au', av', yr', B8, le5, hw5, hA5, hD5, rs5, hc5, hy5⟩
            have B9 := B8.start
            have hJ2 := hJ1 _ W5 s5 σ5 H5 j B9 le5
            by_cases hjl : j < zs.length
            · have hz : zs[j]? = some zs[j] := List.getElem?_eq_getElem hjl
              obtain ⟨hgo1, hyl1⟩ := hJ2.1 _ hz
              rw [List.drop_eq_getElem_cons hjl] at hc5
              obtain ⟨fr6, kk, s6, hb6, ht6, hk6⟩ := compL_ok hc5
              refine .inr ⟨hgo1, Pw (j + 1), fun H' p' => ⟨zs.length - (j + 1), by omega, rfl, hjl, p'⟩, fun x6 H6 hxy6 => ?_⟩
              obtain ⟨W6, le6, r6, B10⟩ := hyl1 x6 H6 hxy6
              have B11 := B10.wipes own2
              rw [hw5] at B11
              refine ⟨_, W6, _, zs[j], fr6, B11, r6, hb6, fun σ6 hw6 B12 => ⟨(hw6 own2 hsl2).trans (wipe_idem σ2 own2), _, W6, _, B12, ?_⟩⟩
              have hwσ6 : L2.wipe σ6 own2 = L2.wipe σ2 own2 := (hw6 own2 hsl2).trans (wipe_idem σ2 own2)
              have ht6' : ft { fr := fr6, hp := s5.hp } = .ok kk s6 := ht6
              rw [ht6']
              intro W7 H7 le7 B13
              rcases hk6 with ⟨rfl, y, s8, yr8, he8, hc8, hyr8⟩ | ⟨rfl, hc8⟩
              · show RE G W0 fe σ6 H7 _
                refine ⟨_, W7, s6, B13, ?_⟩
                rw [he8]
                intro W8 H8 le8 B14 v rv
                obtain ⟨hA8, hD8⟩ := hA5.on hD5 B14
                have hlen' : (au ++ au').length < ys.length := by
                  rw [hy, hyr, hy5, hyr8]
                  simp only [List.length_append, List.length_cons]
                  omega
                have l1 := rs5.length
                have l2 := line_eq
                refine ⟨av', hD8, by omega, W8, s8, σ6, au' ++ [y], av' ++ [v], yr8, ?_, ((le5.trans le6).trans le7).trans le8, hwσ6, hA8, upd_same, ?_, hc8, by rw [hy5, hyr8]; simp⟩
                · exact (B8.back_to B14).other hA8.fz hA8.m hA8.own hA8.h0
                · rw [← List.append_assoc]
                  exact (rs5.mono ((le6.trans le7).trans le8)).app (.one rv)
              · show Pw (j + 1) H7
                obtain ⟨hA8, hD8⟩ := hA5.on hD5 B13
                exact ⟨W7, s6, σ6, au', av', yr', B8.back_to B13, (le5.trans le6).trans le7, hwσ6, hA8, hD8, rs5.mono (le6.trans le7), hc8, hy5⟩
            · have e : j = zs.length := by omega
              subst e
              refine .inl ⟨hJ2.2 (List.getElem?_eq_none (Nat.le_refl _)), ?_⟩
              rw [List.drop_length] at hc5
              simp only [compL, Re.ok.injEq] at hc5
              obtain ⟨rfl, rfl⟩ := hc5
              rw [List.append_nil] at hy5
              subst hy5
              refine ⟨W5, s5, σ5, au ++ y1, av', y2, B8, ((le2.trans le3).trans le4).trans le5, ?_, hA5, hD5, rs5, hrest, by rw [hy, hyr, List.append_assoc]⟩
              rw [← wipe_sub hsub σ5, hw5, wipe_sub hsub σ2, hwσ]
          · have e : i = xs.length := by omega
            subst e
            refine .inl ⟨hJ'.2 (List.getElem?_eq_none (Nat.le_refl _)), ?_⟩
            rw [List.drop_length] at hc
            simp only [compL2, Re.ok.injEq] at hc
            obtain ⟨rfl, rfl⟩ := hc
            rw [List.append_nil] at hy
            subst hy
            have B3 := (B2.less hA.fz hA.m hA.own hA.h0)
            have hl : s1.fr.length = s'.fr.length := by
              rw [B1.f.frl, B2.f.frl, ← L2.wipe_length σ' vs, hw, L2.wipe_length]
            have := q W' _ le2 (B1.blockEnd B3 le2 hw hno hl) D av rs (if_pos rfl)
            rw [upd_less hD2] at this
            exact this
      · exact (show False from q).elim
  · exact (show False from q).elim
theorem xf_comp2 {elt tg iter tg1 iter1 : Expr} {ifs1 : List Expr} {scope : Scope} {own : List (PySem.Str × Nat)} {own2 : List Nat} {pos : Pos} {t t2 : T} {ft : St → Re Bool} {fe : St → Re U} {fi fi2 : St → Re Src} (hc : X.calm = true) (hN : X.N.Nodup) (hi : PI X tg iter (RI G Wx fi)) (ok : BlkOk X.N X.env.scope scope own)
    (hsl : ∀ i ∈ T.slots t, i ∈ own.map (·.2)) (hsl2 : ∀ i ∈ T.slots t2, i ∈ own2) (hsub : ∀ i ∈ own2, i ∈ own.map (·.2))
    (hg : ∀ (s : Shared) (H : L2.Hp) (C : Addr) (cl : List (PySem.Str × Addr)) (fp : List Addr), PG (X.blk s H scope (compEnvC scope cl C X.env) fp) tg (RG G t))
    (hi1 : ∀ (s : Shared) (H : L2.Hp) (C : Addr) (cl : List (PySem.Str × Addr)) (fp : List Addr), PI (X.blk s H scope (compEnvC scope cl C X.env) fp) tg1 iter1 (RI G W0 fi2))
    (hg1 : ∀ (s : Shared) (H : L2.Hp) (C : Addr) (cl : List (PySem.Str × Addr)) (fp : List Addr), PG (X.blk s H scope (compEnvC scope cl C X.env) fp) tg1 (RG G t2))
    (ht1 : ∀ (s : Shared) (H : L2.Hp) (C : Addr) (cl : List (PySem.Str × Addr)) (fp : List Addr), PTs (X.blk s H scope (compEnvC scope cl C X.env) fp) ifs1 (RT G W0 ft))
    (he : ∀ (s : Shared) (H : L2.Hp) (C : Addr) (cl : List (PySem.Str × Addr)) (fp : List Addr), PE (X.blk s H scope (compEnvC scope cl C X.env) fp) elt (RE G W0 fe)) (hs : notSet iter = true) (hs1 : notSet iter1 = true) :
    PE X (.ListComp elt [⟨tg, iter, [], 0⟩, ⟨tg1, iter1, ifs1, 0⟩] scope pos) (RF G Wx (compF2 t (own.map (·.2)) t2 own2 ft fe fi fi2)) :=
  PE.imp (pe_lc2 hc hN hi ok hsub hg (fun _ _ _ _ _ => pts_nil) hi1 hg1 ht1 he (noFold_of hs X.env) (fun env => noFold_of hs1 env)) fun σ H Q ⟨b, W, s, B, q⟩ => comp2_imp B hsl hsl2 hsub q
end
end Pix
end
section
set_option Elab.async false
set_option linter.all false
set_option maxRecDepth 100000
set_option maxHeartbeats 1000000
/-! PixD1: statements: readings; one rule a construct. -/
namespace Pix
open PySem PySem.Spec PyProof.Rows L2
section
variable {G : Gl0} {p : Px} {X : Cx} {Wx : WX}
/-- what is wanted of a statement's end -/
def okS (G : Gl0) (b : Ba) (W : Wd) (Wx : WX) (D : Ends) : Rs → Prop
  | .nx s => ∀ W' σ' H', W.le W' → BSim G b W' s σ' H' → D.nx σ' H'
  | .rt u s => ∀ W' σ' H' v, W.le W' → BSim G b W' s σ' H' → Rep G W' u v → D.rt v H'
  | .bk s => ∀ W' σ' H', W.le W' → BSim G b W' s σ' H' → D.bk σ' H'
  | .ct s => ∀ W' σ' H', W.le W' → BSim G b W' s σ' H' → D.ct σ' H'
  | .ex c u s => ∀ W' σ' H' d v, W.le W' → BSim G b W' s σ' H' → W'.fz d = some (.xd [(G.xf c, v)]) → Rep G W' u v → Wx (.ref (G.xa c)) (some d) σ' H'
  | .bad => False
theorem okS.le {b : Ba} {W W1 : Wd} {D : Ends} {r : Rs} (l : W.le W1) (h : okS G b W Wx D r) : okS G b W1 Wx D r := by
  cases r with
  | nx s => exact fun W' σ' H' l' B => h W' σ' H' (l.trans l') B
  | rt u s => exact fun W' σ' H' v l' B => h W' σ' H' v (l.trans l') B
  | bk s => exact fun W' σ' H' l' B => h W' σ' H' (l.trans l') B
  | ct s => exact fun W' σ' H' l' B => h W' σ' H' (l.trans l') B
  | ex c u s => exact fun W' σ' H' d v l' B => h W' σ' H' d v (l.trans l') B
  | bad => exact h
def RS (G : Gl0) (Wx : WX) (f : St → Rs) : TS := fun D σ H => ∃ b W s, BSim G b W s σ H ∧ okS G b W Wx D (f s)
theorem PS.imp {st : Stmt} {t t' : TS} (h : PS X st t) (f : ∀ D σ H, t' D σ H → t D σ H) : PS X st t' := ⟨fun pins s σ H D I hw => h.run pins s σ H D I (f D σ H hw)⟩
theorem PSs.imp {st : List Stmt} {t t' : TS} (h : PSs X st t) (f : ∀ D σ H, t' D σ H → t D σ H) : PSs X st t' := ⟨fun pins s σ H D I hw => h.run pins s σ H D I (f D σ H hw)⟩
/-- from an expression on to what follows -/
theorem okS.to {α : Type} {b : Ba} {W : Wd} {σ : L2.St} {D : Ends} {r : Re α} {g : α → St → Rs} {k : Wd → St → α → L2.Hp → Prop} (h : okS G b W Wx D (r.toS g)) (f : ∀ W1 s1 a H1, r = .ok a s1 → W.le W1 → BSim G b W1 s1 σ H1 → okS G b W1 Wx D (g a s1) → k W1 s1 a H1) : okR G b W σ Wx k r := by
  cases r with
  | ok a s1 => exact fun W1 H1 l B => f W1 s1 a H1 rfl l B (okS.le l h)
  | ex c u s1 => exact fun W' H' d v l B => h W' σ H' d v l B
  | bad => exact h
theorem okS.nx {b : Ba} {W : Wd} {D : Ends} {s : St} {σ : L2.St} {H : L2.Hp} (B : BSim G b W s σ H) (h : okS G b W Wx D (.nx s)) : D.nx σ H := h W σ H .rfl' B

variable {e a c d : Expr} {fa fb fc : St → Re U} {pos pos' : Pos}
theorem xs_pass : PS X (.Pass pos) (RS G Wx fun s => .nx s) := PS.imp ps_pass fun D σ H ⟨b, W, s, B, ok⟩ => okS.nx B ok
theorem xs_brk : PS X (.Break pos) (RS G Wx fun s => .bk s) := PS.imp ps_break fun D σ H ⟨b, W, s, B, ok⟩ => ok W σ H .rfl' B
theorem xs_cont : PS X (.Continue pos) (RS G Wx fun s => .ct s) := PS.imp ps_continue fun D σ H ⟨b, W, s, B, ok⟩ => ok W σ H .rfl' B
theorem xs_ex (ha : PE X a (RE G Wx fa)) (hn : notComp a = true) : PS X (.Expr a pos) (RS G Wx fun s => (fa s).toS fun _ s1 => .nx s1) := by
  refine PS.imp (ps_expr ha (noSwap_of hn _ _ _)) fun D σ H ⟨b, W, s, B, ok⟩ => ⟨b, W, s, B, ok.to fun W1 s1 x H1 _ le B1 q v r => okS.nx B1 q⟩
theorem xs_ret (ha : PE X a (RE G Wx fa)) : PS X (.Return (some a) pos) (RS G Wx fun s => (fa s).toS fun u s1 => .rt u s1) := by
  refine PS.imp (ps_ret ha) fun D σ H ⟨b, W, s, B, ok⟩ => ⟨b, W, s, B, ok.to fun W1 s1 x H1 _ le B1 q v r => q W1 σ H1 v .rfl' B1 r⟩
theorem xs_ret0 : PS X (.Return none pos) (RS G Wx fun s => .rt .non s) := PS.imp ps_retN fun D σ H ⟨b, W, s, B, ok⟩ => ok W σ H .non .rfl' B .non
theorem setI_ok {b : Ba} {W : Wd} {D : Ends} {s : St} {i : Nat} {x : Sl} (h : okS G b W Wx D (setI i x s)) : i < s.fr.length ∧ okS G b W Wx D (.nx { s with fr := s.fr.set i x }) := by
  unfold setI at h
  split at h
  · exact ⟨by assumption, h⟩
  · exact (show False from h).elim
theorem xs_set {i : Nat} {x : PySem.Str} (hN : X.N.Nodup) (hi : X.N[i]? = some x) (hx : Loc X.env.scope x) (hf : X.fn x = true ∨ X.env.scope.names.lookup x = some .local) (ha : PE X a (RE G Wx fa)) (hn : notComp a = true) :
    PS X (.Assign [.Name x pos'] a pos) (RS G Wx fun s => (fa s).toS fun u s1 => setI i (.val u) s1) := by
  refine PS.imp (ps_set hN hi hx ha (noSwap_of hn _ _ _) hf) fun D σ H ⟨b, W, s, B, ok⟩ => ⟨b, W, s, B, ok.to fun W1 s1 u H1 _ le B1 q v r => ?_⟩
  obtain ⟨h1, h2⟩ := setI_ok q
  exact okS.nx (B1.put h1 r) h2
/-- a slot takes a fresh list as its own -/
theorem own_put {b : Ba} {W1 : Wd} {s1 : St} {σ : L2.St} {H1 : L2.Hp} {D : Ends} {i : Nat} {us : List U} (B1 : BSim G b W1 s1 σ H1) (q : okS G b W1 Wx D (setI i (.own us) s1)) : kF G (fun x H2 => gName i x σ H2 D.nx) W1 s1 us H1 := by
  intro l vs rs hl
  obtain ⟨h1, h2⟩ := setI_ok q
  have B2 := B1.more (H' := upd H1 l (.lst vs)) fun y o e => by rw [upd_ne (ne_of_none e hl)]; exact e
  exact okS.nx (B2.putOwn h1 upd_same rs (B1.free_f hl) (B1.free_m hl) (B1.free_o hl) (B1.free_b hl)) h2
theorem xs_own {i : Nat} {x : PySem.Str} {f : St → Re (List U)} (hN : X.N.Nodup) (hi : X.N[i]? = some x) (hx : Loc X.env.scope x) (hf : X.fn x = true ∨ X.env.scope.names.lookup x = some .local) (ha : PE X a (RF G Wx f)) (hs : ∀ n, swapsWith a (some (.Name x pos')) n X.env = pure false) :
    PS X (.Assign [.Name x pos'] a pos) (RS G Wx fun s => (f s).toS fun us s1 => setI i (.own us) s1) := by
  refine PS.imp (ps_set hN hi hx ha (hs _) hf) fun D σ H ⟨b, W, s, B, ok⟩ => ⟨b, W, s, B, ok.to fun W1 s1 us H1 _ le B1 q => own_put B1 q⟩
/-- name = [.. for ..], on one line -/
theorem xs_ownLc {i : Nat} {x : PySem.Str} {elt tg iter : Expr} {ifs : List Expr} {scope : Scope} {own : List (PySem.Str × Nat)} {pc : Pos} {t : T} {ft : St → Re Bool} {fe : St → Re U} {fi : St → Re Src} (hK : X.K = G.K) (hc : X.calm = true) (hN : X.N.Nodup) (hx : X.N[i]? = some x) (hxl : X.env.scope.names.lookup x = some .local)
    (hsw : swapsWith (.ListComp elt [⟨tg, iter, ifs, 0⟩] scope pc) (some (.Name x pos')) pos.line X.env = pure true) (hi : PI X tg iter (RI G Wx fi)) (ok : BlkOk X.N X.env.scope scope own) (hsl : ∀ i ∈ T.slots t, i ∈ own.map (·.2))
    (hg : ∀ (s : Shared) (H : L2.Hp) (C : Addr) (cl : List (PySem.Str × Addr)) (fp : List Addr), PG (X.blk s H scope (compEnvC scope cl C X.env) fp) tg (RG G t))
    (ht : ∀ (s : Shared) (H : L2.Hp) (C : Addr) (cl : List (PySem.Str × Addr)) (fp : List Addr), PTs (X.blk s H scope (compEnvC scope cl C X.env) fp) ifs (RT G W0 ft))
    (he : ∀ (s : Shared) (H : L2.Hp) (C : Addr) (cl : List (PySem.Str × Addr)) (fp : List Addr), PE (X.blk s H scope (compEnvC scope cl C X.env) fp) elt (RE G W0 fe)) (hs : notSet iter = true) :
    PS X (.Assign [.Name x pos'] (.ListComp elt [⟨tg, iter, ifs, 0⟩] scope pc) pos) (RS G Wx fun s => (compF t (own.map (·.2)) ft fe fi s).toS fun us s1 => setI i (.own us) s1) := by
  refine PS.imp (ps_setLc hc hN hx hxl hsw hi ok hg ht he (noFold_of hs X.env)) fun D σ H ⟨b, W, s, B, q⟩ => ?_
  have q' : okR G b W σ Wx (kF G fun x H2 => gName i x σ H2 D.nx) (compF t (own.map (·.2)) ft fe fi s) := q.to fun W1 s1 us H1 _ le B1 q => own_put B1 q
  exact comp_imp (it := []) (elt := []) hK B hsl q'
/-- a, b = value -/
theorem xs_setT {tg : Expr} {t : T} (ha : PE X a (RE G Wx fa)) (hg : PG X tg (RGd G t)) (hn : notComp a = true) (hn2 : notStar tg = true) (hw : swappedStores [tg] a X.env = pure none) : PS X (.Assign [tg] a pos) (RS G Wx fun s => (fa s).toS fun u s1 => match bindTd t s1.hp u s1.fr with
    | some fr => .nx { s1 with fr := fr }
    | none => .bad) := by
  refine PS.imp (ps_asg ha hg (noSwap_of hn _ _ _) hw (by rw [assignEach_cons hn2]; rfl)) fun D σ H ⟨b, W, s, B, ok⟩ => ⟨b, W, s, B, ok.to fun W1 s1 u H1 _ le B1 q v r => ?_⟩
  split at q
  · rename_i fr hfr
    exact ⟨b, W1, s1, u, fr, B1, r, hfr, fun σ' _ B2 => okS.nx B2 q⟩
  · exact (show False from q).elim

/-! ### o[k] = e -/
theorem PSet.or {t t' : TSet} (h : PSet X t) (h' : PSet X t') : PSet X (fun o i v H Q => t o i v H Q ∨ t' o i v H Q) := fun pins s σ H o i v ov iv u Q I r1 r2 r3 hw => hw.elim (h pins s σ H o i v ov iv u Q I r1 r2 r3) (h' pins s σ H o i v ov iv u Q I r1 r2 r3)
theorem set_dK (hu : X.A.units + 1 < cLine) : PSet X rSetD := by
  intro pins s σ H o i v ov iv u Q I r1 r2 r3 h
  obtain ⟨a, H', rfl, g, q⟩ := h
  cases r1
  exact d_setItem hu I g r2 r3 fun s' I' => ⟨H', I', q⟩
def rSet2 : TSet := fun o i v H Q => rSetL o i v H Q ∨ rSetD o i v H Q
theorem set2 (hu : X.A.units + 1 < cLine) : PSet X rSet2 := PSet.or set_list (set_dK hu)
theorem ixsU_snd {b : Ba} {W : Wd} {s : St} {σ : L2.St} {H : L2.Hp} {D : Ends} {x y w : U} {vx vy vw : V} (hp : p.kts = G.kts) (B : BSim G b W s σ H) (r1 : Rep G W x vx) (r2 : Rep G W y vy) (r3 : Rep G W w vw) (ok : okS G b W Wx D (ixsU p x y w s)) : rSet2 vx vy vw H fun H' => D.nx σ H' := by
  cases x <;> first | exact (show False from ok).elim | skip
  rename_i n
  cases r1 with
  | @ref _ l hm =>
  cases hk : s.hp[n]? with
  | none => simp only [ixsU, hk] at ok; exact (show False from ok).elim
  | some o =>
    have hlt := (List.getElem?_eq_some_iff.mp hk).1
    have hb := B.h.box n o l hk hm
    cases o with
    | ins c fs => simp only [ixsU, hk] at ok; exact (show False from ok).elim
    | lst xs =>
      simp only [ixsU, hk] at ok
      cases y <;> first | exact (show False from ok).elim | skip
      cases r2
      rename_i i
      simp only at ok
      split at ok
      · rename_i j hj
        obtain ⟨vs, h1, rs⟩ := hb
        have e1 : L2.ixN vs.length i = some j := by rw [ixN_eq, ← rs.length]; exact hj
        exact .inl ⟨l, vs, i, j, rfl, rfl, h1, e1, okS.nx (B.wr (o := .lst (xs.set j w)) (x := .lst (vs.set j vw)) hlt hm ⟨_, upd_same, rs.set r3 j⟩) ok⟩
      · exact (show False from ok).elim
    | dct t kvs =>
      simp only [ixsU, hk] at ok
      split at ok
      · rename_i hz
        obtain ⟨hput, hlen⟩ := hz
        have e3 := line_eq
        unfold putOk at hput
        rw [Bool.and_eq_true] at hput
        cases t with
        | false =>
          obtain ⟨es, h1, rr⟩ := hb
          obtain ⟨k, ek⟩ := keyOf_some hput.1
          have el := rr.length
          exact .inr ⟨l, _, rfl, .inl ⟨es, k, h1, keyOf_rep r2 ek, by omega, rfl⟩, okS.nx (B.wr (o := .dct false (dput y w kvs)) (x := .dK (putK es k vw)) hlt hm ⟨_, upd_same, rr.put ek r3⟩) ok⟩
        | true =>
          obtain ⟨es, h1, rr⟩ := hb
          cases y <;> first | exact absurd hput.1 Bool.false_ne_true | skip
          rename_i zs
          obtain ⟨ks, ek⟩ := mapO_key (xs := zs) hput.1
          have el := rr.length
          cases r2 with
          | @ktup _ kb kv hkk hkt rz =>
            have := hput.2
            dsimp only at this
            rw [hp, hkt] at this
            cases this
          | @tup _ kb kv hkk rz =>
            have e : kv = ks.map kV := keys_rep rz ek
            exact .inr ⟨l, _, rfl, .inr ⟨es, ks, kb, h1, rfl, by rw [← e]; exact B.fzin hkk, by omega, rfl⟩, okS.nx (B.wr (o := .dct true (dput (.tup zs) w kvs)) (x := .dT (putK es ks vw)) hlt hm ⟨_, upd_same, rr.put (u := .tup zs) ek r3⟩) ok⟩
      · exact (show False from ok).elim
theorem assign_sub {o i : Expr} {pos : Pos} (env : Env) (h : notSlice i = true) : ∀ v, assign (.Subscript o i pos) env v = (do
      let ov ← holding [v] (eval o env)
      let iv ← holding [v, ov] (eval i env)
      standAt pos
      holding [v, ov, iv] (setItem ov iv v)
      release [v, ov, iv] []) := by
  intro v
  cases i <;> first | rfl | exact absurd h Bool.false_ne_true
theorem xs_ixs {o i : Expr} {fo fk fv : St → Re U} (hp : p.kts = G.kts) (hu : X.A.units + 65 < cLine) (ho : PE X o (RE G Wx fo)) (hi : PE X i (RE G Wx fk)) (hv : PE X e (RE G Wx fv)) (hn : notComp e = true) (hs : notSlice i = true) :
    PS X (.Assign [.Subscript o i pos'] e pos) (RS G Wx fun s => (fv s).toS fun v s1 => (fo s1).toS fun x s2 => (fk s2).toS fun y s3 => ixsU p x y v s3) := by
  refine PS.imp (ps_asg hv (pg_sub ho hi (set2 (by omega)) (assign_sub _ hs)) (noSwap_of hn (some (.Subscript o i pos')) pos.line X.env) (by rfl) (by rfl)) fun D σ H ⟨b, W, s, B, ok⟩ => ⟨b, W, s, B, ok.to fun W1 s1 v H1 _ le B1 q w r => ⟨b, W1, s1, B1, q.to fun W2 s2 x H2 _ le2 B2 q2 wx rx => ⟨b, W2, s2, B2, q2.to fun W3 s3 y H3 _ le3 B3 q3 wy ry => ?_⟩⟩⟩
  exact ixsU_snd hp B3 (rx.mono le3) ry ((r.mono le2).mono le3) q3

/-! ### if, while, for -/
theorem xs_ite {t1 t2 : List Stmt} {g1 g2 : St → Rs} (hc : PT X d (RT G Wx (tv fc))) (h1 : PSs X t1 (RS G Wx g1)) (h2 : PSs X t2 (RS G Wx g2)) : PS X (.If d t1 t2 pos) (RS G Wx fun s => (fc s).toS fun x s1 => (tst x s1).toS fun k s2 => match k with
    | true => g1 s2
    | false => g2 s2) := by
  refine PS.imp (ps_if hc h1 h2) fun D σ H ⟨b, W, s, B, ok⟩ => ⟨b, W, s, B, ?_⟩
  unfold tv
  dsimp only at ok
  cases e : fc s with
  | bad => rw [e] at ok; exact (show False from ok).elim
  | ex c u s1 => rw [e] at ok; exact fun W' H' d v l B => ok W' σ H' d v l B
  | ok x s1 =>
    rw [e] at ok
    simp only [Re.bnd, Re.toS] at ok ⊢
    cases e2 : tst x s1 with
    | bad => rw [e2] at ok; exact (show False from ok).elim
    | ex c u s2 => rw [e2] at ok; exact fun W' H' d v l B => ok W' σ H' d v l B
    | ok k s2 =>
      rw [e2] at ok
      intro W' H' le B'
      cases k with
      | true => exact ⟨b, W', s2, B', okS.le le ok⟩
      | false => exact ⟨b, W', s2, B', okS.le le ok⟩
theorem xs_whl {body : List Stmt} {fct : St → Re Bool} {g : St → Rs} (hpo : PassesOwn (model X.prog X.w) X.A X.env X.xe) (hc : PT X d (RT G Wx fct)) (hb : PSs X body (RS G Wx g)) (n : Nat) : PS X (.While d body [] pos) (RS G Wx fun s => whlL fct g n s) := by
  refine PS.imp (ps_while hpo hc hb) fun D σ H ⟨b, W, s, B, ok⟩ => ?_
  refine ⟨fun m σ H => ∃ b W s, BSim G b W s σ H ∧ okS G b W Wx D (whlL fct g m s), ⟨n, b, W, s, B, ok⟩, ?_⟩
  rintro m σ H ⟨b, W, s, B, ok⟩
  cases m with
  | zero => exact (show False from ok).elim
  | succ m =>
    simp only [whlL] at ok
    refine ⟨b, W, s, B, ok.to fun W1 s1 k H1 _ le B1 q => ?_⟩
    cases k with
    | false => exact okS.nx B1 q
    | true =>
      refine ⟨fun σ' H' => ∃ b W s, BSim G b W s σ' H' ∧ okS G b W Wx D (whlL fct g m s), fun σ' H' h => ⟨m, Nat.lt_succ_self m, h⟩, b, W1, s1, B1, ?_⟩
      dsimp only at q
      cases e : g s1 with
      | nx s2 => rw [e] at q; exact fun W' σ' H' l B' => ⟨b, W', s2, B', okS.le l q⟩
      | ct s2 => rw [e] at q; exact fun W' σ' H' l B' => ⟨b, W', s2, B', okS.le l q⟩
      | bk s2 => rw [e] at q; exact q
      | rt u s2 => rw [e] at q; exact q
      | ex c u s2 => rw [e] at q; exact q
      | bad => rw [e] at q; exact (show False from q).elim
theorem for_imp {t : T} {fi : St → Re Src} {g : St → Rs} {D : Ends} {σ : L2.St} {H : L2.Hp} (h : RS G Wx (fun s => (fi s).toS fun src s1 => forS t g src s1) D σ H) : tFor (RI G Wx fi) (RG G t) (RS G Wx g) D σ H := by
  obtain ⟨b, W, s, B, ok⟩ := h
  refine ⟨b, W, s, B, ok.to fun W1 s1 src H1 _ le B1 q => ?_⟩
  cases src with
  | live r en =>
    intro J hJ
    refine ⟨fun i m σ H => ∃ W s, BSim G b W s σ H ∧ W1.le W ∧ okS G b W Wx D (forV t g r en m i s), ⟨SZ + 1, W1, s1, B1, .rfl', q⟩, ?_⟩
    rintro i m σ H ⟨W2, s2, B2, le2, ok2⟩
    have hJ' := (show WalkV G W1 r en J from hJ) b W2 s2 σ H i B2 le2
    cases m with
    | zero => exact (show False from ok2).elim
    | succ m =>
      simp only [forV] at ok2
      cases hl : liveAt s2.hp r i en with
      | none => rw [hl] at ok2; exact (show False from ok2).elim
      | some o =>
        rw [hl] at ok2
        cases o with
        | none => exact .inl ⟨hJ'.2 hl, okS.nx B2 ok2⟩
        | some y =>
          obtain ⟨hgo, hyl⟩ := hJ'.1 _ hl
          refine .inr ⟨hgo, fun σ' H' => ∃ W s, BSim G b W s σ' H' ∧ W1.le W ∧ okS G b W Wx D (forV t g r en m (i + 1) s), fun σ' H' h => ⟨m, Nat.lt_succ_self m, h⟩, fun x H' hxy => ?_⟩
          obtain ⟨W3, le3, r', B3⟩ := hyl x H' hxy
          dsimp only at ok2
          split at ok2
          · exact (show False from ok2).elim
          · rename_i fr hfr
            refine ⟨b, W3, s2, y, fr, B3, r', hfr, fun σ3 _ B4 => ⟨b, W3, _, B4, ?_⟩⟩
            have ok3 := okS.le le3 ok2
            cases e : g { fr := fr, hp := s2.hp } with
            | nx s4 => simp only [e] at ok3; exact fun W' σ' H' l B' => ⟨W', s4, B', (le2.trans le3).trans l, okS.le l ok3⟩
            | ct s4 => simp only [e] at ok3; exact fun W' σ' H' l B' => ⟨W', s4, B', (le2.trans le3).trans l, okS.le l ok3⟩
            | bk s4 => simp only [e] at ok3; exact ok3
            | rt u s4 => simp only [e] at ok3; exact ok3
            | ex c u s4 => simp only [e] at ok3; exact ok3
            | bad => simp only [e] at ok3; exact (show False from ok3).elim
  | snap xs =>
    intro J hJ
    have hJ : WalkL G W1 xs J := hJ
    refine ⟨fun i m σ H => m = xs.length - i ∧ i ≤ xs.length ∧ ∃ W s, BSim G b W s σ H ∧ W1.le W ∧ okS G b W Wx D (forL t g (xs.drop i) s), ⟨xs.length, by simp, Nat.zero_le _, W1, s1, B1, .rfl', by rw [List.drop_zero]; exact q⟩, ?_⟩
    rintro i m σ H ⟨rfl, hi, W2, s2, B2, le2, ok2⟩
    have hJ' := hJ b W2 s2 σ H i B2 le2
    by_cases hlt : i < xs.length
    · rw [List.drop_eq_getElem_cons hlt] at ok2
      obtain ⟨hgo, hyl⟩ := hJ'.1 _ (List.getElem?_eq_getElem hlt)
      refine .inr ⟨hgo, fun σ' H' => ∃ W s, BSim G b W s σ' H' ∧ W1.le W ∧ okS G b W Wx D (forL t g (xs.drop (i + 1)) s), fun σ' H' h => ⟨xs.length - (i + 1), by omega, rfl, hlt, h⟩, fun x H' hxy => ?_⟩
      obtain ⟨W3, le3, r, B3⟩ := hyl x H' hxy
      simp only [forL] at ok2
      split at ok2
      · exact (show False from ok2).elim
      · rename_i fr hfr
        refine ⟨b, W3, s2, xs[i], fr, B3, r, hfr, fun σ3 _ B4 => ⟨b, W3, _, B4, ?_⟩⟩
        have ok3 := okS.le le3 ok2
        cases e : g { fr := fr, hp := s2.hp } with
        | nx s4 => simp only [e] at ok3; exact fun W' σ' H' l B' => ⟨W', s4, B', (le2.trans le3).trans l, okS.le l ok3⟩
        | ct s4 => simp only [e] at ok3; exact fun W' σ' H' l B' => ⟨W', s4, B', (le2.trans le3).trans l, okS.le l ok3⟩
        | bk s4 => simp only [e] at ok3; exact ok3
        | rt u s4 => simp only [e] at ok3; exact ok3
        | ex c u s4 => simp only [e] at ok3; exact ok3
        | bad => simp only [e] at ok3; exact (show False from ok3).elim
    · have e : i = xs.length := by omega
      subst e
      rw [List.drop_length] at ok2
      exact .inl ⟨hJ'.2 (List.getElem?_eq_none (Nat.le_refl _)), okS.nx B2 ok2⟩
theorem xs_for {tg iter : Expr} {body : List Stmt} {t : T} {fi : St → Re Src} {g : St → Rs} (hpo : PassesOwn (model X.prog X.w) X.A X.env X.xe) (hc : X.calm = true) (hi : PI X tg iter (RI G Wx fi)) (hg : PG X tg (RG G t)) (hb : PSs X body (RS G Wx g)) (hs : notSet iter = true) :
    PS X (.For tg iter body [] pos) (RS G Wx fun s => (fi s).toS fun src s1 => forS t g src s1) := PS.imp (ps_for hpo hc hi hg hb (noFold_of hs X.env)) fun D σ H h => for_imp h

/-! ### blocks -/
theorem xss_nil : PSs X [] (RS G Wx fun s => .nx s) := PSs.imp pss_nil fun D σ H ⟨b, W, s, B, ok⟩ => okS.nx B ok
theorem xss_cons {st : Stmt} {sts : List Stmt} {g h : St → Rs} (h1 : PS X st (RS G Wx g)) (h2 : PSs X sts (RS G Wx h)) : PSs X (st :: sts) (RS G Wx fun s => match g s with
    | .nx s1 => h s1
    | .rt u s1 => .rt u s1
    | .bk s1 => .bk s1
    | .ct s1 => .ct s1
    | .ex c u s1 => .ex c u s1
    | .bad => .bad) := by
  refine PSs.imp (pss_cons h1 h2) fun D σ H ⟨b, W, s, B, ok⟩ => ⟨b, W, s, B, ?_⟩
  dsimp only at ok
  cases e : g s with
  | nx s1 => rw [e] at ok; exact fun W' σ' H' l B' => ⟨b, W', s1, B', okS.le l ok⟩
  | rt u s1 => rw [e] at ok; exact ok
  | bk s1 => rw [e] at ok; exact ok
  | ct s1 => rw [e] at ok; exact ok
  | ex c u s1 => rw [e] at ok; exact ok
  | bad => rw [e] at ok; exact (show False from ok).elim
end
end Pix
end
section
set_option Elab.async false
set_option linter.all false
set_option maxRecDepth 100000
set_option maxHeartbeats 1000000
/-! PixD2: augmented stores, stores into the frame's own lists. -/
namespace Pix
open PySem PySem.Spec PyProof.Rows L2
section
variable {G : Gl0} {p : Px} {X : Cx} {Wx : WX}
variable {e a c d : Expr} {fa fb fc : St → Re U} {pos pos' : Pos}
def rAddS : R2 := fun x y H Q => rI0 (fun i j => .int (i + j)) x y H Q ∨ ∃ i j, x = .str i ∧ y = .str j ∧ i.length + j.length ≤ sizeLine ∧ Q (.str (i ++ j)) H
def iopR : Bop → R2
  | .add => rAddS
  | .sub => rI0 fun i j => .int (i - j)
  | .mul => rI CMul fun i j => .int (i * j)
  | .fdiv => rI CDivW fun i j => .int (i / j)
  | .mod => rI (fun _ j => 0 < j) fun i j => .int (i % j)
  | .pow => fun _ _ _ _ => False
theorem ip_op (op : Bop) : PIp X (bopP op) (iopR op) := by
  cases op with
  | add => exact OpR.or iop_add iop_add_str
  | sub => exact iop_sub
  | mul => exact iop_mul
  | fdiv => exact iop_fdivW
  | mod => exact iop_mod
  | pow => exact fun _ _ _ _ _ _ _ _ _ _ _ _ h => h.elim
theorem aug_snd {b : Ba} {W : Wd} {s : St} {σ : L2.St} {H : L2.Hp} {Q : VK} {op : Bop} {u u2 : U} {v v2 : V} (ho : op ≠ .pow) (B : BSim G b W s σ H) (r1 : Rep G W u v) (r2 : Rep G W u2 v2) (ok : okR G b W σ Wx (kV1 G Q) (augU op u u2 s)) : iopR op v v2 H Q := by
  have hl := line_eq
  cases r1 <;> first | exact (show False from ok).elim | skip
  · rename_i i
    have ok : okR G b W σ Wx (kV1 G Q) (binU op (.int i) u2 s) := ok
    have q := bin_snd B (.int i) r2 ok
    cases op with
    | add =>
      rcases q with q | ⟨i', j, h, _⟩ | ⟨_, _, _, _, h, _⟩ | ⟨_, _, _, _, h, _⟩
      · exact .inl q
      · cases h
      · cases h
      · cases h
    | sub => exact q
    | mul => exact q
    | fdiv => exact q
    | mod => exact q
    | pow => exact absurd rfl ho
  · rename_i x hx hxc
    have ok : okR G b W σ Wx (kV1 G Q) (binU op (.str x) u2 s) := ok
    have q := bin_snd B (.str x hx hxc) r2 ok
    cases op with
    | add =>
      rcases q with ⟨_, _, h, _⟩ | q | ⟨_, _, _, _, h, _⟩ | ⟨_, _, _, _, h, _⟩
      · cases h
      · exact .inr q
      · cases h
      · cases h
    | sub => obtain ⟨_, _, h, _⟩ := q; cases h
    | mul => obtain ⟨_, _, h, _⟩ := q; cases h
    | fdiv => obtain ⟨_, _, h, _⟩ := q; cases h
    | mod => obtain ⟨_, _, h, _⟩ := q; cases h
    | pow => exact absurd rfl ho
theorem xs_aug {i : Nat} {x : PySem.Str} {op : Bop} (ho : op ≠ .pow) (hN : X.N.Nodup) (hi : X.N[i]? = some x) (hx : Loc X.env.scope x) (hf : X.fn x = true ∨ X.env.scope.names.lookup x = some .local) (ha : PE X a (RE G Wx fa)) :
    PS X (.AugAssign (.Name x pos') (bopP op) a pos) (RS G Wx fun s => match s.fr[i]? with
    | some (.val x) => (fa s).toS fun y s1 => (augU op x y s1).toS fun z s2 => setI i (.val z) s2
    | _ => .bad) := by
  refine PS.imp (ps_aug hN hi hx ha (ip_op op) hf) fun D σ H ⟨b, W, s, B, ok⟩ => ?_
  dsimp only at ok
  cases he : s.fr[i]? with
  | none => simp only [he] at ok; exact (show False from ok).elim
  | some sl =>
    cases sl with
    | val u =>
      simp only [he] at ok
      obtain ⟨v, h1, h2⟩ := B.f.val i u he
      refine ⟨v, h1, b, W, s, B, ok.to fun W1 s1 y H1 _ le B1 q w r => ?_⟩
      refine aug_snd ho B1 (h2.mono le) r (q.to fun W2 s2 z H2 _ le2 B2 q2 wz rz => ?_)
      obtain ⟨h3, h4⟩ := setI_ok q2
      exact okS.nx (B2.put h3 rz) h4
    | _ => simp only [he] at ok; exact (show False from ok).elim
theorem get_snd {b : Ba} {W : Wd} {s : St} {σ : L2.St} {H : L2.Hp} {Q : VK} {u u2 : U} {v v2 : V} (hr : isRef u = true) (B : BSim G b W s σ H) (r1 : Rep G W u v) (r2 : Rep G W u2 v2) (ok : okR G b W σ Wx (kV1 G Q) (ixU u u2 s)) : rGet2 G.K v v2 H Q := by
  obtain ⟨x, s', e, k⟩ := ok.get fun c y s' z => ixU_nex z
  obtain ⟨rfl, h⟩ := ixU_ok e
  have k' := k W H .rfl' B
  rcases h with ⟨t, kvs, h1, h2, h3⟩ | ⟨z, i, d, rfl, rfl, h3, rfl⟩ | ⟨xs, i, h1, rfl, h3⟩
  · obtain ⟨a, o, e1, e2, e3⟩ := dget_rep B r1 h1 r2 h2
    rw [h3] at e3
    obtain ⟨y, rfl, hy⟩ := e3
    exact .inr ⟨a, y, e1, e2, k' y hy⟩
  · cases hr
  · cases u <;> first | cases hr | skip
    rename_i n
    have h1' : lstOf s'.hp (.ref n) = some xs := h1
    obtain ⟨a, vs, rfl, h4, rs⟩ := lstOf_rep B r1 h1'
    obtain ⟨y, h5, h6⟩ := atL_rep rs h3
    cases r2
    exact .inl ⟨a, vs, i, y, rfl, rfl, SqL.of h4, h5, k' y h6⟩
theorem augStore_of {i : Expr} (h : notSlice i = true) : ∀ ov iv new, augStore i ov iv new = (do holding [new, ov, iv] (setItem ov iv new); release [new, ov, iv] []; pure .next) := by
  intro ov iv new
  cases i <;> first | rfl | exact absurd h Bool.false_ne_true
theorem xs_augI {o i : Expr} {fo fk fv : St → Re U} {op : Bop} {tpos : Pos} (hp : p.kts = G.kts) (hK : X.K = G.K) (hpw : op ≠ .pow) (hu : X.A.units + 65 < cLine) (ho : PE X o (RE G Wx fo)) (hi : PE X i (RE G Wx fk)) (hv : PE X e (RE G Wx fv)) (hs : notSlice i = true) :
    PS X (.AugAssign (.Subscript o i tpos) (bopP op) e pos) (RS G Wx fun s => (fo s).toS fun x s1 => if isRef x then (fk s1).toS fun y s2 => (ixU x y s2).toS fun a s3 => (fv s3).toS fun b s4 => (augU op a b s4).toS fun z s5 => ixsU p x y z s5 else .bad) := by
  refine PS.imp (ps_augS ho hi (get2 (by omega)) hv (ip_op op) (set2 (by omega)) (augStore_of hs)) fun D σ H ⟨b, W, s, B, ok⟩ => ⟨b, W, s, B, ok.to fun W1 s1 x H1 _ le B1 q wx rx => ?_⟩
  rw [hK]
  split at q
  · rename_i hr
    refine ⟨b, W1, s1, B1, okS.to q fun W2 s2 y H2 _ le2 B2 q2 wy ry => ?_⟩
    refine get_snd hr B2 (rx.mono le2) ry (okS.to q2 fun W3 s3 u H3 _ le3 B3 q3 wu ru => ?_)
    refine ⟨b, W3, s3, B3, okS.to q3 fun W4 s4 t H4 _ le4 B4 q4 wt rt => ?_⟩
    refine aug_snd hpw B4 (ru.mono le4) rt (okS.to q4 fun W5 s5 z H5 _ le5 B5 q5 wz rz => ?_)
    exact ixsU_snd hp B5 ((((rx.mono le2).mono le3).mono le4).mono le5) (((ry.mono le3).mono le4).mono le5) rz q5
  · exact (show False from q).elim
/-- xs[e], xs a name that is not given away -/
theorem xe_pix {i : Nat} {x : PySem.Str} {px : Pos} (hK : X.K = G.K) (hu : X.A.units + 65 < cLine) (hN : X.N[i]? = some x) (hv : Vis X.env.scope x) (h1 : (x == ("__debug__" : PySem.Str)) = false) (h2 : (x == ("__classdict__" : PySem.Str)) = false) (hb : PE X c (RE G Wx fb)) (hs : notSlice c = true) :
    PE X (.Subscript (.Name x px) c pos) (RE G Wx fun s => if isSet s.fr i then (fb s).bnd fun y s1 => (match s1.fr[i]? with
    | some (.own xs) => ixSq (some xs) y s1
    | some (.val u) => ixU u y s1
    | _ => .bad) else .bad) := by
  refine PE.imp (pe_ix (ix4 (by omega)) (pe_var hN hv h1 h2) hb (plainIx_of hs)) fun σ H Q ⟨b, W, s, B, ok⟩ => ?_
  dsimp only at ok
  split at ok
  · rename_i ho
    obtain ⟨v, e1⟩ := set_get B ho
    refine ⟨v, e1, b, W, s, B, okR.then ok fun W1 s1 y H1 le B1 q w r => ?_⟩
    rw [hK]
    cases he : s1.fr[i]? with
    | none => simp only [he] at q; exact (show False from q).elim
    | some sl =>
      cases sl with
      | own xs =>
        simp only [he] at q
        obtain ⟨l', vs, f1, f2, f3, f4, f5⟩ := B1.f.own i xs he
        rw [e1] at f1; cases f1
        cases r <;> first | exact (show False from q).elim | skip
        rename_i j
        simp only [ixSq] at q
        cases ha : atL xs j with
        | none => rw [ha] at q; exact (show False from q).elim
        | some z =>
          rw [ha] at q
          obtain ⟨w, g1, g2⟩ := atL_rep f3 ha
          exact .inl (.inl ⟨l', vs, j, w, rfl, rfl, SqL.of f2, g1, okR.val B1 g2 q⟩)
      | val u =>
        simp only [he] at q
        obtain ⟨v', f1, f2⟩ := B1.f.val i u he
        rw [e1] at f1; cases f1
        exact ix_snd B1 f2 r q
      | _ => simp only [he] at q; exact (show False from q).elim
  · exact (show False from ok).elim
/-- xs.append(e), xs the frame's own -/
theorem xs_oapp {i : Nat} {x : PySem.Str} {px apos cpos : Pos} (hl : (apos.endLine == cpos.line) = true) (hN : X.N[i]? = some x) (hv : Vis X.env.scope x) (h1 : (x == ("__debug__" : PySem.Str)) = false) (h2 : (x == ("__classdict__" : PySem.Str)) = false) (hb : PE X c (RE G Wx fb)) (hs : notStar c = true) :
    PS X (.Expr (.Call (.Attribute (.Name x px) "append" apos) [c] [] cpos) pos) (RS G Wx fun s => if isOwn s.fr i then (fb s).toS fun v s1 => (match s1.fr[i]? with
    | some (.own xs) => if xs.length < SZ then .nx { s1 with fr := s1.fr.set i (.own (xs ++ [v])) } else .bad
    | _ => .bad) else .bad) := by
  refine PS.imp (ps_expr (pe_bm PySem.F.plainAttrs_list PySem.F.slot_list_append PySem.F.type_list_append mt_append (pe_var hN hv h1 h2) (pa_cons hb pa_nil (star_of hs _ _)) (base_of' rfl _) (few1 hs) hl (star_of hs _ _) rfl)) fun D σ H ⟨b, W, s, B, ok⟩ => ?_
  dsimp only at ok
  split at ok
  · rename_i ho
    obtain ⟨l, vs0, e1, e2⟩ := own_get B ho
    refine ⟨_, e1, .inl ⟨rfl, vs0, SqL.of e2⟩, b, W, s, B, okS.to ok fun W1 s1 y H1 _ le B1 q v r => ?_⟩
    cases he : s1.fr[i]? with
    | none => simp only [he] at q; exact (show False from q).elim
    | some sl =>
      cases sl with
      | own xs =>
        simp only [he] at q
        obtain ⟨l', vs, f1, f2, f3, f4, f5⟩ := B1.f.own i xs he
        rw [e1] at f1; cases f1
        split at q
        · rename_i hz
          have el := f3.length
          have e3 := line_eq
          exact ⟨l, vs, v, rfl, rfl, f2, by omega, okS.nx (B1.wrOwn he e1 (f3.app (.one r))) q⟩
        · exact (show False from q).elim
      | _ => simp only [he] at q; exact (show False from q).elim
  · exact (show False from ok).elim
/-- xs[k] = e, xs the frame's own -/
theorem xs_oixs {i : Nat} {x : PySem.Str} {px : Pos} {k : Expr} {fk fv : St → Re U} (hN : X.N[i]? = some x) (hv : Vis X.env.scope x) (h1 : (x == ("__debug__" : PySem.Str)) = false) (h2 : (x == ("__classdict__" : PySem.Str)) = false) (hk : PE X k (RE G Wx fk)) (he : PE X e (RE G Wx fv)) (hn : notComp e = true) (hs : notSlice k = true) :
    PS X (.Assign [.Subscript (.Name x px) k pos'] e pos) (RS G Wx fun s => if isOwn s.fr i then (fv s).toS fun v s1 => (fk s1).toS fun y s2 => (match s2.fr[i]? with
    | some (.own xs) => (match y with
      | .int j => (match ixN xs.length j with
        | some n => .nx { s2 with fr := s2.fr.set i (.own (xs.set n v)) }
        | none => .bad)
      | _ => .bad)
    | _ => .bad) else .bad) := by
  refine PS.imp (ps_asg he (pg_sub (pe_var hN hv h1 h2) hk set_list (assign_sub _ hs)) (noSwap_of hn (some (.Subscript (.Name x px) k pos')) pos.line X.env) (by rfl) (by rfl)) fun D σ H ⟨b, W, s, B, ok⟩ => ?_
  dsimp only at ok
  split at ok
  · rename_i ho
    obtain ⟨l, vs0, e1, e2⟩ := own_get B ho
    refine ⟨b, W, s, B, okS.to ok fun W1 s1 v H1 _ le B1 q w r => ⟨_, e1, b, W1, s1, B1, okS.to q fun W2 s2 y H2 e9 le2 B2 q2 wy ry => ?_⟩⟩
    cases he : s2.fr[i]? with
    | none => simp only [he] at q2; exact (show False from q2).elim
    | some sl =>
      cases sl with
      | own xs =>
        simp only [he] at q2
        clear e9
        cases ry <;> first | exact (show False from q2).elim | skip
        rename_i j
        dsimp only at q2
        split at q2
        · rename_i n hj
          obtain ⟨l', vs, f1, f2, f3, f4, f5⟩ := B2.f.own i xs he
          rw [e1] at f1; cases f1
          exact ⟨l, vs, j, n, rfl, rfl, f2, by rw [ixN_eq, ← f3.length]; exact hj, okS.nx (B2.wrOwn he e1 (f3.set (r.mono le2) n)) q2⟩
        · exact (show False from q2).elim
      | _ => simp only [he] at q2; exact (show False from q2).elim
  · exact (show False from ok).elim
/-- name = [.. for .. for ..], on one line -/
theorem xs_ownLc2 {i : Nat} {x : PySem.Str} {elt tg iter tg1 iter1 : Expr} {ifs1 : List Expr} {scope : Scope} {own : List (PySem.Str × Nat)} {own2 : List Nat} {pc : Pos} {t t2 : T} {ft : St → Re Bool} {fe : St → Re U} {fi fi2 : St → Re Src} (hc : X.calm = true) (hN : X.N.Nodup) (hx : X.N[i]? = some x) (hxl : X.env.scope.names.lookup x = some .local)
    (hsw : swapsWith (.ListComp elt [⟨tg, iter, [], 0⟩, ⟨tg1, iter1, ifs1, 0⟩] scope pc) (some (.Name x pos')) pos.line X.env = pure true) (hi : PI X tg iter (RI G Wx fi)) (ok : BlkOk X.N X.env.scope scope own)
    (hsl : ∀ i ∈ T.slots t, i ∈ own.map (·.2)) (hsl2 : ∀ i ∈ T.slots t2, i ∈ own2) (hsub : ∀ i ∈ own2, i ∈ own.map (·.2))
    (hg : ∀ (s : Shared) (H : L2.Hp) (C : Addr) (cl : List (PySem.Str × Addr)) (fp : List Addr), PG (X.blk s H scope (compEnvC scope cl C X.env) fp) tg (RG G t))
    (hi1 : ∀ (s : Shared) (H : L2.Hp) (C : Addr) (cl : List (PySem.Str × Addr)) (fp : List Addr), PI (X.blk s H scope (compEnvC scope cl C X.env) fp) tg1 iter1 (RI G W0 fi2))
    (hg1 : ∀ (s : Shared) (H : L2.Hp) (C : Addr) (cl : List (PySem.Str × Addr)) (fp : List Addr), PG (X.blk s H scope (compEnvC scope cl C X.env) fp) tg1 (RG G t2))
    (ht1 : ∀ (s : Shared) (H : L2.Hp) (C : Addr) (cl : List (PySem.Str × Addr)) (fp : List Addr), PTs (X.blk s H scope (compEnvC scope cl C X.env) fp) ifs1 (RT G W0 ft))
    (he : ∀ (s : Shared) (H : L2.Hp) (C : Addr) (cl : List (PySem.Str × Addr)) (fp : List Addr), PE (X.blk s H scope (compEnvC scope cl C X.env) fp) elt (RE G W0 fe)) (hs : notSet iter = true) (hs1 : notSet iter1 = true) :
    PS X (.Assign [.Name x pos'] (.ListComp elt [⟨tg, iter, [], 0⟩, ⟨tg1, iter1, ifs1, 0⟩] scope pc) pos) (RS G Wx fun s => (compF2 t (own.map (·.2)) t2 own2 ft fe fi fi2 s).toS fun us s1 => setI i (.own us) s1) := by
  refine PS.imp (ps_setLc2 hc hN hx hxl hsw hi ok hsub hg (fun _ _ _ _ _ => pts_nil) hi1 hg1 ht1 he (noFold_of hs X.env) (fun env => noFold_of hs1 env)) fun D σ H ⟨b, W, s, B, q⟩ => ?_
  have q' : okR G b W σ Wx (kF G fun x H2 => gName i x σ H2 D.nx) (compF2 t (own.map (·.2)) t2 own2 ft fe fi fi2 s) := q.to fun W1 s1 us H1 _ le B1 q => own_put B1 q
  exact comp2_imp B hsl hsl2 hsub q'
end
end Pix
end
section
set_option Elab.async false
set_option linter.all false
set_option maxRecDepth 100000
set_option maxHeartbeats 1000000
/-! PixZ1: instances: fields read and stored, methods called, new ones made. -/
namespace Pix
open PySem PySem.Spec PyProof.Rows L2
theorem char_inj {a b : Char} (h : a.toNat = b.toNat) : a = b := by
  cases a; cases b
  rename_i x hx y hy
  have : x = y := UInt32.toNat_inj.mp h
  subst this; rfl
theorem ofs_inj {f g : String} (h : PySem.Str.ofString f = PySem.Str.ofString g) : f = g := by
  rw [PySem.Str.ofString_eq_toList, PySem.Str.ofString_eq_toList] at h
  have h1 : (f.toList.map Char.toNat).toArray = (g.toList.map Char.toNat).toArray := by injection h
  have h2 : f.toList.map Char.toNat = g.toList.map Char.toNat := by
    have := congrArg Array.toList h1
    simpa using this
  have h3 : f.toList = g.toList := by
    have inj : ∀ {l m : List Char}, l.map Char.toNat = m.map Char.toNat → l = m := by
      intro l
      induction l with
      | nil => intro m e; cases m with
        | nil => rfl
        | cons => simp at e
      | cons a l ih => intro m e; cases m with
        | nil => simp at e
        | cons b m =>
          simp only [List.map_cons, List.cons.injEq] at e
          rw [char_inj e.1, ih e.2]
    exact inj h2
  exact String.toList_inj.mp h3
theorem ofs_beq {f g : String} : (PySem.Str.ofString f == PySem.Str.ofString g) = (f == g) := by
  by_cases h : f = g
  · subst h; simp
  · have : PySem.Str.ofString f ≠ PySem.Str.ofString g := fun e => h (ofs_inj e)
    rw [beq_eq_false_iff_ne.mpr h, beq_eq_false_iff_ne.mpr this]
section
variable {G : Gl0} {W : Wd}
theorem FsRep.look {f : String} {u : U} : ∀ {fs : List (String × U)} {es : List (PySem.Str × V)}, FsRep G W fs es → fs.lookup f = some u → ∃ v, es.lookup (PySem.Str.ofString f) = some v ∧ Rep G W u v
  | _, _, .nil, h => by cases h
  | _, _, .cons (f := g) (fs := fs) (es := es) r rs, h => by
    rw [List.lookup_cons] at h ⊢
    rw [ofs_beq]
    cases e : (f == g) with
    | true => rw [e] at h; cases h; exact ⟨_, rfl, r⟩
    | false => rw [e] at h; exact rs.look h
theorem FsRep.miss {f : String} : ∀ {fs : List (String × U)} {es : List (PySem.Str × V)}, FsRep G W fs es → fs.lookup f = none → es.lookup (PySem.Str.ofString f) = none
  | _, _, .nil, h => rfl
  | _, _, .cons (f := g) (fs := fs) (es := es) r rs, h => by
    rw [List.lookup_cons] at h ⊢
    rw [ofs_beq]
    cases e : (f == g) with
    | true => rw [e] at h; cases h
    | false => rw [e] at h; exact rs.miss h
theorem FsRep.put {f : String} {u : U} {v : V} (q : Rep G W u v) : ∀ {fs : List (String × U)} {es : List (PySem.Str × V)}, FsRep G W fs es → FsRep G W (Pix.putF f u fs) (L2.putF (PySem.Str.ofString f) v es)
  | _, _, .nil => .cons q .nil
  | _, _, .cons (f := g) (fs := fs) (es := es) r rs => by
    unfold Pix.putF L2.putF
    dsimp only
    by_cases h : g = f
    · subst h
      rw [if_pos rfl, if_pos rfl]
      exact .cons q rs
    · rw [if_neg h, if_neg fun e => h (ofs_inj e)]
      exact .cons r (FsRep.put q rs)
theorem FsRep.len : ∀ {fs : List (String × U)} {es : List (PySem.Str × V)}, FsRep G W fs es → fs.length = es.length
  | _, _, .nil => rfl
  | _, _, .cons r rs => congrArg Nat.succ rs.len
end
section
variable {G : Gl0} {p : Px} {X : Cx} {Wx : WX}
theorem insF_rep {b : Ba} {W : Wd} {s : St} {σ : L2.St} {H : L2.Hp} {u : U} {v : V} {c : Nat} {fs : List (String × U)} (B : BSim G b W s σ H) (r : Rep G W u v) (h : insF s.hp c u = some fs) :
    ∃ n a dx es, u = .ref n ∧ v = .ref a ∧ W.m[n]? = some a ∧ n < s.hp.length ∧ c < G.nc ∧ H a = some (.ins (G.ca c) dx es) ∧ FsRep G W fs es := by
  cases r <;> first | (simp only [insF] at h; cases h) | skip
  rename_i n a hm
  simp only [insF] at h
  cases hk : s.hp[n]? with
  | none => rw [hk] at h; cases h
  | some o =>
    rw [hk] at h
    cases o with
    | lst _ => cases h
    | dct _ _ => cases h
    | ins c' fs' =>
      dsimp only at h
      split at h
      · rename_i ec
        subst ec
        cases h
        obtain ⟨h1, dx, es, h2, h3⟩ := B.h.box n _ a hk hm
        exact ⟨n, a, dx, es, rfl, rfl, hm, (List.getElem?_eq_some_iff.mp hk).1, h1, h2, h3⟩
      · cases h
/-- no call of a bare name without arguments -/
def baseB : Expr → Bool
  | .Call (.Name _ _) [] [] _ => false
  | _ => true
theorem base_ofB {o : Expr} {nm : PySem.Str} (h : baseB o = true) (env : Env) : attributeBase o nm env (eval o env) = eval o env := by
  cases o <;> first | rfl | skip
  rename_i f es ks ps
  cases f <;> first | rfl | skip
  cases es <;> first | rfl | skip
  cases ks <;> first | rfl | skip
  exact absurd h Bool.false_ne_true
variable {a e o : Expr} {es : List Expr} {fa fb fo : St → Re U} {pos pos' apos : Pos} {c : Nat} {f m : String}
theorem xe_fld (hK : X.K = G.K) (k : KOk G) (hn : NoAttr G.K (G.ca c) (PySem.Str.ofString f)) (ha : PE X a (RE G Wx fa)) (hb : baseB a = true) :
    PE X (.Attribute a (PySem.Str.ofString f) pos) (RE G Wx fun s => (fa s).bnd fun x s1 => fldU c x f s1) := by
  refine PE.imp (pe_fld ha (base_ofB hb _)) fun σ H Q ⟨b, W, s, B, ok⟩ => ⟨b, W, s, B, ok.then fun W1 s1 x H1 le B1 q v r => ?_⟩
  unfold fldU at q
  split at q
  · rename_i fs hf
    obtain ⟨n, ad, dx, es, rfl, rfl, hm, hl, hc, h1, fr⟩ := insF_rep B1 r hf
    split at q
    · rename_i u hu
      obtain ⟨w, e1, e2⟩ := fr.look hu
      rw [hK]
      exact ⟨ad, _, dx, es, w, rfl, h1, (k.cls c hc).cl, hn, e1, okR.val B1 e2 q⟩
    · exact (show False from q).elim
  · exact (show False from q).elim
theorem fls_snd {b : Ba} {W : Wd} {s : St} {σ : L2.St} {H : L2.Hp} {D : Ends} {x u : U} {v w : V} (k : KOk G) (hn : NoAttr G.K (G.ca c) (PySem.Str.ofString f)) (B : BSim G b W s σ H) (r : Rep G W x v) (rw_ : Rep G W u w) (q : okS G b W Wx D (flsU c x f u s)) :
    ∃ a C dx fs, v = .ref a ∧ H a = some (.ins C dx fs) ∧ Cls G.K C ∧ NoAttr G.K C (PySem.Str.ofString f) ∧ fs.length < 1000 ∧ D.nx σ (upd H a (.ins C dx (L2.putF (PySem.Str.ofString f) w fs))) := by
  unfold flsU at q
  split at q
  · rename_i n
    split at q
    · rename_i fs hf
      obtain ⟨n', ad, dx, es, e1, rfl, hm, hl, hc, h1, fr⟩ := insF_rep B r hf
      cases e1
      split at q
      · rename_i hlt
        refine ⟨ad, _, dx, es, rfl, h1, (k.cls c hc).cl, hn, by rw [← fr.len]; omega, ?_⟩
        exact okS.nx (B.wr (o := .ins c (Pix.putF f u fs)) (x := .ins (G.ca c) dx (L2.putF (PySem.Str.ofString f) w es)) hl hm ⟨hc, dx, _, upd_same, fr.put rw_⟩) q
      · exact (show False from q).elim
    · exact (show False from q).elim
  · exact (show False from q).elim
theorem xs_fls {fv : St → Re U} (hK : X.K = G.K) (k : KOk G) (hn : NoAttr G.K (G.ca c) (PySem.Str.ofString f)) (ho : PE X o (RE G Wx fo)) (hv : PE X e (RE G Wx fv)) (hs : swapsWith e (some (.Attribute o (PySem.Str.ofString f) pos')) pos.line X.env = pure false) :
    PS X (.Assign [.Attribute o (PySem.Str.ofString f) pos'] e pos) (RS G Wx fun s => (fv s).toS fun v s1 => (fo s1).toS fun x s2 => flsU c x f v s2) := by
  refine PS.imp (ps_fld ho hv hs) fun D σ H ⟨b, W, s, B, ok⟩ => ⟨b, W, s, B, ok.to fun W1 s1 v H1 _ le B1 q w r => ⟨b, W1, s1, B1, q.to fun W2 s2 x H2 _ le2 B2 q2 wx rx => ?_⟩⟩
  rw [hK]
  obtain ⟨a, C, dx, fs, h1, h2, h3⟩ := fls_snd k hn B2 rx (r.mono le2) q2
  exact ⟨a, C, dx, fs, h1, h2, h3⟩
theorem swap_attr {v x : Expr} {g : PySem.Str} {ps : Pos} {n : Nat} {env : Env} : swapsWith v (some (.Attribute x g ps)) n env = pure false := by
  cases v <;> rfl
theorem xs_augF {fv : St → Re U} {op : Bop} (hK : X.K = G.K) (k : KOk G) (hpw : op ≠ .pow) (hn : NoAttr G.K (G.ca c) (PySem.Str.ofString f)) (ho : PE X o (RE G Wx fo)) (hv : PE X e (RE G Wx fv)) :
    PS X (.AugAssign (.Attribute o (PySem.Str.ofString f) pos') (bopP op) e pos) (RS G Wx fun s => (fo s).toS fun x s1 => (fldU c x f s1).toS fun a s2 => (fv s2).toS fun b s3 => (augU op a b s3).toS fun z s4 => flsU c x f z s4) := by
  refine PS.imp (ps_fldaug ho hv (ip_op op)) fun D σ H ⟨b, W, s, B, ok⟩ => ⟨b, W, s, B, ok.to fun W1 s1 x H1 _ le B1 q v r => ?_⟩
  rw [hK]
  unfold fldU at q
  split at q
  · rename_i fs hf
    obtain ⟨n, ad, dx, es, rfl, rfl, hm, hl, hc, h1, fr⟩ := insF_rep B1 r hf
    split at q
    · rename_i u hu
      obtain ⟨w, e1, e2⟩ := fr.look hu
      refine ⟨ad, _, dx, es, w, rfl, h1, (k.cls c hc).cl, hn, e1, b, W1, s1, B1, okS.to q fun W2 s2 y H2 _ le2 B2 q2 wy ry => ?_⟩
      refine aug_snd hpw B2 (e2.mono le2) ry (okS.to q2 fun W3 s3 z H3 _ le3 B3 q3 wz rz => ?_)
      obtain ⟨a', C, dx', fs', h1', h2', h3', h4', h5', h6'⟩ := fls_snd k hn B3 ((r.mono le2).mono le3) rz q3
      cases h1'
      obtain ⟨n', ad', dx2, es2, g1, g2, g3, g4, g5, g6, g7⟩ : ∃ n a dx es, (U.ref n : U) = .ref n ∧ V.ref ad = .ref a ∧ True ∧ True ∧ True ∧ H3 a = some (.ins (G.ca c) dx es) ∧ True := by
        unfold flsU at q3
        dsimp only at q3
        split at q3
        · rename_i fs3 hf3
          obtain ⟨n', ad', dx2, es2, k1, k2, k3, k4, k5, k6, k7⟩ := insF_rep B3 ((r.mono le2).mono le3) hf3
          cases k2
          exact ⟨0, ad, dx2, es2, rfl, rfl, trivial, trivial, trivial, k6, trivial⟩
        · exact (show False from q3).elim
      cases g2
      rw [h2'] at g6
      cases g6
      exact ⟨dx', fs', h2', h5', h6'⟩
    · exact (show False from q).elim
  · exact (show False from q).elim
/-- the form of a method's call -/
theorem meth_form {nm : PySem.Str} {env : Env} (hb : baseB o = true) (hf : methodCallForm (es.length + ([] : List Keyword).length) (backTo pos (starEach es env)) (backToKw pos (keywordEach [] env)) = true) (hl : (apos.endLine == pos.line) = true) :
    eval (.Call (.Attribute o nm apos) es [] pos) env = (do
      let ov ← eval o env
      standAt apos.atName
      let (f, first) ← holding [ov] (getMethod ov nm (plainOf o env))
      callWith pos f first (backTo pos (starEach es env)) (backToKw pos (keywordEach [] env))) := by
  rw [PySem.arm_eval_Call, base_ofB hb]
  congr 1
  funext ov
  congr 1
  funext _
  exact mcall_line hf hl
theorem form_ok {es : List Expr} {pos : Pos} {env : Env} (hs : es.all notStar = true) (hl : es.length < 29) : methodCallForm (es.length + ([] : List Keyword).length) (backTo pos (starEach es env)) (backToKw pos (keywordEach [] env)) = true := by
  have key : ∀ es : List Expr, es.all notStar = true → (starEach es env).all (fun x => !x.1) = true := by
    intro es
    induction es with
    | nil => intro _; rfl
    | cons x xs ih =>
      intro h
      rw [List.all_cons, Bool.and_eq_true] at h
      rw [star_of h.1, List.all_cons, ih h.2]; rfl
  unfold methodCallForm backTo
  rw [List.all_map]
  have := key es hs
  simp only [Bool.and_eq_true, decide_eq_true_eq]
  refine ⟨⟨this, rfl⟩, ?_⟩
  simp only [List.length_nil, Nat.add_zero]
  show es.length + 0 < 30
  omega
theorem xe_meth {n i : Nat} {kk : Nat} {fm : Addr} {fd : FuncData} {ps : List PySem.Str} {fs : St → Re (List U)} (hK : X.K = G.K) (k : KOk G) (hm : Meth G.K (G.ca c) (PySem.Str.ofString m) fm) (F : FnOk X.prog X.w X.K X.mg X.base (CX X.prog X.w) kk fm fd ps (spC G n (p.call i))) (hr : Room kk X.A) (hb : Binds X.K fd ps []) (tk : Takes X Wx)
    (ho : PE X o (RE G Wx fo)) (ha : PA X (e :: es) (RA G Wx fs)) (hs : (e :: es).all notStar = true) (hl : ∀ s us s', fs s = .ok us s' → us.length + 1 = n) (hbase : baseB o = true) (hline : (apos.endLine == pos.line) = true) (hfew : (e :: es).length < 29) :
    PE X (.Call (.Attribute o (PySem.Str.ofString m) apos) (e :: es) [] pos) (RE G Wx fun s => (fo s).bnd fun x s1 => match insF s1.hp c x with
      | some fs' => if (fs'.lookup m).isNone then (fs s1).bnd fun us s2 => rets p i (x :: us) s2 else .bad
      | none => .bad) := by
  have key : ∀ σ H Q, RE G Wx (fun s => (fo s).bnd fun x s1 => match insF s1.hp c x with
      | some fs' => if (fs'.lookup m).isNone then (fs s1).bnd fun us s2 => rets p i (x :: us) s2 else .bad
      | none => .bad) σ H Q → RE G Wx fo σ H fun v H1 => ∃ a dx es', v = .ref a ∧ H1 a = some (.ins (G.ca c) dx es') ∧ es'.lookup (PySem.Str.ofString m) = none ∧ Cls G.K (G.ca c) ∧ RA G Wx fs σ H1 fun vs H2 => spC G n (p.call i) (v :: vs) H2 Q fun cl d H' => Wx cl d σ H' := fun σ H Q ⟨b, W, s, B, ok⟩ =>
    ⟨b, W, s, B, ok.then fun W1 s1 x H1 le B1 q v r => by
      split at q
      · rename_i fs' hf
        obtain ⟨n', ad, dx, es', rfl, rfl, hm', hl', hc, h1, fr⟩ := insF_rep B1 r hf
        split at q
        · rename_i hn
          refine ⟨ad, dx, es', rfl, h1, fr.miss (Option.isNone_iff_eq_none.mp hn), (k.cls c hc).cl, b, W1, s1, B1, then_eq q fun W2 s2 us H2 e2 le2 B2 q2 vs rs => ?_⟩
          exact call_imp B2 (.cons (r.mono le2) rs) (by rw [List.length_cons]; exact hl _ _ _ e2) q2
        · exact (show False from q).elim
      · exact (show False from q).elim⟩
  have hm2 : Meth X.K (G.ca c) (PySem.Str.ofString m) fm := by rw [hK]; exact hm
  refine ⟨fun pins s σ H Q I h => ?_⟩
  refine PySem.W.methodCall_KW (pl := plainOf o X.env) (thn (ho.run pins s σ H _ I (key σ H Q h)) fun u s1 ⟨x, H1, I1, rx, ad, dx, es', ex, ea, l, cl, q⟩ => ?_) (meth_form hbase (form_ok hs hfew) hline)
  subst ex
  obtain rfl : u = Value.ref ad := rx
  refine getmeth_ok I1 ea (by rw [hK]; exact cl) hm2 l ?_
  rw [List.all_cons, Bool.and_eq_true] at hs
  refine PySem.W.callWith_K (first := [.ref ad]) (h₀ := X.base) I1.ok.mod.kin hm2.kp (thn (ha.run pos pins s1 σ H1 _ I1 q) fun us s2 ⟨vs, H2, I2, r, q2⟩ => ⟨I2.kIn, ?_⟩) (star_of hs.1 _ _) (plain_stars hs.2)
  exact run_own (us := .ref ad :: us) (vs := .ref ad :: vs) F hr hb tk I2 (.cons rfl r) q2
theorem xe_meth0 {i : Nat} {kk : Nat} {fm : Addr} {fd : FuncData} {ps : List PySem.Str} (hK : X.K = G.K) (k : KOk G) (hm : Meth G.K (G.ca c) (PySem.Str.ofString m) fm) (F : FnOk X.prog X.w X.K X.mg X.base (CX X.prog X.w) kk fm fd ps (spC G 1 (p.call i))) (hr : Room kk X.A) (hb : Binds X.K fd ps []) (tk : Takes X Wx)
    (ho : PE X o (RE G Wx fo)) (hbase : baseB o = true) (hline : (apos.endLine == pos.line) = true) :
    PE X (.Call (.Attribute o (PySem.Str.ofString m) apos) [] [] pos) (RE G Wx fun s => (fo s).bnd fun x s1 => match insF s1.hp c x with
      | some fs' => if (fs'.lookup m).isNone then rets p i [x] s1 else .bad
      | none => .bad) := by
  have key : ∀ σ H Q, RE G Wx (fun s => (fo s).bnd fun x s1 => match insF s1.hp c x with
      | some fs' => if (fs'.lookup m).isNone then rets p i [x] s1 else .bad
      | none => .bad) σ H Q → RE G Wx fo σ H fun v H1 => ∃ a dx es', v = .ref a ∧ H1 a = some (.ins (G.ca c) dx es') ∧ es'.lookup (PySem.Str.ofString m) = none ∧ Cls G.K (G.ca c) ∧ spC G 1 (p.call i) [v] H1 Q fun cl d H' => Wx cl d σ H' := fun σ H Q ⟨b, W, s, B, ok⟩ =>
    ⟨b, W, s, B, ok.then fun W1 s1 x H1 le B1 q v r => by
      split at q
      · rename_i fs' hf
        obtain ⟨n', ad, dx, es', rfl, rfl, hm', hl', hc, h1, fr⟩ := insF_rep B1 r hf
        split at q
        · rename_i hn
          exact ⟨ad, dx, es', rfl, h1, fr.miss (Option.isNone_iff_eq_none.mp hn), (k.cls c hc).cl, call_imp B1 (.cons r .nil) rfl q⟩
        · exact (show False from q).elim
      · exact (show False from q).elim⟩
  have hm2 : Meth X.K (G.ca c) (PySem.Str.ofString m) fm := by rw [hK]; exact hm
  refine ⟨fun pins s σ H Q I h => ?_⟩
  refine PySem.W.methodCall_KW (pl := plainOf o X.env) (thn (ho.run pins s σ H _ I (key σ H Q h)) fun u s1 ⟨x, H1, I1, rx, ad, dx, es', ex, ea, l, cl, q⟩ => ?_) (meth_form hbase (form_ok rfl (by decide)) hline)
  subst ex
  obtain rfl : u = Value.ref ad := rx
  refine getmeth_ok I1 ea (by rw [hK]; exact cl) hm2 l ?_
  exact PySem.W.callWith_K0 (first := [.ref ad]) I1.kIn hm2.kp (run_own (us := [.ref ad]) (vs := [.ref ad]) F hr hb tk I1 (.cons rfl .nil) q)
/-- C(..) -/
theorem new_imp {b : Ba} {W : Wd} {s : St} {σ : L2.St} {H : L2.Hp} {Q : VK} {n i : Nat} {us : List U} {vs : List V} {x dx : Addr} (hc : c < G.nc) (B : BSim G b W s σ H) (rs : Reps G W us vs) (hn : us.length + 1 = n) (ok : okR G b W σ Wx (kV1 G Q) (newU p c i us s))
    (hx : H x = none) (hd : H dx = none) (hne : dx ≠ x) : spC G n (p.call i) (.ref x :: vs) (upd (upd H dx (.own x)) x (.ins (G.ca c) dx [])) (fun v H2 => v = .non ∧ Q (.ref x) H2) fun cl d H' => Wx cl d σ H' := by
  have B1 := B.more (H' := upd H dx (.own x)) fun y u e => by rw [upd_ne (ne_of_none e hd)]; exact e
  have hx1 : upd H dx (.own x) x = none := by rw [upd_ne hne.symm]; exact hx
  have B2 := B1.newB (l := x) (o := .ins c []) (x := .ins (G.ca c) dx []) hx1 ⟨hc, dx, [], upd_same, .nil⟩
  have hm : (W.addB x).m[s.hp.length]? = some x := by
    show (W.m ++ [x])[s.hp.length]? = some x
    rw [B.h.len, List.getElem?_concat_length]
  refine ⟨W.addB x, .ref s.hp.length :: us, s.hp ++ [.ins c []], B2.h, .cons (.ref hm) (rs.mono Wd.le_addB), by rw [List.length_cons, ← rs.length]; exact hn, ?_⟩
  unfold newU at ok
  cases e : p.call i (.ref s.hp.length :: us) (s.hp ++ [.ins c []]) with
  | bad => rw [e] at ok; exact (show False from ok).elim
  | ok u hp' =>
    rw [e] at ok
    dsimp only at ok
    cases u <;> first | exact (show False from ok).elim | skip
    intro W' H' v h1 h2 r
    cases r
    exact ⟨rfl, ok W' H' (Wd.le_addB.trans h2.le) (B2.call h1 h2) _ (.ref (h2.le.get hm))⟩
  | ex cc u hp' =>
    rw [e] at ok
    exact fun W' H' d v h1 h2 h3 r => ok W' H' d v (Wd.le_addB.trans h2.le) (B2.call h1 h2) h3 r
theorem run_new {pins : List (Addr × Obj)} {σ : L2.St} {H : L2.Hp} {s : Shared} {Q : VK} {us : List Value} {vs : List V} {C fI : Addr} {fd : FuncData} {ps : List PySem.Str} {n i kk : Nat} (M : Mk X.K C fI) (F : FnOk X.prog X.w X.K X.mg X.base (CX X.prog X.w) kk fI fd ps (spC G n (p.call i))) (hr : Room (kk + 1) X.A) (hb : Binds X.K fd ps []) (tk : Takes X Wx)
    (I : Inv X pins σ H s) (r : Vals vs us)
    (h : ∀ x dx, H x = none → H dx = none → dx ≠ x → spC G n (p.call i) (.ref x :: vs) (upd (upd H dx (.own x)) x (.ins C dx [])) (fun v H2 => v = .non ∧ Q (.ref x) H2) fun cl d H' => Wx cl d σ H') :
    wpAny (model X.prog X.w) X.A (PySem.call (.ref C) us) (EP X pins σ Q) X.xe s := by
  have hq := h (s.heap.objs.size + 1) s.heap.objs.size (I.hok.fresh (Nat.le_succ _)) (I.hok.fresh (Nat.le_refl _)) (Nat.ne_of_lt (Nat.lt_succ_self _))
  have I2 := Inv.made (C := C) I
  have r2 : Vals (V.ref (s.heap.objs.size + 1) :: vs) (Value.ref (s.heap.objs.size + 1) :: us) := .cons rfl r
  have hl : (Value.ref (s.heap.objs.size + 1) :: us ++ []).length = ps.length := by
    rw [List.append_nil]
    have e := r2.length
    rw [F.len _ _ _ _ hq] at e
    exact e.symm
  have hb2 := hb _ (Value.ref (s.heap.objs.size + 1) :: us) I2.kIn hl
  rw [List.append_nil] at hb2
  refine wpAny_call (L2.make_map (f := fI) I.kIn M.makes M.init (beq_iff_eq.mp M.fn) (codeAny_mono (F.run _ X.stack _ _ ⟨Value.ref (s.heap.objs.size + 1) :: us, []⟩ (Value.ref (s.heap.objs.size + 1) :: us) _ _ (fun cl d H' => Wx cl d σ H') (hr.make C us [])
    (I2.env0.make C us []) hb2 r2 hq) fun r s' hq' => ?_))
  cases r with
  | error e => exact tk e s' (XE.of_call I2 (fun cls d H' h => h) hq')
  | ok fl =>
    cases fl with
    | ret u =>
      obtain ⟨v, H', I3, rv, ev, q3⟩ := I2.after hq'
      subst ev
      exact ⟨rv, ⟨V.ref (s.heap.objs.size + 1), H', I3, rfl, q3⟩⟩
    | next => exact False.elim hq'
    | brk => exact False.elim hq'
    | cont => exact False.elim hq'
theorem xe_new {n i : Nat} {kk : Nat} {fI : Addr} {fd : FuncData} {ps : List PySem.Str} {x : PySem.Str} {q : Pos} {fs : St → Re (List U)} (hK : X.K = G.K) (hc : c < G.nc) (M : Mk G.K (G.ca c) fI) (F : FnOk X.prog X.w X.K X.mg X.base (CX X.prog X.w) kk fI fd ps (spC G n (p.call i))) (hr : Room (kk + 1) X.A) (hb : Binds X.K fd ps []) (tk : Takes X Wx)
    (hg : Gl X x) (hm : X.mg x = some (.ref (G.ca c))) (hdb : (x == ("__debug__" : PySem.Str)) = false) (ha : PA X (e :: es) (RA G Wx fs)) (hs : (e :: es).all notStar = true) (hl : ∀ s us s', fs s = .ok us s' → us.length + 1 = n) :
    PE X (.Call (.Name x q) (e :: es) [] pos) (RE G Wx fun s => (fs s).bnd fun us s1 => newU p c i us s1) := by
  have M2 : Mk X.K (G.ca c) fI := by rw [hK]; exact M
  have key : ∀ σ H Q, RE G Wx (fun s => (fs s).bnd fun us s1 => newU p c i us s1) σ H Q → RA G Wx fs σ H fun vs H1 => ∀ x dx, H1 x = none → H1 dx = none → dx ≠ x → spC G n (p.call i) (.ref x :: vs) (upd (upd H1 dx (.own x)) x (.ins (G.ca c) dx [])) (fun v H2 => v = .non ∧ Q (.ref x) H2) fun cl d H' => Wx cl d σ H' := fun σ H Q ⟨b, W, s, B, ok⟩ =>
    ⟨b, W, s, B, then_eq ok fun W1 s1 us H1 e le B1 q vs rs x dx hx hd hne => new_imp hc B1 rs (hl _ _ _ e) q hx hd hne⟩
  rw [List.all_cons, Bool.and_eq_true] at hs
  refine ⟨fun pins s σ H Q I h => ?_⟩
  refine wpAny_Call_Name_kw (ld_glob I hg hm ?_ hdb)
  refine PySem.W.callWith_K (h₀ := X.base) I.ok.mod.kin M2.kp (thn (ha.run pos pins s σ H _ I (key σ H Q h)) fun us s1 ⟨vs, H1, I1, r, q⟩ => ⟨I1.kIn, ?_⟩) (star_of hs.1 _ _) (plain_stars hs.2)
  exact run_new M2 F hr hb tk I1 r q
end
end Pix
end
section
set_option Elab.async false
set_option linter.all false
set_option maxRecDepth 100000
set_option maxHeartbeats 4000000
/-! PixY1: how many unlike texts: len(set(..)) of a list or a tuple of texts. -/
namespace PySem
namespace PixSet
open PySem PySem.Spec PyProof.Rows
/-- how many unlike ones -/
def many : List Str → Nat
  | [] => 0
  | x :: xs => (if xs.any (· == x) then 0 else 1) + many xs
theorem many_le : ∀ xs : List Str, many xs ≤ xs.length
  | [] => Nat.le_refl _
  | x :: xs => by
    have := many_le xs
    unfold many
    rw [List.length_cons]
    split <;> omega
theorem any_snoc (xs : List Str) (x y : Str) : (xs ++ [x]).any (· == y) = (xs.any (· == y) || decide (y = x)) := by
  rw [List.any_append]
  congr 1
  by_cases e : y = x
  · subst e; simp
  · have : (x == y) = false := by simpa using fun h : x = y => e h.symm
    simp [this, e]
theorem many_snoc (x : Str) : ∀ xs : List Str, many (xs ++ [x]) = if xs.any (· == x) then many xs else many xs + 1
  | [] => by simp [many]
  | y :: ys => by
    have ih := many_snoc x ys
    show (if (ys ++ [x]).any (· == y) then 0 else 1) + many (ys ++ [x]) = _
    rw [ih, any_snoc, List.any_cons]
    show _ = if (y == x || ys.any (· == x)) = true then (if ys.any (· == y) then 0 else 1) + many ys else (if ys.any (· == y) then 0 else 1) + many ys + 1
    by_cases e : y = x
    · subst e
      cases ys.any (· == y) <;> simp
      omega
    · have h1 : (y == x) = false := by simpa using e
      have h2 : decide (x = y) = false := by simpa using fun z : x = y => e z.symm
      have h3 : decide (y = x) = false := by simpa using e
      simp only [h1, h2, h3, Bool.false_or, Bool.or_false]
      cases ys.any (· == x) <;> cases ys.any (· == y) <;> simp <;> omega
section
variable {prog : Program} {w : World} {A : Around} {R : Result → Shared → Prop} {I : Addr} {fp wr : List Addr} {G : Array GenState → Array GenState → Prop} {n : Nat} {P : Nat → Value → Prop} {St : Nat → Shared → Prop}
/-- the set at S so far -/
abbrev Sofar (prog : Program) (w : World) (xs : List Str) (S : Addr) (i : Nat) (h : Heap) : Prop := h.SetOf (PySem.strKind prog w) S (fun z => (xs.take i).any (· == z)) (many (xs.take i))
theorem Sofar.on {xs : List Str} {S : Addr} {i : Nat} {h h' : Heap} (hs : ∀ o, h.get? S = some o → h'.get? S = some o) (z : Sofar prog w xs S i h) : Sofar prog w xs S i h' := by
  obtain ⟨o, es, ep, t, e, q⟩ := z
  exact ⟨o, es, ep, t, hs o e, q⟩
theorem turns (W : WalksS prog w A.in1 I fp wr G n P St) (S : Addr) (hS : S ∉ fp) (xs : List Str) (hl : xs.length = n) (hb : n + 1 < scanBound) (hv : ∀ i v, P i v → ∃ t, v = .str (xs.getD i Str.empty) t) :
    ∀ (m i : Nat) (s : Shared), i + m = n → St i s → Sofar prog w xs S i s.heap →
      (∀ s', Moved (S :: wr) G s s' → Sofar prog w xs S n s'.heap → R (.ok (.ret .none)) s') → codeAny (model prog w) A (.builtin "set.update.loop" ⟨[.ref S, .ref I], []⟩) R s := by
  have hw : S ∉ wr := fun z => hS (W.sub _ z)
  have up : ∀ b ∈ wr, b ∈ S :: wr := fun b z => .tail _ z
  intro m
  induction m with
  | zero =>
    intro i s him st sf fin
    obtain rfl : i = n := by omega
    refine codeAny_builtin PyProof.Rows.F.entry_set_update_loop ?_
    rw [Around.under_plainId PyProof.Rows.F.plain_set_update_loop _]
    exact wpAny_bind (W.done s _ _ st fun s' mv => wpAny_pure (fin s' (mv.mono up) (sf.on fun o e => mv.heap S _ hw e)))
  | succ m ih =>
    intro i s him st sf fin
    have lt : i < n := by omega
    refine codeAny_builtin PyProof.Rows.F.entry_set_update_loop ?_
    rw [Around.under_plainId PyProof.Rows.F.plain_set_update_loop _]
    refine wpAny_bind (W.item i s _ _ lt st fun v s' hp st' mv => ?_)
    obtain ⟨t, rfl⟩ := hv i v hp
    have sf' := sf.on (h' := s'.heap) fun o e => mv.heap S _ hw e
    have hi : i < xs.length := by omega
    have ei : xs.getD i Str.empty = xs[i] := by rw [List.getD_eq_getElem?_getD, List.getElem?_eq_getElem hi]; rfl
    have tk : xs.take (i + 1) = xs.take i ++ [xs.getD i Str.empty] := by rw [ei, List.take_succ_eq_append_getElem hi]
    show wpAny _ A.in1 (holding [Value.str (xs.getD i Str.empty) t] (setAdd S (.str (xs.getD i Str.empty) t)) >>= _) _ _ s'
    refine wpAny_bind (wpAny_holding ?_)
    unfold setAdd
    refine wpAny_holding (wpAny_bind ((PySem.strKind prog w).pyHash (k := xs.getD i Str.empty) (strKind_is _ _ _ _) ?_))
    have few : many (xs.take i) + 1 < scanBound := by
      have := many_le (xs.take i)
      rw [List.length_take] at this
      omega
    refine wpAny_setAddHashed_of (knd := PySem.strKind prog w) (s := { s' with toks := s'.toks + 1 }) (strKind_is _ _ _ _) rfl sf' few fun h' same new => ?_
    have sf2 : Sofar prog w xs S (i + 1) h' := by
      refine SetOf_congr new (fun z => ?_) ?_
      · rw [tk]; exact (any_snoc _ _ z).symm
      · rw [tk]; exact (many_snoc _ _).symm
    refine wpAny_pure ⟨plainId_quiet PyProof.Rows.F.plain_set_update_loop _, ih (i + 1) _ (by omega) (W.frame _ s' _ _ st' (Nat.le_succ _) fun b hb o e => ?_) sf2 fun s2 mv2 sf3 => ?_⟩
    · exact (same.2 b (fun z => hS (z ▸ hb))).trans e
    · exact fin s2 (Moved.trans W.gtrans ((mv.mono up).then_heap (Nat.le_succ _) fun b o hb e => (same.2 b (fun z => hb (z ▸ List.mem_cons_self))).trans e) mv2) sf3
end

section
variable {prog : Program} {w : World} {A : Around} {E : Value → Shared → Prop} {s : Shared}
theorem set_list {l : Addr} {its : Array Value} {xs : List Str} {Q : Value → Shared → Prop} (hA : A.handled = none) (hl : s.heap.IsList l its) (hx : PyProof.Rows.StrsAre its.toList xs) (hb : xs.length + 1 < scanBound)
    (q : ∀ (h' : Heap) (tk : Nat), Sofar prog w xs s.heap.objs.size xs.length h' → (∀ b o, b < s.heap.objs.size → s.heap.get? b = some o → h'.get? b = some o) → Q (.ref s.heap.objs.size) { s with heap := h', toks := tk }) :
    wpAny (model prog w) A (call (.type "set") [.ref l]) Q E s := by
  obtain ⟨_, _, m0⟩ := PySem.F.called_set.mro
  have m1 := PySem.F.called_set.made
  have m2 := PySem.F.called_set.sub
  have m3 := PySem.F.called_set.notType
  have m4 := PySem.F.called_set.canCreate
  have m5 := PySem.F.typeCall_set_1 (.ref l)
  have nx : xs.length = its.size := by rw [← StrsAre.len_eq hx, Array.length_toList]
  refine wpAny_call (codeAny_of_tree ?_)
  change wpAny _ _ (callAny (.type "set") _) _ _ _
  refine wpAny_pure ⟨Code.quiet_builtin _ (by decide +kernel), codeAny_builtin PySem.F.entry_type_call ?_⟩
  rw [Around.under_plain (weight_type_call_type "set" [.ref l] []) rfl]
  repeat (any_goals (first | assumption | wp_step))
  refine codeAny_mono (code_set_new_1 (.ref l) (E := E) (Q₁ := fun v z => ∃ b : Bool, v = .ref s.heap.objs.size ∧ z = { s with heap := s.heap.push { cls := .type "set", dict := none, data := .set #[] 0 (.fresh 0 0 b) } }) fun b => ⟨b, rfl, rfl⟩) fun r z hr => ?_
  match r, hr with
  | .error _, hr => exact hr
  | .ok .next, hr => exact hr.elim
  | .ok .brk, hr => exact hr.elim
  | .ok .cont, hr => exact hr.elim
  | .ok (.ret v), ⟨b, e1, e2⟩ =>
    subst e1 e2
    have at0 : (s.heap.push { cls := .type "set", dict := none, data := .set #[] 0 (.fresh 0 0 b) }).get? s.heap.objs.size = some { cls := .type "set", dict := none, data := .set #[] 0 (.fresh 0 0 b) } := Heap.get?_push_size _ rfl
    have ty0 : Shared.TypeIs { s with heap := s.heap.push { cls := .type "set", dict := none, data := .set #[] 0 (.fresh 0 0 b) } } (.ref s.heap.objs.size) "set" := ⟨_, at0, rfl⟩
    have m6 := PySem.F.called_set.init.lookup
    have m7 := PySem.F.called_set.init.bind (.ref s.heap.objs.size)
    repeat (any_goals (first | assumption | wp_step))
    refine codeAny_mono (codeAny_call_builtin (R := wants (fun v z => v = .none ∧ ∃ h' tk, z = { s with heap := h', toks := tk } ∧ Sofar prog w xs s.heap.objs.size xs.length h' ∧ ∀ c o, c < s.heap.objs.size → s.heap.get? c = some o → h'.get? c = some o) E)
      PySem.F.called_set.init.plain PySem.F.entry_set_init (check_set_init_1 ty0 ?_)) fun r2 z2 hr2 => ?_
    · obtain ⟨ol, hol, hc, k, hd⟩ := hl
      obtain ⟨oc, od, ot, os⟩ := ol
      dsimp only at hc hd
      subst hc hd
      have at1 : (s.heap.push { cls := .type "set", dict := none, data := .set #[] 0 (.fresh 0 0 b) }).get? l = some { cls := .type "list", dict := od, data := .seq its k, slots := os } := Heap.get?_push_of_some _ hol
      have s1 := PySem.F.sub_list_set
      have s2 := PySem.F.sub_list_frozenset
      have s3 : (Value.type "list" == Value.type "dict") = false := by decide
      have is1 : (s.heap.push { cls := .type "set", dict := none, data := .set #[] 0 (.fresh 0 0 b) }).IsList l its := ⟨_, at1, rfl, k, rfl⟩
      have lt : l < s.heap.objs.size := Heap.lt_size hol
      have sz : (s.heap.push { cls := .type "set", dict := none, data := .set #[] 0 (.fresh 0 0 b) }).objs.size = s.heap.objs.size + 1 := Heap.size_push _ _
      have nI : l ≠ (s.heap.push { cls := .type "set", dict := none, data := .set #[] 0 (.fresh 0 0 b) }).objs.size := by rw [sz]; exact Nat.ne_of_lt (Nat.lt_succ_of_lt lt)
      have nS : s.heap.objs.size ∉ [(s.heap.push { cls := .type "set", dict := none, data := .set #[] 0 (.fresh 0 0 b) }).objs.size, l] := by
        rw [sz]
        intro z
        rcases List.mem_cons.mp z with z | z
        · exact absurd z (Nat.ne_of_lt (Nat.lt_succ_self _))
        · exact absurd (List.mem_singleton.mp z) (Nat.ne_of_gt lt)
      unfold Builtin.«set.__init__» noKeywords Builtin.Frozenset.updateFrom
      generalize gi : pyIter = IT
      wp_walk
      subst gi
      refine wpAny_pyIter_list is1 (wpAny_bind (wpAny_runValue ?_))
      refine turns ((Walks.list (show A.in1.in1.in1.handled = none by simp [hA]) _ l nI its).toS) s.heap.objs.size nS xs nx (by rw [← nx]; exact hb) (fun i v e => SS.strs_at hx i v (by rw [Array.getElem?_toList]; exact e)) its.size 0 _ (Nat.zero_add _)
        ⟨⟨_, Heap.get?_push_size _ rfl, rfl, rfl⟩, is1.push _⟩ ?tA ?tB
      case tA => exact SetOf_congr ((PyProof.Rows.setObjOf_fresh (knd := PySem.strKind prog w) b).setOf (Heap.get?_push_of_some _ at0) (by unfold scanBound; omega)) (fun _ => rfl) rfl
      case tB =>
        intro z mv sf
        obtain ⟨h', g', d', t', o'⟩ := z
        obtain rfl : g' = s.gens := mv.gens
        obtain rfl : d' = s.drawn := mv.drawn
        obtain rfl : o' = s.os := mv.os
        refine wpAny_pure (wpAny_pure ⟨rfl, h', t', rfl, by rw [nx]; exact sf, fun c o hc e => ?_⟩)
        refine mv.heap c o (fun z => ?_) (Heap.get?_push_of_some _ (Heap.get?_push_of_some _ e))
        rcases List.mem_cons.mp z with z | z
        · exact absurd z (Nat.ne_of_lt hc)
        · have z2 := List.mem_singleton.mp z
          rw [sz] at z2
          exact absurd z2 (Nat.ne_of_lt (Nat.lt_succ_of_lt hc))
    · match r2, hr2 with
      | .error _, hr2 => exact hr2
      | .ok .next, hr2 => exact hr2.elim
      | .ok .brk, hr2 => exact hr2.elim
      | .ok .cont, hr2 => exact hr2.elim
      | .ok (.ret v), ⟨e1, h', t', e2, sf, kp⟩ =>
        subst e1 e2
        repeat (any_goals (first | assumption | wp_step))
        exact q _ _ sf kp
end

section
variable {prog : Program} {w : World} {A : Around} {E : Value → Shared → Prop} {s : Shared}
theorem set_tuple {l : Addr} {its : Array Value} {xs : List Str} {Q : Value → Shared → Prop} (hA : A.handled = none) (hl : s.heap.IsTuple l its) (hx : PyProof.Rows.StrsAre its.toList xs) (hb : xs.length + 1 < scanBound)
    (q : ∀ (h' : Heap) (tk : Nat), Sofar prog w xs s.heap.objs.size xs.length h' → (∀ b o, b < s.heap.objs.size → s.heap.get? b = some o → h'.get? b = some o) → Q (.ref s.heap.objs.size) { s with heap := h', toks := tk }) :
    wpAny (model prog w) A (call (.type "set") [.ref l]) Q E s := by
  obtain ⟨_, _, m0⟩ := PySem.F.called_set.mro
  have m1 := PySem.F.called_set.made
  have m2 := PySem.F.called_set.sub
  have m3 := PySem.F.called_set.notType
  have m4 := PySem.F.called_set.canCreate
  have m5 := PySem.F.typeCall_set_1 (.ref l)
  have nx : xs.length = its.size := by rw [← StrsAre.len_eq hx, Array.length_toList]
  refine wpAny_call (codeAny_of_tree ?_)
  change wpAny _ _ (callAny (.type "set") _) _ _ _
  refine wpAny_pure ⟨Code.quiet_builtin _ (by decide +kernel), codeAny_builtin PySem.F.entry_type_call ?_⟩
  rw [Around.under_plain (weight_type_call_type "set" [.ref l] []) rfl]
  repeat (any_goals (first | assumption | wp_step))
  refine codeAny_mono (code_set_new_1 (.ref l) (E := E) (Q₁ := fun v z => ∃ b : Bool, v = .ref s.heap.objs.size ∧ z = { s with heap := s.heap.push { cls := .type "set", dict := none, data := .set #[] 0 (.fresh 0 0 b) } }) fun b => ⟨b, rfl, rfl⟩) fun r z hr => ?_
  match r, hr with
  | .error _, hr => exact hr
  | .ok .next, hr => exact hr.elim
  | .ok .brk, hr => exact hr.elim
  | .ok .cont, hr => exact hr.elim
  | .ok (.ret v), ⟨b, e1, e2⟩ =>
    subst e1 e2
    have at0 : (s.heap.push { cls := .type "set", dict := none, data := .set #[] 0 (.fresh 0 0 b) }).get? s.heap.objs.size = some { cls := .type "set", dict := none, data := .set #[] 0 (.fresh 0 0 b) } := Heap.get?_push_size _ rfl
    have ty0 : Shared.TypeIs { s with heap := s.heap.push { cls := .type "set", dict := none, data := .set #[] 0 (.fresh 0 0 b) } } (.ref s.heap.objs.size) "set" := ⟨_, at0, rfl⟩
    have m6 := PySem.F.called_set.init.lookup
    have m7 := PySem.F.called_set.init.bind (.ref s.heap.objs.size)
    repeat (any_goals (first | assumption | wp_step))
    refine codeAny_mono (codeAny_call_builtin (R := wants (fun v z => v = .none ∧ ∃ h' tk, z = { s with heap := h', toks := tk } ∧ Sofar prog w xs s.heap.objs.size xs.length h' ∧ ∀ c o, c < s.heap.objs.size → s.heap.get? c = some o → h'.get? c = some o) E)
      PySem.F.called_set.init.plain PySem.F.entry_set_init (check_set_init_1 ty0 ?_)) fun r2 z2 hr2 => ?_
    · obtain ⟨ol, hol, hc, k, hd⟩ := hl
      obtain ⟨oc, od, ot, os⟩ := ol
      dsimp only at hc hd
      subst hc hd
      have at1 : (s.heap.push { cls := .type "set", dict := none, data := .set #[] 0 (.fresh 0 0 b) }).get? l = some { cls := .type "tuple", dict := od, data := .seq its k, slots := os } := Heap.get?_push_of_some _ hol
      have s1 := PySem.F.sub_tuple_set
      have s2 := PySem.F.sub_tuple_frozenset
      have s3 : (Value.type "tuple" == Value.type "dict") = false := by decide
      have is1 : (s.heap.push { cls := .type "set", dict := none, data := .set #[] 0 (.fresh 0 0 b) }).IsTuple l its := ⟨_, at1, rfl, k, rfl⟩
      have lt : l < s.heap.objs.size := Heap.lt_size hol
      have sz : (s.heap.push { cls := .type "set", dict := none, data := .set #[] 0 (.fresh 0 0 b) }).objs.size = s.heap.objs.size + 1 := Heap.size_push _ _
      have nI : l ≠ (s.heap.push { cls := .type "set", dict := none, data := .set #[] 0 (.fresh 0 0 b) }).objs.size := by rw [sz]; exact Nat.ne_of_lt (Nat.lt_succ_of_lt lt)
      have nS : s.heap.objs.size ∉ [(s.heap.push { cls := .type "set", dict := none, data := .set #[] 0 (.fresh 0 0 b) }).objs.size, l] := by
        rw [sz]
        intro z
        rcases List.mem_cons.mp z with z | z
        · exact absurd z (Nat.ne_of_lt (Nat.lt_succ_self _))
        · exact absurd (List.mem_singleton.mp z) (Nat.ne_of_gt lt)
      unfold Builtin.«set.__init__» noKeywords Builtin.Frozenset.updateFrom
      generalize gi : pyIter = IT
      wp_walk
      subst gi
      refine wpAny_pyIter_tuple is1 (wpAny_bind (wpAny_runValue ?_))
      refine turns ((Walks.tuple (show A.in1.in1.in1.handled = none by simp [hA]) _ l nI its).toS) s.heap.objs.size nS xs nx (by rw [← nx]; exact hb) (fun i v e => SS.strs_at hx i v (by rw [Array.getElem?_toList]; exact e)) its.size 0 _ (Nat.zero_add _)
        ⟨⟨_, Heap.get?_push_size _ rfl, rfl, rfl⟩, is1.push _⟩ ?tA ?tB
      case tA => exact SetOf_congr ((PyProof.Rows.setObjOf_fresh (knd := PySem.strKind prog w) b).setOf (Heap.get?_push_of_some _ at0) (by unfold scanBound; omega)) (fun _ => rfl) rfl
      case tB =>
        intro z mv sf
        obtain ⟨h', g', d', t', o'⟩ := z
        obtain rfl : g' = s.gens := mv.gens
        obtain rfl : d' = s.drawn := mv.drawn
        obtain rfl : o' = s.os := mv.os
        refine wpAny_pure (wpAny_pure ⟨rfl, h', t', rfl, by rw [nx]; exact sf, fun c o hc e => ?_⟩)
        refine mv.heap c o (fun z => ?_) (Heap.get?_push_of_some _ (Heap.get?_push_of_some _ e))
        rcases List.mem_cons.mp z with z | z
        · exact absurd z (Nat.ne_of_lt hc)
        · have z2 := List.mem_singleton.mp z
          rw [sz] at z2
          exact absurd z2 (Nat.ne_of_lt (Nat.lt_succ_of_lt hc))
    · match r2, hr2 with
      | .error _, hr2 => exact hr2
      | .ok .next, hr2 => exact hr2.elim
      | .ok .brk, hr2 => exact hr2.elim
      | .ok .cont, hr2 => exact hr2.elim
      | .ok (.ret v), ⟨e1, h', t', e2, sf, kp⟩ =>
        subst e1 e2
        repeat (any_goals (first | assumption | wp_step))
        exact q _ _ sf kp
end

end PixSet
end PySem
end
section
set_option Elab.async false
set_option linter.all false
set_option maxRecDepth 100000
set_option maxHeartbeats 1000000
/-! PixY2: len(set(..)), slices and `in` of names only looked at, index, extend, insert, calls by keyword. -/
namespace Pix
open PySem PySem.Spec PyProof.Rows L2
section
variable {G : Gl0} {p : Px} {X : Cx} {Wx : WX} {a c d : Expr} {fa fb fc : St → Re U} {pos : Pos}
/-! ### len(set(..)) -/
theorem any_uS (x : List Nat) : ∀ xs : List (List Nat), (xs.map uS).any (· == uS x) = xs.any fun y => decide (y = x)
  | [] => rfl
  | y :: ys => by
    rw [List.map_cons, List.any_cons, List.any_cons, any_uS x ys]
    congr 1
    exact arr_eq
theorem many_uS : ∀ xs : List (List Nat), PixSet.many (xs.map uS) = unlike xs
  | [] => rfl
  | x :: xs => by
    show (if (xs.map uS).any (· == uS x) = true then 0 else 1) + PixSet.many (xs.map uS) = _
    rw [any_uS, many_uS xs]
    rfl
theorem xe_lenset {p1 p2 q : Pos} (hK : X.K = G.K) (hc : X.calm = true) (hg : Gl X "len") (hm : X.mg "len" = none) (hg2 : Gl X "set") (hm2 : X.mg "set" = none) (ha : PE X a (RP G Wx fa)) (hs : notStar a = true) :
    PE X (.Call (.Name "len" p1) [.Call (.Name "set" p2) [a] [] q] [] pos) (RE G Wx fun s => (fa s).bnd fun x s1 => b1U .lenset x s1) := by
  refine ⟨fun pins s σ H Q I ⟨b, W, s0, B, ok⟩ => ?_⟩
  refine Call_ (ld_blt I hg hm PySem.boot_len ?_)
  refine PyProof.Rows.callWith_builtin1 (PyProof.Rows.args_cons ?_ rfl) rfl rfl
  refine Call_ (ld_blt I hg2 hm2 PyProof.Rows.boot_set ?_)
  have ht : ∀ σ H Q, (∃ b W s, BSim G b W s σ H ∧ okR G b W σ Wx (kV1 G Q) ((fa s).bnd fun x s1 => b1U .lenset x s1)) → RP G Wx fa σ H fun v H1 => ∃ (l : Addr) (ys : List (List Nat)), v = .ref l ∧ (SqL G.K H1 l ((ys.map uS).map V.str) ∨ SqT G.K H1 l ((ys.map uS).map V.str)) ∧ ys.length < 63 ∧ Q (.int (unlike ys)) H1 := by
    rintro σ H Q ⟨b, W, s, B, ok⟩
    refine ⟨b, W, s, B, ok.then fun W1 s1 x H1 le B1 q v r => ?_⟩
    simp only [b1U] at q
    split at q
    · rename_i ys hy
      obtain ⟨xs, h1, h2⟩ := Option.bind_eq_some_iff.mp hy
      obtain ⟨l, vs, rfl, h3, h4⟩ := seqOf_opd B1 r h1
      rw [strs_of h2] at h4
      have e := Reps.strs h4
      have em : vs = (ys.map uS).map V.str := by rw [e, List.map_map]; rfl
      split at q
      · rename_i hz
        exact ⟨l, ys, rfl, by rw [← em]; exact h3, hz, okR.val B1 (.int _) q⟩
      · exact (show False from q).elim
    · exact (show False from q).elim
  refine PyProof.Rows.callWith_type1 (PyProof.Rows.args_cons (thn (ha.run pins s σ H _ I (ht σ H Q ⟨b, W, s0, B, ok⟩)) fun v s1 ⟨x, H1, I1, r1, q1⟩ => PyProof.Rows.args_nil ?_) (star_of hs _ _)) (star_of hs _ _) rfl
  obtain ⟨l, ys, rfl, hq, hlt, q1⟩ := q1
  cases r1
  have fin : ∀ (h' : Heap) (tk : Nat), PixSet.Sofar X.prog X.w (ys.map uS) s1.heap.objs.size (ys.map uS).length h' → (∀ b o, b < s1.heap.objs.size → s1.heap.get? b = some o → h'.get? b = some o) →
      wpAny (model X.prog X.w) X.A (spliced (backTo pos (starEach [] X.env))) (fun vs s₂ => wpAny (model X.prog X.w) X.A (call (.builtin "len") (Value.ref s1.heap.objs.size :: vs)) (EP X pins σ Q) X.xe s₂) X.xe { s1 with heap := h', toks := tk } := fun h' tk hS hk => by
    refine PyProof.Rows.args_nil ?_
    have hS' : h'.SetOf (PySem.strKind X.prog X.w) s1.heap.objs.size (fun z => ((ys.map uS).take (ys.map uS).length).any (· == z)) (PixSet.many ((ys.map uS).take (ys.map uS).length)) := hS
    rw [List.take_length, many_uS] at hS'
    obtain ⟨o, es, ep, t, ho, hex, hd, _, _, _, hf, hn⟩ := hS'
    have I2 : Inv X pins σ H1 { s1 with heap := h', toks := tk } := I1.kept fun b o e => hk b o (Heap.lt_size e) e
    have hle : unlike ys ≤ ys.length := by rw [← many_uS]; simpa using PixSet.many_le (ys.map uS)
    exact call_len_set ho hex hd hf (by rw [hn] <;> omega) ⟨.int (unlike ys), H1, I2.tok _, ⟨_, by rw [hn]⟩, q1⟩
  have hb : (ys.map uS).length + 1 < scanBound := by rw [List.length_map]; unfold scanBound; omega
  rw [← hK] at hq
  rcases hq with hq | hq
  · obtain ⟨its, r, pl, hz⟩ := I1.list hq
    exact PixSet.set_list (I1.ok.hd hc) pl.isList (by simpa using strsAre_of r) hb fin
  · obtain ⟨its, r, pl, hz⟩ := I1.tuple hq
    exact PixSet.set_tuple (I1.ok.hd hc) pl (by simpa using strsAre_of r) hb fin

/-! ### names only looked at -/
/-- what stands in a slot, as a frozen value -/
theorem slot_rep {b : Ba} {W : Wd} {s : St} {σ : L2.St} {H : L2.Hp} {i : Nat} (B : BSim G b W s σ H) (h : isSet s.fr i = true) :
    ∃ v, σ[i]? = some (some v) ∧ ((∃ u, s.fr[i]? = some (.val u) ∧ Rep G W u v) ∨ ∃ xs, s.fr[i]? = some (.own xs) ∧ ∃ W', W.le W' ∧ Rep G W' (.lst xs) v ∧ BSim G b W' { s with fr := s.fr.set i (.val (.lst xs)) } σ H) := by
  unfold isSet at h
  split at h
  · rename_i xs e
    obtain ⟨l, W', h1, le, h2, B'⟩ := B.give e
    exact ⟨_, h1, .inr ⟨xs, e, W', le, h2, B'⟩⟩
  · rename_i u e
    obtain ⟨v, h1, h2⟩ := B.f.val i u e
    exact ⟨v, h1, .inl ⟨u, e, h2⟩⟩
  · cases h
theorem cmp_own {b : Ba} {W : Wd} {s : St} {σ : L2.St} {H : L2.Hp} {Q : VK} {op : Cop} {u y : U} {v w : V} (B : BSim G b W s σ H) (r1 : Rep G W u v) (r2 : Rep G W y w) (ok : okR G b W σ Wx (kV1 G Q) (cmpU op u y s)) : cmpR G.K op v w H Q := by
  unfold cmpU at ok
  split at ok
  · rename_i k e; exact cmp_snd B r1 r2 e (okR.val B (.bl _) ok)
  · exact (show False from ok).elim
def pinU (op : Cop) (i : Nat) (y : U) (s1 : St) : Re U := match s1.fr[i]? with
    | some (.own xs) => cmpU op y (.lst xs) s1
    | some (.val u) => cmpU op y u s1
    | _ => .bad
theorem pin_snd {b : Ba} {W : Wd} {s : St} {σ : L2.St} {H : L2.Hp} {k : Wd → St → U → L2.Hp → Prop} {op : Cop} {i : Nat} {y : U} {v : V} (B : BSim G b W s σ H) (r : Rep G W y v) (ok : okR G b W σ Wx k (pinU op i y s)) :
    ∃ w, σ[i]? = some (some w) ∧ ∃ t, (∀ Q : VK, Q (.bl t) H → cmpR G.K op v w H Q) ∧ k W s (.bl t) H := by
  unfold pinU at ok
  cases he : s.fr[i]? with
  | none => simp only [he] at ok; exact (show False from ok).elim
  | some sl =>
    have set : (∃ xs, sl = .own xs) ∨ (∃ u, sl = .val u) → isSet s.fr i = true := fun z => by
      rcases z with ⟨xs, rfl⟩ | ⟨u, rfl⟩ <;> (unfold isSet; rw [he])
    cases sl with
    | own xs =>
      simp only [he] at ok
      obtain ⟨w, g1, g2⟩ := slot_rep B (set (.inl ⟨xs, rfl⟩))
      obtain ⟨t, e1, e2⟩ := cmpU_ok B ok
      rcases g2 with ⟨u, e, _⟩ | ⟨ys, e, W', le', r2, B'⟩
      · rw [he] at e; cases e
      · rw [he] at e; cases e
        exact ⟨w, g1, t, fun Q q => cmp_snd B' (r.mono le') r2 e1 q, e2⟩
    | val u =>
      simp only [he] at ok
      obtain ⟨w, g1, g2⟩ := slot_rep B (set (.inr ⟨u, rfl⟩))
      obtain ⟨t, e1, e2⟩ := cmpU_ok B ok
      rcases g2 with ⟨u', e, r2⟩ | ⟨ys, e, _⟩
      · rw [he] at e; cases e
        exact ⟨w, g1, t, fun Q q => cmp_snd B r r2 e1 q, e2⟩
      · rw [he] at e; cases e
    | _ => simp only [he] at ok; exact (show False from ok).elim
theorem xe_pin {op : Cop} {i : Nat} {x : PySem.Str} {px : Pos} (hK : X.K = G.K) (hu : X.A.units + 65 < cLine) (hN : X.N[i]? = some x) (hv : Vis X.env.scope x) (h1 : (x == ("__debug__" : PySem.Str)) = false) (h2 : (x == ("__classdict__" : PySem.Str)) = false) (ha : PE X a (RE G Wx fa)) :
    PE X (.Compare a [copP op] [.Name x px] pos) (RE G Wx fun s => (fa s).bnd fun y s1 => pinU op i y s1) := by
  refine PE.imp (pe_cmpR (op_cmp hu _) ha (pe_var hN hv h1 h2) (noMarks_of rfl _)) fun σ H Q ⟨b, W, s, B, ok⟩ => ⟨b, W, s, B, ok.then fun W1 s1 y H1 le B1 q v r => ?_⟩
  obtain ⟨w, e, t, g1, g2⟩ := pin_snd B1 r q
  rw [hK]
  exact ⟨w, e, g1 _ (g2 _ (.bl _))⟩
theorem xt_pin {op : Cop} {i : Nat} {x : PySem.Str} {px : Pos} (hK : X.K = G.K) (hu : X.A.units + 65 < cLine) (hN : X.N[i]? = some x) (hv : Vis X.env.scope x) (h1 : (x == ("__debug__" : PySem.Str)) = false) (h2 : (x == ("__classdict__" : PySem.Str)) = false) (ha : PE X a (RE G Wx fa)) :
    PT X (.Compare a [copP op] [.Name x px] pos) (RT G Wx (tv fun s => (fa s).bnd fun y s1 => pinU op i y s1)) := by
  refine PT.imp (pt_cmpR (op_cmp hu _) ha (pe_var hN hv h1 h2) (noMarks_of rfl _)) fun σ H Q ⟨b, W, s, B, ok⟩ => ?_
  have ok' : okR G b W σ Wx (fun W2 s2 u H2 => okR G b W2 σ Wx (kT Q) (tst u s2)) ((fa s).bnd fun y s1 => pinU op i y s1) := okR.bnd ok
  refine ⟨b, W, s, B, ok'.then fun W1 s1 y H1 le B1 q v r => ?_⟩
  obtain ⟨w, e, t, g1, g2⟩ := pin_snd B1 r q
  rw [hK]
  exact ⟨w, e, g1 _ ⟨t, rfl, g2 W1 H1 .rfl' B1⟩⟩
theorem xe_psl {i : Nat} {x : PySem.Str} {px p2 : Pos} {lo hi : Option Expr} {fl fh : St → Re (Option Int)} (hK : X.K = G.K) (hN : X.N[i]? = some x) (hv : Vis X.env.scope x) (h1 : (x == ("__debug__" : PySem.Str)) = false) (h2 : (x == ("__classdict__" : PySem.Str)) = false)
    (hl : PO X lo (RO G Wx fl)) (hh : PO X hi (RO G Wx fh)) :
    PE X (.Subscript (.Name x px) (.Slice lo hi none p2) pos) (RE G Wx fun s => if isSet s.fr i then (fl s).bnd fun l s1 => (fh s1).bnd fun h s2 => (match s2.fr[i]? with
    | some (.own xs) => .ok (.lst (Pix.cut xs l h)) s2
    | some (.val u) => cutU u l h s2
    | _ => .bad) else .bad) := by
  refine PE.imp (pe_slice sl3 (pe_var hN hv h1 h2) hl hh) fun σ H Q ⟨b, W, s, B, ok⟩ => ?_
  dsimp only at ok
  split at ok
  · rename_i ho
    obtain ⟨v, e1⟩ := set_get B ho
    refine ⟨v, e1, b, W, s, B, okR.then ok fun W1 s1 l H1 le B1 q1 => ⟨b, W1, s1, B1, okR.then q1 fun W2 s2 h H2 le2 B2 q => ?_⟩⟩
    rw [hK]
    cases he : s2.fr[i]? with
    | none => simp only [he] at q; exact (show False from q).elim
    | some sl =>
      cases sl with
      | own xs =>
        simp only [he] at q
        obtain ⟨l', vs, f1, f2, f3, f4, f5⟩ := B2.f.own i xs he
        rw [e1] at f1; cases f1
        refine .inl ⟨l', vs, rfl, SqL.of f2, fun pp hp => ?_⟩
        have le := B2.le_newF (o := .lst (cutV vs l h)) hp
        exact q _ _ le (B2.newF hp (fun _ z => by cases z)) _ (.lst Wd.addF_same ((f3.cut l h).mono le))
      | val u =>
        simp only [he] at q
        obtain ⟨v', f1, f2⟩ := B2.f.val i u he
        rw [e1] at f1; cases f1
        exact cutU_snd B2 f2 q
      | _ => simp only [he] at q; exact (show False from q).elim
  · exact (show False from ok).elim

/-! ### index -/
/-- a list that is looked at, with a state in which it is frozen -/
theorem opd_rep {b : Ba} {W : Wd} {s : St} {σ : L2.St} {H : L2.Hp} {xs : List U} {v : V} (B : BSim G b W s σ H) (r : Opd G W H (.lst xs) v) : ∃ l vs, v = .ref l ∧ H l = some (.lst vs) ∧ Reps G W xs vs := by
  rcases r with r | ⟨ys, l, vs, e, rfl, h1, h2⟩
  · cases r with
    | lst h r => exact ⟨_, _, rfl, B.h.fz _ _ h, r⟩
  · cases e; exact ⟨l, vs, rfl, h1, h2⟩
theorem findIdx_toD {y : U} (hy : plainU y = true) {zs : List U} (hz : plainU.plains zs = true) {k : Nat} (h : zs.findIdx? (fun z => eqU z y) = some k) :
    ∃ d, (toD.toDs zs)[k]? = some d ∧ PyData.eqv d (toD y) = true ∧ ∀ (m : Nat) (e : PyData), m < k → (toD.toDs zs)[m]? = some e → PyData.eqv e (toD y) = false := by
  induction zs generalizing k with
  | nil => simp at h
  | cons z zs ih =>
    have hz' : plainU z = true ∧ plainU.plains zs = true := by simpa [plainU.plains] using hz
    rw [List.findIdx?_cons] at h
    have e1 : eqU z y = PyData.eqv (toD z) (toD y) := eqU_toD z y hz'.1 hy
    split at h
    · rename_i hq
      cases h
      exact ⟨toD z, rfl, by rw [← e1]; exact hq, fun m e hm => absurd hm (Nat.not_lt_zero _)⟩
    · rename_i hq
      obtain ⟨k', hk, rfl⟩ := Option.map_eq_some_iff.mp h
      obtain ⟨d, q1, q2, q3⟩ := ih hz'.2 hk
      refine ⟨d, by simpa [toD.toDs] using q1, q2, fun m e hm he => ?_⟩
      cases m with
      | zero =>
        have : toD z = e := by simpa [toD.toDs] using he
        rw [← this, ← e1]; simpa using hq
      | succ m => exact q3 m e (by omega) (by simpa [toD.toDs] using he)
theorem idx_list {b : Ba} {W : Wd} {s : St} {σ : L2.St} {H : L2.Hp} {Q : VK} {xs : List U} {y : U} {l : Addr} {vs : List V} {w : V} (B : BSim G b W s σ H) (hq : SqL G.K H l vs) (rs : Reps G W xs vs) (r2 : Rep G W y w) {y' : U} {zs : List U} {k : Nat} (h1 : res s.hp DEEP y = some y') (h2 : mapO (res s.hp DEEP) xs = some zs)
    (h3 : zs.findIdx? (fun z => eqU z y') = some k) (q : Q (.int (k : Nat)) H) : rIndexD G.K (.ref l) [w] H Q := by
  have d2 := res_snd B DEEP y w y' r2 h1
  obtain ⟨a1, a2, a3, a4⟩ := dpAll (fun x v w r h => res_snd B DEEP x v w r h) rs h2
  obtain ⟨d, q1, q2, q3⟩ := findIdx_toD d2.pl a2 h3
  have hD : DEEP = 20 := rfl
  exact ⟨l, w, toD y', toD.toDs zs, k, d, rfl, rfl, .lst hq a1, d2.dp, shaped_all (by simpa only [PyData.canLay0] using a3) (by simp only [PyData.depth]; omega), d2.shaped (by decide), q1, q2, q3, q⟩
theorem idxU_snd {b b' : Ba} {W W' : Wd} {s s' : St} {σ : L2.St} {H : L2.Hp} {Q : VK} {u y : U} {v w : V} (B' : BSim G b' W' s' σ H) (eh : s'.hp = s.hp) (r1 : Rep G W' u v) (r2 : Rep G W' y w) (B : BSim G b W s σ H) (ok : okR G b W σ Wx (kV1 G Q) (idxU u y s)) : rIndexD G.K v [w] H Q := by
  unfold idxU at ok
  split at ok
  · rename_i xs y' e1 e2
    split at ok
    · rename_i zs e3
      split at ok
      · rename_i k e4
        obtain ⟨l, vs, rfl, h1, h2⟩ := lstOf_rep B' r1 (by rw [eh]; exact e1)
        exact idx_list B' (SqL.of h1) h2 r2 (by rw [eh]; exact e2) (by rw [eh]; exact e3) e4 (okR.val B (.int _) ok)
      · exact (show False from ok).elim
    · exact (show False from ok).elim
  · exact (show False from ok).elim
theorem xe_idx {apos : Pos} (hK : X.K = G.K) (hu : X.A.units + 65 < cLine) (hl : (apos.endLine == pos.line) = true) (ha : PE X a (RE G Wx fa)) (hb : PE X c (RE G Wx fb)) (hs : notStar c = true) (hn : notCall a = true) :
    PE X (.Call (.Attribute a "index" apos) [c] [] pos) (RE G Wx fun s => (fa s).bnd fun x s1 => if (lstOf s1.hp x).isSome then (fb s1).bnd fun y s2 => idxU x y s2 else .bad) := by
  refine PE.imp (pe_bm PySem.F.plainAttrs_list PySem.F.slot_list_index PySem.F.type_list_index (mt_indexD hu) ha (pa_cons hb pa_nil (star_of hs _ _)) (base_of' hn _) (few1 hs) hl (star_of hs _ _) rfl) fun σ H Q ⟨b, W, s, B, ok⟩ => ⟨b, W, s, B, okR.then ok fun W1 s1 x H1 le B1 q v r => ?_⟩
  split at q
  · rename_i hx
    obtain ⟨xs, hx⟩ := Option.isSome_iff_exists.mp hx
    obtain ⟨l, vs, rfl, h1, h2⟩ := lstOf_rep B1 r hx
    refine ⟨.inl ⟨rfl, vs, SqL.of h1⟩, b, W1, s1, B1, okR.then q fun W2 s2 y H2 le2 B2 q2 w r2 => ?_⟩
    rw [hK]
    exact idxU_snd B2 rfl (r.mono le2) r2 B2 q2
  · exact (show False from q).elim
theorem xe_pidx {apos : Pos} {i : Nat} {x : PySem.Str} {px : Pos} (hK : X.K = G.K) (hu : X.A.units + 65 < cLine) (hl : (apos.endLine == pos.line) = true) (hN : X.N[i]? = some x) (hv : Vis X.env.scope x) (h1 : (x == ("__debug__" : PySem.Str)) = false) (h2 : (x == ("__classdict__" : PySem.Str)) = false) (hb : PE X c (RE G Wx fb)) (hs : notStar c = true) :
    PE X (.Call (.Attribute (.Name x px) "index" apos) [c] [] pos) (RE G Wx fun s => if isLs s i then (fb s).bnd fun y s1 => (match s1.fr[i]? with
    | some (.own xs) => idxU (.lst xs) y s1
    | some (.val u) => idxU u y s1
    | _ => .bad) else .bad) := by
  refine PE.imp (pe_bm PySem.F.plainAttrs_list PySem.F.slot_list_index PySem.F.type_list_index (mt_indexD hu) (pe_var hN hv h1 h2) (pa_cons hb pa_nil (star_of hs _ _)) (base_of' rfl _) (few1 hs) hl (star_of hs _ _) rfl) fun σ H Q ⟨b, W, s, B, ok⟩ => ?_
  dsimp only at ok
  split at ok
  · rename_i ho
    have hset : isSet s.fr i = true := by
      unfold isLs at ho
      unfold isSet
      split at ho <;> first | rfl | cases ho
    have hl0 : ∃ l vs, σ[i]? = some (some (.ref l)) ∧ SqL G.K H l vs := by
      unfold isLs at ho
      split at ho
      · rename_i xs e
        obtain ⟨l, vs, f1, f2, f3, f4, f5⟩ := B.f.own i xs e
        exact ⟨l, vs, f1, SqL.of f2⟩
      · rename_i u e
        obtain ⟨v, f1, f2⟩ := B.f.val i u e
        obtain ⟨xs, hx⟩ := Option.isSome_iff_exists.mp ho
        obtain ⟨l, vs, rfl, g1, g2⟩ := lstOf_rep B f2 hx
        exact ⟨l, vs, f1, SqL.of g1⟩
      · cases ho
    obtain ⟨l, vs, e1, g1⟩ := hl0
    refine ⟨_, e1, .inl ⟨rfl, vs, by rw [hK]; exact g1⟩, b, W, s, B, okR.then ok fun W1 s1 y H1 le B1 q w r => ?_⟩
    rw [hK]
    cases he : s1.fr[i]? with
    | none => simp only [he] at q; exact (show False from q).elim
    | some sl =>
      cases sl with
      | own xs =>
        simp only [he] at q
        obtain ⟨w', k1, k2⟩ := slot_rep B1 (by unfold isSet; rw [he])
        rw [e1] at k1; cases k1
        rcases k2 with ⟨u, e, _⟩ | ⟨ys, e, W', le', r3, B'⟩
        · rw [he] at e; cases e
        · rw [he] at e; cases e
          exact idxU_snd (s := s1) B' rfl r3 (r.mono le') B1 q
      | val u =>
        simp only [he] at q
        obtain ⟨v', f1, f2⟩ := B1.f.val i u he
        rw [e1] at f1; cases f1
        exact idxU_snd B1 rfl f2 r B1 q
      | _ => simp only [he] at q; exact (show False from q).elim
  · exact (show False from ok).elim

/-! ### extend, insert -/
theorem xs_oext {i : Nat} {x : PySem.Str} {px apos cpos : Pos} (hl : (apos.endLine == cpos.line) = true) (hN : X.N[i]? = some x) (hv : Vis X.env.scope x) (h1 : (x == ("__debug__" : PySem.Str)) = false) (h2 : (x == ("__classdict__" : PySem.Str)) = false) (hb : PE X c (RE G Wx fb)) (hs : notStar c = true) :
    PS X (.Expr (.Call (.Attribute (.Name x px) "extend" apos) [c] [] cpos) pos) (RS G Wx fun s => if isOwn s.fr i then (fb s).toS fun v s1 => (match s1.fr[i]?, lstOf s1.hp v with
    | some (.own xs), some ys => if xs.length + ys.length ≤ SZ then .nx { s1 with fr := s1.fr.set i (.own (xs ++ ys)) } else .bad
    | _, _ => .bad) else .bad) := by
  refine PS.imp (ps_expr (pe_bm PySem.F.plainAttrs_list PySem.F.slot_list_extend PySem.F.type_list_extend mt_extend (pe_var hN hv h1 h2) (pa_cons hb pa_nil (star_of hs _ _)) (base_of' rfl _) (few1 hs) hl (star_of hs _ _) rfl)) fun D σ H ⟨b, W, s, B, ok⟩ => ?_
  dsimp only at ok
  split at ok
  · rename_i ho
    obtain ⟨l, vs0, e1, e2⟩ := own_get B ho
    refine ⟨_, e1, .inl ⟨rfl, vs0, SqL.of e2⟩, b, W, s, B, okS.to ok fun W1 s1 y H1 _ le B1 q v r => ?_⟩
    cases he : s1.fr[i]? with
    | none => simp only [he] at q; exact (show False from q).elim
    | some sl =>
      cases sl with
      | own xs =>
        simp only [he] at q
        obtain ⟨l', vs, f1, f2, f3, f4, f5⟩ := B1.f.own i xs he
        rw [e1] at f1; cases f1
        split at q
        · rename_i xs' ys ex ey
          cases ex
          split at q
          · rename_i hz
            obtain ⟨l2, ws, rfl, g1, g2⟩ := lstOf_rep B1 r ey
            have el := f3.length
            have em := g2.length
            have e3 := line_eq
            exact ⟨l, l2, vs, ws, rfl, rfl, f2, g1, by omega, okS.nx (B1.wrOwn he e1 (f3.app g2)) q⟩
          · exact (show False from q).elim
        · exact (show False from q).elim
      | _ => simp only [he] at q; exact (show False from q).elim
  · exact (show False from ok).elim
theorem few2 {e f : Expr} {cpos : Pos} {env : Env} (h : notStar e = true) (h' : notStar f = true) : ((backTo cpos (starEach [e, f] env)).all (fun x => !x.1) && (backToKw cpos (keywordEach [] env)).all (fun x => x.1.isSome)
      && decide (([e, f] : List Expr).length + ([] : List Keyword).length + (if ([] : List Keyword).isEmpty then 0 else 1) < 30)) = true := by
  rw [star_of h, star_of h']; rfl
theorem xs_oins {i : Nat} {x : PySem.Str} {px apos cpos : Pos} (hl : (apos.endLine == cpos.line) = true) (hN : X.N[i]? = some x) (hv : Vis X.env.scope x) (h1 : (x == ("__debug__" : PySem.Str)) = false) (h2 : (x == ("__classdict__" : PySem.Str)) = false) (ha : PE X a (RE G Wx fa)) (hb : PE X c (RE G Wx fb)) (hs : notStar a = true) (hs2 : notStar c = true) :
    PS X (.Expr (.Call (.Attribute (.Name x px) "insert" apos) [a, c] [] cpos) pos) (RS G Wx fun s => if isOwn s.fr i then (fa s).toS fun y s1 => (fb s1).toS fun v s2 => (match s2.fr[i]?, y with
    | some (.own xs), .int j => if 0 ≤ j ∧ j < 2 ^ 62 ∧ xs.length < SZ then .nx { s2 with fr := s2.fr.set i (.own (xs.take j.toNat ++ [v] ++ xs.drop j.toNat)) } else .bad
    | _, _ => .bad) else .bad) := by
  refine PS.imp (ps_expr (pe_bm PySem.F.plainAttrs_list PySem.F.slot_list_insert PySem.F.type_list_insert mt_insert (pe_var hN hv h1 h2) (pa_cons ha (pa_cons hb pa_nil (star_of hs2 _ _)) (star_of hs _ _)) (base_of' rfl _) (few2 hs hs2) hl (star_of hs _ _) (plain_stars (by simp [hs2])))) fun D σ H ⟨b, W, s, B, ok⟩ => ?_
  dsimp only at ok
  split at ok
  · rename_i ho
    obtain ⟨l, vs0, e1, e2⟩ := own_get B ho
    refine ⟨_, e1, .inl ⟨rfl, vs0, SqL.of e2⟩, b, W, s, B, okS.to ok fun W1 s1 y H1 e0 le B1 q v r => ⟨b, W1, s1, B1, okS.to q fun W2 s2 z H2 _ le2 B2 q2 v2 r2 => ?_⟩⟩
    cases he : s2.fr[i]? with
    | none => simp only [he] at q2; exact (show False from q2).elim
    | some sl =>
      cases sl with
      | own xs =>
        simp only [he] at q2
        obtain ⟨l', vs, f1, f2, f3, f4, f5⟩ := B2.f.own i xs he
        rw [e1] at f1; cases f1
        cases y <;> first | exact (show False from q2).elim | skip
        rename_i j
        cases r
        dsimp only at q2
        split at q2
        · rename_i hz
          have el := f3.length
          have e3 := line_eq
          exact ⟨l, vs, j, v2, rfl, rfl, f2, by omega, hz.1, by omega, okS.nx (B2.wrOwn he e1 (((f3.take _).app (.one r2)).app (f3.drop _))) q2⟩
        · exact (show False from q2).elim
      | _ => simp only [he] at q2; exact (show False from q2).elim
  · exact (show False from ok).elim

/-! ### calls by keyword -/
theorem xk_nil : PK X [] (RA G Wx fun s => .ok [] s) := ⟨fun pos pins s σ H Q I ⟨b, W, t, B, ok⟩ => pk_nil.run pos pins s σ H Q I (show tNil σ H Q from ok W H .rfl' B [] .nil)⟩
theorem xk_cons {nm : Option PySem.Str} {kpos : Pos} {kws : List Keyword} {fs : St → Re (List U)} (ha : PE X a (RE G Wx fa)) (hs : PK X kws (RA G Wx fs)) : PK X (⟨nm, a, kpos⟩ :: kws) (RA G Wx fun s => (fa s).bnd fun u s1 => (fs s1).bnd fun us s2 => .ok (u :: us) s2) :=
  ⟨fun pos pins s σ H Q I ⟨b, W, t, B, ok⟩ => (pk_cons ha hs).run pos pins s σ H Q I ⟨b, W, t, B, ok.then fun W1 s1 x H1 le B1 q v r => ⟨b, W1, s1, B1, q.then fun W2 s2 us H2 le2 B2 q2 vs rs => q2 W2 H2 .rfl' B2 _ (.cons (r.mono le2) rs)⟩⟩⟩
/-- the keywords' names -/
def kwNames : List Keyword → Option (List PySem.Str)
  | [] => some []
  | ⟨nm, _, _⟩ :: r => match nm, kwNames r with
    | some x, some xs => some (x :: xs)
    | _, _ => none
theorem kw_names {env : Env} {pos : Pos} : ∀ {kws : List Keyword} {ks : List PySem.Str}, kwNames kws = some ks →
    (backToKw pos (keywordEach kws env)).all (·.1.isSome) = true ∧ (backToKw pos (keywordEach kws env)).filterMap (·.1) = ks ∧ (backToKw pos (keywordEach kws env)).any (·.1.isNone) = false
  | [], ks, h => by cases h; exact ⟨rfl, rfl, rfl⟩
  | ⟨nm, e, kp⟩ :: r, ks, h => by
    cases nm with
    | none => simp [kwNames] at h
    | some x =>
    cases h2 : kwNames r with
    | none => simp [kwNames, h2] at h
    | some xs =>
      simp only [kwNames, h2, Option.some.injEq] at h
      subst h
      obtain ⟨q1, q2, q3⟩ := kw_names (env := env) (pos := pos) h2
      refine ⟨?_, ?_, ?_⟩
      · show (true && (backToKw pos (keywordEach r env)).all (·.1.isSome)) = true
        rw [q1]; rfl
      · show x :: (backToKw pos (keywordEach r env)).filterMap (·.1) = _
        rw [q2]
      · show (false || (backToKw pos (keywordEach r env)).any (·.1.isNone)) = false
        rw [q3]; rfl
/-- the arguments of a call by keyword, in the parameters' order -/
def permL {α : Type} (l : List α) (perm : List Nat) : List α := perm.filterMap fun i => l[i]?
theorem permU_eq {us vs : List U} : ∀ {perm : List Nat}, permU us perm = some vs → vs = permL us perm
  | [], h => by unfold permU at h; simp [mapO] at h; subst h; rfl
  | i :: r, h => by
    unfold permU at h
    simp only [mapO] at h
    split at h
    · cases h
    · rename_i y hy
      split at h
      · cases h
      · rename_i ys hys
        cases h
        unfold permL
        rw [List.filterMap_cons, hy, permU_eq (perm := r) hys]
        rfl
theorem reps_perm {W : Wd} {us : List U} {vs : List V} (r : Reps G W us vs) : ∀ (perm : List Nat), Reps G W (permL us perm) (permL vs perm)
  | [] => .nil
  | i :: p => by
    unfold permL
    rw [List.filterMap_cons, List.filterMap_cons]
    cases e : us[i]? with
    | none =>
      have : vs[i]? = none := by
        rw [List.getElem?_eq_none_iff] at e ⊢
        rw [← r.length]; exact e
      rw [this]; exact reps_perm r p
    | some u =>
      obtain ⟨v, h1, h2⟩ := r.get e
      rw [h1]; exact .cons h2 (reps_perm r p)
theorem vals_perm {us : List Value} {vs : List V} (r : Vals vs us) : ∀ (perm : List Nat), Vals (permL vs perm) (permL us perm)
  | [] => .nil
  | i :: p => by
    unfold permL
    rw [List.filterMap_cons, List.filterMap_cons]
    cases e : vs[i]? with
    | none =>
      have : us[i]? = none := by
        rw [List.getElem?_eq_none_iff] at e ⊢
        rw [← r.length]; exact e
      rw [this]; exact vals_perm r p
    | some u =>
      obtain ⟨v, h1, h2⟩ := r.get e
      rw [h1]; exact .cons h2 (vals_perm r p)
abbrev KwB (K : PySem.W.Frag) (fd : FuncData) (ps : List PySem.Str) (m : Nat) (ks : List PySem.Str) (perm : List Nat) : Prop := KBn K fd ps m ks (fun us ws => permL (us ++ ws) perm) (fun vs zs => permL (vs ++ zs) perm)
theorem run_kw {n m i : Nat} {kk : Nat} {f : Addr} {fd : FuncData} {ps ks : List PySem.Str} {perm : List Nat} (F : FnOk X.prog X.w X.K X.mg X.base (CX X.prog X.w) kk f fd ps (spC G n (p.call i))) (hr : Room kk X.A) (hb : KwB X.K fd ps m ks perm) (tk : Takes X Wx)
    {pins : List (Addr × Obj)} {s : Shared} {σ : L2.St} {H : L2.Hp} {Q : VK} {us ws : List Value} {vs zs : List V} (I : Inv X pins σ H s) (r : Vals vs us) (r2 : Vals zs ws) (l1 : vs.length = m) (l2 : zs.length = ks.length) (h : spC G n (p.call i) (permL (vs ++ zs) perm) H Q fun cl d H' => Wx cl d σ H') :
    wpAny (model X.prog X.w) X.A (PySem.call (.ref f) us (ks.zip ws)) (EP X pins σ Q) X.xe s := by
  refine wpAny_call (codeAny_mono (F.run X.A X.stack s H ⟨us, ks.zip ws⟩ (permL (us ++ ws) perm) (permL (vs ++ zs) perm) Q _ hr I.env0 (hb.to s us ws I.kIn (r.length.symm.trans l1) (r2.length.symm.trans l2)) (hb.rel r r2) h) fun r s' hq => ?_)
  cases r with
  | error e => exact tk e s' (XE.of_call I (fun cls d H' h => h) hq)
  | ok fl =>
    cases fl with
    | ret u => exact I.after hq
    | next => exact False.elim hq
    | brk => exact False.elim hq
    | cont => exact False.elim hq
theorem callK_imp {b : Ba} {W : Wd} {s : St} {σ : L2.St} {H : L2.Hp} {Q : VK} {n i : Nat} {us : List U} {vs : List V} {perm : List Nat} (B : BSim G b W s σ H) (rs : Reps G W us vs) (hn : (permL us perm).length = n)
    (ok : okR G b W σ Wx (kV1 G Q) (match permU us perm with | some ws => rets p i ws s | none => .bad)) : spC G n (p.call i) (permL vs perm) H Q fun cl d H' => Wx cl d σ H' := by
  split at ok
  · rename_i ws e
    have ew := permU_eq e
    subst ew
    exact call_imp B (reps_perm rs perm) hn ok
  · exact (show False from ok).elim
theorem xe_callK {n i m : Nat} {kk : Nat} {f : Addr} {fd : FuncData} {ps ks : List PySem.Str} {perm : List Nat} {x : PySem.Str} {q : Pos} {e : Expr} {es : List Expr} {kws : List Keyword} {fs gs : St → Re (List U)} (F : FnOk X.prog X.w X.K X.mg X.base (CX X.prog X.w) kk f fd ps (spC G n (p.call i))) (hr : Room kk X.A) (hb : KwB X.K fd ps m ks perm) (tk : Takes X Wx)
    (hg : Gl X x) (hm : X.mg x = some (.ref f)) (hk : PySem.W.keepIn X.K (.ref f) = true) (hdb : (x == ("__debug__" : PySem.Str)) = false) (ha : PA X (e :: es) (RA G Wx fs)) (hkw : PK X kws (RA G Wx gs)) (hs : (e :: es).all notStar = true) (hks : kwNames kws = some ks)
    (hl : ∀ s us s', fs s = .ok us s' → us.length = m) (hl2 : ∀ s us s', gs s = .ok us s' → us.length = ks.length) (hp : ∀ (l : List U), l.length = m + ks.length → (permL l perm).length = n) :
    PE X (.Call (.Name x q) (e :: es) kws pos) (RE G Wx fun s => (fs s).bnd fun us s1 => (gs s1).bnd fun ws s2 => match permU (us ++ ws) perm with | some vs => rets p i vs s2 | none => .bad) := by
  obtain ⟨a1, a2, a3⟩ := kw_names (env := X.env) (pos := pos) hks
  refine ⟨fun pins s σ H Q I h => ?_⟩
  have key : RA G Wx fs σ H fun vs H1 => vs.length = m ∧ RA G Wx gs σ H1 fun zs H2 => zs.length = ks.length ∧ spC G n (p.call i) (permL (vs ++ zs) perm) H2 Q fun cl d H' => Wx cl d σ H' := by
    obtain ⟨b, W, t, B, ok⟩ := h
    refine ⟨b, W, t, B, then_eq ok fun W1 s1 us H1 e le B1 q vs rs => ⟨by rw [← rs.length]; exact hl _ _ _ e, b, W1, s1, B1, then_eq q fun W2 s2 ws H2 e2 le2 B2 q2 zs rs2 => ⟨by rw [← rs2.length]; exact hl2 _ _ _ e2, ?_⟩⟩⟩
    refine callK_imp B2 ((Reps.mono le2 rs).app rs2) (hp _ ?_) q2
    rw [List.length_append, hl _ _ _ e, hl2 _ _ _ e2]
  refine wpAny_Call_Name_kw (ld_glob I hg hm ?_ hdb)
  rw [List.all_cons, Bool.and_eq_true] at hs
  refine PySem.W.callWith_KW (h₀ := X.base) I.ok.mod.kin hk a1 (thn (ha.run pos pins s σ H _ I key) fun us s1 ⟨vs, H1, I1, r, l1, q⟩ => ?_) (by rw [a3, plain_stars (by simp [hs.1, hs.2])]; rfl) (star_of hs.1 _ _)
  refine thn (hkw.run pos pins s1 σ H1 _ I1 q) fun ws s2 ⟨zs, H2, I2, rz, l2, q2⟩ => ⟨I2.kIn, ?_⟩
  rw [a2]
  exact run_kw F hr hb tk I2 r rz l1 l2 q2
theorem xe_callK0 {n i : Nat} {kk : Nat} {f : Addr} {fd : FuncData} {ps ks : List PySem.Str} {perm : List Nat} {x : PySem.Str} {q : Pos} {kws : List Keyword} {gs : St → Re (List U)} (F : FnOk X.prog X.w X.K X.mg X.base (CX X.prog X.w) kk f fd ps (spC G n (p.call i))) (hr : Room kk X.A) (hb : KwB X.K fd ps 0 ks perm) (tk : Takes X Wx)
    (hg : Gl X x) (hm : X.mg x = some (.ref f)) (hk : PySem.W.keepIn X.K (.ref f) = true) (hdb : (x == ("__debug__" : PySem.Str)) = false) (hkw : PK X kws (RA G Wx gs)) (hks : kwNames kws = some ks)
    (hl2 : ∀ s us s', gs s = .ok us s' → us.length = ks.length) (hp : ∀ (l : List U), l.length = 0 + ks.length → (permL l perm).length = n) :
    PE X (.Call (.Name x q) [] kws pos) (RE G Wx fun s => (gs s).bnd fun ws s2 => match permU ws perm with | some vs => rets p i vs s2 | none => .bad) := by
  obtain ⟨a1, a2, a3⟩ := kw_names (env := X.env) (pos := pos) hks
  refine ⟨fun pins s σ H Q I h => ?_⟩
  have key : RA G Wx gs σ H fun zs H2 => zs.length = ks.length ∧ spC G n (p.call i) (permL ([] ++ zs) perm) H2 Q fun cl d H' => Wx cl d σ H' := by
    obtain ⟨b, W, t, B, ok⟩ := h
    refine ⟨b, W, t, B, then_eq ok fun W2 s2 ws H2 e2 le2 B2 q2 zs rs2 => ⟨by rw [← rs2.length]; exact hl2 _ _ _ e2, ?_⟩⟩
    exact callK_imp (us := ws) B2 rs2 (hp _ (by rw [hl2 _ _ _ e2, Nat.zero_add])) q2
  refine wpAny_Call_Name_kw (ld_glob I hg hm ?_ hdb)
  refine PySem.W.callWith_KW0 (h₀ := X.base) I.ok.mod.kin hk a1 ?_ (by rw [a3]; rfl)
  refine thn (hkw.run pos pins s σ H _ I key) fun ws s2 ⟨zs, H2, I2, rz, l2, q2⟩ => ⟨I2.kIn, ?_⟩
  rw [a2]
  exact run_kw (us := []) (vs := []) F hr hb tk I2 .nil rz rfl l2 q2
end
end Pix
end
section
set_option Elab.async false
set_option linter.all false
set_option maxRecDepth 100000
set_option maxHeartbeats 1000000
/-! PixZ3: methods and classes called by keyword. -/
namespace Pix
open PySem PySem.Spec PyProof.Rows L2
section
variable {G : Gl0} {p : Px} {X : Cx} {Wx : WX} {o e : Expr} {es : List Expr} {kws : List Keyword} {fo : St → Re U} {pos apos : Pos} {c : Nat} {m : String}
theorem form_okK {es : List Expr} {kws : List Keyword} {pos : Pos} {env : Env} (hs : es.all notStar = true) (hk : (backToKw pos (keywordEach kws env)).all (·.1.isSome) = true) (hl : es.length + kws.length < 28) : methodCallForm (es.length + kws.length) (backTo pos (starEach es env)) (backToKw pos (keywordEach kws env)) = true := by
  have key : ∀ es : List Expr, es.all notStar = true → (starEach es env).all (fun x => !x.1) = true := by
    intro es
    induction es with
    | nil => intro _; rfl
    | cons x xs ih =>
      intro h
      rw [List.all_cons, Bool.and_eq_true] at h
      rw [star_of h.1, List.all_cons, ih h.2]; rfl
  unfold methodCallForm backTo
  rw [List.all_map]
  have := key es hs
  simp only [Bool.and_eq_true, decide_eq_true_eq]
  refine ⟨⟨this, hk⟩, ?_⟩
  split <;> omega
theorem meth_formK {nm : PySem.Str} {env : Env} (hb : baseB o = true) (hf : methodCallForm (es.length + kws.length) (backTo pos (starEach es env)) (backToKw pos (keywordEach kws env)) = true) (hl : (apos.endLine == pos.line) = true) :
    eval (.Call (.Attribute o nm apos) es kws pos) env = (do
      let ov ← eval o env
      standAt apos.atName
      let (f, first) ← holding [ov] (getMethod ov nm (plainOf o env))
      callWith pos f first (backTo pos (starEach es env)) (backToKw pos (keywordEach kws env))) := by
  rw [PySem.arm_eval_Call, base_ofB hb]
  congr 1
  funext ov
  congr 1
  funext _
  exact mcall_line hf hl
/-- what a method's call by keyword asks -/
abbrev methKf (p : Px) (i c : Nat) (m : String) (perm : List Nat) (fo : St → Re U) (fs gs : St → Re (List U)) : St → Re U := fun s => (fo s).bnd fun x s1 => match insF s1.hp c x with
  | some fs' => if (fs'.lookup m).isNone then (fs s1).bnd fun us s2 => (gs s2).bnd fun ws s3 => (match permU (x :: us ++ ws) perm with
    | some vs => rets p i vs s3
    | none => .bad) else .bad
  | none => .bad
theorem xe_methK {n i k0 : Nat} {kk : Nat} {fm : Addr} {fd : FuncData} {ps ks : List PySem.Str} {perm : List Nat} {fs gs : St → Re (List U)} (hK : X.K = G.K) (k : KOk G) (hm : Meth G.K (G.ca c) (PySem.Str.ofString m) fm) (F : FnOk X.prog X.w X.K X.mg X.base (CX X.prog X.w) kk fm fd ps (spC G n (p.call i))) (hr : Room kk X.A) (hb : KwB X.K fd ps (k0 + 1) ks perm) (tk : Takes X Wx)
    (ho : PE X o (RE G Wx fo)) (ha : PA X (e :: es) (RA G Wx fs)) (hkw : PK X kws (RA G Wx gs)) (hs : (e :: es).all notStar = true) (hks : kwNames kws = some ks) (hl : ∀ s us s', fs s = .ok us s' → us.length = k0) (hl2 : ∀ s us s', gs s = .ok us s' → us.length = ks.length) (hp : ∀ (l : List U), l.length = k0 + 1 + ks.length → (permL l perm).length = n)
    (hbase : baseB o = true) (hline : (apos.endLine == pos.line) = true) (hfew : (e :: es).length + kws.length < 28) :
    PE X (.Call (.Attribute o (PySem.Str.ofString m) apos) (e :: es) kws pos) (RE G Wx (methKf p i c m perm fo fs gs)) := by
  obtain ⟨a1, a2, a3⟩ := kw_names (env := X.env) (pos := pos) hks
  have key : ∀ σ H Q, RE G Wx (methKf p i c m perm fo fs gs) σ H Q → RE G Wx fo σ H fun v H1 => ∃ a dx es', v = .ref a ∧ H1 a = some (.ins (G.ca c) dx es') ∧ es'.lookup (PySem.Str.ofString m) = none ∧ Cls G.K (G.ca c) ∧ RA G Wx fs σ H1 fun vs H2 => vs.length = k0 ∧ RA G Wx gs σ H2 fun zs H3 => zs.length = ks.length ∧ spC G n (p.call i) (permL (v :: vs ++ zs) perm) H3 Q fun cl d H' => Wx cl d σ H' := fun σ H Q ⟨b, W, s, B, ok⟩ =>
    ⟨b, W, s, B, ok.then fun W1 s1 x H1 le B1 q v r => by
      split at q
      · rename_i fs' hf
        obtain ⟨n', ad, dx, es', rfl, rfl, hm', hl', hc, h1, fr⟩ := insF_rep B1 r hf
        split at q
        · rename_i hn
          refine ⟨ad, dx, es', rfl, h1, fr.miss (Option.isNone_iff_eq_none.mp hn), (k.cls c hc).cl, b, W1, s1, B1, then_eq q fun W2 s2 us H2 e2 le2 B2 q2 vs rs => ⟨by rw [← rs.length]; exact hl _ _ _ e2, b, W2, s2, B2, then_eq q2 fun W3 s3 ws H3 e3 le3 B3 q3 zs rs3 => ⟨by rw [← rs3.length]; exact hl2 _ _ _ e3, ?_⟩⟩⟩
          refine callK_imp B3 ((Reps.cons ((r.mono le2).mono le3) (Reps.mono le3 rs)).app rs3) (hp _ ?_) q3
          rw [List.length_append, List.length_cons, hl _ _ _ e2, hl2 _ _ _ e3]
        · exact (show False from q).elim
      · exact (show False from q).elim⟩
  have hm2 : Meth X.K (G.ca c) (PySem.Str.ofString m) fm := by rw [hK]; exact hm
  have hs' := hs
  rw [List.all_cons, Bool.and_eq_true] at hs
  refine ⟨fun pins s σ H Q I h => ?_⟩
  refine PySem.W.methodCall_KW (pl := plainOf o X.env) (thn (ho.run pins s σ H _ I (key σ H Q h)) fun u s1 ⟨x, H1, I1, rx, ad, dx, es', ex, ea, l, cl, q⟩ => ?_) (meth_formK hbase (form_okK hs' a1 hfew) hline)
  subst ex
  obtain rfl : u = Value.ref ad := rx
  refine getmeth_ok I1 ea (by rw [hK]; exact cl) hm2 l ?_
  refine PySem.W.callWith_KW (first := [.ref ad]) (h₀ := X.base) I1.ok.mod.kin hm2.kp a1 (thn (ha.run pos pins s1 σ H1 _ I1 q) fun us s2 ⟨vs, H2, I2, r, l1, q2⟩ => ?_) (by rw [a3, plain_stars (by simp [hs.1, hs.2])]; rfl) (star_of hs.1 _ _)
  refine thn (hkw.run pos pins s2 σ H2 _ I2 q2) fun ws s3 ⟨zs, H3, I3, rz, l2, q3⟩ => ⟨I3.kIn, ?_⟩
  rw [a2]
  exact run_kw (us := .ref ad :: us) (vs := .ref ad :: vs) F hr hb tk I3 (.cons rfl r) rz (by rw [List.length_cons, l1]) l2 q3
theorem xe_methK0 {n i : Nat} {kk : Nat} {fm : Addr} {fd : FuncData} {ps ks : List PySem.Str} {perm : List Nat} {gs : St → Re (List U)} (hK : X.K = G.K) (k : KOk G) (hm : Meth G.K (G.ca c) (PySem.Str.ofString m) fm) (F : FnOk X.prog X.w X.K X.mg X.base (CX X.prog X.w) kk fm fd ps (spC G n (p.call i))) (hr : Room kk X.A) (hb : KwB X.K fd ps 1 ks perm) (tk : Takes X Wx)
    (ho : PE X o (RE G Wx fo)) (hkw : PK X kws (RA G Wx gs)) (hks : kwNames kws = some ks) (hl2 : ∀ s us s', gs s = .ok us s' → us.length = ks.length) (hp : ∀ (l : List U), l.length = 1 + ks.length → (permL l perm).length = n)
    (hbase : baseB o = true) (hline : (apos.endLine == pos.line) = true) (hfew : kws.length < 28) :
    PE X (.Call (.Attribute o (PySem.Str.ofString m) apos) [] kws pos) (RE G Wx (methKf p i c m perm fo (fun s => .ok [] s) gs)) := by
  obtain ⟨a1, a2, a3⟩ := kw_names (env := X.env) (pos := pos) hks
  have key : ∀ σ H Q, RE G Wx (methKf p i c m perm fo (fun s => .ok [] s) gs) σ H Q → RE G Wx fo σ H fun v H1 => ∃ a dx es', v = .ref a ∧ H1 a = some (.ins (G.ca c) dx es') ∧ es'.lookup (PySem.Str.ofString m) = none ∧ Cls G.K (G.ca c) ∧ RA G Wx gs σ H1 fun zs H3 => zs.length = ks.length ∧ spC G n (p.call i) (permL (v :: zs) perm) H3 Q fun cl d H' => Wx cl d σ H' := fun σ H Q ⟨b, W, s, B, ok⟩ =>
    ⟨b, W, s, B, ok.then fun W1 s1 x H1 le B1 q v r => by
      split at q
      · rename_i fs' hf
        obtain ⟨n', ad, dx, es', rfl, rfl, hm', hl', hc, h1, fr⟩ := insF_rep B1 r hf
        split at q
        · rename_i hn
          refine ⟨ad, dx, es', rfl, h1, fr.miss (Option.isNone_iff_eq_none.mp hn), (k.cls c hc).cl, b, W1, s1, B1, then_eq (show okR G b W1 σ Wx _ ((gs s1).bnd fun ws s3 => _) from q) fun W3 s3 ws H3 e3 le3 B3 q3 zs rs3 => ⟨by rw [← rs3.length]; exact hl2 _ _ _ e3, ?_⟩⟩
          refine callK_imp B3 (Reps.cons (r.mono le3) rs3) (hp _ ?_) q3
          rw [List.length_cons, hl2 _ _ _ e3, Nat.add_comm]
        · exact (show False from q).elim
      · exact (show False from q).elim⟩
  have hm2 : Meth X.K (G.ca c) (PySem.Str.ofString m) fm := by rw [hK]; exact hm
  refine ⟨fun pins s σ H Q I h => ?_⟩
  refine PySem.W.methodCall_KW (pl := plainOf o X.env) (thn (ho.run pins s σ H _ I (key σ H Q h)) fun u s1 ⟨x, H1, I1, rx, ad, dx, es', ex, ea, l, cl, q⟩ => ?_) (meth_formK hbase (form_okK rfl a1 (by simpa using hfew)) hline)
  subst ex
  obtain rfl : u = Value.ref ad := rx
  refine getmeth_ok I1 ea (by rw [hK]; exact cl) hm2 l ?_
  refine PySem.W.callWith_KW0 (first := [.ref ad]) (h₀ := X.base) I1.ok.mod.kin hm2.kp a1 ?_ (by rw [a3]; rfl)
  refine thn (hkw.run pos pins s1 σ H1 _ I1 q) fun ws s3 ⟨zs, H3, I3, rz, l2, q3⟩ => ⟨I3.kIn, ?_⟩
  rw [a2]
  exact run_kw (us := [.ref ad]) (vs := [.ref ad]) F hr hb tk I3 (.cons rfl .nil) rz rfl l2 q3
theorem permL_self {α : Type} (x : α) (l : List α) (perm : List Nat) : permL (x :: l) (0 :: perm.map (· + 1)) = x :: permL l perm := by
  unfold permL
  rw [List.filterMap_cons]
  show x :: _ = _
  rw [List.filterMap_map]
  rfl
theorem run_newK {pins : List (Addr × Obj)} {σ : L2.St} {H : L2.Hp} {s : Shared} {Q : VK} {us ws : List Value} {vs zs : List V} {C fI : Addr} {fd : FuncData} {ps ks : List PySem.Str} {perm : List Nat} {n m i kk : Nat} (M : Mk X.K C fI) (F : FnOk X.prog X.w X.K X.mg X.base (CX X.prog X.w) kk fI fd ps (spC G n (p.call i))) (hr : Room (kk + 1) X.A) (hb : KwB X.K fd ps (m + 1) ks (0 :: perm.map (· + 1))) (tk : Takes X Wx)
    (I : Inv X pins σ H s) (r : Vals vs us) (rz : Vals zs ws) (l1 : vs.length = m) (l2 : zs.length = ks.length)
    (h : ∀ x dx, H x = none → H dx = none → dx ≠ x → spC G n (p.call i) (.ref x :: permL (vs ++ zs) perm) (upd (upd H dx (.own x)) x (.ins C dx [])) (fun v H2 => v = .non ∧ Q (.ref x) H2) fun cl d H' => Wx cl d σ H') :
    wpAny (model X.prog X.w) X.A (PySem.call (.ref C) us (ks.zip ws)) (EP X pins σ Q) X.xe s := by
  have hq := h (s.heap.objs.size + 1) s.heap.objs.size (I.hok.fresh (Nat.le_succ _)) (I.hok.fresh (Nat.le_refl _)) (Nat.ne_of_lt (Nat.lt_succ_self _))
  rw [← permL_self] at hq
  have I2 := Inv.made (C := C) I
  have r2 : Vals (V.ref (s.heap.objs.size + 1) :: vs) (Value.ref (s.heap.objs.size + 1) :: us) := .cons rfl r
  have b1 := hb.to _ (Value.ref (s.heap.objs.size + 1) :: us) ws I2.kIn (by rw [List.length_cons, ← r.length, l1]) (rz.length.symm.trans l2)
  have b2 := hb.rel r2 rz
  refine wpAny_call (L2.make_map (f := fI) I.kIn M.makes M.init (beq_iff_eq.mp M.fn) (codeAny_mono (F.run _ X.stack _ _ ⟨Value.ref (s.heap.objs.size + 1) :: us, ks.zip ws⟩ _ _ _ (fun cl d H' => Wx cl d σ H') (hr.make C us (ks.zip ws))
    (I2.env0.make C us (ks.zip ws)) b1 b2 hq) fun r s' hq' => ?_))
  cases r with
  | error e => exact tk e s' (XE.of_call I2 (fun cls d H' h => h) hq')
  | ok fl =>
    cases fl with
    | ret u =>
      obtain ⟨v, H', I3, rv, ev, q3⟩ := I2.after hq'
      subst ev
      exact ⟨rv, ⟨V.ref (s.heap.objs.size + 1), H', I3, rfl, q3⟩⟩
    | next => exact False.elim hq'
    | brk => exact False.elim hq'
    | cont => exact False.elim hq'
theorem newK_imp {b : Ba} {W : Wd} {s : St} {σ : L2.St} {H : L2.Hp} {Q : VK} {n i : Nat} {us : List U} {vs : List V} {perm : List Nat} {x dx : Addr} (hc : c < G.nc) (B : BSim G b W s σ H) (rs : Reps G W us vs) (hn : (permL us perm).length + 1 = n)
    (ok : okR G b W σ Wx (kV1 G Q) (match permU us perm with | some ws => newU p c i ws s | none => .bad)) (hx : H x = none) (hd : H dx = none) (hne : dx ≠ x) :
    spC G n (p.call i) (.ref x :: permL vs perm) (upd (upd H dx (.own x)) x (.ins (G.ca c) dx [])) (fun v H2 => v = .non ∧ Q (.ref x) H2) fun cl d H' => Wx cl d σ H' := by
  split at ok
  · rename_i ws e
    have ew := permU_eq e
    subst ew
    exact new_imp hc B (reps_perm rs perm) hn ok hx hd hne
  · exact (show False from ok).elim
theorem xe_newK {n i m : Nat} {kk : Nat} {fI : Addr} {fd : FuncData} {ps ks : List PySem.Str} {perm : List Nat} {x : PySem.Str} {q : Pos} {fs gs : St → Re (List U)} (hK : X.K = G.K) (hc : c < G.nc) (M : Mk G.K (G.ca c) fI) (F : FnOk X.prog X.w X.K X.mg X.base (CX X.prog X.w) kk fI fd ps (spC G n (p.call i))) (hr : Room (kk + 1) X.A) (hb : KwB X.K fd ps (m + 1) ks (0 :: perm.map (· + 1))) (tk : Takes X Wx)
    (hg : Gl X x) (hm : X.mg x = some (.ref (G.ca c))) (hdb : (x == ("__debug__" : PySem.Str)) = false) (ha : PA X (e :: es) (RA G Wx fs)) (hkw : PK X kws (RA G Wx gs)) (hs : (e :: es).all notStar = true) (hks : kwNames kws = some ks)
    (hl : ∀ s us s', fs s = .ok us s' → us.length = m) (hl2 : ∀ s us s', gs s = .ok us s' → us.length = ks.length) (hp : ∀ (l : List U), l.length = m + ks.length → (permL l perm).length + 1 = n) :
    PE X (.Call (.Name x q) (e :: es) kws pos) (RE G Wx fun s => (fs s).bnd fun us s1 => (gs s1).bnd fun ws s2 => match permU (us ++ ws) perm with | some vs => newU p c i vs s2 | none => .bad) := by
  have M2 : Mk X.K (G.ca c) fI := by rw [hK]; exact M
  obtain ⟨a1, a2, a3⟩ := kw_names (env := X.env) (pos := pos) hks
  refine ⟨fun pins s σ H Q I h => ?_⟩
  have key : RA G Wx fs σ H fun vs H1 => vs.length = m ∧ RA G Wx gs σ H1 fun zs H2 => zs.length = ks.length ∧ ∀ x dx, H2 x = none → H2 dx = none → dx ≠ x → spC G n (p.call i) (.ref x :: permL (vs ++ zs) perm) (upd (upd H2 dx (.own x)) x (.ins (G.ca c) dx [])) (fun v H3 => v = .non ∧ Q (.ref x) H3) fun cl d H' => Wx cl d σ H' := by
    obtain ⟨b, W, t, B, ok⟩ := h
    refine ⟨b, W, t, B, then_eq ok fun W1 s1 us H1 e le B1 q vs rs => ⟨by rw [← rs.length]; exact hl _ _ _ e, b, W1, s1, B1, then_eq q fun W2 s2 ws H2 e2 le2 B2 q2 zs rs2 => ⟨by rw [← rs2.length]; exact hl2 _ _ _ e2, fun x dx hx hd hne => ?_⟩⟩⟩
    refine newK_imp hc B2 ((Reps.mono le2 rs).app rs2) (hp _ ?_) q2 hx hd hne
    rw [List.length_append, hl _ _ _ e, hl2 _ _ _ e2]
  refine wpAny_Call_Name_kw (ld_glob I hg hm ?_ hdb)
  rw [List.all_cons, Bool.and_eq_true] at hs
  refine PySem.W.callWith_KW (h₀ := X.base) I.ok.mod.kin M2.kp a1 (thn (ha.run pos pins s σ H _ I key) fun us s1 ⟨vs, H1, I1, r, l1, q⟩ => ?_) (by rw [a3, plain_stars (by simp [hs.1, hs.2])]; rfl) (star_of hs.1 _ _)
  refine thn (hkw.run pos pins s1 σ H1 _ I1 q) fun ws s2 ⟨zs, H2, I2, rz, l2, q2⟩ => ⟨I2.kIn, ?_⟩
  rw [a2]
  exact run_newK M2 F hr hb tk I2 r rz l1 l2 q2
theorem xe_newK0 {n i : Nat} {kk : Nat} {fI : Addr} {fd : FuncData} {ps ks : List PySem.Str} {perm : List Nat} {x : PySem.Str} {q : Pos} {gs : St → Re (List U)} (hK : X.K = G.K) (hc : c < G.nc) (M : Mk G.K (G.ca c) fI) (F : FnOk X.prog X.w X.K X.mg X.base (CX X.prog X.w) kk fI fd ps (spC G n (p.call i))) (hr : Room (kk + 1) X.A) (hb : KwB X.K fd ps 1 ks (0 :: perm.map (· + 1))) (tk : Takes X Wx)
    (hg : Gl X x) (hm : X.mg x = some (.ref (G.ca c))) (hdb : (x == ("__debug__" : PySem.Str)) = false) (hkw : PK X kws (RA G Wx gs)) (hks : kwNames kws = some ks)
    (hl2 : ∀ s us s', gs s = .ok us s' → us.length = ks.length) (hp : ∀ (l : List U), l.length = ks.length → (permL l perm).length + 1 = n) :
    PE X (.Call (.Name x q) [] kws pos) (RE G Wx fun s => (gs s).bnd fun ws s2 => match permU ws perm with | some vs => newU p c i vs s2 | none => .bad) := by
  have M2 : Mk X.K (G.ca c) fI := by rw [hK]; exact M
  obtain ⟨a1, a2, a3⟩ := kw_names (env := X.env) (pos := pos) hks
  refine ⟨fun pins s σ H Q I h => ?_⟩
  have key : RA G Wx gs σ H fun zs H2 => zs.length = ks.length ∧ ∀ x dx, H2 x = none → H2 dx = none → dx ≠ x → spC G n (p.call i) (.ref x :: permL ([] ++ zs) perm) (upd (upd H2 dx (.own x)) x (.ins (G.ca c) dx [])) (fun v H3 => v = .non ∧ Q (.ref x) H3) fun cl d H' => Wx cl d σ H' := by
    obtain ⟨b, W, t, B, ok⟩ := h
    refine ⟨b, W, t, B, then_eq ok fun W2 s2 ws H2 e2 le2 B2 q2 zs rs2 => ⟨by rw [← rs2.length]; exact hl2 _ _ _ e2, fun x dx hx hd hne => ?_⟩⟩
    exact newK_imp (us := ws) hc B2 rs2 (hp _ (hl2 _ _ _ e2)) q2 hx hd hne
  refine wpAny_Call_Name_kw (ld_glob I hg hm ?_ hdb)
  refine PySem.W.callWith_KW0 (h₀ := X.base) I.ok.mod.kin M2.kp a1 ?_ (by rw [a3]; rfl)
  refine thn (hkw.run pos pins s σ H _ I key) fun ws s2 ⟨zs, H2, I2, rz, l2, q2⟩ => ⟨I2.kIn, ?_⟩
  rw [a2]
  exact run_newK (us := []) (vs := []) (m := 0) M2 F hr hb tk I2 .nil rz rfl l2 q2
end
end Pix
end
section
set_option Elab.async false
set_option linter.all false
set_option maxRecDepth 100000
set_option maxHeartbeats 1000000
/-! PixZ4: upper, parallel assignment. -/
namespace Pix
open PySem PySem.Spec PyProof.Rows L2
/-! ### upper -/
theorem upTab : ((List.range 128).all fun c => Unicode.upperOf c == [upC c]) = true := by decide +kernel
theorem up1 {c : Nat} (h : c < 128) : Unicode.upperOf c = [upC c] := beq_iff_eq.mp (List.all_eq_true.mp upTab c (List.mem_range.mpr h))
theorem upper_ascii : ∀ {z : List Nat}, (∀ c ∈ z, c < 128) → Txt.upper ⟨z.toArray⟩ = ⟨(z.map upC).toArray⟩ := by
  intro z h
  unfold Txt.upper placed
  congr 1
  have key : ((⟨z.toArray⟩ : PySem.Str).cps.mapIdx fun i c => (Unicode.upperOf c).toArray) = (z.map fun c => #[upC c]).toArray := by
    apply Array.ext
    · simp
    · intro i h1 h2
      have hi : i < z.length := by simpa using h2
      simp only [Array.getElem_mapIdx, List.getElem_toArray, List.getElem_map]
      show (Unicode.upperOf (z[i])).toArray = _
      rw [up1 (h _ (List.getElem_mem hi))]
  rw [key]
  apply Array.ext'
  rw [Array.toList_flatten]
  clear key h
  induction z with
  | nil => rfl
  | cons c z ih =>
    simp only [List.map_cons, List.flatten_cons] at ih ⊢
    rw [ih]; rfl
section
variable {G : Gl0} {p : Px} {X : Cx} {Wx : WX} {a : Expr} {fa : St → Re U} {pos apos : Pos}
theorem xe_upper (ha : PE X a (RE G Wx fa)) (hb : baseB a = true) (hl : (apos.endLine == pos.line) = true) : PE X (.Call (.Attribute a "upper" apos) [] [] pos) (RE G Wx fun s => (fa s).bnd upU) := by
  refine PE.imp (pe_upper ha (base_ofB hb _) hl) fun σ H Q ⟨b, W, s, B, ok⟩ => ⟨b, W, s, B, ok.then fun W1 s1 x H1 le B1 q v r => ?_⟩
  unfold upU at q
  cases r <;> first | exact (show False from q).elim | skip
  rename_i z hz hzc
  dsimp only at q
  split at q
  · rename_i h
    obtain ⟨h1, h2⟩ := h
    have h3 : ∀ c ∈ z, c < 128 := fun c hc => by have := List.all_eq_true.mp h2 c hc; exact of_decide_eq_true this
    refine ⟨⟨_, rfl⟩, _, rfl, rfl, ?_, ?_⟩
    · show z.toArray.size ≤ 5592405
      have : z.toArray.size = z.length := by simp
      omega
    · rw [upper_ascii h3]
      refine okR.val B1 (.str _ (by rw [List.length_map]; exact hz) fun c hc => ?_) q
      obtain ⟨d, hd, rfl⟩ := List.mem_map.mp hc
      have := h3 d hd
      unfold upC
      split <;> omega
  · exact (show False from q).elim
/-! ### a, b = x, y -/
def par2B (x : PySem.Str) (px : Pos) (y : PySem.Str) (py : Pos) (a b : Expr) : Bool := (py.line == px.line) && !(x == y) && notStar a && notStar b && !(foldedForSure 8 a && foldedForSure 8 b) && !(constantsAlone 8 a && constantsAlone 8 b)
theorem hw2 {x y : PySem.Str} {px py pt pt2 : Pos} {a b : Expr} {kt k2 : Nat} {env : Env} (h : par2B x px y py a b = true) (hb : env.blockKind = .function) (hx : env.kindOf x = some .local) (hy : env.kindOf y = some .local) :
    swappedStores [.Tuple [.Name x px, .Name y py] kt pt] (.Tuple [a, b] k2 pt2) env = pure (some [x, y]) := by
  simp only [par2B, Bool.and_eq_true, Bool.not_eq_true'] at h
  obtain ⟨⟨⟨⟨⟨h1, h2⟩, h3⟩, h4⟩, h5⟩, h6⟩ := h
  have e3 : ([x, y].eraseDups.length != [x, y].length) = false := by
    have : (y == x) = false := by
      cases e : (y == x) with
      | false => rfl
      | true => rw [eq_of_beq e] at h2; simp at h2
    have q : [x, y].eraseDups = [x, y] := by
      simp only [List.eraseDups_cons, List.filter_cons, this, List.filter_nil]
      rfl
    rw [q]; rfl
  unfold swappedStores
  simp only [List.any_cons, List.any_nil, hb, hx, hy, List.filterMap_cons, List.filterMap_nil, List.head?_cons, Option.map_some, Option.getD_some, h1, List.all_cons, List.all_nil, h5, h6, Bool.and_true]
  have p1 : (Expr.Name x px).pos = px := rfl
  have h1' : py.line = px.line := eq_of_beq h1
  have xy : ¬ y = x := fun e => by rw [e] at h2; simp at h2
  simp [p1, h1', xy, h5, h6, List.eraseDups_cons]
  intro z
  exfalso
  rcases z with z | z
  · cases a <;> first | exact absurd z Bool.false_ne_true | exact absurd h3 Bool.false_ne_true
  · cases b <;> first | exact absurd z Bool.false_ne_true | exact absurd h4 Bool.false_ne_true
theorem xs_par2 {i j : Nat} {x y : PySem.Str} {px py pt pt2 : Pos} {a c : Expr} {kt k2 : Nat} {fs : St → Re (List U)} (hc : X.calm = true) (hN : X.N.Nodup) (hi : X.N[i]? = some x) (hj : X.N[j]? = some y) (hij : i ≠ j) (hx : X.env.scope.names.lookup x = some .local) (hy : X.env.scope.names.lookup y = some .local)
    (hk : X.env.scope.kind = .function) (hw : par2B x px y py a c = true) (ha : PA X [a, c] (RA G Wx fs)) :
    PS X (.Assign [.Tuple [.Name x px, .Name y py] kt pt] (.Tuple [a, c] k2 pt2) pos) (RS G Wx fun s => (fs s).toS fun us s1 => match bindTs ([i, j].map T.s) us s1.fr with
    | some fr => .nx { s1 with fr := fr }
    | none => .bad) := by
  refine PS.imp (ps_par hc hN hi hj hij hx hy ha (hw2 hw (by unfold Env.blockKind; rw [hk]; rfl) hx hy)) fun D σ H ⟨b, W, s, B, ok⟩ => ⟨b, W, s, B, ok.to fun W1 s1 us H1 _ le B1 q vs rs => ?_⟩
  split at q
  · rename_i fr e
    cases rs with
    | nil => simp [bindTs] at e
    | cons r1 rs =>
      cases rs with
      | nil => simp only [List.map_cons, List.map_nil, bindTs] at e; split at e <;> cases e
      | cons r2 rs =>
        cases rs with
        | cons _ _ =>
          simp only [List.map_cons, List.map_nil, bindTs] at e
          split at e
          · cases e
          · split at e <;> cases e
        | nil =>
          simp only [List.map_cons, List.map_nil, bindTs, bindT] at e
          split at e
          · cases e
          · rename_i fr1 e1
            split at e1
            · rename_i h1
              cases e1
              split at e
              · cases e
              · rename_i fr2 e2
                split at e2
                · rename_i h2
                  cases e2
                  cases e
                  refine ⟨_, _, rfl, ?_⟩
                  have B2 := B1.put h1 r1
                  exact okS.nx (B2.put h2 r2) q
                · cases e2
            · cases e1
  · exact (show False from q).elim
end
end Pix
end
section
set_option Elab.async false
set_option linter.all false
/-! PixZ5: enumerate(tuple), at the library's level. -/
namespace PySem
open Sem (wp)
open AutoSeq1 (wpAny_loadPart')
set_option maxRecDepth 100000
set_option maxHeartbeats 4000000
theorem meets_enumerate_newT (l : Addr) (items : Array Value) (n : Nat) (dct : Option Addr) (sl : Array (Option Value)) :
    Meets (Builtin.«enumerate.__new__» ⟨[.type "enumerate", .ref l], []⟩) (fun _ R s => s.heap.get? l = some { cls := .type "tuple", dict := dct, data := .seq items n, slots := sl } ∧
      R (.ok (.ret (.ref (s.heap.push { cls := .type "tuple_iterator", data := .fields #[.ref l, .int 0 0] }).objs.size)))
        { s with heap := (s.heap.push { cls := .type "tuple_iterator", data := .fields #[.ref l, .int 0 0] }).push { cls := .type "enumerate", data := .fields #[.none, .bool false, .ref s.heap.objs.size, rawInt 0, .none, .none] } }) :=
  .of_wp fun prog w A R s h => by
    obtain ⟨hp, g, d, tk, os⟩ := s; obtain ⟨hl, h⟩ := h
    have hsub := sub_enumerate
    have hL : Heap.IsTuple (Shared.heap ⟨hp, g, d, tk, os⟩) l items := ⟨_, hl, rfl, n, rfl⟩
    wp_walk using wpAny_loadPart' hl
    refine wpAny_stack_any fun st => wpAny_pure ?_
    split
    · rename_i c _ _ _ _ _
      cases (c == Value.type "enumerate")
      · wp_walk using wpAny_loadPart' hl, wpAny_pyIter_tuple hL
        exact ⟨_, rfl, h⟩
      · wp_walk using wpAny_loadPart' hl, wpAny_pyIter_tuple hL
        exact ⟨_, rfl, h⟩
    · wp_walk using wpAny_loadPart' hl, wpAny_pyIter_tuple hL
      exact ⟨_, rfl, h⟩
section
variable {prog : Program} {w : World} {A : Around} {E : Value → Shared → Prop} {s : Shared}
theorem call_enumerate_tuple {l : Addr} {items : Array Value} {Q : Value → Shared → Prop} (hL : s.heap.IsTuple l items)
    (h : ∀ h', IsEnum h' (s.heap.objs.size + 1) s.heap.objs.size 0 .none → h'.IsTupleIter s.heap.objs.size l 0 → h'.objs.size = s.heap.objs.size + 2 →
      (∀ b o, s.heap.get? b = some o → h'.get? b = some o) → Q (.ref (s.heap.objs.size + 1)) { s with heap := h' }) :
    wpAny (model prog w) A (call (.type "enumerate") [.ref l]) Q E s := by
  obtain ⟨⟨c, dct, dt, sl⟩, hl, hc, n, hd⟩ := hL
  replace hc : c = .type "tuple" := hc
  replace hd : dt = .seq items n := hd
  subst hc hd
  refine callType_new F.called_enumerate (by decide) (F.typeCall_enumerate_1 _) (F.newCall_enumerate_1 _) (fun obj => F.args_object_init_2 obj _) F.entry_enumerate_new
    (meets_enumerate_newT l items n dct sl) ⟨hl, ?_⟩
  have hz : (s.heap.push { cls := .type "tuple_iterator", data := .fields #[.ref l, .int 0 0] }).objs.size = s.heap.objs.size + 1 := Heap.size_push ..
  show _ ∧ _
  rw [hz]
  have he : IsEnum ((s.heap.push { cls := .type "tuple_iterator", data := .fields #[.ref l, .int 0 0] }).push
      { cls := .type "enumerate", data := .fields #[.none, .bool false, .ref s.heap.objs.size, rawInt 0, .none, .none] }) (s.heap.objs.size + 1) s.heap.objs.size 0 .none := by
    have := Heap.get?_push_size (s.heap.push { cls := .type "tuple_iterator", data := .fields #[.ref l, .int 0 0] })
      (o := { cls := .type "enumerate", data := .fields #[.none, .bool false, .ref s.heap.objs.size, rawInt 0, .none, .none] }) rfl
    rw [hz] at this; exact this
  refine ⟨⟨_, he, rfl⟩, h _ he ⟨_, Heap.get?_push_of_some _ (Heap.get?_push_size _ rfl), rfl, rfl⟩ (by rw [Heap.size_push, hz]) fun b o x => Heap.get?_push_of_some _ (Heap.get?_push_of_some _ x)⟩
end
end PySem
end
section
set_option Elab.async false
set_option linter.all false
set_option maxRecDepth 100000
set_option maxHeartbeats 1000000
/-! PixZ6: enumerate in loops. -/
namespace Pix
open PySem PySem.Spec PyProof.Rows L2
/-- the tuple at a, each item in a new pair -/
def Itet (K : PySem.W.Frag) (a : Addr) : L2.It :=
  ⟨fun i H => ∃ (xs : List V) (x : V), SqT K H a xs ∧ xs[i]? = some x, fun i H v H' => ∃ T x, v = .ref T ∧ H T = none ∧ H' = upd H T (.tup [.int (i : Nat), x]) ∧ ∀ xs, SqT K H a xs → xs[i]? = some x, fun i H => ∃ xs : List V, SqT K H a xs ∧ xs.length ≤ i⟩
theorem turn_enumT {P : Program} {w : World} {K : PySem.W.Frag} {elts : List Expr} {kk : Nat} {tpos : Pos} (a e it : Addr) (hai : a ≠ it) (hea : e ≠ a) :
    Turn P w K (.Tuple elts kk tpos) (Itet K a) [e, it] e (fun i h => (∃ old, IsEnum h e it ((i : Nat) : Int) old) ∧ h.IsTupleIter it a i ∧ e ≠ it) where
  mem := by simp
  obj := fun i h st b hb => by
    obtain ⟨⟨old, he⟩, ⟨o, ho, hc, hd⟩, _⟩ := st
    have e' : b = e ∨ b = it := by simpa using hb
    rcases e' with z | z
    · rw [z]; exact ⟨_, he, fun v q => nomatch q⟩
    · rw [z]; exact ⟨o, ho, fun v q => by rw [hd] at q; cases q⟩
  keep := fun i h h' st k => let ⟨⟨old, he⟩, hi, hne⟩ := st; ⟨⟨old, k e (by simp) _ he⟩, hi.at fun o q => k it (by simp) o q, hne⟩
  item := by
    intro X hP hw hK hc i pins s σ H E I hf st hg
    subst hP hw hK
    obtain ⟨⟨old, he⟩, hit, hne⟩ := st
    obtain ⟨xs, x, hq, hx⟩ := hg
    obtain ⟨its, rv, p, hz⟩ := I.tuple hq
    obtain ⟨u, hu, ru⟩ := rv.get hx
    have hel : e < s.heap.objs.size := Heap.lt_size he
    have hil : it < s.heap.objs.size := by obtain ⟨_, q, _⟩ := hit; exact Heap.lt_size q
    have hlt : i < its.toArray.size := by
      have := (List.getElem?_eq_some_iff.mp hu).1
      simpa using this
    refine wpAny_pyNext_enum_itemD (Draws.tuple (A := X.A.in1) (show X.A.in1.handled = none from I.ok.hd hc) it a hai its.toArray) he ⟨hit, p⟩ hlt hne (by simp [hne, hea]) fun y h' tk hy ho hst' hT hsz hk => ?_
    obtain ⟨hit', _⟩ := hst'
    have ey : y = u := by
      have h2 : its[i]? = some y := by simpa using hy
      rw [hu] at h2; cases h2; rfl
    subst ey
    refine ⟨_, rfl, wpAny_letOwnedTupleGo_enum (s := { s with heap := h', toks := tk + 1 }) ho fun h'' he' sb => ?_⟩
    have hT2 : h''.get? s.heap.objs.size = some { cls := .type "tuple", data := .seq #[.int i tk, y] } := (sb.2 _ (Nat.ne_of_gt hel)).trans hT
    have new : ObjOk X.prog X.w (upd H s.heap.objs.size (.tup [.int (i : Nat), x])) h'' s.heap.objs.size (.tup [.int (i : Nat), x]) :=
      ⟨by show 2 ≤ sizeLine; decide, [.int i tk, y], .cons ⟨_, rfl⟩ (.cons ru .nil), ⟨_, hT2, rfl, _, rfl⟩⟩
    have I1 : Inv X pins σ (upd H s.heap.objs.size (.tup [.int (i : Nat), x])) { s with heap := h'', toks := tk + 1 } :=
      I.turnedNew (t' := tk + 1) (ch := [e, it]) (fun b ob hb q => (sb.2 b (fun z => hb (by simp [z]))).trans (hk b ob (fun z => hb (by simp [z])) (fun z => hb (by simp [z])) q)) hf (Nat.le_refl _) new
    refine ⟨.ref s.heap.objs.size, _, I1, rfl, ⟨_, x, rfl, I.hok.fresh (Nat.le_refl _), rfl, fun ys hy => by rw [I.tuple_inj hy hq]; exact hx⟩, ⟨⟨y, ?_⟩, hit'.at fun o q => (sb.2 it (Ne.symm hne)).trans q, hne⟩, fun b hb => ?_⟩
    · have e1 : ((i + 1 : Nat) : Int) = (i : Int) + 1 := by omega
      rw [e1]; exact he'
    · have hb' : b < s.heap.objs.size := by
        have e' : b = e ∨ b = it := by simpa using hb
        rcases e' with z | z
        · rw [z]; exact hel
        · rw [z]; exact hil
      rw [upd_ne (Nat.ne_of_lt hb')]
      exact (hf b hb).1
  done := by
    intro X hP hw hK hc i pins s σ H E I hf st hg
    subst hP hw hK
    obtain ⟨⟨old, he⟩, hit, hne⟩ := st
    obtain ⟨xs, hq, hx⟩ := hg
    obtain ⟨its, rv, p, hz⟩ := I.tuple hq
    obtain ⟨f0, f1, f2, f3, f4, f5⟩ := hf it (by simp)
    have hl := rv.length
    have hge : its.length ≤ i := by omega
    have hty : s.TypeIs (.ref e) "enumerate" := ⟨_, he, rfl⟩
    unfold pyNext
    refine wpAny_bind (wpAny_attempt (wpAny_callSpecial?_slot (name := Str.ofString "__next__") hty F.slot_enumerate_next
      (wpAny_call_entry F.slot_enumerate_next hty F.entry_enumerate_next ?_ (F.args_enumerate_next_1 _))))
    show wpAny _ _ (field (.ref e) 2 >>= _) _ _ _
    refine wpAny_bind (wpAny_field he rfl (x := .ref it) rfl ?_)
    refine wpAny_bind (wpAny_nextOf_tuple_end (I.ok.hd hc) hit p (by simpa using hge) fun h' x he' hx' => ?_)
    obtain ⟨o, ho, hc'⟩ := hx'
    refine wpAny_bind (wpAny_isInstance (T := "StopIteration") (b := true) ⟨o, ho, hc'⟩ isSubtype_stop ?_)
    exact wpAny_pure ⟨rfl, I.turned (t' := s.toks) (fun b o hb q => he' b o hb q) f0 f1 f3 f4 f5⟩
  self := fun A i s Q E st h => let ⟨⟨_, he⟩, _⟩ := st; wpAny_pyIter_enum he h
def iEnumT (K : PySem.W.Frag) (ta : TA) : TI := fun σ H R => ta σ H fun vs H1 => ∃ a xs, vs = [.ref a] ∧ SqT K H1 a xs ∧ R (Itet K a) H1
section
variable {X : Cx} {e : Expr} {p pos tpos : Pos} {elts : List Expr} {kk : Nat}
theorem pi_enumT {ta : TA} (hg : Gl X "enumerate") (hm : X.mg "enumerate" = none) (ha : PA X [e] ta) (hs : starEach [e] X.env = [(false, eval e X.env)]) :
    PI X (.Tuple elts kk tpos) (.Call (.Name "enumerate" p) [e] [] pos) (iEnumT X.K ta) := by
  refine ⟨fun pins s σ H R I h => ?_⟩
  refine Call_ (ld_blt I hg hm boot_enumerate (PyProof.Rows.callWith_type1 (thn (ha.run pos pins s σ H _ I h) fun us s1 ⟨vs, H1, I1, r1, q1⟩ => ?_) hs rfl))
  obtain ⟨a, xs, ex, hq, q⟩ := q1
  subst ex
  cases r1 with
  | cons r rr =>
    cases rr
    cases r
    obtain ⟨its, rv, p', hz⟩ := I1.tuple hq
    have hal : a < s1.heap.objs.size := by obtain ⟨_, q, _⟩ := p'; exact Heap.lt_size q
    refine call_enumerate_tuple p' fun h' he hit hsz hk => wpAny_pyIter_enum he ?_
    have I2 : Inv X pins σ H1 { s1 with heap := h' } := I1.kept (t' := s1.toks) hk
    refine ⟨s1.heap.objs.size + 1, [s1.heap.objs.size + 1, s1.heap.objs.size], _, _, H1, rfl, I2, turn_enumT a (s1.heap.objs.size + 1) s1.heap.objs.size (Nat.ne_of_lt hal) (Nat.ne_of_gt (Nat.lt_succ_of_lt hal)), ⟨⟨.none, he⟩, hit, Nat.succ_ne_self _⟩, fun b hb => ?_, q⟩
    have e' : b = s1.heap.objs.size + 1 ∨ b = s1.heap.objs.size := by simpa using hb
    have hle : s1.heap.objs.size ≤ b := by
      rcases e' with z | z
      · rw [z]; exact Nat.le_add_right _ _
      · rw [z]; exact Nat.le_refl _
    exact I1.fpOk hle (I1.hok.fresh hle)
variable {G : Gl0} {Wx : WX} {fa : St → Re U}
theorem enumL_get : ∀ {xs : List U} {n i : Nat}, (enumL n xs)[i]? = (xs[i]?).map fun x => .tup [.int ((n + i : Nat) : Int), x]
  | [], n, i => by simp [enumL]
  | x :: xs, n, 0 => by simp [enumL]
  | x :: xs, n, i + 1 => by
    simp only [enumL, List.getElem?_cons_succ]
    rw [enumL_get]
    congr 2
    funext y
    have : n + 1 + i = n + (i + 1) := by omega
    rw [this]
theorem enum_yld {b : Ba} {W1 : Wd} {s : St} {σ : L2.St} {H : L2.Hp} {i : Nat} {u : U} {x v : V} {T : Addr} (B : BSim G b W1 s σ H) (r : Rep G W1 u x) (hT : H T = none) : ∃ W2, W1.le W2 ∧ Rep G W2 (.tup [.int (i : Nat), u]) (.ref T) ∧ BSim G b W2 s σ (upd H T (.tup [.int (i : Nat), x])) :=
  ⟨_, B.le_newF (o := .tup [.int (i : Nat), x]) hT, .tup Wd.addF_same (.cons (.int _) (.cons (r.mono (B.le_newF hT)) .nil)), B.newF hT fun _ z => by cases z⟩
theorem walk_enumL {W : Wd} {xs : List U} {vs : List V} {l : Addr} (rs : Reps G W xs vs) (h : ∀ H : L2.Hp, (∀ a o, W.fz a = some o → H a = some o) → SqL G.K H l vs) : WalkL G W (enumL 0 xs) (Ite G.K l) := by
  intro b W1 s σ H i B le
  have hq := h H fun a o e => B.fzin (le.fz a o e)
  refine ⟨fun u e => ?_, fun e => ⟨vs, hq, ?_⟩⟩
  · rw [enumL_get, Nat.zero_add] at e
    obtain ⟨y, hy, rfl⟩ := Option.map_eq_some_iff.mp e
    obtain ⟨v, h1, h2⟩ := rs.get hy
    refine ⟨⟨vs, v, hq, h1⟩, fun x H' ⟨T, z, e1, e2, e3, e4⟩ => ?_⟩
    have := e4 vs hq
    rw [h1] at this
    cases this
    subst e1 e3
    exact enum_yld (v := v) B (h2.mono le) e2
  · rw [enumL_get] at e
    rw [← rs.length]; exact List.getElem?_eq_none_iff.mp (Option.map_eq_none_iff.mp e)
theorem walk_enumT {W : Wd} {xs : List U} {vs : List V} {l : Addr} (rs : Reps G W xs vs) (h : ∀ H : L2.Hp, (∀ a o, W.fz a = some o → H a = some o) → SqT G.K H l vs) : WalkL G W (enumL 0 xs) (Itet G.K l) := by
  intro b W1 s σ H i B le
  have hq := h H fun a o e => B.fzin (le.fz a o e)
  refine ⟨fun u e => ?_, fun e => ⟨vs, hq, ?_⟩⟩
  · rw [enumL_get, Nat.zero_add] at e
    obtain ⟨y, hy, rfl⟩ := Option.map_eq_some_iff.mp e
    obtain ⟨v, h1, h2⟩ := rs.get hy
    refine ⟨⟨vs, v, hq, h1⟩, fun x H' ⟨T, z, e1, e2, e3, e4⟩ => ?_⟩
    have := e4 vs hq
    rw [h1] at this
    cases this
    subst e1 e3
    exact enum_yld (v := v) B (h2.mono le) e2
  · rw [enumL_get] at e
    rw [← rs.length]; exact List.getElem?_eq_none_iff.mp (Option.map_eq_none_iff.mp e)
theorem walk_enumV {W : Wd} {r : Nat} {l : Addr} (hm : W.m[r]? = some l) : WalkV G W r true (Ite G.K l) := by
  intro b W1 s σ H i B le
  have hm1 := le.get hm
  unfold liveAt
  cases hk : s.hp[r]? with
  | none => exact ⟨fun u e => (by simp at e), fun e => (by simp at e)⟩
  | some o =>
    cases o with
    | dct _ _ => exact ⟨fun u e => (by simp at e), fun e => (by simp at e)⟩
    | ins _ _ => exact ⟨fun u e => (by simp at e), fun e => (by simp at e)⟩
    | lst xs =>
      obtain ⟨vs, h1, h2⟩ := B.h.box r _ l hk hm1
      have hq : SqL G.K H l vs := SqL.of h1
      dsimp only
      refine ⟨fun u e => ?_, fun e => ⟨vs, hq, ?_⟩⟩
      · cases hx : xs[i]? with
        | none => rw [hx] at e; cases e
        | some x =>
          rw [hx] at e
          cases e
          obtain ⟨v, g1, g2⟩ := h2.get hx
          refine ⟨⟨vs, v, hq, g1⟩, fun y H' ⟨T, z, e1, e2, e3, e4⟩ => ?_⟩
          have := e4 vs hq
          rw [g1] at this
          cases this
          subst e1 e3
          exact enum_yld (v := v) B g2 e2
      · cases hx : xs[i]? with
        | none => rw [← h2.length]; exact List.getElem?_eq_none_iff.mp hx
        | some x => rw [hx] at e; cases e
def enumIt (x : U) (s1 : St) : Re Src := match x with
    | .tup xs => .ok (.snap (enumL 0 xs)) s1
    | .lst xs => .ok (.snap (enumL 0 xs)) s1
    | .ref r => (match s1.hp[r]? with
      | some (.lst _) => .ok (.live r true) s1
      | _ => .bad)
    | _ => .bad
theorem xi_enum (hK : X.K = G.K) (hg : Gl X "enumerate") (hm : X.mg "enumerate" = none) (ha : PE X e (RE G Wx fa)) (hs : notStar e = true) : PI X (.Tuple elts kk tpos) (.Call (.Name "enumerate" p) [e] [] pos) (RI G Wx fun s => (fa s).bnd enumIt) := by
  have st : starEach [e] X.env = [(false, eval e X.env)] := star_of hs _ _
  have pa : PA X [e] (fun σ H Q => RE G Wx fa σ H fun v H1 => Q [v] H1) := PA.imp (pa_cons ha pa_nil st) fun σ H Q h => h
  refine PI.imp (PI.or (pi_enum hg hm pa st) (pi_enumT hg hm pa st)) fun σ H R ⟨b, W, s, B, ok⟩ => ?_
  rw [hK]
  cases e1 : fa s with
  | bad => simp only [e1] at ok; exact (show False from ok).elim
  | ex c u s1 =>
    refine .inl ⟨b, W, s, B, ?_⟩
    simp only [e1] at ok ⊢
    exact ok
  | ok x s1 =>
    cases x with
    | lst xs =>
      refine .inl ⟨b, W, s, B, then_eq ok fun W1 s1' x' H1 e' le B1 q v r => ?_⟩
      rw [e1] at e'; cases e'
      cases r with
      | @lst _ l vs h1 h2 => exact ⟨l, vs, rfl, SqL.of (B1.fzin h1), q W1 H1 .rfl' B1 _ (show WalkG G W1 (.snap _) _ from walk_enumL h2 fun H' k => SqL.of (k _ _ h1))⟩
    | tup xs =>
      refine .inr ⟨b, W, s, B, then_eq ok fun W1 s1' x' H1 e' le B1 q v r => ?_⟩
      rw [e1] at e'; cases e'
      cases r with
      | @tup _ l vs h1 h2 => exact ⟨l, vs, rfl, SqT.of (B1.fzin h1), q W1 H1 .rfl' B1 _ (show WalkG G W1 (.snap _) _ from walk_enumT h2 fun H' k => SqT.of (k _ _ h1))⟩
      | @ktup _ l vs h1 _ h2 => exact ⟨l, vs, rfl, .inr h1, q W1 H1 .rfl' B1 _ (show WalkG G W1 (.snap _) _ from walk_enumT h2 fun H' k => .inr h1)⟩
    | ref r =>
      refine .inl ⟨b, W, s, B, then_eq ok fun W1 s1' x' H1 e' le B1 q v rr => ?_⟩
      rw [e1] at e'; cases e'
      unfold enumIt at q
      dsimp only at q
      split at q
      · rename_i xs hk
        cases rr with
        | @ref _ l hm2 =>
        obtain ⟨vs, h1, h2⟩ := B1.h.box r _ l hk hm2
        exact ⟨l, vs, rfl, SqL.of h1, q W1 H1 .rfl' B1 _ (show WalkG G W1 (.live r true) _ from walk_enumV hm2)⟩
      · exact (show False from q).elim
    | _ => simp only [e1] at ok; exact (show False from ok).elim
end
end Pix
end
section
set_option Elab.async false
set_option linter.all false
set_option maxRecDepth 100000
set_option maxHeartbeats 1000000
/-! PixY3: dict comprehensions with keys of either kind, dict displays, dict(d). -/
namespace Pix
open PySem PySem.Spec PyProof.Rows L2
/-- an empty dict of a kind -/
def emp0 : Bool → HO
  | false => .dK []
  | true => .dT []
theorem emp0_ok {P : Program} {w : World} {H : L2.Hp} (t : Bool) (h : Heap) (hb : sysModules < h.objs.size) : ObjOk P w H (h.push { cls := .type "dict", data := .dict #[] }) h.objs.size (emp0 t) := by
  cases t
  · exact dk_empty h hb
  · exact dt_empty h hb
/-- a comprehension's store -/
theorem put_comp {X : Cx} {pins : List (Addr × Obj)} {σ : L2.St} {H H' : L2.Hp} {s : Shared} {E : Value → Shared → Prop} {a : Addr} {y v : V} {u r : Value} {Q : Unit → Shared → Prop} (hu : X.A.units + 1 < cLine) (I : Inv X pins σ H s) (g : DPut H a y v H') (ry : RelV y u) (rv : RelV v r)
    (h : ∀ s', Inv X pins σ H' s' → Q () s') : wpAny (model X.prog X.w) X.A (dictSet a u r) Q E s := by
  rcases g with ⟨es, k, e1, e2, lt, e3⟩ | ⟨es, k, b, e1, e2, eb, lt, e3⟩
  · subst e2 e3
    exact d_dictSet I e1 lt ry rv h
  · subst e2 e3
    obtain rfl : u = Value.ref b := ry
    obtain ⟨z, nm, xs, rel, dd⟩ := dt_of I.hok e1
    have l1 : xs.length ≤ sizeLine := by rw [← Paired.length rel]; exact z
    have l2 : (putK es k v).length ≤ sizeLine := by have := length_putK es k v; omega
    refine wpAny_dictSet_heap (hsz := l1) (show (tupleKind (mixKind X.prog X.w)).room X.A from by
      show X.A.units < cLine
      omega) (key_of I.hok eb) dd fun h2 dd2 same => h _ ?_
    obtain ⟨o, en, ep, ho, c1, c2, c3, _, c4⟩ := dd2
    refine d_write I (by rw [e1]; exact True.intro) same ⟨o, ho⟩ ⟨l2, nm, _, (rel.put k eb rv).keeps fun c zs ec => ?_, o, en, ep, ho, c1, c2, c3, c4⟩
    rw [upd_ne (ne_of ec e1 (fun z => nomatch z))]
    exact ec
section
variable {X : Cx}
/-- {k: v for .. in ..}, the dict at D from the first turn on -/
def tDcm (t : Bool) (wi : TI) (g : TG) (tk tv : TE) (vs : List Nat) : TE := fun σ H Q => wi σ H fun J H1 => ∀ D, H1 D = none → ∃ W : Nat → Nat → L2.Hp → Prop, (∃ m, W 0 m (upd H1 D (emp0 t))) ∧ ∀ i m H, W i m H →
  (J.stop i H ∧ Q (.ref D) H) ∨ (J.go i H ∧ ∃ Nx : L2.Hp → Prop, (∀ H', Nx H' → ∃ m', m' < m ∧ W (i + 1) m' H') ∧ ∀ x H', J.yld i H x H' → g x (L2.wipe σ vs) H' fun σ2 H2 => L2.wipe σ2 vs = L2.wipe σ vs ∧
    tk σ2 H2 fun y H4 => tv σ2 H4 fun z H5 => ∃ H6, DPut H5 D y z H6 ∧ Nx H6)
theorem pe_dcm {kx vx tg iter : Expr} {scope : Scope} {own : List (PySem.Str × Nat)} {pos : Pos} {t : Bool} {wi : TI} {g : TG} {tk tv : TE} (hu : X.A.units + 1 < cLine) (hc : X.calm = true) (hN : X.N.Nodup) (hi : PI X tg iter wi) (ok : BlkOk X.N X.env.scope scope own)
    (hg : ∀ (s : Shared) (H : L2.Hp) (C : Addr) (cl : List (PySem.Str × Addr)) (fp : List Addr), PG (X.blk s H scope (compEnvC scope cl C X.env) fp) tg g)
    (hk : ∀ (s : Shared) (H : L2.Hp) (C : Addr) (cl : List (PySem.Str × Addr)) (fp : List Addr), PE (X.blk s H scope (compEnvC scope cl C X.env) fp) kx tk)
    (hv : ∀ (s : Shared) (H : L2.Hp) (C : Addr) (cl : List (PySem.Str × Addr)) (fp : List Addr), PE (X.blk s H scope (compEnvC scope cl C X.env) fp) vx tv) (hf : ∀ x, foldedSetIterable iter X.env x = pure x) :
    PE X (.DictComp kx vx [⟨tg, iter, [], 0⟩] scope pos) (tDcm t wi g tk tv (own.map (·.2))) := by
  refine ⟨fun pins s σ H Q I q0 => ?_⟩
  rw [arm_eval_DictComp]
  have cells : ∀ y ∈ scope.names, y.2 = .free → ∃ c, X.env.cells.lookup y.1 = some c := fun y hy e => (ok.free y hy e).elim (fun z => I.ok.has _ (.inl z)) fun z => I.ok.has _ (.inr z)
  refine wpAny_comprehension_free rfl hf (closure_ok cells) ok.kind (fun y hy e => by rw [ok.uniq y hy, e]) (thn (hi.run pins s σ H _ I q0) fun _ s1 z1 => thn z1 fun _ s2 z2 => ?_)
  obtain ⟨it, fp, tn, J, H2, rfl, I2, T, st, fpo, q⟩ := z2
  refine wpAny_newObj_type (newEnv_comp ?_)
  generalize eD : s2.heap.objs.size = D
  have hD : H2 D = none := I2.hok.fresh (Nat.le_of_eq eD)
  obtain ⟨W, ⟨m0, w0⟩, turn⟩ := q D hD
  generalize e3 : ({ s2 with heap := s2.heap.push { cls := .type "dict", data := .dict #[] } } : Shared) = s3
  have hp3 : s3.heap = s2.heap.push { cls := .type "dict", data := .dict #[] } := by rw [← e3]
  have I3 : Inv X pins σ (upd H2 D (emp0 t)) s3 := by
    subst eD
    rw [← e3]
    exact I2.laid (t' := s2.toks) (fun b o e => Heap.get?_push_of_some _ e) (Nat.le_refl _) (emp0_ok t s2.heap I2.big)
  have old : ∀ b ∈ fp, b < s2.heap.objs.size := fun b hb => (T.obj _ _ st b hb).elim fun o z => Heap.lt_size z.1
  have fp3 : ∀ b ∈ fp, FpOk X pins (upd H2 D (emp0 t)) b ∧ b < s3.heap.objs.size := fun b hb => by
    have lt := old b hb
    refine ⟨⟨by rw [upd_ne (by rw [← eD]; exact Nat.ne_of_lt lt)]; exact (fpo b hb).1, (fpo b hb).2⟩, ?_⟩
    rw [hp3, Heap.size_push]; exact Nat.lt_succ_of_lt lt
  have st3 : tn 0 s3.heap := T.keep _ _ _ st fun b _ o e => by rw [hp3]; exact Heap.get?_push_of_some _ e
  have I4 := block_start I3 ok hN fp3
  have pg := hg s3 (upd H2 D (emp0 t)) s3.heap.objs.size (cellsFrom (s3.heap.objs.size + 1) scope.names (cloFrom X.env.cells scope.names [])) fp
  have pk := hk s3 (upd H2 D (emp0 t)) s3.heap.objs.size (cellsFrom (s3.heap.objs.size + 1) scope.names (cloFrom X.env.cells scope.names [])) fp
  have pv := hv s3 (upd H2 D (emp0 t)) s3.heap.objs.size (cellsFrom (s3.heap.objs.size + 1) scope.names (cloFrom X.env.cells scope.names [])) fp
  have fpn : ∀ b ∈ fp, (upd H2 D (emp0 t)) b = none := fun b hb => (fp3 b hb).1.1
  change codeAny _ _ (.compStart (.DictComp kx vx [⟨tg, iter, [], 0⟩] scope pos) 0 (.ref it) (.ref D) (compEnvC scope (cellsFrom (s3.heap.objs.size + 1) scope.names (cloFrom X.env.cells scope.names [])) s3.heap.objs.size X.env)) _ { s3 with heap := pushCells (s3.heap.push { cls := .type "dict", data := .dict #[] }) scope.names }
  generalize eE : compEnvC scope (cellsFrom (s3.heap.objs.size + 1) scope.names (cloFrom X.env.cells scope.names [])) s3.heap.objs.size X.env = env at I4 pg pk pv ⊢
  have eL : env.locals = s3.heap.objs.size := by rw [← eE]; rfl
  generalize eH : upd H2 D (emp0 t) = H3 at I3 I4 pg pk pv w0 fpn fp3
  generalize e4 : ({ s3 with heap := pushCells (s3.heap.push { cls := .type "dict", data := .dict #[] }) scope.names } : Shared) = s4 at I4 ⊢
  have st4 : tn 0 s4.heap := T.keep _ _ _ st3 fun b _ o e => by rw [← e4]; exact pushCells_keeps _ _ _ _ (Heap.get?_push_of_some _ e)
  have still : ∀ {τ : L2.St} {H' : L2.Hp} {z : Shared}, Inv (X.blk s3 H3 scope env fp) [] τ H' z → (∀ b ∈ fp, H' b = none) → ∀ b ∈ fp, FpOk (X.blk s3 H3 scope env fp) [] H' b := fun J' hn b hb =>
    ⟨hn b hb, (J'.ok.exf b hb).1, J'.ok.exfs b hb, .inl hb, fun x c e => (J'.ok.exf b hb).2 x c e, fun p hp => absurd (show p ∈ ([] : List (Addr × Obj)) ++ [] from hp) (by simp)⟩
  refine codeAny_compStart_dict ?_ (T.self X.A 0 _ _ _ st4 ?_)
  all_goals
    refine compLoop_anyD (fun m z => ∃ i H', Inv (X.blk s3 H3 scope env fp) [] (L2.wipe σ (own.map (·.2))) H' z ∧ tn i z.heap ∧ (∀ b ∈ fp, H' b = none) ∧ W i m H') ?_ m0 ⟨0, H3, I4, st4, fpn, w0⟩
    rintro m s5 ⟨i, H5, I5, st5, n5, w5⟩
    rcases turn i m H5 w5 with ⟨stop, fin⟩ | ⟨go, Nx, hNx, step⟩
    · refine thnF (T.done (X.blk s3 H3 scope env fp) rfl rfl rfl hc i [] s5 _ H5 (fun _ _ => False) I5 (still I5 n5) st5 stop) fun r s6 ⟨hr, I6⟩ => ?_
      subst hr
      have I7 : Inv X pins σ H5 s6 := I3.call' (ch := fp) I6.os I6.base I6.hok I6.bare fun b hb => ⟨(fp3 b hb).1.2.2.2.1, (fp3 b hb).1.2.1, (fp3 b hb).1.2.2.2.2.1, (fp3 b hb).1.2.2.2.2.2⟩
      have free : H5 s3.heap.objs.size = none := by rw [← eL]; exact I6.free
      obtain ⟨mm, hn, _⟩ := I6.loc
      obtain ⟨f0, f1, f2, f3, f4, f5⟩ := I3.fpOk (Nat.le_refl _) free
      exact ⟨mm, by rw [← eL]; exact hn, fun h'' sb => ⟨.ref D, H5, I7.turned (t' := s6.toks) (fun b o hb e => (sb.2 b hb).trans e) f0 f1 f3 f4 f5, rfl, fin⟩⟩
    · refine thnF (T.item (X.blk s3 H3 scope env fp) rfl rfl rfl hc i [] s5 _ H5 (fun _ _ => False) I5 (still I5 n5) st5 go) fun r s6 ⟨u, hr, z6⟩ => ?_
      subst hr
      refine thnF z6 fun _ s7 ⟨x, H7, I7, r7, y7, st7, n7⟩ => ?_
      refine thnF (pg.run _ s7 _ H7 x u _ (I7.pinned (still I7 n7) (T.obj _ _ st7)) r7 (step x H7 y7)) fun _ s8 ⟨σ8, H8, I8, hw8, q8⟩ => ?_
      refine wpAny_pure ?_
      show wpAny _ _ _ _ _ _
      refine thnF (pk.run _ s8 σ8 H8 _ I8 q8) fun ky s9 ⟨y, H9, I9, r9, q9⟩ => ?_
      refine thnF (pv.run _ s9 σ8 H9 _ I9 q9) fun kv s10 ⟨v, H10, I10, r10, H11, put, nx⟩ => ?_
      refine put_comp (X := X.blk s3 H3 scope env fp) hu I10 put r9 r10 fun s11 I11 => ?_
      obtain ⟨m', hm, w'⟩ := hNx H11 nx
      have pin : ∀ b ∈ fp, ∀ o, s7.heap.get? b = some o → s11.heap.get? b = some o ∧ H11 b = none := fun b hb o e => (I11.pin (b, o) (List.mem_append_right _ (List.mem_append_right _ (mem_pinsAt hb e)))).elim fun a c => ⟨a, c.1⟩
      refine ⟨m', hm, i + 1, H11, (I11.unpinned (pins := [])).weak (by rw [← hw8, L2.wipe_length]) (fun j z e => ?_), T.keep _ _ _ st7 fun b hb o e => (pin b hb o e).1, fun b hb => ?_, w'⟩
      · rw [← hw8] at e
        exact (L2.wipe_some e).1
      · exact (T.obj _ _ st7 b hb).elim fun o z => (pin b hb o z.1).2
end
section
variable {G : Gl0} {p : Px} {X : Cx} {Wx : WX} {σ : L2.St}
/-- a fresh dict -/
def DRep (G : Gl0) (W : Wd) (t : Bool) (kvs : List (U × U)) (o : HO) : Prop := match t with
  | false => ∃ es, o = .dK es ∧ RepK G W kvs es
  | true => ∃ es, o = .dT es ∧ RepT G W kvs es
theorem DRep.mono {W W' : Wd} {t : Bool} {kvs : List (U × U)} {o : HO} (h : W.le W') (r : DRep G W t kvs o) : DRep G W' t kvs o := by
  cases t
  · obtain ⟨es, e, q⟩ := r; exact ⟨es, e, q.mono h⟩
  · obtain ⟨es, e, q⟩ := r; exact ⟨es, e, q.mono h⟩
theorem DRep.nown {W : Wd} {t : Bool} {kvs : List (U × U)} {o : HO} (r : DRep G W t kvs o) : ∀ x, o ≠ .own x := fun x z => by
  cases t <;> (obtain ⟨es, e, _⟩ := r; subst e; cases z)
theorem DRep.rep {W : Wd} {t : Bool} {kvs : List (U × U)} {o : HO} {a : Addr} (r : DRep G W t kvs o) (h : W.fz a = some o) : Rep G W (.dct t kvs) (.ref a) := by
  cases t
  · obtain ⟨es, e, q⟩ := r; subst e; exact .dK h q
  · obtain ⟨es, e, q⟩ := r; subst e; exact .dT h q
theorem DRep.box {W : Wd} {t : Bool} {kvs : List (U × U)} {o : HO} {a : Addr} {H : L2.Hp} (r : DRep G W t kvs o) (h : H a = some o) : BoxAt G W H (.dct t kvs) a := by
  cases t
  · obtain ⟨es, e, q⟩ := r; subst e; exact ⟨es, h, q⟩
  · obtain ⟨es, e, q⟩ := r; subst e; exact ⟨es, h, q⟩
abbrev kD (G : Gl0) (Q : VK) : Wd → St → Bool × List (U × U) → L2.Hp → Prop := fun W' _ q H' => ∀ l o, DRep G W' q.1 q.2 o → H' l = none → Q (.ref l) (upd H' l o)
def RDi (G : Gl0) (Wx : WX) (f : St → Re (Bool × List (U × U))) : TE := fun σ H Q => ∃ b W s, BSim G b W s σ H ∧ okR G b W σ Wx (kD G Q) (f s)
theorem xe_frd {e : Expr} {f : St → Re (Bool × List (U × U))} (h : PE X e (RDi G Wx f)) : PE X e (RE G Wx fun s => (f s).bnd fun q s1 => .ok (.dct q.1 q.2) s1) := by
  refine PE.imp h fun σ H Q ⟨b, W, s, B, ok⟩ => ⟨b, W, s, B, ok.then fun W1 s1 q H1 le B1 k l o r hp => ?_⟩
  have le2 := B1.le_newF (o := o) hp
  exact k _ _ le2 (B1.newF hp r.nown) _ ((r.mono le2).rep Wd.addF_same)
theorem xe_bxd {e : Expr} {f : St → Re (Bool × List (U × U))} (h : PE X e (RDi G Wx f)) : PE X e (RE G Wx fun s => (f s).bnd fun q s1 => .ok (.ref s1.hp.length) { s1 with hp := s1.hp ++ [.dct q.1 q.2] }) := by
  refine PE.imp h fun σ H Q ⟨b, W, s, B, ok⟩ => ⟨b, W, s, B, ok.then fun W1 s1 q H1 le B1 k l o r hp => ?_⟩
  have B2 := B1.newB (o := .dct q.1 q.2) (x := o) hp (r.box upd_same)
  refine k _ _ Wd.le_addB B2 _ (.ref ?_)
  show (W1.m ++ [l])[s1.hp.length]? = some l
  rw [B1.h.len, List.getElem?_concat_length]
theorem compD_ok {t : T} {vs : List Nat} {kv : St → Re (U × U)} {x : U} {xs : List U} {acc ys : List (U × U)} {s s2 : St} (h : compD t vs kv (x :: xs) s acc = .ok ys s2) :
    ∃ fr q s3, bindT t x (wipe s.fr vs) = some fr ∧ kv { s with fr := fr } = .ok q s3 ∧ compD t vs kv xs s3 (dput q.1 q.2 acc) = .ok ys s2 := by
  simp only [compD] at h
  split at h
  · cases h
  · rename_i fr e
    cases e1 : kv { s with fr := fr } with
    | bad => simp only [e1] at h; cases h
    | ex c u s3 => simp only [e1] at h; cases h
    | ok q s3 => simp only [e1, Re.bnd] at h; exact ⟨fr, q, s3, e, e1, h⟩
/-- a key that may be stored, stored -/
theorem dput_rep {W : Wd} {s : St} {b : Ba} {H : L2.Hp} {t : Bool} {kvs : List (U × U)} {o : HO} {a : Addr} {x y : U} {vx vy : V} (hp : p.kts = G.kts) (B : BSim G b W s σ H) (r : DRep G W t kvs o) (ha : H a = some o) (hz : kvs.length < SZ) (hput : putOk p t x = true) (r1 : Rep G W x vx) (r2 : Rep G W y vy) :
    ∃ o', DPut H a vx vy (upd H a o') ∧ DRep G W t (dput x y kvs) o' := by
  have e3 := line_eq
  unfold putOk at hput
  rw [Bool.and_eq_true] at hput
  cases t with
  | false =>
    obtain ⟨es, e, rr⟩ := r
    subst e
    obtain ⟨k, ek⟩ := keyOf_some hput.1
    have el := rr.length
    exact ⟨.dK (putK es k vy), .inl ⟨es, k, ha, keyOf_rep r1 ek, by omega, rfl⟩, _, rfl, rr.put ek r2⟩
  | true =>
    obtain ⟨es, e, rr⟩ := r
    subst e
    cases x <;> first | exact absurd hput.1 Bool.false_ne_true | skip
    rename_i zs
    obtain ⟨ks, ek⟩ := mapO_key (xs := zs) hput.1
    have el := rr.length
    cases r1 with
    | @ktup _ kb kv hkk hkt rz =>
      have := hput.2
      dsimp only at this
      rw [hp, hkt] at this
      cases this
    | @tup _ kb kv hkk rz =>
      have e : kv = ks.map kV := keys_rep rz ek
      exact ⟨.dT (putK es ks vy), .inr ⟨es, ks, kb, ha, rfl, by rw [← e]; exact B.fzin hkk, by omega, rfl⟩, _, rfl, rr.put (u := .tup zs) ek r2⟩
def compDF (tk : Bool) (t : T) (vs : List Nat) (p : Px) (fk fv : St → Re U) (fi : St → Re Src) : St → Re (Bool × List (U × U)) := fun s => (fi s).bnd fun src s1 => match src with
    | .snap xs => if noOwn s1.fr vs then
      (noEx (compD t vs (fun s2 => (fk s2).bnd fun x s3 => if putOk p tk x then (fv s3).bnd fun y s4 => .ok (x, y) s4 else .bad) xs s1 [])).bnd fun ys s2 => if ys.length < SZ then .ok (tk, ys) { s2 with fr := back s1.fr s2.fr vs } else .bad else .bad
    | _ => .bad
theorem dput_len (x y : U) (kvs : List (U × U)) : (dput x y kvs).length ≤ kvs.length + 1 ∧ kvs.length ≤ (dput x y kvs).length := by
  unfold dput
  split <;> simp
theorem compD_len {t : T} {vs : List Nat} {kv : St → Re (U × U)} : ∀ {xs : List U} {s s2 : St} {acc ys : List (U × U)}, compD t vs kv xs s acc = .ok ys s2 → acc.length ≤ ys.length
  | [], s, s2, acc, ys, h => by simp only [compD, Re.ok.injEq] at h; rw [h.1]; exact Nat.le_refl _
  | x :: xs, s, s2, acc, ys, h => by
    obtain ⟨fr, q, s3, _, _, e⟩ := compD_ok h
    exact Nat.le_trans (dput_len _ _ _).2 (compD_len e)
theorem compD_imp {t : T} {tk : Bool} {vs : List Nat} {fk fv : St → Re U} {fi : St → Re Src} (hp : p.kts = G.kts) {b : Ba} {W : Wd} {s : St} {H : L2.Hp} {Q : VK} (B : BSim G b W s σ H) (hsl : ∀ i ∈ T.slots t, i ∈ vs)
    (ok : okR G b W σ Wx (kD G Q) (compDF tk t vs p fk fv fi s)) : tDcm tk (RI G Wx fi) (RG G t) (RE G W0 fk) (RE G W0 fv) vs σ H Q := by
  refine ⟨b, W, s, B, okR.then ok fun W1 s1 src H1 le1 B1 q => ?_⟩
  cases src with
  | live r en => exact (show False from q).elim
  | snap xs =>
  dsimp only at q
  split at q
  · rename_i hno
    intro J hJ D hD
    have hJ : WalkL G W1 xs J := hJ
    obtain ⟨ys, s2, e0, q⟩ := noEx_ok q
    split at q
    · rename_i hlen
      let Pv : Nat → L2.Hp → Prop := fun i H => ∃ W' s' σ' acc o, BSim G b W' s' σ' H ∧ W1.le W' ∧ L2.wipe σ' vs = L2.wipe σ vs ∧ Apart b W' s' σ' D ∧ H D = some o ∧ DRep G W' tk acc o ∧
        compD t vs (fun s2 => (fk s2).bnd fun x s3 => if putOk p tk x then (fv s3).bnd fun y s4 => .ok (x, y) s4 else .bad) (xs.drop i) s' acc = .ok ys s2
      refine ⟨fun i m H => m = xs.length - i ∧ i ≤ xs.length ∧ Pv i H, ⟨xs.length, by simp, Nat.zero_le _, ?_⟩, ?_⟩
      · refine ⟨W1, s1, σ, [], emp0 tk, B1.more (fun a o e => by rw [upd_ne (ne_of_none e hD)]; exact e), .rfl', rfl, B1.apart hD, upd_same, ?_, by rw [List.drop_zero]; exact e0⟩
        cases tk
        · exact ⟨[], rfl, .nil⟩
        · exact ⟨[], rfl, .nil⟩
      · rintro i m H2 ⟨rfl, hi, W', s', σ', acc, o, B2, le2, hw, hA, hD2, rs, hc⟩
        have B3 := B2.start
        have hJ' := hJ _ W' s' σ' H2 i B3 le2
        by_cases hlt : i < xs.length
        · have hx : xs[i]? = some xs[i] := List.getElem?_eq_getElem hlt
          obtain ⟨hgo, hyl⟩ := hJ'.1 _ hx
          rw [List.drop_eq_getElem_cons hlt] at hc
          obtain ⟨fr, kq, s3, hb, hkv, hc'⟩ := compD_ok hc
          obtain ⟨kx, ky⟩ := kq
          cases e1 : fk { fr := fr, hp := s'.hp } with
          | bad => simp only [e1] at hkv; cases hkv
          | ex c u s4 => simp only [e1] at hkv; cases hkv
          | ok x s4 =>
          simp only [e1, Re.bnd] at hkv
          split at hkv
          · rename_i hput
            cases e2 : fv s4 with
            | bad => simp only [e2] at hkv; cases hkv
            | ex c u s5 => simp only [e2] at hkv; cases hkv
            | ok y s5 =>
            simp only [e2] at hkv
            cases hkv
            refine .inr ⟨hgo, Pv (i + 1), fun H' p' => ⟨xs.length - (i + 1), by omega, rfl, hlt, p'⟩, fun x0 H' hxy => ?_⟩
            obtain ⟨W2, le3, r, B4⟩ := hyl x0 H' hxy
            have B5 := B4.wipes vs
            rw [hw] at B5
            refine ⟨_, W2, _, xs[i], fr, B5, r, hb, fun σ2 hw2 B6 => ⟨(hw2 vs hsl).trans (wipe_idem σ vs), _, W2, _, B6, ?_⟩⟩
            have hwσ : L2.wipe σ2 vs = L2.wipe σ vs := (hw2 vs hsl).trans (wipe_idem σ vs)
            rw [e1]
            intro W3 H3 le4 B7 vx rx
            refine ⟨_, W3, s4, B7, ?_⟩
            rw [e2]
            intro W4 H4 le5 B8 vy ry
            obtain ⟨hA4, hD4⟩ := hA.on hD2 B8
            have lz : acc.length < SZ := by
              have h1 : (dput kx ky acc).length ≤ ys.length := compD_len hc'
              have h2 := (dput_len kx ky acc).2
              omega
            obtain ⟨o', hpu, hr'⟩ := dput_rep hp B8 (rs.mono (((le3.trans le4).trans le5))) hD4 lz hput (rx.mono le5) ry
            exact ⟨_, hpu, W4, s3, σ2, _, o', (B2.back_to B8).other hA4.fz hA4.m hA4.own hA4.h0, ((le2.trans le3).trans le4).trans le5, hwσ, hA4, upd_same, hr', hc'⟩
          · cases hkv
        · have e : i = xs.length := by omega
          subst e
          refine .inl ⟨hJ'.2 (List.getElem?_eq_none (Nat.le_refl _)), ?_⟩
          rw [List.drop_length] at hc
          simp only [compD, Re.ok.injEq] at hc
          obtain ⟨rfl, rfl⟩ := hc
          have B3 := (B2.less hA.fz hA.m hA.own hA.h0)
          have hl : s1.fr.length = s'.fr.length := by
            rw [B1.f.frl, B2.f.frl, ← L2.wipe_length σ' vs, hw, L2.wipe_length]
          have := q W' _ le2 (B1.blockEnd B3 le2 hw hno hl) D o rs (if_pos rfl)
          rw [upd_less hD2] at this
          exact this
    · exact (show False from q).elim
  · exact (show False from q).elim
end
end Pix
end
section
set_option Elab.async false
set_option linter.all false
set_option maxRecDepth 100000
set_option maxHeartbeats 1000000
/-! PixX1: raise, try .. except .. as. -/
namespace Pix
open PySem PySem.Spec PyProof.Rows L2
/-- another exception is handled -/
def Gl0.exc (G : Gl0) (x : Exa) : Gl0 := { G with exa := x }
section
variable {G : Gl0} {x : Exa} {W : Wd}
mutual
theorem Rep.ex {u : U} {v : V} (r : Rep G W u v) : Rep (G.exc x) W u v := match r with
  | .non => .non
  | .bl b => .bl b
  | .int i => .int i
  | .str s hs hc => .str s hs hc
  | .tup t r => .tup t (Reps.ex r)
  | .ktup t k r => .ktup t k (Reps.ex r)
  | .lst t r => .lst t (Reps.ex r)
  | .ref e => .ref e
  | .scr t => .scr t
  | .dK t r => .dK t (RepK.ex r)
  | .dT t r => .dT t (RepT.ex r)
theorem Reps.ex {u : List U} {v : List V} (r : Reps G W u v) : Reps (G.exc x) W u v := match r with
  | .nil => .nil
  | .cons r rs => .cons (Rep.ex r) (Reps.ex rs)
theorem RepK.ex {u : List (U × U)} {v : List (Key × V)} (r : RepK G W u v) : RepK (G.exc x) W u v := match r with
  | .nil => .nil
  | .cons k r rs => .cons k (Rep.ex r) (RepK.ex rs)
theorem RepT.ex {u : List (U × U)} {v : List (List Key × V)} (r : RepT G W u v) : RepT (G.exc x) W u v := match r with
  | .nil => .nil
  | .cons k r rs => .cons k (Rep.ex r) (RepT.ex rs)
end
theorem Rep.un {u : U} {v : V} (r : Rep (G.exc x) W u v) : Rep G W u v := Rep.ex (G := G.exc x) (x := G.exa) r
theorem Reps.un {u : List U} {v : List V} (r : Reps (G.exc x) W u v) : Reps G W u v := Reps.ex (G := G.exc x) (x := G.exa) r
theorem FsRep.ex {fs : List (String × U)} {es : List (PySem.Str × V)} (r : FsRep G W fs es) : FsRep (G.exc x) W fs es := match r with
  | .nil => .nil
  | .cons r rs => .cons (Rep.ex r) (FsRep.ex rs)
theorem BoxAt.ex {H : L2.Hp} {o : O} {a : Addr} (b : BoxAt G W H o a) : BoxAt (G.exc x) W H o a := match o, b with
  | .lst _, ⟨vs, h1, r⟩ => ⟨vs, h1, Reps.ex r⟩
  | .dct false _, ⟨es, h1, r⟩ => ⟨es, h1, RepK.ex r⟩
  | .dct true _, ⟨es, h1, r⟩ => ⟨es, h1, RepT.ex r⟩
  | .ins _ _, ⟨hc, dx, es, h1, r⟩ => ⟨hc, dx, es, h1, FsRep.ex r⟩
theorem HSim.ex {hp : Hp} {H : L2.Hp} (h : HSim G W hp H) : HSim (G.exc x) W hp H := ⟨h.fz, h.len, h.nd, h.mf, fun r o a h1 h2 => BoxAt.ex (h.box r o a h1 h2), h.und⟩
theorem HSim.un {hp : Hp} {H : L2.Hp} (h : HSim (G.exc x) W hp H) : HSim G W hp H := HSim.ex (G := G.exc x) (x := G.exa) h
variable {b : Ba} {s : St} {σ : L2.St} {H : L2.Hp}
theorem clean_get {fr : List Sl} (h : clean fr = true) {i c : Nat} {u : U} (e : fr[i]? = some (.exc c u)) : False := by
  have := List.all_eq_true.mp h _ (List.mem_of_getElem? e)
  cases this
/-- a suite begins: its name holds the exception -/
theorem BSim.hold (B : BSim G b W s σ H) (hn : G.exa = none) {i c : Nat} {u : U} {a d : Addr} {v : V} (hi : i < s.fr.length) (hf : W.fz d = some (.xd [(G.xf c, v)])) (r : Rep G W u v) :
    BSim (G.exc (some (a, .ref (G.xa c), some d))) b W { s with fr := s.fr.set i (.exc c u) } (σ.set i (some (.ref a))) H := by
  have his : i < σ.length := by rw [← B.f.frl]; exact hi
  have get : ∀ k, k ≠ i → (s.fr.set i (.exc c u))[k]? = s.fr[k]? := fun k hk => List.getElem?_set_ne (Ne.symm hk)
  have gets : ∀ k, k ≠ i → (σ.set i (some (V.ref a)))[k]? = σ[k]? := fun k hk => List.getElem?_set_ne (Ne.symm hk)
  have geti : (s.fr.set i (.exc c u))[i]? = some (.exc c u) := List.getElem?_set_self hi
  have getsi : (σ.set i (some (V.ref a)))[i]? = some (some (.ref a)) := List.getElem?_set_self his
  have ne : ∀ {k : Nat} {y : Sl}, (s.fr.set i (.exc c u))[k]? = some y → (∀ c u, y ≠ .exc c u) → k ≠ i ∧ s.fr[k]? = some y := fun {k y} e hy => by
    by_cases hk : k = i
    · subst hk; rw [geti] at e; cases e; exact absurd rfl (hy c u)
    · rw [get k hk] at e; exact ⟨hk, e⟩
  refine ⟨B.h.ex, ⟨?_, fun k w e => ?_, fun k zs e => ?_, fun k l y zs ws e1 e2 e3 e4 => ?_, fun k c' w e => ?_⟩, B.e, fun y ⟨k, zs, e1, e2⟩ => ?_⟩
  · show (s.fr.set i (.exc c u)).length = (σ.set i (some (V.ref a))).length
    rw [List.length_set, List.length_set]; exact B.f.frl
  · obtain ⟨n, f⟩ := ne e (by simp)
    obtain ⟨v', h1, h2⟩ := B.f.val k w f
    rw [gets k n]; exact ⟨v', h1, h2.ex⟩
  · obtain ⟨n, f⟩ := ne e (by simp)
    obtain ⟨l, vs, h1, h2, h3, h4⟩ := B.f.own k zs f
    rw [gets k n]; exact ⟨l, vs, h1, h2, h3.ex, h4⟩
  · obtain ⟨n1, f1⟩ := ne e1 (by simp)
    obtain ⟨n2, f2⟩ := ne e2 (by simp)
    rw [gets k n1] at e3
    rw [gets l n2] at e4
    exact B.f.ownu k l y zs ws f1 f2 e3 e4
  · have e' : (s.fr.set i (.exc c u))[k]? = some (.exc c' w) := e
    by_cases hk : k = i
    · subst hk
      rw [geti] at e'; cases e'
      exact ⟨a, d, v, getsi, hf, r.ex, rfl⟩
    · rw [get k hk] at e'
      obtain ⟨_, _, _, _, _, _, h4⟩ := B.f.exc k c' w e'
      rw [hn] at h4; cases h4
  · obtain ⟨n, f⟩ := ne e1 (by simp)
    rw [gets k n] at e2; exact B.ob y ⟨k, zs, f, e2⟩
/-- a suite is over -/
theorem BSim.unhold (B : BSim (G.exc x) b W s σ H) (hc : clean s.fr = true) : BSim G b W s σ H where
  h := B.h.un
  f := ⟨B.f.frl, fun i u e => let ⟨v, h1, h2⟩ := B.f.val i u e; ⟨v, h1, h2.un⟩, fun i xs e => let ⟨a, vs, h1, h2, h3, h4⟩ := B.f.own i xs e; ⟨a, vs, h1, h2, h3.un, h4⟩, B.f.ownu, fun i c u e => (clean_get hc e).elim⟩
  e := B.e
  ob := B.ob

/-! ### raise -/
variable {X : Cx} {Wx : WX} {fa : St → Re U}
/-- a class of exceptions of one field, made -/
def MkX (G : Gl0) (X : Cx) (nm : PySem.Str) (c : Nat) : Prop := ∀ (a : Expr) (ta : TA) (q pos : Pos), notStar a = true → PA X [a] ta →
  PMk X (.Call (.Name nm q) [a] [] pos) (fun σ H Q => ta σ H fun vs H1 => ∃ v, vs = [v] ∧ ∀ d, H1 d = none → Q (.ref (G.xa c)) (some d) (upd H1 d (.xd [(G.xf c, v)])))
theorem xs_rais {a : Expr} {nm : PySem.Str} {c : Nat} {q pos pos2 : Pos} (hc : X.calm = true) (tk : Takes X Wx) (hm : MkX G X nm c) (hs : notStar a = true) (ha : PE X a (RE G Wx fa)) : PS X (.Raise (some (.Call (.Name nm q) [a] [] pos)) none pos2) (RS G Wx fun s => (fa s).toS fun u s1 => .ex c u s1) := by
  refine PS.imp (ps_raise hc tk (hm a _ q pos hs (pa_cons ha pa_nil (star_of hs _ _)))) fun D σ H ⟨b, W, s, B, ok⟩ => ⟨b, W, s, B, ok.to fun W1 s1 u H1 _ le B1 k v r => ⟨v, rfl, fun d hd => ?_⟩⟩
  have le2 := B1.le_newF (o := .xd [(G.xf c, v)]) hd
  exact k _ σ _ d v le2 (B1.newF hd (fun _ z => by cases z)) Wd.addF_same (r.mono le2)

/-! ### try .. except C as name -/
theorem xs_tryAs {cn n : PySem.Str} {dd i nx : Nat} {sub : Nat → Nat → Bool} {body suite : List Stmt} {b₀ : Stmt} {np pos pos' : Pos} {gb gs : St → Rs} (hK : X.K = G.K) (hx : G.exa = none) (hs : X.stack = X.env :: X.outer) (hf : X.env.frame = some X.env.locals) (hN : X.N.Nodup) (hi : X.N[i]? = some n) (hln : X.env.kindOf n = some .local)
    (hc : Names X cn (.ref (G.xa dd))) (tk : Takes X Wx) (hexm : ∀ c, c < nx → PySem.W.exmOne G.K (.ref (G.xa c)) (.ref (G.xa dd)) = some (sub c dd))
    (hb : ∀ (W : WX) (pn : List (Addr × Obj)) (xe : Value → Shared → Prop), Takes (X.tr pn xe) W → PassesOwn (model X.prog X.w) X.A X.env xe → PSs (X.tr pn xe) body (RS G W gb))
    (hsu : ∀ (a : Addr) (oe : Obj) (cls : Value) (d : Option Addr) (pn : List (Addr × Obj)), Zc cls d oe → (∃ vs, oe.data = .fields vs) → PSs (X.suite a ((a, oe) :: pn)) (b₀ :: suite) (RS (G.exc (some (a, cls, d))) (fun _ _ _ _ => False) gs)) :
    PS X (.Try body [.ExceptHandler (some (.Name cn np)) (some n) (b₀ :: suite) pos'] [] [] pos) (RS G Wx fun s => match gb s with
      | .ex c u s1 => if c < nx then (match sub c dd with
        | true => if i < s1.fr.length then endH (some i) (gs (hold (some i) c u s1)) else .bad
        | false => .ex c u s1) else .bad
      | .nx s1 => .nx s1
      | .rt u s1 => .rt u s1
      | .bk s1 => .bk s1
      | .ct s1 => .ct s1
      | .bad => .bad) := by
  refine PS.imp (ps_try_as (tb := fun W => RS G W gb) (ts := fun a cls d => RS (G.exc (some (a, cls, d))) (fun _ _ _ _ => False) gs) hs hf hN hi hln hc tk hb hsu) fun D σ H ⟨b, W, s, B, ok⟩ => ⟨b, W, s, B, ?_⟩
  dsimp only at ok
  cases e : gb s with
  | nx s1 => rw [e] at ok; exact ok
  | rt u s1 => rw [e] at ok; exact ok
  | bk s1 => rw [e] at ok; exact ok
  | ct s1 => rw [e] at ok; exact ok
  | bad => rw [e] at ok; exact ok
  | ex c u s1 =>
    rw [e] at ok
    dsimp only at ok
    split at ok
    · rename_i hcx
      intro W' σ' H' d v le B' hfz r
      refine ⟨sub c dd, by rw [hK]; exact hexm c hcx, fun hk a ha => ?_, fun hk => ?_⟩
      · rw [hk] at ok
        dsimp only at ok
        split at ok
        · rename_i hi2
          refine ⟨b, W', _, B'.hold hx hi2 hfz r, ?_⟩
          show okS (G.exc (some (a, .ref (G.xa c), some d))) b W' _ _ (gs (hold (some i) c u s1))
          cases e2 : gs (hold (some i) c u s1) with
          | nx s2 =>
            rw [e2] at ok
            simp only [endH] at ok
            split at ok
            · rename_i hcl
              exact fun W'' σ'' H'' le2 B2 => ok W'' _ H'' (le.trans le2) ((B2.drop (i := i) (o := none)).unhold hcl)
            · exact (show False from ok).elim
          | rt w s2 =>
            rw [e2] at ok
            simp only [endH] at ok
            split at ok
            · rename_i hcl
              exact fun W'' σ'' H'' v2 le2 B2 r2 => ok W'' _ H'' v2 (le.trans le2) ((B2.drop (i := i) (o := none)).unhold hcl) r2.un
            · exact (show False from ok).elim
          | bk s2 =>
            rw [e2] at ok
            simp only [endH] at ok
            split at ok
            · rename_i hcl
              exact fun W'' σ'' H'' le2 B2 => ok W'' _ H'' (le.trans le2) ((B2.drop (i := i) (o := none)).unhold hcl)
            · exact (show False from ok).elim
          | ct s2 =>
            rw [e2] at ok
            simp only [endH] at ok
            split at ok
            · rename_i hcl
              exact fun W'' σ'' H'' le2 B2 => ok W'' _ H'' (le.trans le2) ((B2.drop (i := i) (o := none)).unhold hcl)
            · exact (show False from ok).elim
          | ex c2 u2 s2 => rw [e2] at ok; exact (show False from ok).elim
          | bad => rw [e2] at ok; exact (show False from ok).elim
        · exact (show False from ok).elim
      · rw [hk] at ok
        exact ok W' σ' H' d v le B' hfz r
    · exact (show False from ok).elim
end
end Pix
end
section
set_option Elab.async false
set_option linter.all false
set_option maxRecDepth 100000
set_option maxHeartbeats 1000000
/-! PixX2: except clauses one by one, with a name or without. -/
namespace Pix
open PySem PySem.Spec PyProof.Rows L2
/-- X has caught the exception a of the class cls; without it, the state is σ, H -/
structure Cau (X : Cx) (pins : List (Addr × Obj)) (σ : L2.St) (H : L2.Hp) (a : Addr) (cls : Value) (d : Option Addr) (s : Shared) : Prop where
  na : H a = none
  ag : AllBare s.gens
  ex : ∃ (B : Heap) (t : Shared), Inv X pins σ H t ∧ (∀ k o, t.heap.get? k = some o → k ∉ frs X.stack → B.get? k = some o) ∧ t.heap.UpToSlots s.heap ∧ s.os = t.os ∧ HandSPX.FlyingZ B X.stack a (Zc cls d) s.heap
section
variable {X : Cx} {pins : List (Addr × Obj)} {σ : L2.St} {H : L2.Hp} {a : Addr} {cls : Value} {d : Option Addr} {s : Shared}
theorem Cau.inv (k : Cau X pins σ H a cls d s) : Inv X pins σ H s := by
  obtain ⟨B, t, I, nb, up, os, fl⟩ := k.ex
  exact I.landed nb fl.1 up os k.ag
/-- the exception's object -/
theorem Cau.obj (k : Cau X pins σ H a cls d s) (hs : X.stack = X.env :: X.outer) (hf : X.env.frame = some X.env.locals) : ∃ o vs, s.heap.get? a = some o ∧ Zc cls d o ∧ o.data = .fields vs ∧ a ≠ X.env.locals ∧ a ∉ X.fs := by
  obtain ⟨B, t, I, nb, up, os, fl⟩ := k.ex
  obtain ⟨o, vs, e, z, dt⟩ := fl.there
  have nst : a ∉ frs X.stack := fun hm => by
    obtain ⟨_, o2, e2, nf⟩ := fl.2.2.1.mem hm
    exact nf vs ((Option.some.inj (e2.symm.trans e)) ▸ dt)
  rw [hs] at nst
  refine ⟨o, vs, e, z, dt, fun q => nst ?_, fun q => nst ?_⟩
  · exact List.mem_filterMap.mpr ⟨X.env, List.mem_cons_self, q ▸ hf⟩
  · obtain ⟨y, hy, he⟩ := List.mem_filterMap.mp q
    exact List.mem_filterMap.mpr ⟨y, List.mem_cons_of_mem _ hy, he⟩
theorem Cau.heap (k : Cau X pins σ H a cls d s) {h' : Heap} (up' : s.heap.UpToSlots h') (fl : ∀ B, HandSPX.FlyingZ B X.stack a (Zc cls d) s.heap → HandSPX.FlyingZ B X.stack a (Zc cls d) h') : Cau X pins σ H a cls d { s with heap := h' } := by
  obtain ⟨B, t, I, nb, up, os, f⟩ := k.ex
  exact ⟨k.na, k.ag, B, t, I, nb, up.trans up', os, fl B f⟩
theorem Cau.calm {M : Model} {A : Around} {E : Value → Shared → Prop} {Q : Unit → Shared → Prop} (k : Cau X pins σ H a cls d s) (q : ∀ h', Cau X pins σ H a cls d { s with heap := h' } → Q () { s with heap := h' }) : wpAny M A (setFlight (.ref a) none) Q E s := by
  obtain ⟨B, t, I, nb, up, os, f⟩ := k.ex
  exact HandSPX.lands_againZ f fun h' f' up' => q h' ⟨k.na, k.ag, B, t, I, nb, up.trans up', os, f'⟩
/-- it goes on -/
theorem Cau.on {Wx : WX} {Q : Flow → Shared → Prop} (k : Cau X pins σ H a cls d s) (hs : X.stack = X.env :: X.outer) (hf : X.env.frame = some X.env.locals) (tk : Takes X Wx) (w : Wx cls d σ H) :
    wpAny (model X.prog X.w) X.A (passOn "try.no-clause-matches" (.ref a) X.env) Q X.xe s := by
  obtain ⟨B, t, I, nb, up, os, f⟩ := k.ex
  have go : wpAny (model X.prog X.w) X.A (setFlight (.ref a) X.env.frame) (fun _ z => wpAny (model X.prog X.w) X.A (throw (.ref a) : Sem Flow) Q X.xe z) X.xe s := by
    rw [hf]
    exact HandSPX.setFlight_upZ f fun h' hh up' => wpAny_throw (tk _ _ ⟨a, B, t, pins, σ, H, cls, d, rfl, I, nb, up.trans up', .inr (.inr hh), k.na, os, k.ag, w⟩)
  obtain ⟨_, _, _, o, vs, T, _, _, e, _, dt, h1, _⟩ := id f
  unfold PySem.passOn
  refine wpAny_bind (wpAny_field e dt h1 ?_)
  have nn : ¬ ((Value.ref T == Value.none) = true) := by simp
  rw [if_neg nn]
  first
    | exact wpAny_bind go
    | exact wpAny_bind (wpAny_pure (wpAny_bind go))
end

/-! ### clauses -/
/-- what a row of clauses asks of the exception -/
def Hdl (X : Cx) (D : Ends) (hds : List ExceptHandler) (w : WX) : Prop := ∀ (pins : List (Addr × Obj)) (s : Shared) (σ : L2.St) (H : L2.Hp) (a : Addr) (cls : Value) (d : Option Addr), Cau X pins σ H a cls d s → w cls d σ H →
  wpAny (model X.prog X.w) X.A (handleBy (.ref a) X.env hds) (SP X pins D) X.xe s
/-- one clause ahead of others: t where its class fits -/
def wCl (K : PySem.W.Frag) (c : Value) (t : Addr → WX) (w : WX) : WX := fun cls d σ H => ∃ b, PySem.W.exmOne K cls c = some b ∧ (b = true → ∀ a, H a = none → t a cls d σ H) ∧ (b = false → w cls d σ H)
/-- the ends of a suite whose name goes -/
def Ends.gone (D : Ends) (i : Nat) : Ends where
  nx := fun σ H => D.nx (σ.set i none) H
  rt := D.rt
  bk := fun σ H => D.bk (σ.set i none) H
  ct := fun σ H => D.ct (σ.set i none) H
section
variable {X : Cx} {D : Ends} {Wx : WX}
theorem hdl_nil (hs : X.stack = X.env :: X.outer) (hf : X.env.frame = some X.env.locals) (tk : Takes X Wx) : Hdl X D [] Wx := fun pins s σ H a cls d k w => wpAny_handleBy_nil (k.on hs hf tk w)
/-- the class is looked at -/
theorem cl_test {cn : PySem.Str} {c : Value} {np : Pos} {pins : List (Addr × Obj)} {s : Shared} {σ : L2.St} {a : Addr} {o : Obj} {H : L2.Hp} (hc : Names X cn c) (I : Inv (X.suite a ((a, o) :: (X.pn ++ pins))) [] σ H s) {Q E : Value → Shared → Prop} (q : Q c s) :
    wpAny (model X.prog X.w) (X.A.mark (some (.ref a))) (eval (.Name cn np) X.env) Q E s := by
  obtain ⟨g, db, m | ⟨m, v, nn⟩⟩ := hc
  · exact ld_glob (X := X.suite a ((a, o) :: (X.pn ++ pins))) I g m q db
  · exact ld_blt (X := X.suite a ((a, o) :: (X.pn ++ pins))) I g m v q nn db
/-- behind a clause's suite -/
def suEnd (X : Cx) (pins : List (Addr × Obj)) (D : Ends) (nm : Option PySem.Str) (pos : Pos) (r : Result) (s : Shared) : Prop := match r with
  | .ok f => (match nm with
    | none => SP X pins D f s
    | some n => wpAny (model X.prog X.w) X.A (do bindName X.env n .none; unbindBehindTheSuite X.env n pos) (fun _ z => SP X pins D f z) X.xe s)
  | .error x => cameBackBy (model X.prog X.w) X.A X.env X.xe x s
/-- a clause's suite does as t asks -/
def Sui (X : Cx) (D : Ends) (nm : Option PySem.Str) (b : List Stmt) (pos : Pos) (t : Addr → WX) : Prop := ∀ (pins : List (Addr × Obj)) (s : Shared) (σ : L2.St) (H : L2.Hp) (a : Addr) (cls : Value) (d : Option Addr), Cau X pins σ H a cls d s → t a cls d σ H →
  codeAny (model X.prog X.w) (X.A.mark (some (.ref a))) (.handlers (.ref a) [.ExceptHandler none nm b pos] X.env) (suEnd X pins D nm pos) s
theorem hdl_cons {cn : PySem.Str} {c : Value} {nm : Option PySem.Str} {b : List Stmt} {np pos' : Pos} {rest : List ExceptHandler} {t : Addr → WX} {w : WX} (hs : X.stack = X.env :: X.outer) (hf : X.env.frame = some X.env.locals) (hc : Names X cn c) (hr : Hdl X D rest w)
    (hsu : Sui X D nm b pos' t) : Hdl X D (.ExceptHandler (some (.Name cn np)) nm b pos' :: rest) (wCl X.K c t w) := by
  intro pins s σ H a cls d k ⟨yes, hm, h1, h0⟩
  obtain ⟨o, vs, e, z, dt, nL, nF⟩ := k.obj hs hf
  have I := k.inv.suite e dt k.na nL nF
  have ty : PySem.W.Looks (model X.prog X.w) s.heap (typeOf (.ref a)) cls := fun A Q E s2 k2 q => wpAny_typeOf_ref (k2 _ _ e) (by rw [z.1]; exact q)
  have fits := PySem.W.exm_one (M := model X.prog X.w) k.inv.kIn ty hm
  refine wpAny_handleBy_cons (codeAny_handlers_test (cl_test hc I (fits.here ?_))) (fun q => by cases q)
  cases yes with
  | false => exact hr pins s σ H a cls d k (h0 rfl)
  | true => exact hsu pins s σ H a cls d k (h1 rfl a k.na)
theorem sui_no {b₀ : Stmt} {b : List Stmt} {pos : Pos} {ts : Addr → Value → Option Addr → TS} (hs : X.stack = X.env :: X.outer) (hf : X.env.frame = some X.env.locals)
    (hb : ∀ (a : Addr) (oe : Obj) (cls : Value) (d : Option Addr) (pn : List (Addr × Obj)), Zc cls d oe → (∃ vs, oe.data = .fields vs) → PSs (X.suite a ((a, oe) :: pn)) (b₀ :: b) (ts a cls d)) : Sui X D none (b₀ :: b) pos fun a cls d σ H => ts a cls d D σ H := by
  intro pins s σ H a cls d k w
  have ok := k.inv.ok
  refine codeAny_handlers_suite (k.calm fun h' k' => ?_)
  obtain ⟨o, vs, e, z, dt, nL, nF⟩ := k'.obj hs hf
  refine wpAny_mono ((hb a o cls d (X.pn ++ pins) z ⟨vs, dt⟩).run [] _ σ H D (k'.inv.suite e dt k'.na nL nF) w) (fun f s2 h2 => ?_) fun _ _ x => x.elim
  cases f with
  | ret u => exact let ⟨v, σ2, H2, I2, r, q⟩ := h2; ⟨v, σ2, H2, I2.unsuite ok, r, q⟩
  | next => exact let ⟨σ2, H2, I2, q⟩ := h2; ⟨σ2, H2, I2.unsuite ok, q⟩
  | brk => exact let ⟨σ2, H2, I2, q⟩ := h2; ⟨σ2, H2, I2.unsuite ok, q⟩
  | cont => exact let ⟨σ2, H2, I2, q⟩ := h2; ⟨σ2, H2, I2.unsuite ok, q⟩
theorem sui_as {n : PySem.Str} {i : Nat} {b₀ : Stmt} {b : List Stmt} {pos : Pos} {ts : Addr → Value → Option Addr → TS} (hs : X.stack = X.env :: X.outer) (hf : X.env.frame = some X.env.locals) (hN : X.N.Nodup) (hi : X.N[i]? = some n) (hl : X.env.kindOf n = some .local)
    (hb : ∀ (a : Addr) (oe : Obj) (cls : Value) (d : Option Addr) (pn : List (Addr × Obj)), Zc cls d oe → (∃ vs, oe.data = .fields vs) → PSs (X.suite a ((a, oe) :: pn)) (b₀ :: b) (ts a cls d)) :
    Sui X D (some n) (b₀ :: b) pos fun a cls d σ H => ts a cls d (Ends.gone D i) (σ.set i (some (.ref a))) H := by
  intro pins s σ H a cls d k w
  have ok := k.inv.ok
  refine codeAny_handlers_suite_as (k.calm fun h' k' => ?_)
  obtain ⟨o, vs, e, z, dt, nL, nF⟩ := k'.obj hs hf
  refine store_ok (X := X.suite a ((a, o) :: (X.pn ++ pins))) (v := .ref a) (k'.inv.suite e dt k'.na nL nF) hN hi (.inl hl) rfl (fun s1 I1 => ?_) (.inr hl)
  refine wpAny_mono ((hb a o cls d (X.pn ++ pins) z ⟨vs, dt⟩).run [] s1 _ H _ I1 w) (fun f s2 h2 => ?_) fun _ _ x => x.elim
  cases f with
  | ret u => exact let ⟨v, σ2, H2, I2, r, q⟩ := h2; gone_ok (I2.unsuite ok) hN hi hl fun s3 I3 => ⟨v, _, H2, I3, r, q⟩
  | next => exact let ⟨σ2, H2, I2, q⟩ := h2; gone_ok (I2.unsuite ok) hN hi hl fun s3 I3 => ⟨_, H2, I3, q⟩
  | brk => exact let ⟨σ2, H2, I2, q⟩ := h2; gone_ok (I2.unsuite ok) hN hi hl fun s3 I3 => ⟨_, H2, I3, q⟩
  | cont => exact let ⟨σ2, H2, I2, q⟩ := h2; gone_ok (I2.unsuite ok) hN hi hl fun s3 I3 => ⟨_, H2, I3, q⟩
/-- a try with clauses -/
theorem ps_hdl {body : List Stmt} {h₀ : ExceptHandler} {hds : List ExceptHandler} {pos : Pos} {tb : WX → TS} {w : Ends → WX} (hs : X.stack = X.env :: X.outer) (hf : X.env.frame = some X.env.locals)
    (hb : ∀ (W : WX) (pn : List (Addr × Obj)) (xe : Value → Shared → Prop), Takes (X.tr pn xe) W → PassesOwn (model X.prog X.w) X.A X.env xe → PSs (X.tr pn xe) body (tb W))
    (hh : ∀ D, Hdl X D (h₀ :: hds) (w D)) : PS X (.Try body (h₀ :: hds) [] [] pos) (fun D σ H => tb (w D) D σ H) := by
  refine ⟨fun pins s σ H D I h => ?_⟩
  have ok := I.ok
  refine wpAny_Try_except (wpAny_mono ((hb (w D) (X.pn ++ pins) (fun e z => wpAny (model X.prog X.w) X.A (noteFrame e X.env) (fun _ z => wpAny (model X.prog X.w) X.A (setFlight e none) (fun _ z =>
    wpAny (model X.prog X.w) X.A (handleBy e X.env (h₀ :: hds)) (SP X pins D) X.xe z) X.xe z) X.xe z) (fun u s2 x => ?_) PassesOwn.looking).run [] s σ H D (I.toTry _) h) (fun f s2 h2 => ?_) fun _ _ x => x)
  · obtain ⟨a, B, t, pins2, σ2, H2, cls, d, rfl, I2, nb, up, sky, na, os, ag, w2⟩ := x
    have sky2 : Sky B (X.env :: X.outer) a (Zc cls d) X.env.locals s2.heap := by rw [← hs]; exact sky
    exact Sky.land Zc.steady (by rw [ok.frames, hs]) hf sky2 fun h' fl up2 => hh D pins _ σ2 H2 a cls d ⟨na, ag, B, t, I2.ofTry ok, nb, up.trans up2, os, by rw [hs]; exact fl⟩ w2
  · cases f with
    | next => exact let ⟨σ2, H2, I2, q⟩ := h2; wpAny_execs_nil ⟨σ2, H2, I2.ofTry ok, q⟩
    | ret u => exact let ⟨v, σ2, H2, I2, r, q⟩ := h2; ⟨v, σ2, H2, I2.ofTry ok, r, q⟩
    | brk => exact let ⟨σ2, H2, I2, q⟩ := h2; ⟨σ2, H2, I2.ofTry ok, q⟩
    | cont => exact let ⟨σ2, H2, I2, q⟩ := h2; ⟨σ2, H2, I2.ofTry ok, q⟩
end
end Pix
end
section
set_option Elab.async false
set_option linter.all false
set_option maxRecDepth 100000
set_option maxHeartbeats 1000000
/-! PixX3: try with clauses against the own run. -/
namespace Pix
open PySem PySem.Spec PyProof.Rows L2
section
variable {G : Gl0} {p : Px} {X : Cx} {Wx : WX} {D : Ends}
/-- clauses against the own ones -/
inductive HsOk (G : Gl0) (p : Px) (X : Cx) : Hs → List ExceptHandler → Prop
  | nil : HsOk G p X .nil []
  | no {dd : Nat} {b : Bl} {hs : Hs} {cn : PySem.Str} {np pos : Pos} {b₀ : Stmt} {suite : List Stmt} {hds : List ExceptHandler} (hc : Names X cn (.ref (G.xa dd)))
      (hm : ∀ c, c < p.nx → PySem.W.exmOne X.K (.ref (G.xa c)) (.ref (G.xa dd)) = some (p.sub c dd))
      (hsu : ∀ (a : Addr) (oe : Obj) (cls : Value) (d : Option Addr) (pn : List (Addr × Obj)), Zc cls d oe → (∃ vs, oe.data = .fields vs) → PSs (X.suite a ((a, oe) :: pn)) (b₀ :: suite) (RS G (fun _ _ _ _ => False) (evB p b)))
      (r : HsOk G p X hs hds) : HsOk G p X (.cons dd none b hs) (.ExceptHandler (some (.Name cn np)) none (b₀ :: suite) pos :: hds)
  | as {dd i : Nat} {n : PySem.Str} {b : Bl} {hs : Hs} {cn : PySem.Str} {np pos : Pos} {b₀ : Stmt} {suite : List Stmt} {hds : List ExceptHandler} (hc : Names X cn (.ref (G.xa dd)))
      (hm : ∀ c, c < p.nx → PySem.W.exmOne X.K (.ref (G.xa c)) (.ref (G.xa dd)) = some (p.sub c dd))
      (hi : X.N[i]? = some n) (hl : X.env.kindOf n = some .local)
      (hsu : ∀ (a : Addr) (oe : Obj) (cls : Value) (d : Option Addr) (pn : List (Addr × Obj)), Zc cls d oe → (∃ vs, oe.data = .fields vs) → PSs (X.suite a ((a, oe) :: pn)) (b₀ :: suite) (RS (G.exc (some (a, cls, d))) (fun _ _ _ _ => False) (evB p b)))
      (r : HsOk G p X hs hds) : HsOk G p X (.cons dd (some i) b hs) (.ExceptHandler (some (.Name cn np)) (some n) (b₀ :: suite) pos :: hds)
/-- what the own clauses ask of an exception -/
def WH (G : Gl0) (p : Px) (Wx : WX) (hs : Hs) (D : Ends) : WX := fun cls d σ H => ∃ (b : Ba) (W : Wd) (s : St) (c : Nat) (u : U) (a : Addr) (v : V), cls = .ref (G.xa c) ∧ d = some a ∧ BSim G b W s σ H ∧ W.fz a = some (.xd [(G.xf c, v)]) ∧ Rep G W u v ∧ okS G b W Wx D (evH p hs c u s)
theorem Hdl.imp {hds : List ExceptHandler} {w w' : WX} (h : Hdl X D hds w) (f : ∀ cls d σ H, w' cls d σ H → w cls d σ H) : Hdl X D hds w' := fun pins s σ H a cls d k q => h pins s σ H a cls d k (f _ _ _ _ q)
/-- a suite without a name is over -/
theorem endH_no {b : Ba} {W : Wd} {r : Rs} (h : okS G b W Wx D (endH none r)) : okS G b W (fun _ _ _ _ => False) D r := by
  cases r with
  | bad => exact h
  | ex c u s => exact (show False from h).elim
  | nx s => simp only [endH] at h; split at h; exact h; exact (show False from h).elim
  | rt u s => simp only [endH] at h; split at h; exact h; exact (show False from h).elim
  | bk s => simp only [endH] at h; split at h; exact h; exact (show False from h).elim
  | ct s => simp only [endH] at h; split at h; exact h; exact (show False from h).elim
/-- a suite with a name is over -/
theorem endH_as {b : Ba} {W : Wd} {x : Exa} {i : Nat} {r : Rs} (h : okS G b W Wx D (endH (some i) r)) : okS (G.exc x) b W (fun _ _ _ _ => False) (Ends.gone D i) r := by
  cases r with
  | bad => exact h
  | ex c u s => exact (show False from h).elim
  | nx s =>
    simp only [endH] at h; split at h
    · rename_i hc; exact fun W1 σ1 H1 l B => h W1 _ H1 l ((B.drop (i := i) (o := none)).unhold hc)
    · exact (show False from h).elim
  | rt u s =>
    simp only [endH] at h; split at h
    · rename_i hc; exact fun W1 σ1 H1 v l B r => h W1 _ H1 v l ((B.drop (i := i) (o := none)).unhold hc) r.un
    · exact (show False from h).elim
  | bk s =>
    simp only [endH] at h; split at h
    · rename_i hc; exact fun W1 σ1 H1 l B => h W1 _ H1 l ((B.drop (i := i) (o := none)).unhold hc)
    · exact (show False from h).elim
  | ct s =>
    simp only [endH] at h; split at h
    · rename_i hc; exact fun W1 σ1 H1 l B => h W1 _ H1 l ((B.drop (i := i) (o := none)).unhold hc)
    · exact (show False from h).elim
theorem evH_cons {dd : Nat} {i : Option Nat} {bl : Bl} {hs : Hs} {c : Nat} {u : U} {s : St} {b : Ba} {W : Wd} (h : okS G b W Wx D (evH p (.cons dd i bl hs) c u s)) :
    c < p.nx ∧ (p.sub c dd = true → fits i s = true ∧ okS G b W Wx D (endH i (evB p bl (hold i c u s)))) ∧ (p.sub c dd = false → okS G b W Wx D (evH p hs c u s)) := by
  rw [evH] at h
  split at h
  · rename_i hx
    refine ⟨hx, fun e => ?_, fun e => ?_⟩
    · rw [e] at h
      dsimp only at h
      split at h
      · rename_i hf; exact ⟨hf, h⟩
      · exact (show False from h).elim
    · rw [e] at h; exact h
  · exact (show False from h).elim
theorem hs_ok {hs : Hs} {hds : List ExceptHandler} (hx : G.exa = none) (h1 : X.stack = X.env :: X.outer) (h2 : X.env.frame = some X.env.locals) (hN : X.N.Nodup) (tk : Takes X Wx) (h : HsOk G p X hs hds) : Hdl X D hds (WH G p Wx hs D) := by
  induction h with
  | nil =>
    refine (hdl_nil h1 h2 tk).imp fun cls d σ H ⟨b, W, s, c, u, a, v, e1, e2, B, hf, r, q⟩ => ?_
    subst e1; subst e2
    rw [evH] at q
    exact q W σ H a v .rfl' B hf r
  | no hc hm hsu r ih =>
    refine (hdl_cons h1 h2 hc ih (sui_no h1 h2 hsu)).imp fun cls d σ H ⟨b, W, s, c, u, a, v, e1, e2, B, hf, r, q⟩ => ?_
    subst e1; subst e2
    obtain ⟨q1, q2, q3⟩ := evH_cons q
    exact ⟨_, hm c q1, fun e a' na => ⟨b, W, s, B, endH_no (q2 e).2⟩, fun e => ⟨b, W, s, c, u, a, v, rfl, rfl, B, hf, r, q3 e⟩⟩
  | as hc hm hi hl hsu r ih =>
    refine (hdl_cons h1 h2 hc ih (sui_as h1 h2 hN hi hl hsu)).imp fun cls d σ H ⟨b, W, s, c, u, a, v, e1, e2, B, hf, r, q⟩ => ?_
    subst e1; subst e2
    obtain ⟨q1, q2, q3⟩ := evH_cons q
    refine ⟨_, hm c q1, fun e a' na => ?_, fun e => ⟨b, W, s, c, u, a, v, rfl, rfl, B, hf, r, q3 e⟩⟩
    obtain ⟨k1, k2⟩ := q2 e
    exact ⟨b, W, _, B.hold hx (of_decide_eq_true k1) hf r, endH_as k2⟩
theorem xs_try {body : List Stmt} {h₀ : ExceptHandler} {hds : List ExceptHandler} {pos : Pos} {b : Bl} {hs : Hs} (hx : G.exa = none) (h1 : X.stack = X.env :: X.outer) (h2 : X.env.frame = some X.env.locals) (hN : X.N.Nodup) (tk : Takes X Wx)
    (hb : ∀ (W : WX) (pn : List (Addr × Obj)) (xe : Value → Shared → Prop), Takes (X.tr pn xe) W → PassesOwn (model X.prog X.w) X.A X.env xe → PSs (X.tr pn xe) body (RS G W (evB p b)))
    (h : HsOk G p X hs (h₀ :: hds)) : PS X (.Try body (h₀ :: hds) [] [] pos) (RS G Wx (evS p (.try_ b hs))) := by
  refine PS.imp (ps_hdl (w := fun D => WH G p Wx hs D) (tb := fun W => RS G W (evB p b)) h1 h2 hb fun D => hs_ok hx h1 h2 hN tk h) fun D σ H ⟨bb, W, s, B, ok⟩ => ⟨bb, W, s, B, ?_⟩
  rw [evS] at ok
  cases e : evB p b s with
  | nx s1 => rw [e] at ok; exact ok
  | rt u s1 => rw [e] at ok; exact ok
  | bk s1 => rw [e] at ok; exact ok
  | ct s1 => rw [e] at ok; exact ok
  | bad => rw [e] at ok; exact ok
  | ex c u s1 =>
    rw [e] at ok
    exact fun W1 σ1 H1 d v l B1 hf r => ⟨bb, W1, s1, c, u, d, v, rfl, rfl, B1, hf, r, ok.le l⟩
end
end Pix
end
section
set_option Elab.async false
set_option linter.all false
set_option maxRecDepth 100000
set_option maxHeartbeats 1000000
/-! PixX4: the handled exception's field. -/
namespace Pix
open PySem PySem.Spec PyProof.Rows L2
/-- the exception classes: one field each -/
def XfOk (G : Gl0) (p : Px) (K : PySem.W.Frag) : Prop := ∀ c, c < p.nx → XfC K (G.xa c) ∧ G.xf c = PySem.Str.ofString (p.xfn c) ∧ PySem.W.findIn K (.ref (G.xa c)) (PySem.Str.ofString (p.xfn c)) = some none
section
variable {G : Gl0} {p : Px} {Wx : WX}
theorem excf_at {b : Ba} {W : Wd} {s : St} {σ : L2.St} {H : L2.Hp} {Q : VK} {i : Nat} {f : String} {a : Addr} {cls : Value} {d : Option Addr} (hx : G.exa = some (a, cls, d)) (B : BSim G b W s σ H) (ok : okR G b W σ Wx (kV1 G Q) (evE p (.excf i f) s)) :
    ∃ c d' v, σ[i]? = some (some (.ref a)) ∧ cls = .ref (G.xa c) ∧ d = some d' ∧ c < p.nx ∧ p.xfn c = f ∧ H d' = some (.xd [(G.xf c, v)]) ∧ Q v H := by
  simp only [evE] at ok
  split at ok
  · rename_i c u e
    split at ok
    · rename_i hc
      obtain ⟨a', d', v, e1, e2, r, e3⟩ := B.f.exc i c u e
      rw [hx] at e3
      cases e3
      exact ⟨c, d', v, e1, rfl, rfl, hc.1, hc.2, B.h.fz _ _ e2, okR.val B r ok⟩
    · exact (show False from ok).elim
  · exact (show False from ok).elim
theorem xe_excf {X0 : Cx} {a : Addr} {oe : Obj} {cls : Value} {d : Option Addr} {pn : List (Addr × Obj)} {i : Nat} {f : String} {x : PySem.Str} {px pos : Pos} (hx : G.exa = some (a, cls, d)) (hN : X0.N[i]? = some x) (hv : Vis X0.env.scope x)
    (h1 : (x == ("__debug__" : PySem.Str)) = false) (h2 : (x == ("__classdict__" : PySem.Str)) = false) (hz : Zc cls d oe) (hf : ∃ vs, oe.data = .fields vs) (T : XfOk G p X0.K) :
    PE (X0.suite a ((a, oe) :: pn)) (.Attribute (.Name x px) (PySem.Str.ofString f) pos) (RE G Wx (evE p (.excf i f))) := by
  by_cases hC : ∃ c, cls = .ref (G.xa c) ∧ c < p.nx ∧ p.xfn c = f
  · obtain ⟨c, rfl, hc, rfl⟩ := hC
    obtain ⟨t1, t2, t3⟩ := T c hc
    refine PE.imp (pe_xf t1 t3 hz.zc hf (pe_var (X := X0.suite a ((a, oe) :: pn)) hN hv h1 h2)) fun σ H Q ⟨b, W, s, B, ok⟩ => ?_
    obtain ⟨c', d', v, e1, e2, e3, q1, q2, e4, q⟩ := excf_at hx B ok
    refine ⟨_, e1, rfl, rfl, d', _, v, e3, e4, ?_, q⟩
    rw [(T c' q1).2.1, q2]
    simp [List.lookup]
  · refine ⟨fun pins s σ H Q I ⟨b, W, s1, B, ok⟩ => ?_⟩
    obtain ⟨c', d', v, _, e2, _, q1, q2, _⟩ := excf_at hx B ok
    exact absurd ⟨c', e2, q1, q2⟩ hC
end
end Pix
end
section
set_option Elab.async false
set_option linter.all false
set_option maxRecDepth 100000
set_option maxHeartbeats 1000000
/-! PixX5: isinstance of the handled exception. -/
namespace Pix
open PySem PySem.Spec PyProof.Rows L2
/-- isinstance(e, c): a is the handled exception, C its class, dd its dict -/
def rIsX (K : PySem.W.Frag) (C a dd : Addr) : List V → L2.Hp → VK → Prop := fun xs H Q => ∃ (c : V) (cv : Value) (b : Bool) (fs : List (PySem.Str × V)), xs = [.ref a, c] ∧ (∀ u, RelV c u → u = cv) ∧ PySem.W.kitOne K (.ref C) cv = some b ∧ H dd = some (.xd fs) ∧ Q (.bl b) H
theorem call_isX {X : Cx} {a C dd : Addr} {oe : Obj} {pn : List (Addr × Obj)} (T : ExcC X.K C) (hz : Zc (.ref C) (some dd) oe) (hf : ∃ vs, oe.data = .fields vs) : CallR (X.suite a ((a, oe) :: pn)) (.builtin "isinstance") (rIsX X.K C a dd) := by
  intro pins s σ H xs us Q I rs ⟨c, cv, b, fs, ex, hc, hk, hd, q⟩
  subst ex
  cases rs with
  | cons r1 rs =>
    cases rs with
    | cons r2 rs =>
      cases rs
      cases r1
      have e2 := hc _ r2
      subst e2
      obtain ⟨_, hns, _⟩ : ObjOk X.prog X.w H s.heap dd (.xd fs) := I.hok dd _ hd
      obtain ⟨od, ho, _⟩ := lookIn_ns hns
      obtain ⟨ha, _⟩ := I.pin (a, oe) (List.mem_append_left _ List.mem_cons_self)
      obtain ⟨vs, hv⟩ := hf
      have at_ : PySem.W.InstAt s.heap a oe C (some od) := ⟨ha, hz.1, by unfold PySem.W.notCls; rw [hv] <;> rfl, by rw [hz.2.1]; exact ho⟩
      have cl : (PySem.W.clsIn X.K C).isSome = true := by
        obtain ⟨cd, h, _⟩ := PySem.W.any_some T.hd
        rw [h]; rfl
      exact PySem.W.kia_one (PySem.W.kitx_exc cl T.hg T.hk T.hs T.ha T.hn T.ht T.hm) I.kIn at_ hk (fun z => nomatch z) fun tk => ⟨.bl b, H, I.kept (t' := tk) fun _ _ z => z, rfl, q⟩
section
variable {G : Gl0} {p : Px} {Wx : WX}
/-- the exception classes against isinstance -/
def XiOk (G : Gl0) (p : Px) (K : PySem.W.Frag) (dd : Nat) : Prop := ∀ c, c < p.nx → ExcC K (G.xa c) ∧ PySem.W.kitOne K (.ref (G.xa c)) (.ref (G.xa dd)) = some (p.sub c dd)
theorem excis_at {b : Ba} {W : Wd} {s : St} {σ : L2.St} {H : L2.Hp} {Q : VK} {i dd : Nat} {a : Addr} {cls : Value} {d : Option Addr} (hx : G.exa = some (a, cls, d)) (B : BSim G b W s σ H) (ok : okR G b W σ Wx (kV1 G Q) (evE p (.excis i [dd]) s)) :
    ∃ c d' v, σ[i]? = some (some (.ref a)) ∧ cls = .ref (G.xa c) ∧ d = some d' ∧ c < p.nx ∧ H d' = some (.xd [(G.xf c, v)]) ∧ Q (.bl (p.sub c dd)) H := by
  simp only [evE] at ok
  split at ok
  · rename_i c u e
    split at ok
    · rename_i hc
      obtain ⟨a', d', v, e1, e2, r, e3⟩ := B.f.exc i c u e
      rw [hx] at e3
      cases e3
      refine ⟨c, d', v, e1, rfl, rfl, hc, B.h.fz _ _ e2, ?_⟩
      have := okR.val B (.bl _) ok
      simpa using this
    · exact (show False from ok).elim
  · exact (show False from ok).elim
theorem xe_excis {X0 : Cx} {a : Addr} {oe : Obj} {cls : Value} {d : Option Addr} {pn : List (Addr × Obj)} {i dd : Nat} {x cn : PySem.Str} {q px pc pos : Pos} (hx : G.exa = some (a, cls, d)) (hN : X0.N[i]? = some x) (hv : Vis X0.env.scope x)
    (h1 : (x == ("__debug__" : PySem.Str)) = false) (h2 : (x == ("__classdict__" : PySem.Str)) = false) (hz : Zc cls d oe) (hf : ∃ vs, oe.data = .fields vs) (T : XiOk G p X0.K dd) (hg : Gl X0 "isinstance") (hm : X0.mg "isinstance" = none)
    (hcg : Gl X0 cn) (hcd : (cn == ("__debug__" : PySem.Str)) = false) (hcm : X0.mg cn = some (.ref (G.xa dd))) :
    PE (X0.suite a ((a, oe) :: pn)) (.Call (.Name "isinstance" q) [.Name x px, .Name cn pc] [] pos) (RE G Wx (evE p (.excis i [dd]))) := by
  by_cases hC : ∃ c dx, cls = .ref (G.xa c) ∧ c < p.nx ∧ d = some dx
  · obtain ⟨c, dx, rfl, hc, rfl⟩ := hC
    obtain ⟨t1, t2⟩ := T c hc
    have e1 : PE (X0.suite a ((a, oe) :: pn)) (.Name x px) (tVar i) := pe_var (X := X0.suite a ((a, oe) :: pn)) hN hv h1 h2
    have e2 : PE (X0.suite a ((a, oe) :: pn)) (.Name cn pc) (tC (.ref (G.xa dd))) := pe_glob (X := X0.suite a ((a, oe) :: pn)) hcg hcm rfl hcd
    refine PE.imp (pe_callB (X := X0.suite a ((a, oe) :: pn)) (call_isX t1 hz hf) hg hm boot_isinstance (pa_cons e1 (pa_cons e2 pa_nil (star_of rfl _ _)) (star_of rfl _ _)) (he := star_of rfl _ _) (hpl := plain_stars (by simp [notStar]))) fun σ H Q ⟨b, W, s, B, ok⟩ => ?_
    obtain ⟨c', d', v, q1, q2, q3, q4, q5, q6⟩ := excis_at hx B ok
    cases q3
    have q2' : G.xa c = G.xa c' := by injection q2
    refine ⟨_, q1, _, _, _, _, rfl, fun u r => r, ?_, q5, q6⟩
    have := (T c' q4).2
    rw [← q2'] at this
    exact this
  · refine ⟨fun pins s σ H Q I ⟨b, W, s1, B, ok⟩ => ?_⟩
    obtain ⟨c', d', v, _, e2, e3, q1, _⟩ := excis_at hx B ok
    exact absurd ⟨c', d', e2, q1, e3⟩ hC
end
end Pix
end
section
set_option Elab.async false
set_option linter.all false
set_option maxRecDepth 100000
set_option maxHeartbeats 1000000
/-! PixX7: isinstance of the handled exception against built-in classes. -/
namespace Pix
open PySem PySem.Spec PyProof.Rows L2
def rIsXT (K : PySem.W.Frag) (C a dd : Addr) : List V → L2.Hp → VK → Prop := fun xs H Q => ∃ (tp : Addr) (cs : List V) (us : List Value) (b : Bool) (fs : List (PySem.Str × V)), xs = [.ref a, .ref tp] ∧ H tp = some (.tup cs) ∧ Paired ClsV cs us ∧ PySem.W.kitAny K (.ref C) us = some b ∧ H dd = some (.xd fs) ∧ Q (.bl b) H
theorem call_isXT {X : Cx} {a C dd : Addr} {oe : Obj} {pn : List (Addr × Obj)} (T : ExcC X.K C) (hz : Zc (.ref C) (some dd) oe) (hf : ∃ vs, oe.data = .fields vs) : CallR (X.suite a ((a, oe) :: pn)) (.builtin "isinstance") (rIsXT X.K C a dd) := by
  intro pins s σ H xs us Q I rs ⟨tp, cs, ws, b, fs, ex, hT, hc, hk, hd, q⟩
  subst ex
  obtain ⟨u1, u2, rfl, r1, r2⟩ := vals2 rs
  cases (show u2 = Value.ref tp from r2)
  cases (show u1 = Value.ref a from r1)
  obtain ⟨_, its, rv, o, h1, h2, n, h3⟩ := (show ObjOk X.prog X.w H s.heap tp (.tup cs) from I.hok tp _ hT)
  have e3 := ClsV.all hc rv
  subst e3
  obtain ⟨oc, od', dt, sl⟩ := o
  simp only at h2 h3
  subst h2 h3
  obtain ⟨_, hns, _⟩ : ObjOk X.prog X.w H s.heap dd (.xd fs) := I.hok dd _ hd
  obtain ⟨od, ho, _⟩ := lookIn_ns hns
  obtain ⟨ha, _⟩ := I.pin (a, oe) (List.mem_append_left _ List.mem_cons_self)
  obtain ⟨vs, hv⟩ := hf
  have at_ : PySem.W.InstAt s.heap a oe C (some od) := ⟨ha, hz.1, by unfold PySem.W.notCls; rw [hv] <;> rfl, by rw [hz.2.1]; exact ho⟩
  have cl : (PySem.W.clsIn X.K C).isSome = true := by
    obtain ⟨cd, h, _⟩ := PySem.W.any_some T.hd
    rw [h]; rfl
  exact PySem.W.kia_tup (PySem.W.kitx_exc cl T.hg T.hk T.hs T.ha T.hn T.ht T.hm) I.kIn at_ h1 hk (fun z => nomatch z) fun tk => ⟨.bl b, H, I.kept (t' := tk) fun _ _ z => z, rfl, q⟩
def xnoV : List V := [.ty "ValueError", .ty "LookupError", .ty "ArithmeticError"]
def xnoU : List Value := [.type "ValueError", .type "LookupError", .type "ArithmeticError"]
theorem xno_pair : Paired ClsV xnoV xnoU := .cons (.ty _) (.cons (.ty _) (.cons (.ty _) .nil))
theorem boot_xno : bootBuiltins "ValueError" = some (.type "ValueError") ∧ bootBuiltins "LookupError" = some (.type "LookupError") ∧ bootBuiltins "ArithmeticError" = some (.type "ArithmeticError") := by decide +kernel
section
variable {G : Gl0} {p : Px} {Wx : WX}
/-- the exception classes are below none of these -/
def XnOk (G : Gl0) (p : Px) (K : PySem.W.Frag) : Prop := ∀ c, c < p.nx → ExcC K (G.xa c) ∧ PySem.W.kitAny K (.ref (G.xa c)) xnoU = some false
theorem excno_at {b : Ba} {W : Wd} {s : St} {σ : L2.St} {H : L2.Hp} {Q : VK} {i : Nat} {a : Addr} {cls : Value} {d : Option Addr} (hx : G.exa = some (a, cls, d)) (B : BSim G b W s σ H) (ok : okR G b W σ Wx (kV1 G Q) (evE p (.excno i) s)) :
    ∃ c d' v, σ[i]? = some (some (.ref a)) ∧ cls = .ref (G.xa c) ∧ d = some d' ∧ c < p.nx ∧ H d' = some (.xd [(G.xf c, v)]) ∧ okR G b W σ Wx (kV1 G Q) (.ok (.bl false) s) := by
  simp only [evE] at ok
  split at ok
  · rename_i c u e
    split at ok
    · rename_i hc
      obtain ⟨a', d', v, e1, e2, r, e3⟩ := B.f.exc i c u e
      rw [hx] at e3
      cases e3
      exact ⟨c, d', v, e1, rfl, rfl, hc, B.h.fz _ _ e2, ok⟩
    · exact (show False from ok).elim
  · exact (show False from ok).elim
theorem xe_excno {X0 : Cx} {a : Addr} {oe : Obj} {cls : Value} {d : Option Addr} {pn : List (Addr × Obj)} {i k : Nat} {x : PySem.Str} {q px p1 p2 p3 pt pos : Pos} (hx : G.exa = some (a, cls, d)) (hN : X0.N[i]? = some x) (hv : Vis X0.env.scope x)
    (h1 : (x == ("__debug__" : PySem.Str)) = false) (h2 : (x == ("__classdict__" : PySem.Str)) = false) (hz : Zc cls d oe) (hf : ∃ vs, oe.data = .fields vs) (T : XnOk G p X0.K) (hg : Gl X0 "isinstance") (hm : X0.mg "isinstance" = none)
    (g1 : Gl X0 "ValueError") (m1 : X0.mg "ValueError" = none) (g2 : Gl X0 "LookupError") (m2 : X0.mg "LookupError" = none) (g3 : Gl X0 "ArithmeticError") (m3 : X0.mg "ArithmeticError" = none) :
    PE (X0.suite a ((a, oe) :: pn)) (.Call (.Name "isinstance" q) [.Name x px, .Tuple [.Name "ValueError" p1, .Name "LookupError" p2, .Name "ArithmeticError" p3] k pt] [] pos) (RE G Wx (evE p (.excno i))) := by
  by_cases hC : ∃ c dx, cls = .ref (G.xa c) ∧ c < p.nx ∧ d = some dx
  · obtain ⟨c, dx, rfl, hc, rfl⟩ := hC
    obtain ⟨t1, t2⟩ := T c hc
    have e1 : PE (X0.suite a ((a, oe) :: pn)) (.Name x px) (tVar i) := pe_var (X := X0.suite a ((a, oe) :: pn)) hN hv h1 h2
    have n1 : PE (X0.suite a ((a, oe) :: pn)) (.Name "ValueError" p1) (tC (.ty "ValueError")) := pe_bltn (X := X0.suite a ((a, oe) :: pn)) (u := .type "ValueError") g1 m1 boot_xno.1 rfl
    have n2 : PE (X0.suite a ((a, oe) :: pn)) (.Name "LookupError" p2) (tC (.ty "LookupError")) := pe_bltn (X := X0.suite a ((a, oe) :: pn)) (u := .type "LookupError") g2 m2 boot_xno.2.1 rfl
    have n3 : PE (X0.suite a ((a, oe) :: pn)) (.Name "ArithmeticError" p3) (tC (.ty "ArithmeticError")) := pe_bltn (X := X0.suite a ((a, oe) :: pn)) (u := .type "ArithmeticError") g3 m3 boot_xno.2.2 rfl
    have e2 := pe_tup (x1 := k) (pos := pt) (pa_cons n1 (pa_cons n2 (pa_cons n3 pa_nil (star_of rfl _ _)) (star_of rfl _ _)) (star_of rfl _ _))
    refine PE.imp (pe_callB (X := X0.suite a ((a, oe) :: pn)) (call_isXT t1 hz hf) hg hm boot_isinstance (pa_cons e1 (pa_cons e2 pa_nil (star_of rfl _ _)) (star_of rfl _ _)) (he := star_of rfl _ _) (hpl := plain_stars (by simp [notStar]))) fun σ H Q ⟨b, W, s, B, ok⟩ => ?_
    obtain ⟨c', d', v, q1, q2, q3, q4, q5, q6⟩ := excno_at hx B ok
    cases q3
    have q2' : G.xa c = G.xa c' := by injection q2
    refine ⟨_, q1, (by decide : 3 ≤ sizeLine), fun l hl => ?_⟩
    have B2 : BSim G b W s σ (upd H l (.tup xnoV)) := B.more fun y u e => by rw [upd_ne (ne_of_none e hl)]; exact e
    exact ⟨l, xnoV, xnoU, false, _, rfl, upd_same, xno_pair, t2, by rw [upd_ne (ne_of_none q5 hl)]; exact q5, q6 W _ .rfl' B2 _ (.bl _)⟩
  · refine ⟨fun pins s σ H Q I ⟨b, W, s1, B, ok⟩ => ?_⟩
    obtain ⟨c', d', v, _, e2, e3, q1, _⟩ := excno_at hx B ok
    exact absurd ⟨c', d', e2, q1, e3⟩ hC
end
end Pix
end
section
set_option Elab.async false
set_option linter.all false
set_option maxRecDepth 100000
set_option maxHeartbeats 1000000
/-! PixW2: calls and targets while an exception is handled. -/
namespace Pix
open PySem PySem.Spec PyProof.Rows L2
/-- what a def promises that is called while an exception is handled -/
abbrev FnHp (G : Gl0) (P : Program) (w : World) (mg : PySem.Str → Option Value) (base : Heap) (kk : Nat) (fa : Addr) (fd : FuncData) (ps : List PySem.Str) (n : Nat) (call : List U → Hp → Rc) : Prop := L2H.FnH P w G.K mg base (CX P w) kk fa fd ps (spC (G.exc none) n call)
section
variable {G : Gl0} {p : Px} {X : Cx} {Wx : WX} {pos : Pos}
theorem call_impH {b : Ba} {W : Wd} {s : St} {σ : L2.St} {H : L2.Hp} {Q : VK} {n i : Nat} {us : List U} {vs : List V} (B : BSim G b W s σ H) (rs : Reps G W us vs) (hn : us.length = n) (ok : okR G b W σ Wx (kV1 G Q) (rets p i us s)) : spC (G.exc none) n (p.call i) vs H Q fun cl d H' => Wx cl d σ H' := by
  refine ⟨W, us, s.hp, B.h.ex, rs.ex, by rw [← rs.length]; exact hn, ?_⟩
  unfold rets at ok
  cases e : p.call i us s.hp with
  | bad => rw [e] at ok; exact (show False from ok).elim
  | ok u hp' =>
    rw [e] at ok
    exact fun W' H' v h1 h2 r => ok W' H' h2.le (B.call h1.un h2) v r.un
  | ex c u hp' =>
    rw [e] at ok
    exact fun W' H' d v h1 h2 h3 r => ok W' H' d v h2.le (B.call h1.un h2) h3 r.un
theorem xe_callH {n i : Nat} {kk : Nat} {f : Addr} {fd : FuncData} {ps : List PySem.Str} {x : PySem.Str} {q : Pos} {e : Expr} {es : List Expr} {fs : St → Re (List U)} (F : FnHp G X.prog X.w X.mg X.base kk f fd ps n (p.call i)) (hK : X.K = G.K) (hr : L2H.RoomH kk X.A) (hc : L2H.HotC X) (hb : Binds X.K fd ps []) (tk : Takes X Wx)
    (hg : Gl X x) (hm : X.mg x = some (.ref f)) (hk : PySem.W.keepIn X.K (.ref f) = true) (hdb : (x == ("__debug__" : PySem.Str)) = false) (ha : PA X (e :: es) (RA G Wx fs)) (hs : (e :: es).all notStar = true) (hl : ∀ s us s', fs s = .ok us s' → us.length = n) :
    PE X (.Call (.Name x q) (e :: es) [] pos) (RE G Wx fun s => (fs s).bnd fun us s1 => rets p i us s1) := by
  have key : ∀ σ H Q, RE G Wx (fun s => (fs s).bnd fun us s1 => rets p i us s1) σ H Q → RA G Wx fs σ H fun vs H1 => spC (G.exc none) n (p.call i) vs H1 Q fun cl d H' => Wx cl d σ H' := fun σ H Q ⟨b, W, s, B, ok⟩ =>
    ⟨b, W, s, B, then_eq ok fun W1 s1 us H1 e le B1 q vs rs => call_impH B1 rs (hl _ _ _ e) q⟩
  rw [List.all_cons, Bool.and_eq_true] at hs
  refine ⟨fun pins s σ H Q I h => ?_⟩
  refine wpAny_Call_Name_kw (ld_glob I hg hm ?_ hdb)
  refine PySem.W.callWith_K (h₀ := X.base) I.ok.mod.kin hk (thn (ha.run pos pins s σ H _ I (key σ H Q h)) fun us s1 ⟨vs, H1, I1, r, q⟩ => ⟨I1.kIn, ?_⟩) (star_of hs.1 _ _) (plain_stars hs.2)
  have F' : L2H.FnH X.prog X.w X.K X.mg X.base (CX X.prog X.w) kk f fd ps (spC (G.exc none) n (p.call i)) := by rw [hK]; exact F
  exact L2H.run_fnH (E := fun σ cl d H' => Wx cl d σ H') F' hr hc hb (L2N.passAt tk σ) I1 r q
theorem xg_tH {es : List Expr} {k : Nat} {ts : List T} (hK : X.K = G.K) (hc : L2H.HotC X) (hs : PGs X es (RGs G ts)) (hn : es.all notStar = true) (hl : ts.length = es.length) : PG X (.Tuple es k pos) (RG G (.t ts)) := by
  obtain ⟨l1, l2⟩ := each_len (env := X.env) hn
  refine PG.imp (PG.or (pg_tupH (n := es.length) hc hs l1 l2) (pg_unlH (n := es.length) hc hs l1 l2)) fun v σ H Q ⟨b, W, s, u, fr, B, r, e, k⟩ => ?_
  rw [hK]
  cases u with
  | tup xs =>
    simp only [bindT] at e
    obtain ⟨a, vs, rfl, h1, h2⟩ := tup_rep B r
    exact .inl ⟨a, vs, rfl, h1, by rw [← h2.length, bindTs_len e, hl], b, W, s, xs, fr, B, h2, e, k⟩
  | lst xs =>
    simp only [bindT] at e
    cases r with
    | @lst _ a vs h1 h2 =>
    exact .inr ⟨a, vs, rfl, SqL.of (B.fzin h1), by rw [← h2.length, bindTs_len e, hl], b, W, s, xs, fr, B, h2, e, k⟩
  | _ => simp [bindT] at e
theorem xg_tdH {es : List Expr} {k : Nat} {ts : List T} (hK : X.K = G.K) (hc : L2H.HotC X) (hs : PGs X es (RGs G ts)) (hn : es.all notStar = true) (hl : ts.length = es.length) : PG X (.Tuple es k pos) (RGd G (.t ts)) := by
  obtain ⟨l1, l2⟩ := each_len (env := X.env) hn
  exact PG.imp (PG.or (pg_tupH (n := es.length) hc hs l1 l2) (pg_unlH (n := es.length) hc hs l1 l2)) fun v σ H Q h => rgd_seq hK hl h
end
end Pix
end
section
set_option Elab.async false
set_option linter.all false
set_option maxRecDepth 100000
set_option maxHeartbeats 1000000
/-! PixW3: loops over range while an exception is handled. -/
namespace Pix
open PySem PySem.Spec PyProof.Rows L2
section
variable {G : Gl0} {X : Cx} {Wx : WX} {pos : Pos}
theorem PIH.imp {tg e : Expr} {t t' : TI} (h : L2H.PIH X tg e t) (f : ∀ σ H Q, t' σ H Q → t σ H Q) : L2H.PIH X tg e t' := ⟨fun pins s σ H Q I hw => h.run pins s σ H Q I (f σ H Q hw)⟩
theorem xi_rng1H {a tg : Expr} {fa : St → Re U} {p pos : Pos} (hg : Gl X "range") (hm : X.mg "range" = none) (ha : PE X a (RE G Wx fa)) (hs : notStar a = true) : L2H.PIH X tg (.Call (.Name "range" p) [a] [] pos) (RI G Wx fun s => (fa s).bnd rng1) := by
  refine PIH.imp (L2H.pi_range1H hg hm (pa_cons ha pa_nil (star_of hs _ _)) (star_of hs _ _)) fun σ H R ⟨b, W, s, B, ok⟩ => ⟨b, W, s, B, ok.then fun W1 s1 x H1 le B1 q v r => ?_⟩
  cases r <;> first | exact (show False from q).elim | skip
  rename_i n
  simp only [rng1] at q
  split at q
  · rename_i h
    have q := q W1 H1 .rfl' B1
    have : (SZ : Int) < 2 ^ 62 := by decide
    exact ⟨n, rfl, h.2, by omega, q _ (show WalkG G W1 (.snap _) _ from walk_rng 0 _)⟩
  · exact (show False from q).elim
theorem xs_forH {tg iter : Expr} {body : List Stmt} {t : T} {fi : St → Re Src} {g : St → Rs} (hpo : PassesOwn (model X.prog X.w) X.A X.env X.xe) (hc : L2H.HotC X) (hi : L2H.PIH X tg iter (RI G Wx fi)) (hg : PG X tg (RG G t)) (hb : PSs X body (RS G Wx g)) (hs : notSet iter = true) :
    PS X (.For tg iter body [] pos) (RS G Wx fun s => (fi s).toS fun src s1 => forS t g src s1) := PS.imp (L2H.ps_forH hpo hc hi hg hb (noFold_of hs X.env)) fun D σ H h => for_imp h
end
end Pix
end
section
set_option Elab.async false
set_option linter.all false
set_option maxRecDepth 100000
set_option maxHeartbeats 1000000
/-! PixE1: the own syntax against the program's: the check, and what it proves of expressions. -/
namespace Pix
open PySem PySem.Spec PyProof.Rows L2

/-- the classes with instances: their fields; their methods, which def and how many parameters; by name: class, __init__'s def, its parameters -/
structure Cl0 where
  fl : List (Nat × PySem.Str)
  me : List ((Nat × PySem.Str) × (Nat × Nat))
  nw : List (PySem.Str × (Nat × Nat × Nat))
  /-- by keyword: class, method, how many by place, the keywords; which def, the order (self first) -/
  mek : List ((Nat × PySem.Str × Nat × List PySem.Str) × (Nat × List Nat))
  nk : List ((PySem.Str × Nat × List PySem.Str) × (Nat × Nat × List Nat))
  /-- the defs that are called while an exception is handled -/
  hf : List Nat
/-- what the check knows of the place -/
structure Ce where
  N : List PySem.Str
  sc : Scope
  blk : Option Scope
  hot : Bool
  gl : List (PySem.Str × Nat)
  fn : List (PySem.Str × Nat × Nat)
  nc : Nat
  /-- calls by keyword: name, how many by place, the keywords; which def, the order -/
  fk : List ((PySem.Str × Nat × List PySem.Str) × (Nat × List Nat))
  /-- the exception classes by name: that may be caught, that may be made -/
  xc : List (PySem.Str × Nat)
  xm : List (PySem.Str × Nat)
  cl : Cl0
def bltNames : List PySem.Str := ["int", "abs", "len", "tuple", "sum", "max", "min", "any", "all", "str", "isinstance", "range", "list", "sorted", "enumerate", "zip", "set", "bool", "reversed", "repr", "ValueError", "LookupError", "ArithmeticError"]
def visB (c : Ce) (x : PySem.Str) : Bool := match c.sc.names.lookup x with
  | some .local => true
  | some .cell => true
  | some .free => true
  | _ => false
def okNm (x : PySem.Str) : Bool := !(x == "__debug__") && !(x == "__classdict__")
def varB (c : Ce) (i : Nat) (x : PySem.Str) : Bool := decide (c.N[i]? = some x) && visB c x && okNm x
def glB (c : Ce) (x : PySem.Str) : Bool := decide (c.sc.names.lookup x = some .globalImplicit) && okNm x
def locB (c : Ce) (i : Nat) (x : PySem.Str) : Bool := decide (c.N[i]? = some x) && (decide (c.sc.names.lookup x = some .local) || (decide (c.sc.names.lookup x = some .cell) && (match c.blk with
  | none => true
  | some s => s.names.lookup x == some .cell)))
def bltB (c : Ce) (x y : PySem.Str) : Bool := (x == y) && glB c x && bltNames.contains x
def Es.len : Es → Nat
  | .nil => 0
  | .cons _ es => Es.len es + 1
/-- over range(n) -/
def rng1B : It → Bool
  | .rng1 _ => true
  | _ => false
/-- all(..) -/
def allB : B1 → Bool
  | .all => true
  | _ => false
mutual
def chkTg (c : Ce) : T → Expr → Bool
  | .s i, e => match e with
    | .Name x _ => locB c i x
    | _ => false
  | .t xs, e => match e with
    | .Tuple es _ _ => chkTgs c xs es && es.all notStar && decide (xs.length = es.length)
    | _ => false
def chkTgs (c : Ce) : List T → List Expr → Bool
  | [], es => match es with
    | [] => true
    | _ :: _ => false
  | x :: xs, es => match es with
    | [] => false
    | e :: es => chkTg c x e && notStar e && chkTgs c xs es
end
def tyB (c : Ce) : List Ty → List Expr → Bool
  | [], es => match es with
    | [] => true
    | _ :: _ => false
  | t :: ts, es => match es with
    | .Name x _ :: es => (match t with
      | .cls i => glB c x && decide ((c.cl.nw.lookup x).map (·.1) = some i)
      | t => bltB c x (PySem.Str.ofString (tyNm t))) && tyB c ts es
    | _ => false
def b1Ok : B1 → Bool
  | .lenset => false
  | .repr => false
  | _ => true
/-- a name that is only looked at -/
def peekB (c : Ce) : E → Expr → Bool
  | .peek i, x => match x with
    | .Name z _ => varB c i z
    | _ => false
  | _, _ => false
def clsB (c : Ce) (ts : List Ty) : Expr → Bool
  | .Tuple ys _ _ => tyB c ts ys
  | y => decide (ts.length = 1) && tyB c ts [y]
def ownN (N : List PySem.Str) (own : List Nat) : List (PySem.Str × Nat) := own.map fun i => (N.getD i "", i)
def inBlk (c : Ce) (scope : Scope) : Ce := { c with sc := relS scope c.sc, blk := some scope }
def kwB (c : Ce) (x : PySem.Str) (n : Nat) (kws : List Keyword) (f : Nat) (perm : List Nat) : Bool := match kwNames kws with
  | some ks => decide (c.fk.lookup (x, n, ks) = some (f, perm))
  | none => false
def mkwB (c : Ce) (i : Nat) (x : PySem.Str) (n : Nat) (kws : List Keyword) (f : Nat) (perm : List Nat) : Bool := match kwNames kws with
  | some ks => decide (c.cl.mek.lookup (i, x, n, ks) = some (f, perm))
  | none => false
def nkwB (c : Ce) (x : PySem.Str) (n : Nat) (kws : List Keyword) (i f : Nat) (perm : List Nat) : Bool := match kwNames kws with
  | some ks => decide (c.cl.nk.lookup (x, n, ks) = some (i, f, perm))
  | none => false
def isSp : E → Bool
  | .nt _ => true | .an _ _ => true | .or _ _ => true | .cmp _ _ _ => true | .chain _ _ _ _ _ => true | .isN _ _ => true | .ite _ _ _ => true | .pin _ _ _ => true
  | _ => false
/-- it may be tested -/
def tOk (a : E) (x : Expr) : Bool := isSp a || isPlain x
mutual
def chkE (c : Ce) : E → Expr → Bool
  | .non, e => match e with | .Constant .none _ _ => true | _ => false
  | .bl b, e => match e with | .Constant (.bool k) _ _ => k == b | _ => false
  | .int i, e => match e with | .Constant (.int k) _ _ => decide (k = i) | _ => false
  | .str s, e => match e with | .Constant (.str x) _ _ => (x == PySem.Str.ofString s) && decide ((S s).length ≤ SZ) | _ => false
  | .var i, e => match e with | .Name x _ => varB c i x | _ => false
  | .peek _, _ => false
  | .glb g, e => match e with | .Name x _ => glB c x && decide (c.gl.lookup x = some g) | _ => false
  | .bin op a b, e => match e with | .BinOp x o y _ => decide (bopP op = o) && chkE c a x && chkE c b y | _ => false
  | .neg a, e => match e with | .UnaryOp .USub x _ => chkE c a x | _ => false
  | .nt a, e => match e with | .UnaryOp .Not x _ => chkE c a x && tOk a x | _ => false
  | .an a b, e => match e with
    | .BoolOp .And (x :: y :: rest) pos => chkE c a x && tOk a x && (match rest with | [] => chkE c b y && tOk b y | _ :: _ => (match b with | .an _ _ => chkE c b (.BoolOp .And (y :: rest) pos) | _ => false))
    | _ => false
  | .or a b, e => match e with
    | .BoolOp .Or (x :: y :: rest) pos => chkE c a x && tOk a x && (match rest with | [] => chkE c b y && tOk b y | _ :: _ => (match b with | .or _ _ => chkE c b (.BoolOp .Or (y :: rest) pos) | _ => false))
    | _ => false
  | .cmp op a b, e => match e with | .Compare x [o] [y] _ => decide (copP op = o) && chkE c a x && chkE c b y && notSet y | _ => false
  | .chain o1 o2 a b d, e => match e with | .Compare x [p, q] [y, z] _ => decide (copP o1 = p) && decide (copP o2 = q) && chkE c a x && chkE c b y && chkE c d z && notSet z | _ => false
  | .isN no a, e => match e with | .Compare x [o] [.Constant .none _ _] _ => decide ((if no then CmpOp.IsNot else CmpOp.Is) = o) && chkE c a x | _ => false
  | .ite t a b, e => match e with | .IfExp x y z _ => chkE c t x && tOk t x && chkE c a y && tOk a y && chkE c b z && tOk b z | _ => false
  | .tup es, e => match e with | .Tuple xs _ _ => chkEs c es xs && decide (Es.len es ≤ SZ) | _ => false
  | .fr f, e => chkF c f e
  | .bx f, e => chkF c f e
  | .frd d, e => chkD c d e
  | .bxd d, e => chkD c d e
  | .callK f perm es ks, e => match e with
    | .Call (.Name x _) xs kws _ => !c.hot && glB c x && kwB c x (Es.len es) kws f perm && chkEs c es xs && xs.all notStar && chkEs c ks (kws.map (·.value)) && decide (xs.length = Es.len es)
    | _ => false
  | .call f es, e => match e with
    | .Call (.Name x _) xs [] _ => (!c.hot || (c.cl.hf.contains f && !xs.isEmpty)) && glB c x && decide (c.fn.lookup x = some (f, Es.len es)) && chkEs c es xs && xs.all notStar
    | _ => false
  | .ix a b, e => match e with | .Subscript x y _ => chkE c a x && chkE c b y && notSlice y | _ => false
  | .sl a lo hi, e => match e with | .Subscript x (.Slice l h none _) _ => chkE c a x && chkEo c lo l && chkEo c hi h | _ => false
  | .rev a, e => match e with | .Subscript x (.Slice none none (some (.UnaryOp .USub (.Constant (.int k) _ _) _)) _) _ => decide (k = 1) && chkE c a x | _ => false
  | .b1 b a, e => match e with
    | .Call (.Name f _) [x] [] _ => bltB c f (b1Nm b) && notStar x && (!c.hot || (b1Hot b || allB b)) && b1Ok b && (chkE c a x || peekB c a x)
    | _ => false
  | .lset a, e => match e with
    | .Call (.Name f _) [.Call (.Name g _) [x] [] _] [] _ => !c.hot && bltB c f "len" && bltB c g "set" && notStar x && (chkE c a x || peekB c a x)
    | _ => false
  | .b2 b a d, e => match b with
    | .max => (match e with | .Call (.Name f _) [x, y] [] _ => !c.hot && bltB c f "max" && notStar x && notStar y && chkE c a x && chkE c d y | _ => false)
    | .min => (match e with | .Call (.Name f _) [x, y] [] _ => !c.hot && bltB c f "min" && notStar x && notStar y && chkE c a x && chkE c d y | _ => false)
    | .join => (match a with
      | .str s => (match e with | .Call (.Attribute x m ap) [y] [] cp => (m == "join") && (ap.endLine == cp.line) && notStar y && notCall x && chkE c (.str s) x && chkE c d y | _ => false)
      | _ => false)
    | _ => false
  | .isi a ts, e => match e with
    | .Call (.Name f _) [x, y] [] _ => bltB c f "isinstance" && notStar x && chkE c a x && decide (ts.length ≤ SZ) && clsB c ts y
    | _ => false
  | .app o a, e => match e with
    | .Call (.Attribute x m ap) [y] [] cp => (m == "append") && (ap.endLine == cp.line) && notStar y && notCall x && chkE c o x && chkE c a y
    | _ => false
  | .pop0 o, e => match e with
    | .Call (.Attribute x m ap) [] [] cp => (m == "pop") && (ap.endLine == cp.line) && notCall x && chkE c o x
    | _ => false
  | .opop1 i a, e => match e with
    | .Call (.Attribute (.Name x _) m ap) [y] [] cp => (m == "pop") && (ap.endLine == cp.line) && notStar y && varB c i x && chkE c a y
    | _ => false
  | .fld i a f, e => match e with | .Attribute x m _ => baseB x && (m == PySem.Str.ofString f) && c.cl.fl.contains (i, m) && chkE c a x | _ => false
  | .meth f i m o es, e => match e with
    | .Call (.Attribute x n ap) xs [] cp => !c.hot && baseB x && (n == PySem.Str.ofString m) && decide (c.cl.me.lookup (i, n) = some (f, Es.len es + 1)) && (ap.endLine == cp.line) && decide (xs.length < 29) && chkE c o x && chkEs c es xs && xs.all notStar
    | _ => false
  | .new i f es, e => match e with
    | .Call (.Name x _) (y :: ys) [] _ => !c.hot && glB c x && decide (c.cl.nw.lookup x = some (i, f, Es.len es + 1)) && chkEs c es (y :: ys) && (y :: ys).all notStar
    | _ => false
  | .methK f i m perm o es ks, e => match e with
    | .Call (.Attribute x n ap) xs kws cp => !c.hot && baseB x && (n == PySem.Str.ofString m) && mkwB c i n (Es.len es) kws f perm && (ap.endLine == cp.line) && decide (xs.length + kws.length < 28) && chkE c o x && chkEs c es xs && xs.all notStar && chkEs c ks (kws.map (·.value)) && decide (xs.length = Es.len es)
    | _ => false
  | .newK i f perm es ks, e => match e with
    | .Call (.Name x _) xs kws _ => !c.hot && glB c x && nkwB c x (Es.len es) kws i f perm && chkEs c es xs && xs.all notStar && chkEs c ks (kws.map (·.value)) && decide (xs.length = Es.len es)
    | _ => false
  | .upper a, e => match e with | .Call (.Attribute x m ap) [] [] cp => (m == ("upper" : PySem.Str)) && baseB x && (ap.endLine == cp.line) && chkE c a x | _ => false
  | .excf i f, e => match e with | .Attribute (.Name x _) m _ => c.hot && c.blk.isNone && varB c i x && (m == PySem.Str.ofString f) | _ => false
  | .excis i cs, e => match e with
    | .Call (.Name f _) [.Name x _, .Name y _] [] _ => c.hot && c.blk.isNone && bltB c f "isinstance" && varB c i x && glB c y && (match cs with
      | [dd] => decide (c.xc.lookup y = some dd)
      | _ => false)
    | _ => false
  | .excno i, e => match e with
    | .Call (.Name f _) [.Name x _, .Tuple [.Name y1 _, .Name y2 _, .Name y3 _] _ _] [] _ => c.hot && c.blk.isNone && bltB c f "isinstance" && varB c i x && bltB c y1 "ValueError" && bltB c y2 "LookupError" && bltB c y3 "ArithmeticError"
    | _ => false
  | .pix i a, e => match e with | .Subscript (.Name x _) y _ => varB c i x && chkE c a y && notSlice y | _ => false
  | .psl i lo hi, e => match e with | .Subscript (.Name x _) (.Slice l h none _) _ => varB c i x && chkEo c lo l && chkEo c hi h | _ => false
  | .pin no a i, e => match e with | .Compare x [o] [.Name y _] _ => decide (copP (if no then .notin else .isin) = o) && chkE c a x && varB c i y | _ => false
  | .idx o a, e => match e with
    | .Call (.Attribute x m ap) [y] [] cp => (m == "index") && (ap.endLine == cp.line) && notStar y && notCall x && chkE c o x && chkE c a y
    | _ => false
  | .pidx i a, e => match e with
    | .Call (.Attribute (.Name x _) m ap) [y] [] cp => (m == "index") && (ap.endLine == cp.line) && notStar y && varB c i x && chkE c a y
    | _ => false
  | _, _ => false
def chkEs (c : Ce) : Es → List Expr → Bool
  | .nil, es => match es with
    | [] => true
    | _ :: _ => false
  | .cons a as, es => match es with
    | [] => false
    | e :: es => chkE c a e && notStar e && chkEs c as es
def chkEo (c : Ce) : Eo → Option Expr → Bool
  | .no, o => match o with
    | none => true
    | some _ => false
  | .so a, o => match o with
    | none => false
    | some e => chkE c a e
def chkIfs (c : Ce) : Eo → List Expr → Bool
  | .no, es => match es with
    | [] => true
    | _ :: _ => false
  | .so a, es => match es with
    | [e] => chkE c a e && tOk a e
    | _ => false
def chkF (c : Ce) : F → Expr → Bool
  | .disp es, e => match e with | .List xs _ => chkEs c es xs && decide (Es.len es ≤ SZ) | _ => false
  | .comp elt t it cond own, e => match e with
    | .ListComp x [⟨tg, iter, ifs, 0⟩] scope _ => (!c.hot || rng1B it) && chkIt c it tg iter && notSet iter && blkC c.N c.sc scope (ownN c.N own) && (T.slots t).all (fun i => own.contains i) && chkTg (inBlk c scope) t tg && chkIfs (inBlk c scope) cond ifs && chkE (inBlk c scope) elt x
    | _ => false
  | .comp2 elt t it t2 it2 cond own own2, e => match e with
    | .ListComp x [⟨tg, iter, [], 0⟩, ⟨tg2, iter2, ifs, 0⟩] scope _ => !c.hot && chkIt c it tg iter && notSet iter && notSet iter2 && blkC c.N c.sc scope (ownN c.N own) && (T.slots t).all (fun i => own.contains i) && (T.slots t2).all (fun i => own2.contains i) && own2.all (fun i => own.contains i) && chkTg (inBlk c scope) t tg && chkIt (inBlk c scope) it2 tg2 iter2 && chkTg (inBlk c scope) t2 tg2 && chkIfs (inBlk c scope) cond ifs && chkE (inBlk c scope) elt x
    | _ => false
  | .of a, e => match e with | .Call (.Name f _) [x] [] _ => !c.hot && bltB c f "list" && notStar x && (chkE c a x || peekB c a x) | _ => false
  | .srt a rev, e => match e with | .Call (.Name f _) [x] [] _ => !rev && bltB c f "sorted" && notStar x && (chkE c a x || peekB c a x) | _ => false
  | .cat a b, e => match e with | .BinOp x .Add y _ => chkE c a x && chkE c b y | _ => false
  | .rep a b, e => match e with | .BinOp x .Mult y _ => chkE c a x && chkE c b y | _ => false
  | _, _ => false
def chkD (c : Ce) : D → Expr → Bool
  | .comp _ k v t it own, e => match e with
    | .DictComp kx vx [⟨tg, iter, [], 0⟩] scope _ => !c.hot && chkIt c it tg iter && notSet iter && blkC c.N c.sc scope (ownN c.N own) && (T.slots t).all (fun i => own.contains i) && chkTg (inBlk c scope) t tg && chkE (inBlk c scope) k kx && chkE (inBlk c scope) v vx
    | _ => false
  | .disp t kv, e => match t, e with
    | false, .Dict ks vs _ => chkKv c kv ks vs && decide (ks.length ≤ 15) && !ks.isEmpty
    | _, _ => false
  | .of _, _ => false
def chkKv (c : Ce) : Kv → List (Option Expr) → List Expr → Bool
  | .nil, ks, vs => ks.isEmpty && vs.isEmpty
  | .cons k v r, ks, vs => match ks, vs with
    | some x :: ks, y :: vs => chkE c k x && chkE c v y && chkKv c r ks vs
    | _, _ => false
def chkIt (c : Ce) : It → Expr → Expr → Bool
  | .seq a, _, e => chkE c a e
  | .rng1 a, _, e => match e with | .Call (.Name f _) [x] [] _ => bltB c f "range" && notStar x && chkE c a x | _ => false
  | .enum a, tg, e => match tg with
    | .Tuple _ _ _ => (match e with | .Call (.Name f _) [x] [] _ => bltB c f "enumerate" && notStar x && chkE c a x | _ => false)
    | _ => false
  | .rng2 a b, _, e => match e with | .Call (.Name f _) [x, y] [] _ => bltB c f "range" && notStar x && notStar y && chkE c a x && chkE c b y | _ => false
  | _, _, _ => false
end

/-- what is known where code runs -/
structure Good (G : Gl0) (p : Px) (c : Ce) (X : Cx) (Wx : WX) : Prop where
  N : X.N = c.N
  nd : c.N.Nodup
  K : X.K = G.K
  sc : X.env.scope = c.sc
  fnb : ∀ x, (match c.blk with | none => True | some s => (s.names.lookup x == some .cell) = true) → X.fn x = true
  calm : c.hot = false → X.calm = true
  hu : X.A.units + 65 < cLine
  kok : KOk G
  kts : p.kts = G.kts
  blt : ∀ x ∈ bltNames, X.mg x = none
  glb : ∀ x g, c.gl.lookup x = some g → ∃ v u, X.mg x = some u ∧ RelV v u ∧ ∀ W, Rep G W (p.glb g) v
  call : c.hot = false → ∀ x f n, c.fn.lookup x = some (f, n) → ∃ kk fa fd ps, X.mg x = some (.ref fa) ∧ PySem.W.keepIn X.K (.ref fa) = true ∧ Binds X.K fd ps [] ∧ FnOk X.prog X.w X.K X.mg X.base (CX X.prog X.w) kk fa fd ps (spC G n (p.call f)) ∧ Room kk X.A
  callk : c.hot = false → ∀ x m ks f perm, c.fk.lookup (x, m, ks) = some (f, perm) → ∃ n kk fa fd ps, X.mg x = some (.ref fa) ∧ PySem.W.keepIn X.K (.ref fa) = true ∧ KwB X.K fd ps m ks perm ∧ FnOk X.prog X.w X.K X.mg X.base (CX X.prog X.w) kk fa fd ps (spC G n (p.call f)) ∧ Room kk X.A ∧ ∀ l : List U, l.length = m + ks.length → (permL l perm).length = n
  callh : ∀ x f n, c.cl.hf.contains f = true → c.fn.lookup x = some (f, n) → ∃ kk fa fd ps, X.mg x = some (.ref fa) ∧ PySem.W.keepIn X.K (.ref fa) = true ∧ Binds X.K fd ps [] ∧ FnHp G X.prog X.w X.mg X.base kk fa fd ps n (p.call f) ∧ L2H.RoomH kk X.A
  hotc : c.hot = true → L2H.HotC X
  cfl : ∀ i m, (i, m) ∈ c.cl.fl → NoAttr G.K (G.ca i) m
  cls : ∀ x i f n, c.cl.nw.lookup x = some (i, f, n) → i < G.nc ∧ X.mg x = some (.ref (G.ca i))
  meth : c.hot = false → ∀ i m f n, c.cl.me.lookup (i, m) = some (f, n) → ∃ kk fa fd ps, Meth G.K (G.ca i) m fa ∧ Binds X.K fd ps [] ∧ FnOk X.prog X.w X.K X.mg X.base (CX X.prog X.w) kk fa fd ps (spC G n (p.call f)) ∧ Room kk X.A
  new : c.hot = false → ∀ x i f n, c.cl.nw.lookup x = some (i, f, n) → ∃ kk fa fd ps, Mk G.K (G.ca i) fa ∧ Binds X.K fd ps [] ∧ FnOk X.prog X.w X.K X.mg X.base (CX X.prog X.w) kk fa fd ps (spC G n (p.call f)) ∧ Room (kk + 1) X.A
  methk : c.hot = false → ∀ i m k ks f perm, c.cl.mek.lookup (i, m, k, ks) = some (f, perm) → ∃ n kk fa fd ps, Meth G.K (G.ca i) m fa ∧ KwB X.K fd ps (k + 1) ks perm ∧ FnOk X.prog X.w X.K X.mg X.base (CX X.prog X.w) kk fa fd ps (spC G n (p.call f)) ∧ Room kk X.A ∧ ∀ l : List U, l.length = k + 1 + ks.length → (permL l perm).length = n
  newk : c.hot = false → ∀ x k ks i f perm, c.cl.nk.lookup (x, k, ks) = some (i, f, perm) → i < G.nc ∧ X.mg x = some (.ref (G.ca i)) ∧ ∃ n kk fa fd ps, Mk G.K (G.ca i) fa ∧ KwB X.K fd ps (k + 1) ks (0 :: perm.map (· + 1)) ∧ FnOk X.prog X.w X.K X.mg X.base (CX X.prog X.w) kk fa fd ps (spC G n (p.call f)) ∧ Room (kk + 1) X.A ∧ ∀ l : List U, l.length = k + ks.length → (permL l perm).length + 1 = n
  tk : Takes X Wx
  exn : c.hot = false → G.exa = none
  xcl : ∀ x dd, c.xc.lookup x = some dd → X.mg x = some (.ref (G.xa dd)) ∧ (∀ k, k < p.nx → PySem.W.exmOne X.K (.ref (G.xa k)) (.ref (G.xa dd)) = some (p.sub k dd)) ∧ XiOk G p X.K dd
  xfo : XfOk G p X.K
  xno : XnOk G p X.K
  hsu : c.blk = none → ∀ a cls d, G.exa = some (a, cls, d) → ∃ (X0 : Cx) (oe : Obj) (pn : List (Addr × Obj)), X = X0.suite a ((a, oe) :: pn) ∧ Zc cls d oe ∧ ∃ vs, oe.data = .fields vs

section
variable {G : Gl0} {p : Px} {c : Ce} {X : Cx} {Wx : WX}
theorem Good.blk (g : Good G p c X Wx) (hh : c.hot = false) (scope : Scope) (s : Shared) (H : L2.Hp) (C : Addr) (cl : List (PySem.Str × Addr)) (fp : List Addr) : Good G p (inBlk c scope) (X.blk s H scope (compEnvC scope cl C X.env) fp) W0 where
  N := g.N
  nd := g.nd
  K := g.K
  sc := by
    show relabel scope X.env = relS scope c.sc
    rw [← g.sc]; rfl
  fnb := fun x h => h
  calm := g.calm
  hu := g.hu
  kok := g.kok
  kts := g.kts
  blt := g.blt
  glb := g.glb
  call := g.call
  callk := g.callk
  callh := g.callh
  hotc := fun e => (by rw [show (inBlk c scope).hot = c.hot from rfl, hh] at e; cases e)
  cfl := g.cfl
  cls := g.cls
  meth := g.meth
  new := g.new
  methk := g.methk
  newk := g.newk
  tk := takes_none5
  exn := g.exn
  xcl := g.xcl
  xfo := g.xfo
  xno := g.xno
  hsu := fun e => by cases e
theorem Good.blkH (g : Good G p c X Wx) (hh : c.hot = true) {q : Addr × Obj} (hot : L2H.Hot1 X.A q) (scope : Scope) (s : Shared) (H : L2.Hp) (C : Addr) (cl : List (PySem.Str × Addr)) (fp : List Addr) : Good G p (inBlk c scope) (Cx.blkH X q s H scope (compEnvC scope cl C X.env) fp) W0 where
  N := g.N
  nd := g.nd
  K := g.K
  sc := by
    show relabel scope X.env = relS scope c.sc
    rw [← g.sc]; rfl
  fnb := fun x h => h
  calm := fun e => (by rw [show (inBlk c scope).hot = c.hot from rfl, hh] at e; cases e)
  hu := g.hu
  kok := g.kok
  kts := g.kts
  blt := g.blt
  glb := g.glb
  call := g.call
  callk := g.callk
  callh := g.callh
  hotc := fun _ => ⟨q, hot, List.mem_singleton.mpr rfl⟩
  cfl := g.cfl
  cls := g.cls
  meth := g.meth
  new := g.new
  methk := g.methk
  newk := g.newk
  tk := takes_none5
  exn := g.exn
  xcl := g.xcl
  xfo := g.xfo
  xno := g.xno
  hsu := fun e => by cases e
theorem Good.var (g : Good G p c X Wx) {i : Nat} {x : PySem.Str} (h : varB c i x = true) : X.N[i]? = some x ∧ Vis X.env.scope x ∧ (x == ("__debug__" : PySem.Str)) = false ∧ (x == ("__classdict__" : PySem.Str)) = false := by
  unfold varB okNm at h
  simp only [Bool.and_eq_true, decide_eq_true_eq, Bool.not_eq_true'] at h
  obtain ⟨⟨h1, h2⟩, h3, h4⟩ := h
  refine ⟨by rw [g.N]; exact h1, ?_, h3, h4⟩
  unfold visB at h2
  rw [g.sc]
  split at h2
  · exact .inl (by assumption)
  · exact .inr (.inl (by assumption))
  · exact .inr (.inr (by assumption))
  · cases h2
theorem Good.gl (g : Good G p c X Wx) {x : PySem.Str} (h : glB c x = true) : Gl X x ∧ (x == ("__debug__" : PySem.Str)) = false := by
  unfold glB okNm at h
  simp only [Bool.and_eq_true, decide_eq_true_eq, Bool.not_eq_true'] at h
  refine ⟨?_, h.2.1⟩
  show X.env.scope.names.lookup x = _
  rw [g.sc]; exact h.1
theorem Good.loc (g : Good G p c X Wx) {i : Nat} {x : PySem.Str} (h : locB c i x = true) : X.N.Nodup ∧ X.N[i]? = some x ∧ Loc X.env.scope x ∧ (X.fn x = true ∨ X.env.scope.names.lookup x = some .local) := by
  unfold locB at h
  simp only [Bool.and_eq_true, Bool.or_eq_true, decide_eq_true_eq] at h
  obtain ⟨h1, h2⟩ := h
  refine ⟨by rw [g.N]; exact g.nd, by rw [g.N]; exact h1, ?_⟩
  rw [g.sc]
  rcases h2 with h2 | ⟨h2, h3⟩
  · exact ⟨.inl h2, .inr h2⟩
  · refine ⟨.inr h2, .inl (g.fnb x ?_)⟩
    split
    · trivial
    · rename_i s e; rw [e] at h3; exact h3
theorem Good.bl (g : Good G p c X Wx) {x y : PySem.Str} (h : bltB c x y = true) : x = y ∧ Gl X y ∧ X.mg y = none := by
  unfold bltB at h
  simp only [Bool.and_eq_true] at h
  obtain ⟨⟨h1, h2⟩, h3⟩ := h
  have e : x = y := by simpa using h1
  subst e
  exact ⟨rfl, (g.gl h2).1, g.blt x (by simpa using h3)⟩
mutual
theorem sndTg (g : Good G p c X Wx) : ∀ (t : T) (e : Expr), chkTg c t e = true → PG X e (RG G t)
  | .s i, e, h => by
    cases e <;> first | (simp only [chkTg] at h; exact absurd h Bool.false_ne_true) | skip
    obtain ⟨h1, h2, h3, h4⟩ := g.loc h
    exact xg_s h1 h2 h3 h4
  | .t xs, e, h => by
    cases e <;> first | (simp only [chkTg] at h; exact absurd h Bool.false_ne_true) | skip
    simp only [chkTg, Bool.and_eq_true, decide_eq_true_eq, Bool.not_eq_true'] at h
    obtain ⟨⟨h2, h3⟩, h4⟩ := h
    cases hh : c.hot with
    | false => exact xg_t g.K (g.calm hh) (sndTgs g xs _ h2) h3 h4
    | true => exact xg_tH g.K (g.hotc hh) (sndTgs g xs _ h2) h3 h4
theorem sndTgs (g : Good G p c X Wx) : ∀ (xs : List T) (es : List Expr), chkTgs c xs es = true → PGs X es (RGs G xs)
  | [], es, h => by
    cases es with
    | nil => exact xgs_nil
    | cons => simp [chkTgs] at h
  | x :: xs, es, h => by
    cases es with
    | nil => simp [chkTgs] at h
    | cons e es =>
      simp only [chkTgs, Bool.and_eq_true] at h
      exact xgs_cons (sndTg g x e h.1.1) (sndTgs g xs es h.2) h.1.2
end
theorem sndTgd (g : Good G p c X Wx) : ∀ (t : T) (e : Expr), chkTg c t e = true → PG X e (RGd G t)
  | .s i, e, h => PG.imp (sndTg g (.s i) e h) fun v σ H Q ⟨b, W, s, u, fr, q1, q2, q3, q4⟩ => ⟨b, W, s, u, fr, q1, q2, q3, q4⟩
  | .t xs, e, h => by
    cases e <;> first | (simp only [chkTg] at h; exact absurd h Bool.false_ne_true) | skip
    simp only [chkTg, Bool.and_eq_true, decide_eq_true_eq, Bool.not_eq_true'] at h
    obtain ⟨⟨h2, h3⟩, h4⟩ := h
    cases hh : c.hot with
    | false => exact xg_td g.K (g.calm hh) (sndTgs g xs _ h2) h3 h4
    | true => exact xg_tdH g.K (g.hotc hh) (sndTgs g xs _ h2) h3 h4
theorem evEs_len : ∀ {es : Es} {s : St} {us : List U} {s' : St}, evEs p es s = .ok us s' → us.length = Es.len es
  | .nil, s, us, s', h => by simp only [evEs, Re.ok.injEq] at h; rw [← h.1]; rfl
  | .cons e es, s, us, s', h => by
    simp only [evEs] at h
    cases e1 : evE p e s with
    | bad => simp only [e1] at h; cases h
    | ex _ _ _ => simp only [e1] at h; cases h
    | ok u s1 =>
      simp only [e1] at h
      cases e2 : evEs p es s1 with
      | bad => simp only [Re.bnd, e2] at h; cases h
      | ex _ _ _ => simp only [Re.bnd, e2] at h; cases h
      | ok vs s2 =>
        simp only [Re.bnd, e2] at h
        cases h
        rw [List.length_cons, evEs_len e2]; rfl
theorem tyB_snd (g : Good G p c X Wx) : ∀ (ts : List Ty) (es : List Expr), tyB c ts es = true → (∀ t ∈ ts, tyOk G.nc t = true) ∧ PA X es (fun _ H Q => Q (ts.map (tyVv G)) H) ∧ es.all notStar = true
  | [], es, h => by
    cases es with
    | nil => exact ⟨by simp, pa_nil, rfl⟩
    | cons => simp [tyB] at h
  | t :: ts, es, h => by
    cases es with
    | nil => simp [tyB] at h
    | cons e es =>
      cases e <;> first | (simp only [tyB] at h; exact absurd h Bool.false_ne_true) | skip
      rename_i id ps
      simp only [tyB, Bool.and_eq_true] at h
      obtain ⟨h1, h2⟩ := h
      obtain ⟨k1, k2, k3⟩ := tyB_snd g ts es h2
      have key : (∀ i, t ≠ .cls i) → bltB c id (PySem.Str.ofString (tyNm t)) = true → (∀ u ∈ t :: ts, tyOk G.nc u = true) ∧ PA X (.Name id ps :: es) (fun _ H Q => Q ((t :: ts).map (tyVv G)) H) ∧ (Expr.Name id ps :: es).all notStar = true := fun hn hb => by
        obtain ⟨rfl, q1, q2⟩ := g.bl hb
        refine ⟨fun u hu => ?_, PA.imp (pa_cons (pcls_base hn rfl q1 q2) k2 (star_of rfl _ _)) fun σ H Q q => q, by rw [List.all_cons, k3]; rfl⟩
        rcases List.mem_cons.mp hu with e | hu
        · subst e
          cases u <;> first | rfl | exact absurd rfl (hn _)
        · exact k1 u hu
      cases t <;> first | exact key (fun i z => by cases z) h1 | skip
      rename_i i
      obtain ⟨q1, q2⟩ := Bool.and_eq_true_iff.mp (show (glB c id && decide ((c.cl.nw.lookup id).map (·.1) = some i)) = true from h1)
      obtain ⟨z, hz1, hz2⟩ := Option.map_eq_some_iff.mp (of_decide_eq_true q2)
      obtain ⟨i', f', n'⟩ := z
      cases hz2
      obtain ⟨c1, c2⟩ := g.cls id i' f' n' hz1
      obtain ⟨g1, g2⟩ := g.gl q1
      refine ⟨fun u hu => ?_, PA.imp (pa_cons (pe_glob g1 c2 rfl g2 : PE X (.Name id ps) (tC (.ref (G.ca i')))) k2 (star_of rfl _ _)) fun σ H Q q => q, by rw [List.all_cons, k3]; rfl⟩
      rcases List.mem_cons.mp hu with e | hu
      · subst e; exact decide_eq_true c1
      · exact k1 u hu
end
end Pix
end
section
set_option Elab.async false
set_option linter.all false
set_option maxRecDepth 100000
set_option maxHeartbeats 4000000
/-! PixE2: what the check proves of expressions. -/
namespace Pix
open PySem PySem.Spec PyProof.Rows L2
section
variable {G : Gl0} {p : Px}
theorem and2 {a b : Bool} (h : (a && b) = true) : a = true ∧ b = true := by rwa [Bool.and_eq_true] at h
/-- what is to be shown of an expression: as a value, as a test -/
def SE (G : Gl0) (p : Px) (a : E) : Prop := ∀ (c : Ce) (X : Cx) (Wx : WX) (e : Expr), Good G p c X Wx → chkE c a e = true → PE X e (RE G Wx (evE p a))
def ST (G : Gl0) (p : Px) (a : E) : Prop := ∀ (c : Ce) (X : Cx) (Wx : WX) (e : Expr), Good G p c X Wx → chkE c a e = true → tOk a e = true → PT X e (RT G Wx (tv (evE p a)))
def SEs (G : Gl0) (p : Px) (a : Es) : Prop := ∀ (c : Ce) (X : Cx) (Wx : WX) (e : List Expr), Good G p c X Wx → chkEs c a e = true → (PA X e (RA G Wx (evEs p a)) ∧ ∀ kws : List Keyword, kws.map (·.value) = e → PK X kws (RA G Wx (evEs p a))) ∧ e.all notStar = true ∧ e.length = Es.len a
def SEo (G : Gl0) (p : Px) (a : Eo) : Prop := ∀ (c : Ce) (X : Cx) (Wx : WX), Good G p c X Wx → (∀ e, chkEo c a e = true → PO X e (RO G Wx (evEo p a))) ∧ ∀ es, chkIfs c a es = true → PTs X es (RT G Wx (evC p a))
def SF (G : Gl0) (p : Px) (a : F) : Prop := ∀ (c : Ce) (X : Cx) (Wx : WX) (e : Expr), Good G p c X Wx → chkF c a e = true → PE X e (RF G Wx (evF p a))
def SD (G : Gl0) (p : Px) (a : D) : Prop := ∀ (c : Ce) (X : Cx) (Wx : WX) (e : Expr), Good G p c X Wx → chkD c a e = true → PE X e (RDi G Wx (evD p a))
def SI (G : Gl0) (p : Px) (a : It) : Prop := ∀ (c : Ce) (X : Cx) (Wx : WX) (tg e : Expr), Good G p c X Wx → chkIt c a tg e = true → PI X tg e (RI G Wx (evIt p a))
def SIH (G : Gl0) (p : Px) (a : It) : Prop := ∀ (c : Ce) (X : Cx) (Wx : WX) (tg e : Expr), Good G p c X Wx → rng1B a = true → chkIt c a tg e = true → L2H.PIH X tg e (RI G Wx (evIt p a))
theorem st_of {a : E} (h : SE G p a) (hs : isSp a = false) : ST G p a := fun c X Wx e g h1 h2 => by
  have h3 : isPlain e = true := by
    unfold tOk at h2
    rw [hs] at h2
    exact h2
  exact xt_val g.K (re_rp (h c X Wx e g h1)) h3

theorem se_non : SE G p .non := fun c X Wx e g h => by
  cases e <;> first | exact absurd h Bool.false_ne_true | skip
  rename_i v k ps
  cases v <;> first | exact absurd h Bool.false_ne_true | skip
  exact xe_const pe_non fun W => .non
theorem se_bl {b : Bool} : SE G p (.bl b) := fun c X Wx e g h => by
  cases e <;> first | exact absurd h Bool.false_ne_true | skip
  rename_i v k ps
  cases v <;> first | exact absurd h Bool.false_ne_true | skip
  rename_i k2
  have e : k2 = b := by simpa using (show (k2 == b) = true from h)
  subst e
  exact xe_const pe_bl fun W => .bl _
theorem se_int {i : Int} : SE G p (.int i) := fun c X Wx e g h => by
  cases e <;> first | exact absurd h Bool.false_ne_true | skip
  rename_i v k ps
  cases v <;> first | exact absurd h Bool.false_ne_true | skip
  rename_i k2
  have e : k2 = i := of_decide_eq_true (show decide (k2 = i) = true from h)
  subst e
  exact xe_const pe_int fun W => .int _
theorem se_str {x : String} : SE G p (.str x) := fun c X Wx e g h => by
  cases e <;> first | exact absurd h Bool.false_ne_true | skip
  rename_i v k ps
  cases v <;> first | exact absurd h Bool.false_ne_true | skip
  rename_i k2
  obtain ⟨h1, h2⟩ := and2 (show ((k2 == PySem.Str.ofString x) && decide ((S x).length ≤ SZ)) = true from h)
  have e : k2 = PySem.Str.ofString x := by simpa using h1
  subst e
  exact xe_const pe_str fun W => by rw [ofString_S]; exact .str _ (of_decide_eq_true h2) (S_ok _)
theorem se_var {i : Nat} : SE G p (.var i) := fun c X Wx e g h => by
  cases e <;> first | exact absurd h Bool.false_ne_true | skip
  obtain ⟨h1, h2, h3, h4⟩ := g.var h
  exact xe_var h1 h2 h3 h4
theorem se_glb {i : Nat} : SE G p (.glb i) := fun c X Wx e g h => by
  cases e <;> first | exact absurd h Bool.false_ne_true | skip
  rename_i x ps
  obtain ⟨h1, h2⟩ := and2 (show (glB c x && decide (c.gl.lookup x = some i)) = true from h)
  obtain ⟨h3, h4⟩ := g.gl h1
  obtain ⟨v, u, k1, k2, k3⟩ := g.glb x i (of_decide_eq_true h2)
  exact xe_glb h3 k1 k2 k3 h4
theorem se_bin {op : Bop} {a b : E} (ha : SE G p a) (hb : SE G p b) : SE G p (.bin op a b) := fun c X Wx e g h => by
  cases e <;> first | exact absurd h Bool.false_ne_true | skip
  rename_i x o y ps
  obtain ⟨h, h3⟩ := and2 (show (decide (bopP op = o) && chkE c a x && chkE c b y) = true from h)
  obtain ⟨h1, h2⟩ := and2 h
  have e : bopP op = o := of_decide_eq_true h1
  subst e
  exact xe_bin g.K op (ha c X Wx x g h2) (hb c X Wx y g h3)
theorem se_neg {a : E} (ha : SE G p a) : SE G p (.neg a) := fun c X Wx e g h => by
  cases e <;> first | exact absurd h Bool.false_ne_true | skip
  rename_i o x ps
  cases o <;> first | exact absurd h Bool.false_ne_true | skip
  exact xe_neg (ha c X Wx x g h)
theorem se_nt {a : E} (ha : SE G p a) (ta : ST G p a) : SE G p (.nt a) ∧ ST G p (.nt a) := by
  refine ⟨fun c X Wx e g h => ?_, fun c X Wx e g h h9 => ?_⟩
  · cases e <;> first | exact absurd h Bool.false_ne_true | skip
    rename_i o x ps
    cases o <;> first | exact absurd h Bool.false_ne_true | skip
    obtain ⟨h1, h2⟩ := and2 (show (chkE c a x && tOk a x) = true from h)
    exact xe_nt g.K (re_rp (ha c X Wx x g h1))
  · cases e <;> first | exact absurd h Bool.false_ne_true | skip
    rename_i o x ps
    cases o <;> first | exact absurd h Bool.false_ne_true | skip
    obtain ⟨h1, h2⟩ := and2 (show (chkE c a x && tOk a x) = true from h)
    exact xt_nt (fa' := evE p a) (fun s => rfl) (ta c X Wx x g h1 h2)
theorem pw_one {X : Cx} {o : BoolOp} {e : Expr} {t : TT} {ps : Pos} (h : PT X e t) : PW X (.BoolOp o [e] ps) t := by
  cases o
  · exact pw_and1 h
  · exact pw_or1 h
theorem se_an {a b : E} (ha : SE G p a) (ta : ST G p a) (hb : SE G p b) (tb : ST G p b) (hw : ∀ (c : Ce) (X : Cx) (Wx : WX) (e : Expr) (es : List Expr) (ps : Pos), Good G p c X Wx → chkE c b (.BoolOp .And (e :: es) ps) = true → (∃ x y, b = .an x y) → PW X (.BoolOp .And (e :: es) ps) (RT G Wx (tv (evE p b)))) :
    SE G p (.an a b) ∧ ∀ (c : Ce) (X : Cx) (Wx : WX) (e : Expr) (es : List Expr) (ps : Pos), Good G p c X Wx → chkE c (.an a b) (.BoolOp .And (e :: es) ps) = true → PW X (.BoolOp .And (e :: es) ps) (RT G Wx (tv (evE p (.an a b)))) := by
  refine ⟨fun c X Wx e g h => ?_, fun c X Wx x es ps g h => ?_⟩
  · cases e <;> first | exact absurd h Bool.false_ne_true | skip
    rename_i o es ps
    cases o <;> first | (cases es <;> exact absurd h Bool.false_ne_true) | skip
    cases es with
    | nil => exact absurd h Bool.false_ne_true
    | cons x es =>
    cases es with
    | nil => exact absurd h Bool.false_ne_true
    | cons y rest =>
    cases rest with
    | nil =>
      obtain ⟨h, h3⟩ := and2 (show (chkE c a x && tOk a x && (chkE c b y && tOk b y)) = true from h)
      exact xe_an g.K (ha c X Wx x g (and2 h).1) (pe_one (hb c X Wx y g (and2 h3).1))
    | cons z zs =>
      cases b <;> first | exact absurd (and2 (show (chkE c a x && tOk a x && false) = true from h)).2 Bool.false_ne_true | skip
      rename_i b1 b2
      obtain ⟨h, h3⟩ := and2 (show (chkE c a x && tOk a x && chkE c (.an b1 b2) (.BoolOp .And (y :: z :: zs) ps)) = true from h)
      exact xe_an g.K (ha c X Wx x g (and2 h).1) (hb c X Wx _ g h3)
  · cases es with
    | nil => exact absurd h Bool.false_ne_true
    | cons y rest =>
    cases rest with
    | nil =>
      obtain ⟨h, h3⟩ := and2 (show (chkE c a x && tOk a x && (chkE c b y && tOk b y)) = true from h)
      exact xw_an (ta c X Wx x g (and2 h).1 (and2 h).2) (pw_one (tb c X Wx y g (and2 h3).1 (and2 h3).2))
    | cons z zs =>
      cases b <;> first | exact absurd (and2 (show (chkE c a x && tOk a x && false) = true from h)).2 Bool.false_ne_true | skip
      rename_i b1 b2
      obtain ⟨h, h3⟩ := and2 (show (chkE c a x && tOk a x && chkE c (.an b1 b2) (.BoolOp .And (y :: z :: zs) ps)) = true from h)
      exact xw_an (ta c X Wx x g (and2 h).1 (and2 h).2) (hw c X Wx _ _ _ g h3 ⟨_, _, rfl⟩)
theorem se_or {a b : E} (ha : SE G p a) (ta : ST G p a) (hb : SE G p b) (tb : ST G p b) (hw : ∀ (c : Ce) (X : Cx) (Wx : WX) (e : Expr) (es : List Expr) (ps : Pos), Good G p c X Wx → chkE c b (.BoolOp .Or (e :: es) ps) = true → (∃ x y, b = .or x y) → PW X (.BoolOp .Or (e :: es) ps) (RT G Wx (tv (evE p b)))) :
    SE G p (.or a b) ∧ ∀ (c : Ce) (X : Cx) (Wx : WX) (e : Expr) (es : List Expr) (ps : Pos), Good G p c X Wx → chkE c (.or a b) (.BoolOp .Or (e :: es) ps) = true → PW X (.BoolOp .Or (e :: es) ps) (RT G Wx (tv (evE p (.or a b)))) := by
  refine ⟨fun c X Wx e g h => ?_, fun c X Wx x es ps g h => ?_⟩
  · cases e <;> first | exact absurd h Bool.false_ne_true | skip
    rename_i o es ps
    cases o <;> first | (cases es <;> exact absurd h Bool.false_ne_true) | skip
    cases es with
    | nil => exact absurd h Bool.false_ne_true
    | cons x es =>
    cases es with
    | nil => exact absurd h Bool.false_ne_true
    | cons y rest =>
    cases rest with
    | nil =>
      obtain ⟨h, h3⟩ := and2 (show (chkE c a x && tOk a x && (chkE c b y && tOk b y)) = true from h)
      exact xe_or g.K (ha c X Wx x g (and2 h).1) (pe_one (hb c X Wx y g (and2 h3).1))
    | cons z zs =>
      cases b <;> first | exact absurd (and2 (show (chkE c a x && tOk a x && false) = true from h)).2 Bool.false_ne_true | skip
      rename_i b1 b2
      obtain ⟨h, h3⟩ := and2 (show (chkE c a x && tOk a x && chkE c (.or b1 b2) (.BoolOp .Or (y :: z :: zs) ps)) = true from h)
      exact xe_or g.K (ha c X Wx x g (and2 h).1) (hb c X Wx _ g h3)
  · cases es with
    | nil => exact absurd h Bool.false_ne_true
    | cons y rest =>
    cases rest with
    | nil =>
      obtain ⟨h, h3⟩ := and2 (show (chkE c a x && tOk a x && (chkE c b y && tOk b y)) = true from h)
      exact xw_or (ta c X Wx x g (and2 h).1 (and2 h).2) (pw_one (tb c X Wx y g (and2 h3).1 (and2 h3).2))
    | cons z zs =>
      cases b <;> first | exact absurd (and2 (show (chkE c a x && tOk a x && false) = true from h)).2 Bool.false_ne_true | skip
      rename_i b1 b2
      obtain ⟨h, h3⟩ := and2 (show (chkE c a x && tOk a x && chkE c (.or b1 b2) (.BoolOp .Or (y :: z :: zs) ps)) = true from h)
      exact xw_or (ta c X Wx x g (and2 h).1 (and2 h).2) (hw c X Wx _ _ _ g h3 ⟨_, _, rfl⟩)
theorem se_cmp {op : Cop} {a b : E} (ha : SE G p a) (hb : SE G p b) : SE G p (.cmp op a b) ∧ ST G p (.cmp op a b) := by
  have key : ∀ {c : Ce} {e : Expr}, chkE c (.cmp op a b) e = true → ∃ x y ps, e = .Compare x [copP op] [y] ps ∧ chkE c a x = true ∧ chkE c b y = true ∧ notSet y = true := fun {c e} h => by
    cases e <;> first | exact absurd h Bool.false_ne_true | skip
    rename_i x os ys ps
    rcases os with _ | ⟨o, _ | ⟨_, _⟩⟩ <;> first | exact absurd h Bool.false_ne_true | skip
    rcases ys with _ | ⟨y, _ | ⟨_, _⟩⟩ <;> first | exact absurd h Bool.false_ne_true | skip
    obtain ⟨h, h4⟩ := and2 (show (decide (copP op = o) && chkE c a x && chkE c b y && notSet y) = true from h)
    obtain ⟨h, h3⟩ := and2 h
    obtain ⟨h1, h2⟩ := and2 h
    have e : copP op = o := of_decide_eq_true h1
    subst e
    exact ⟨x, y, ps, rfl, h2, h3, h4⟩
  refine ⟨fun c X Wx e g h => ?_, fun c X Wx e g h h9 => ?_⟩
  · obtain ⟨x, y, ps, rfl, h2, h3, h4⟩ := key h
    exact xe_cmp g.K g.hu op (ha c X Wx x g h2) (hb c X Wx y g h3) h4
  · obtain ⟨x, y, ps, rfl, h2, h3, h4⟩ := key h
    exact xt_cmp g.K g.hu op (ha c X Wx x g h2) (hb c X Wx y g h3) h4
theorem se_chain {o1 o2 : Cop} {a b d : E} (ha : SE G p a) (hb : SE G p b) (hd : SE G p d) : SE G p (.chain o1 o2 a b d) ∧ ST G p (.chain o1 o2 a b d) := by
  have key : ∀ {c : Ce} {e : Expr}, chkE c (.chain o1 o2 a b d) e = true → ∃ x y z ps, e = .Compare x [copP o1, copP o2] [y, z] ps ∧ chkE c a x = true ∧ chkE c b y = true ∧ chkE c d z = true ∧ notSet z = true := fun {c e} h => by
    cases e <;> first | exact absurd h Bool.false_ne_true | skip
    rename_i x os ys ps
    rcases os with _ | ⟨q, _ | ⟨r, _ | ⟨_, _⟩⟩⟩ <;> first | exact absurd h Bool.false_ne_true | skip
    rcases ys with _ | ⟨y, _ | ⟨z, _ | ⟨_, _⟩⟩⟩ <;> first | exact absurd h Bool.false_ne_true | skip
    obtain ⟨h, h6⟩ := and2 (show (decide (copP o1 = q) && decide (copP o2 = r) && chkE c a x && chkE c b y && chkE c d z && notSet z) = true from h)
    obtain ⟨h, h5⟩ := and2 h
    obtain ⟨h, h4⟩ := and2 h
    obtain ⟨h, h3⟩ := and2 h
    obtain ⟨h1, h2⟩ := and2 h
    have e : copP o1 = q := of_decide_eq_true h1
    subst e
    have e : copP o2 = r := of_decide_eq_true h2
    subst e
    exact ⟨x, y, z, ps, rfl, h3, h4, h5, h6⟩
  refine ⟨fun c X Wx e g h => ?_, fun c X Wx e g h h9 => ?_⟩
  · obtain ⟨x, y, z, ps, rfl, h2, h3, h4, h5⟩ := key h
    exact xe_chain g.K g.hu o1 o2 (ha c X Wx x g h2) (hb c X Wx y g h3) (hd c X Wx z g h4) h5
  · obtain ⟨x, y, z, ps, rfl, h2, h3, h4, h5⟩ := key h
    exact xt_chain g.K g.hu o1 o2 (ha c X Wx x g h2) (hb c X Wx y g h3) (hd c X Wx z g h4) h5
theorem se_isN {no : Bool} {a : E} (ha : SE G p a) : SE G p (.isN no a) ∧ ST G p (.isN no a) := by
  have key : ∀ {c : Ce} {e : Expr}, chkE c (.isN no a) e = true → ∃ x k qs ps, e = .Compare x [if no then CmpOp.IsNot else CmpOp.Is] [.Constant .none k qs] ps ∧ chkE c a x = true := fun {c e} h => by
    cases e <;> first | exact absurd h Bool.false_ne_true | skip
    rename_i x os ys ps
    rcases os with _ | ⟨o, _ | ⟨_, _⟩⟩ <;> first | exact absurd h Bool.false_ne_true | skip
    rcases ys with _ | ⟨y, _ | ⟨_, _⟩⟩ <;> first | exact absurd h Bool.false_ne_true | (cases y <;> first | exact absurd h Bool.false_ne_true | (rename_i v _ _; cases v <;> exact absurd h Bool.false_ne_true)) | skip
    cases y <;> first | exact absurd h Bool.false_ne_true | skip
    rename_i v k qs
    cases v <;> first | exact absurd h Bool.false_ne_true | skip
    obtain ⟨h1, h2⟩ := and2 (show (decide ((if no then CmpOp.IsNot else CmpOp.Is) = o) && chkE c a x) = true from h)
    have e : (if no then CmpOp.IsNot else CmpOp.Is) = o := of_decide_eq_true h1
    subst e
    exact ⟨x, k, qs, ps, rfl, h2⟩
  refine ⟨fun c X Wx e g h => ?_, fun c X Wx e g h h9 => ?_⟩
  · obtain ⟨x, k, qs, ps, rfl, h2⟩ := key h
    exact xe_isN no (ha c X Wx x g h2)
  · obtain ⟨x, k, qs, ps, rfl, h2⟩ := key h
    exact xt_isN no (ha c X Wx x g h2)
theorem se_ite {t a b : E} (ht : ST G p t) (ha : SE G p a) (ta : ST G p a) (hb : SE G p b) (tb : ST G p b) : SE G p (.ite t a b) ∧ ST G p (.ite t a b) := by
  have key : ∀ {c : Ce} {e : Expr}, chkE c (.ite t a b) e = true → ∃ x y z ps, e = .IfExp x y z ps ∧ chkE c t x = true ∧ tOk t x = true ∧ chkE c a y = true ∧ tOk a y = true ∧ chkE c b z = true ∧ tOk b z = true := fun {c e} h => by
    cases e <;> first | exact absurd h Bool.false_ne_true | skip
    rename_i x y z ps
    obtain ⟨h, h6⟩ := and2 (show (chkE c t x && tOk t x && chkE c a y && tOk a y && chkE c b z && tOk b z) = true from h)
    obtain ⟨h, h5⟩ := and2 h
    obtain ⟨h, h4⟩ := and2 h
    obtain ⟨h, h3⟩ := and2 h
    obtain ⟨h1, h2⟩ := and2 h
    exact ⟨x, y, z, ps, rfl, h1, h2, h3, h4, h5, h6⟩
  refine ⟨fun c X Wx e g h => ?_, fun c X Wx e g h h9 => ?_⟩
  · obtain ⟨x, y, z, ps, rfl, h1, h2, h3, h4, h5, h6⟩ := key h
    exact xe_ite (ht c X Wx x g h1 h2) (ha c X Wx y g h3) (hb c X Wx z g h5)
  · obtain ⟨x, y, z, ps, rfl, h1, h2, h3, h4, h5, h6⟩ := key h
    exact xt_ite (ht c X Wx x g h1 h2) (ta c X Wx y g h3 h4) (tb c X Wx z g h5 h6)
end
end Pix
end
section
set_option Elab.async false
set_option linter.all false
set_option maxRecDepth 100000
set_option maxHeartbeats 4000000
/-! PixE3: what the check proves of expressions: the rest. -/
namespace Pix
open PySem PySem.Spec PyProof.Rows L2
section
variable {G : Gl0} {p : Px}
theorem se_tup {es : Es} (hs : SEs G p es) : SE G p (.tup es) := fun c X Wx e g h => by
  cases e <;> first | exact absurd h Bool.false_ne_true | skip
  rename_i xs k ps
  obtain ⟨h1, h2⟩ := and2 (show (chkEs c es xs && decide (Es.len es ≤ SZ)) = true from h)
  exact xe_tup (hs c X Wx xs g h1).1.1 fun s us s' e => by rw [evEs_len e]; exact of_decide_eq_true h2
theorem se_fr {f : F} (hf : SF G p f) : SE G p (.fr f) := fun c X Wx e g h => xe_fr (hf c X Wx e g h)
theorem se_bx {f : F} (hf : SF G p f) : SE G p (.bx f) := fun c X Wx e g h => xe_bx (hf c X Wx e g h)
theorem ses_nil : SEs G p .nil := fun c X Wx e g h => by
  cases e with
  | nil => exact ⟨⟨xa_nil, fun kws e => by
    cases kws with
    | nil => exact xk_nil
    | cons => cases e⟩, rfl, rfl⟩
  | cons => exact absurd h Bool.false_ne_true
theorem ses_cons {a : E} {as : Es} (ha : SE G p a) (hs : SEs G p as) : SEs G p (.cons a as) := fun c X Wx e g h => by
  cases e with
  | nil => exact absurd h Bool.false_ne_true
  | cons x xs =>
    obtain ⟨h, h3⟩ := and2 (show (chkE c a x && notStar x && chkEs c as xs) = true from h)
    obtain ⟨h1, h2⟩ := and2 h
    obtain ⟨⟨k1, k1'⟩, k2, k3⟩ := hs c X Wx xs g h3
    exact ⟨⟨xa_cons (ha c X Wx x g h1) k1 h2, fun kws e => by
      rcases kws with _ | ⟨⟨nm, v, kp⟩, kws⟩
      · cases e
      · cases e; exact xk_cons (ha c X Wx _ g h1) (k1' kws rfl)⟩, by rw [List.all_cons, h2, k2]; rfl, by rw [List.length_cons, k3]; rfl⟩
theorem se_call {f : Nat} {es : Es} (hs : SEs G p es) : SE G p (.call f es) := fun c X Wx e g h => by
  cases e <;> first | exact absurd h Bool.false_ne_true | skip
  rename_i fn xs kw ps
  cases fn <;> first | exact absurd h Bool.false_ne_true | skip
  rename_i x q
  cases kw <;> first | exact absurd h Bool.false_ne_true | skip
  obtain ⟨h, h5⟩ := and2 (show ((!c.hot || (c.cl.hf.contains f && !xs.isEmpty)) && glB c x && decide (c.fn.lookup x = some (f, Es.len es)) && chkEs c es xs && xs.all notStar) = true from h)
  obtain ⟨h, h4⟩ := and2 h
  obtain ⟨h, h3⟩ := and2 h
  obtain ⟨h1, h2⟩ := and2 h
  obtain ⟨⟨k1, _⟩, k2, k3⟩ := hs c X Wx xs g h4
  obtain ⟨g1, g2⟩ := g.gl h2
  cases hh : c.hot with
  | true =>
    rw [hh] at h1
    obtain ⟨h6, h7⟩ := and2 (show (c.cl.hf.contains f && !xs.isEmpty) = true from h1)
    obtain ⟨kk, fa, fd, pp, q1, q2, q3, q4, q5⟩ := g.callh x f _ h6 (of_decide_eq_true h3)
    cases xs with
    | nil => cases h7
    | cons y ys => exact xe_callH q4 g.K q5 (g.hotc hh) q3 g.tk g1 q1 q2 g2 k1 k2 fun s us s' e => evEs_len e
  | false =>
  obtain ⟨kk, fa, fd, pp, q1, q2, q3, q4, q5⟩ := g.call hh x f _ (of_decide_eq_true h3)
  cases xs with
  | nil =>
    cases es with
    | nil => exact xe_call0 q4 q5 q3 g.tk g1 q1 q2 g2
    | cons a as => exact absurd h4 Bool.false_ne_true
  | cons y ys => exact xe_call q4 q5 q3 g.tk g1 q1 q2 g2 k1 k2 fun s us s' e => evEs_len e
theorem se_ix {a b : E} (ha : SE G p a) (hb : SE G p b) : SE G p (.ix a b) := fun c X Wx e g h => by
  cases e <;> first | exact absurd h Bool.false_ne_true | skip
  rename_i x y ps
  obtain ⟨h, h3⟩ := and2 (show (chkE c a x && chkE c b y && notSlice y) = true from h)
  obtain ⟨h1, h2⟩ := and2 h
  exact xe_ix g.K g.hu (ha c X Wx x g h1) (hb c X Wx y g h2) h3
theorem se_sl {a : E} {lo hi : Eo} (ha : SE G p a) (hl : SEo G p lo) (hh : SEo G p hi) : SE G p (.sl a lo hi) := fun c X Wx e g h => by
  cases e <;> first | exact absurd h Bool.false_ne_true | skip
  rename_i x y ps
  cases y <;> first | exact absurd h Bool.false_ne_true | skip
  rename_i l u st ps2
  cases st <;> first | exact absurd h Bool.false_ne_true | skip
  obtain ⟨h, h3⟩ := and2 (show (chkE c a x && chkEo c lo l && chkEo c hi u) = true from h)
  obtain ⟨h1, h2⟩ := and2 h
  exact xe_sl g.K (ha c X Wx x g h1) ((hl c X Wx g).1 l h2) ((hh c X Wx g).1 u h3)
theorem seo_no : SEo G p .no := fun c X Wx g => ⟨fun e h => by
  cases e with
  | none => exact xo_no
  | some => exact absurd h Bool.false_ne_true, fun es h => by
  cases es with
  | nil => exact xts_nil
  | cons => exact absurd h Bool.false_ne_true⟩
theorem seo_so {a : E} (ha : SE G p a) (ta : ST G p a) : SEo G p (.so a) := fun c X Wx g => ⟨fun e h => by
  cases e with
  | none => exact absurd h Bool.false_ne_true
  | some e => exact xo_so (ha c X Wx e g h), fun es h => by
  rcases es with _ | ⟨e, _ | ⟨_, _⟩⟩ <;> first | exact absurd h Bool.false_ne_true | skip
  obtain ⟨h1, h2⟩ := and2 (show (chkE c a e && tOk a e) = true from h)
  exact xts_one (ta c X Wx e g h1 h2)⟩
theorem se_b1 {b : B1} {a : E} (ha : SE G p a) : SE G p (.b1 b a) := fun c X Wx e g h => by
  cases e <;> first | exact absurd h Bool.false_ne_true | skip
  rename_i fn xs kw ps
  cases fn <;> first | exact absurd h Bool.false_ne_true | skip
  rename_i f q
  rcases xs with _ | ⟨x, _ | ⟨_, _⟩⟩ <;> first | exact absurd h Bool.false_ne_true | skip
  cases kw <;> first | exact absurd h Bool.false_ne_true | skip
  obtain ⟨h, h5⟩ := and2 (show (bltB c f (b1Nm b) && notStar x && (!c.hot || (b1Hot b || allB b)) && b1Ok b && (chkE c a x || peekB c a x)) = true from h)
  obtain ⟨h, k4⟩ := and2 h
  obtain ⟨h, k3⟩ := and2 h
  obtain ⟨k1, k2⟩ := and2 h
  obtain ⟨rfl, q1, q2⟩ := g.bl k1
  refine xe_b1 g.K b (fun z => by subst z; exact absurd k4 Bool.false_ne_true) (fun z => by subst z; exact absurd k4 Bool.false_ne_true) (fun z z2 => g.calm ?_) (fun z => ?_) q1 q2 ?_ k2
  · rw [z, Bool.false_or] at k3
    have z3 : allB b = false := by cases b <;> first | rfl | exact absurd rfl z2
    rw [z3, Bool.or_false] at k3
    simpa using k3
  · cases hh : c.hot with
    | false => exact .inl (g.calm hh)
    | true => exact .inr (g.hotc hh)
  · rcases Bool.or_eq_true_iff.mp h5 with h5 | h5
    · exact re_rp (ha c X Wx x g h5)
    · cases a <;> first | exact absurd h5 Bool.false_ne_true | skip
      cases x <;> first | exact absurd h5 Bool.false_ne_true | skip
      obtain ⟨v1, v2, v3, v4⟩ := g.var h5
      exact xp_peek v1 v2 v3 v4
theorem str_lit {x : String} {s s' : St} {u : U} (h : evE p (.str x) s = .ok u s') : ∃ z, u = .str z := by
  simp only [evE, Re.ok.injEq] at h
  exact ⟨_, h.1.symm⟩
theorem se_b2 {b : B2} {a d : E} (ha : SE G p a) (hd : SE G p d) : SE G p (.b2 b a d) := fun c X Wx e g h => by
  cases b with
  | starts => exact absurd h Bool.false_ne_true
  | max =>
    cases e <;> first | exact absurd h Bool.false_ne_true | skip
    rename_i fn xs kw ps
    cases fn <;> first | exact absurd h Bool.false_ne_true | skip
    rename_i f q
    rcases xs with _ | ⟨x, _ | ⟨y, _ | ⟨_, _⟩⟩⟩ <;> first | exact absurd h Bool.false_ne_true | skip
    cases kw <;> first | exact absurd h Bool.false_ne_true | skip
    obtain ⟨h, h6⟩ := and2 (show (!c.hot && bltB c f "max" && notStar x && notStar y && chkE c a x && chkE c d y) = true from h)
    obtain ⟨h, h5⟩ := and2 h
    obtain ⟨h, h4⟩ := and2 h
    obtain ⟨h, h3⟩ := and2 h
    obtain ⟨h1, h2⟩ := and2 h
    obtain ⟨rfl, q1, q2⟩ := g.bl h2
    exact xe_max2 (g.calm (by simpa using h1)) q1 q2 (ha c X Wx x g h5) (hd c X Wx y g h6) h3 h4
  | min =>
    cases e <;> first | exact absurd h Bool.false_ne_true | skip
    rename_i fn xs kw ps
    cases fn <;> first | exact absurd h Bool.false_ne_true | skip
    rename_i f q
    rcases xs with _ | ⟨x, _ | ⟨y, _ | ⟨_, _⟩⟩⟩ <;> first | exact absurd h Bool.false_ne_true | skip
    cases kw <;> first | exact absurd h Bool.false_ne_true | skip
    obtain ⟨h, h6⟩ := and2 (show (!c.hot && bltB c f "min" && notStar x && notStar y && chkE c a x && chkE c d y) = true from h)
    obtain ⟨h, h5⟩ := and2 h
    obtain ⟨h, h4⟩ := and2 h
    obtain ⟨h, h3⟩ := and2 h
    obtain ⟨h1, h2⟩ := and2 h
    obtain ⟨rfl, q1, q2⟩ := g.bl h2
    exact xe_min2 (g.calm (by simpa using h1)) q1 q2 (ha c X Wx x g h5) (hd c X Wx y g h6) h3 h4
  | join =>
    cases a <;> first | exact absurd h Bool.false_ne_true | skip
    rename_i sx
    cases e <;> first | exact absurd h Bool.false_ne_true | skip
    rename_i fn xs kw cp
    cases fn <;> first | exact absurd h Bool.false_ne_true | skip
    rename_i x m ap
    rcases xs with _ | ⟨y, _ | ⟨_, _⟩⟩ <;> first | exact absurd h Bool.false_ne_true | skip
    cases kw <;> first | exact absurd h Bool.false_ne_true | skip
    obtain ⟨h, h6⟩ := and2 (show ((m == "join") && (ap.endLine == cp.line) && notStar y && notCall x && chkE c (.str sx) x && chkE c d y) = true from h)
    obtain ⟨h, h5⟩ := and2 h
    obtain ⟨h, h4⟩ := and2 h
    obtain ⟨h, h3⟩ := and2 h
    obtain ⟨h1, h2⟩ := and2 h
    have em : m = "join" := by simpa using h1
    subst em
    exact xe_join g.K h2 (ha c X Wx x g h5) (hd c X Wx y g h6) h3 h4 fun s x s' e => str_lit e
theorem se_isi {a : E} {ts : List Ty} (ha : SE G p a) : SE G p (.isi a ts) := fun c X Wx e g h => by
  cases e <;> first | exact absurd h Bool.false_ne_true | skip
  rename_i fn xs kw ps
  cases fn <;> first | exact absurd h Bool.false_ne_true | skip
  rename_i f q
  rcases xs with _ | ⟨x, _ | ⟨y, _ | ⟨_, _⟩⟩⟩ <;> first | exact absurd h Bool.false_ne_true | skip
  cases kw <;> first | exact absurd h Bool.false_ne_true | skip
  obtain ⟨h, h5⟩ := and2 (show (bltB c f "isinstance" && notStar x && chkE c a x && decide (ts.length ≤ SZ) && clsB c ts y) = true from h)
  have fin : (∀ t ∈ ts, tyOk G.nc t = true) → PCls X G y ts → notStar y = true → PE X (.Call (.Name f q) [x, y] [] ps) (RE G Wx (evE p (.isi a ts))) := fun k1 k2 k3 => by
    obtain ⟨h, h4⟩ := and2 h
    obtain ⟨h, h3⟩ := and2 h
    obtain ⟨h1, h2⟩ := and2 h
    obtain ⟨rfl, q1, q2⟩ := g.bl h1
    exact xe_isi g.K g.kok k1 (of_decide_eq_true h4) q1 q2 (ha c X Wx x g h3) h2 k2 k3
  by_cases ht : ∃ ys k tp, y = .Tuple ys k tp
  · obtain ⟨ys, k, tp, rfl⟩ := ht
    obtain ⟨k1, k2, k3⟩ := tyB_snd g ts ys h5
    exact fin k1 (.inr (pe_tup k2)) rfl
  · have h6 : (decide (ts.length = 1) && tyB c ts [y]) = true := by
      cases y <;> first | exact h5 | exact absurd ⟨_, _, _, rfl⟩ ht
    obtain ⟨h6, h7⟩ := and2 h6
    obtain ⟨k1, k2, k3⟩ := tyB_snd g ts [y] h7
    have k3' : notStar y = true := by simpa using k3
    rcases ts with _ | ⟨t, _ | ⟨_, _⟩⟩
    · simp at h6
    · refine fin k1 (.inl ⟨t, rfl, ?_⟩) k3'
      cases y <;> first | exact absurd h7 Bool.false_ne_true | skip
      rename_i z zp
      cases t with
      | cls i =>
        obtain ⟨q1, q2⟩ := and2 (and2 (show ((glB c z && decide ((c.cl.nw.lookup z).map (·.1) = some i)) && tyB c [] []) = true from h7)).1
        obtain ⟨w, hz1, hz2⟩ := Option.map_eq_some_iff.mp (of_decide_eq_true q2)
        obtain ⟨i', f', n'⟩ := w
        cases hz2
        exact pe_glob (g.gl q1).1 (g.cls z i' f' n' hz1).2 rfl (g.gl q1).2
      | int =>
        obtain ⟨rfl, q1, q2⟩ := g.bl (and2 h7).1
        exact pcls_base (fun i z => by cases z) rfl q1 q2
      | bool =>
        obtain ⟨rfl, q1, q2⟩ := g.bl (and2 h7).1
        exact pcls_base (fun i z => by cases z) rfl q1 q2
      | str =>
        obtain ⟨rfl, q1, q2⟩ := g.bl (and2 h7).1
        exact pcls_base (fun i z => by cases z) rfl q1 q2
      | tup =>
        obtain ⟨rfl, q1, q2⟩ := g.bl (and2 h7).1
        exact pcls_base (fun i z => by cases z) rfl q1 q2
      | lst =>
        obtain ⟨rfl, q1, q2⟩ := g.bl (and2 h7).1
        exact pcls_base (fun i z => by cases z) rfl q1 q2
    · simp at h6
theorem se_app {o a : E} (ho : SE G p o) (ha : SE G p a) : SE G p (.app o a) := fun c X Wx e g h => by
  cases e <;> first | exact absurd h Bool.false_ne_true | skip
  rename_i fn xs kw cp
  cases fn <;> first | exact absurd h Bool.false_ne_true | skip
  rename_i x m ap
  rcases xs with _ | ⟨y, _ | ⟨_, _⟩⟩ <;> first | exact absurd h Bool.false_ne_true | skip
  cases kw <;> first | exact absurd h Bool.false_ne_true | skip
  obtain ⟨h, h6⟩ := and2 (show ((m == "append") && (ap.endLine == cp.line) && notStar y && notCall x && chkE c o x && chkE c a y) = true from h)
  obtain ⟨h, h5⟩ := and2 h
  obtain ⟨h, h4⟩ := and2 h
  obtain ⟨h, h3⟩ := and2 h
  obtain ⟨h1, h2⟩ := and2 h
  have em : m = "append" := by simpa using h1
  subst em
  exact xe_app g.K h2 (ho c X Wx x g h5) (ha c X Wx y g h6) h3 h4
theorem se_pop0 {o : E} (ho : SE G p o) : SE G p (.pop0 o) := fun c X Wx e g h => by
  cases e <;> first | exact absurd h Bool.false_ne_true | skip
  rename_i fn xs kw cp
  cases fn <;> first | exact absurd h Bool.false_ne_true | skip
  rename_i x m ap
  cases xs <;> first | exact absurd h Bool.false_ne_true | skip
  cases kw <;> first | exact absurd h Bool.false_ne_true | skip
  obtain ⟨h, h4⟩ := and2 (show ((m == "pop") && (ap.endLine == cp.line) && notCall x && chkE c o x) = true from h)
  obtain ⟨h, h3⟩ := and2 h
  obtain ⟨h1, h2⟩ := and2 h
  have em : m = "pop" := by simpa using h1
  subst em
  exact xe_pop0 h2 (ho c X Wx x g h4) h3
theorem se_opop1 {i : Nat} {a : E} (ha : SE G p a) : SE G p (.opop1 i a) := fun c X Wx e g h => by
  cases e <;> first | exact absurd h Bool.false_ne_true | skip
  rename_i fn xs kw cp
  cases fn <;> first | exact absurd h Bool.false_ne_true | skip
  rename_i x m ap
  cases x <;> first | exact absurd h Bool.false_ne_true | skip
  rename_i x px
  rcases xs with _ | ⟨y, _ | ⟨_, _⟩⟩ <;> first | exact absurd h Bool.false_ne_true | skip
  cases kw <;> first | exact absurd h Bool.false_ne_true | skip
  obtain ⟨h, h5⟩ := and2 (show ((m == "pop") && (ap.endLine == cp.line) && notStar y && varB c i x && chkE c a y) = true from h)
  obtain ⟨h, h4⟩ := and2 h
  obtain ⟨h, h3⟩ := and2 h
  obtain ⟨h1, h2⟩ := and2 h
  have em : m = "pop" := by simpa using h1
  subst em
  obtain ⟨v1, v2, v3, v4⟩ := g.var h4
  exact xe_opop1 g.K h2 v1 v2 v3 v4 (ha c X Wx y g h5) h3

theorem se_pix {i : Nat} {a : E} (ha : SE G p a) : SE G p (.pix i a) := fun c X Wx e g h => by
  cases e <;> first | exact absurd h Bool.false_ne_true | skip
  rename_i x y ps
  cases x <;> first | exact absurd h Bool.false_ne_true | skip
  rename_i x px
  obtain ⟨h, h3⟩ := and2 (show (varB c i x && chkE c a y && notSlice y) = true from h)
  obtain ⟨h1, h2⟩ := and2 h
  obtain ⟨v1, v2, v3, v4⟩ := g.var h1
  exact xe_pix g.K g.hu v1 v2 v3 v4 (ha c X Wx y g h2) h3
theorem se_rev {a : E} (ha : SE G p a) : SE G p (.rev a) := fun c X Wx e g h => by
  cases e <;> first | exact absurd h Bool.false_ne_true | skip
  rename_i x y ps
  cases y <;> first | exact absurd h Bool.false_ne_true | skip
  rename_i l u st ps2
  cases l <;> first | exact absurd h Bool.false_ne_true | skip
  cases u <;> first | exact absurd h Bool.false_ne_true | skip
  cases st <;> first | exact absurd h Bool.false_ne_true | skip
  rename_i st
  cases st <;> first | exact absurd h Bool.false_ne_true | skip
  rename_i o z ps3
  cases o <;> first | exact absurd h Bool.false_ne_true | skip
  cases z <;> first | exact absurd h Bool.false_ne_true | skip
  rename_i k n ps4
  cases k <;> first | exact absurd h Bool.false_ne_true | skip
  rename_i k
  obtain ⟨h1, h2⟩ := and2 (show (decide (k = 1) && chkE c a x) = true from h)
  have e : k = 1 := of_decide_eq_true h1
  subst e
  exact xe_rev g.K (ha c X Wx x g h2)

/-! ### fresh lists, what is walked -/
theorem sf_disp {es : Es} (hs : SEs G p es) : SF G p (.disp es) := fun c X Wx e g h => by
  cases e <;> first | exact absurd h Bool.false_ne_true | skip
  rename_i xs ps
  obtain ⟨h1, h2⟩ := and2 (show (chkEs c es xs && decide (Es.len es ≤ SZ)) = true from h)
  exact xf_disp (hs c X Wx xs g h1).1.1 fun s us s' e => by rw [evEs_len e]; exact of_decide_eq_true h2
theorem sf_cat {a b : E} (ha : SE G p a) (hb : SE G p b) : SF G p (.cat a b) := fun c X Wx e g h => by
  cases e <;> first | exact absurd h Bool.false_ne_true | skip
  rename_i x o y ps
  cases o <;> first | exact absurd h Bool.false_ne_true | skip
  obtain ⟨h1, h2⟩ := and2 (show (chkE c a x && chkE c b y) = true from h)
  exact xf_cat (ha c X Wx x g h1) (hb c X Wx y g h2)
theorem sf_rep {a b : E} (ha : SE G p a) (hb : SE G p b) : SF G p (.rep a b) := fun c X Wx e g h => by
  cases e <;> first | exact absurd h Bool.false_ne_true | skip
  rename_i x o y ps
  cases o <;> first | exact absurd h Bool.false_ne_true | skip
  obtain ⟨h1, h2⟩ := and2 (show (chkE c a x && chkE c b y) = true from h)
  exact xf_rep (ha c X Wx x g h1) (hb c X Wx y g h2)
theorem ownN_snd (N : List PySem.Str) : ∀ own : List Nat, (ownN N own).map (·.2) = own
  | [] => rfl
  | i :: own => by
    show i :: (ownN N own).map (·.2) = i :: own
    rw [ownN_snd N own]
/-- the parts of a comprehension that is checked -/
theorem comp_parts {c : Ce} {elt : E} {t : T} {it : It} {cond : Eo} {own : List Nat} {e : Expr} (h : chkF c (.comp elt t it cond own) e = true) :
    ∃ x tg iter ifs scope ps, e = .ListComp x [⟨tg, iter, ifs, 0⟩] scope ps ∧ (c.hot = false ∨ rng1B it = true) ∧ chkIt c it tg iter = true ∧ notSet iter = true ∧ blkC c.N c.sc scope (ownN c.N own) = true ∧ (∀ i ∈ T.slots t, i ∈ own) ∧ chkTg (inBlk c scope) t tg = true ∧ chkIfs (inBlk c scope) cond ifs = true ∧ chkE (inBlk c scope) elt x = true := by
  cases e <;> first | exact absurd h Bool.false_ne_true | skip
  rename_i x gs scope ps
  rcases gs with _ | ⟨⟨tg, iter, ifs, as⟩, _ | ⟨_, _⟩⟩ <;> first | exact absurd h Bool.false_ne_true | skip
  all_goals first
    | (have has : as = 0 := by
        by_cases z : as = 0
        · exact z
        · exfalso
          unfold chkF at h
          split at h
          · rename_i heq; cases heq; exact z rfl
          · cases h
       subst has
       obtain ⟨h, h8⟩ := and2 (show ((!c.hot || rng1B it) && chkIt c it tg iter && notSet iter && blkC c.N c.sc scope (ownN c.N own) && (T.slots t).all (fun i => own.contains i) && chkTg (inBlk c scope) t tg && chkIfs (inBlk c scope) cond ifs && chkE (inBlk c scope) elt x) = true from h)
       obtain ⟨h, h7⟩ := and2 h
       obtain ⟨h, h6⟩ := and2 h
       obtain ⟨h, h5⟩ := and2 h
       obtain ⟨h, h4⟩ := and2 h
       obtain ⟨h, h3⟩ := and2 h
       obtain ⟨h1, h2⟩ := and2 h
       exact ⟨x, tg, iter, ifs, scope, ps, rfl, (Bool.or_eq_true_iff.mp h1).imp (fun z => by simpa using z) id, h2, h3, h4, fun i hi => by simpa using List.all_eq_true.mp h5 i hi, h6, h7, h8⟩)
    | (exfalso; unfold chkF at h; split at h <;> first | (rename_i heq; cases heq; done) | cases h)
theorem sf_comp {elt : E} {t : T} {it : It} {cond : Eo} {own : List Nat} (he : SE G p elt) (hi : SI G p it) (hiH : SIH G p it) (hc : SEo G p cond) : SF G p (.comp elt t it cond own) := fun c X Wx e g h => by
  obtain ⟨x, tg, iter, ifs, scope, ps, rfl, hr, h2, h3, h4, h5, h6, h7, h8⟩ := comp_parts h
  cases h1 : c.hot with
  | true =>
    have hr' : rng1B it = true := hr.resolve_left (by rw [h1]; decide)
    obtain ⟨q, hot, hq⟩ := g.hotc h1
    have := xf_compH (pos := ps) (own := ownN c.N own) (t := t) (Wx := Wx) g.K hot hq (by rw [g.N]; exact g.nd) (hiH c X Wx tg iter g hr' h2) (by rw [g.N, g.sc]; exact blkOk_by h4) (fun i hi => by rw [ownN_snd]; exact h5 i hi)
      (fun s H C cl fp => sndTg (g.blkH h1 hot scope s H C cl fp) t tg h6) (fun s H C cl fp => (hc _ _ _ (g.blkH h1 hot scope s H C cl fp)).2 ifs h7) (fun s H C cl fp => he _ _ _ x (g.blkH h1 hot scope s H C cl fp) h8) h3
    rw [ownN_snd] at this
    exact this
  | false =>
  have := xf_comp (pos := ps) (own := ownN c.N own) (t := t) (Wx := Wx) g.K (g.calm h1) (by rw [g.N]; exact g.nd) (hi c X Wx tg iter g h2) (by rw [g.N, g.sc]; exact blkOk_by h4) (fun i hi => by rw [ownN_snd]; exact h5 i hi)
    (fun s H C cl fp => sndTg (g.blk h1 scope s H C cl fp) t tg h6) (fun s H C cl fp => (hc _ _ _ (g.blk h1 scope s H C cl fp)).2 ifs h7) (fun s H C cl fp => he _ _ _ x (g.blk h1 scope s H C cl fp) h8) h3
  rw [ownN_snd] at this
  exact this
/-- .. with two fors -/
theorem comp2_parts {c : Ce} {elt : E} {t t2 : T} {it it2 : It} {cond : Eo} {own own2 : List Nat} {e : Expr} (h : chkF c (.comp2 elt t it t2 it2 cond own own2) e = true) :
    ∃ x tg iter tg2 iter2 ifs scope ps, e = .ListComp x [⟨tg, iter, [], 0⟩, ⟨tg2, iter2, ifs, 0⟩] scope ps ∧ c.hot = false ∧ chkIt c it tg iter = true ∧ notSet iter = true ∧ notSet iter2 = true ∧ blkC c.N c.sc scope (ownN c.N own) = true ∧ (∀ i ∈ T.slots t, i ∈ own) ∧ (∀ i ∈ T.slots t2, i ∈ own2) ∧ (∀ i ∈ own2, i ∈ own) ∧ chkTg (inBlk c scope) t tg = true ∧ chkIt (inBlk c scope) it2 tg2 iter2 = true ∧ chkTg (inBlk c scope) t2 tg2 = true ∧ chkIfs (inBlk c scope) cond ifs = true ∧ chkE (inBlk c scope) elt x = true := by
  cases e <;> first | exact absurd h Bool.false_ne_true | skip
  rename_i x gs scope ps
  unfold chkF at h
  split at h
  · rename_i x' tg iter tg2 iter2 ifs scope' ps' heq
    cases heq
    obtain ⟨h, k13⟩ := and2 h
    obtain ⟨h, k12⟩ := and2 h
    obtain ⟨h, k11⟩ := and2 h
    obtain ⟨h, k10⟩ := and2 h
    obtain ⟨h, k9⟩ := and2 h
    obtain ⟨h, k8⟩ := and2 h
    obtain ⟨h, k7⟩ := and2 h
    obtain ⟨h, k6⟩ := and2 h
    obtain ⟨h, k5⟩ := and2 h
    obtain ⟨h, k4⟩ := and2 h
    obtain ⟨h, k3⟩ := and2 h
    obtain ⟨k1, k2⟩ := and2 h
    exact ⟨_, _, _, _, _, _, _, _, rfl, by simpa using k1, k2, k3, k4, k5, fun i hi => by simpa using List.all_eq_true.mp k6 i hi, fun i hi => by simpa using List.all_eq_true.mp k7 i hi, fun i hi => by simpa using List.all_eq_true.mp k8 i hi, k9, k10, k11, k12, k13⟩
  · cases h
theorem sf_comp2 {elt : E} {t t2 : T} {it it2 : It} {cond : Eo} {own own2 : List Nat} (he : SE G p elt) (hi : SI G p it) (hi2 : SI G p it2) (hc : SEo G p cond) : SF G p (.comp2 elt t it t2 it2 cond own own2) := fun c X Wx e g h => by
  obtain ⟨x, tg, iter, tg2, iter2, ifs, scope, ps, rfl, h1, h2, h3, h3', h4, h5, h5', h5'', h6, h6', h6'', h7, h8⟩ := comp2_parts h
  have := xf_comp2 (pos := ps) (own := ownN c.N own) (own2 := own2) (t := t) (t2 := t2) (Wx := Wx) (g.calm h1) (by rw [g.N]; exact g.nd) (hi c X Wx tg iter g h2) (by rw [g.N, g.sc]; exact blkOk_by h4) (fun i hi => by rw [ownN_snd]; exact h5 i hi) h5' (fun i hi => by rw [ownN_snd]; exact h5'' i hi)
    (fun s H C cl fp => sndTg (g.blk h1 scope s H C cl fp) t tg h6) (fun s H C cl fp => hi2 _ _ _ tg2 iter2 (g.blk h1 scope s H C cl fp) h6') (fun s H C cl fp => sndTg (g.blk h1 scope s H C cl fp) t2 tg2 h6'') (fun s H C cl fp => (hc _ _ _ (g.blk h1 scope s H C cl fp)).2 ifs h7) (fun s H C cl fp => he _ _ _ x (g.blk h1 scope s H C cl fp) h8) h3 h3'
  rw [ownN_snd] at this
  exact this
theorem sf_of {a : E} (ha : SE G p a) : SF G p (.of a) := fun c X Wx e g h => by
  cases e <;> first | exact absurd h Bool.false_ne_true | skip
  rename_i fn xs kw ps
  cases fn <;> first | exact absurd h Bool.false_ne_true | skip
  rename_i f q
  rcases xs with _ | ⟨x, _ | ⟨_, _⟩⟩ <;> first | exact absurd h Bool.false_ne_true | skip
  cases kw <;> first | exact absurd h Bool.false_ne_true | skip
  obtain ⟨h, h4⟩ := and2 (show (!c.hot && bltB c f "list" && notStar x && (chkE c a x || peekB c a x)) = true from h)
  obtain ⟨h, h3⟩ := and2 h
  obtain ⟨h1, h2⟩ := and2 h
  obtain ⟨rfl, q1, q2⟩ := g.bl h2
  refine xf_of g.K (g.calm (by simpa using h1)) q1 q2 ?_ h3
  rcases Bool.or_eq_true_iff.mp h4 with h5 | h5
  · exact re_rp (ha c X Wx x g h5)
  · cases a <;> first | exact absurd h5 Bool.false_ne_true | skip
    cases x <;> first | exact absurd h5 Bool.false_ne_true | skip
    obtain ⟨v1, v2, v3, v4⟩ := g.var h5
    exact xp_peek v1 v2 v3 v4
theorem sf_srt {a : E} {rev : Bool} (ha : SE G p a) : SF G p (.srt a rev) := fun c X Wx e g h => by
  cases e <;> first | exact absurd h Bool.false_ne_true | skip
  rename_i fn xs kw ps
  cases fn <;> first | exact absurd h Bool.false_ne_true | skip
  rename_i f q
  rcases xs with _ | ⟨x, _ | ⟨_, _⟩⟩ <;> first | exact absurd h Bool.false_ne_true | skip
  cases kw <;> first | exact absurd h Bool.false_ne_true | skip
  obtain ⟨h, h4⟩ := and2 (show (!rev && bltB c f "sorted" && notStar x && (chkE c a x || peekB c a x)) = true from h)
  obtain ⟨h, h3⟩ := and2 h
  obtain ⟨h1, h2⟩ := and2 h
  obtain ⟨rfl, q1, q2⟩ := g.bl h2
  have er : rev = false := by simpa using h1
  subst er
  refine xf_srt g.K q1 q2 ?_ h3
  rcases Bool.or_eq_true_iff.mp h4 with h5 | h5
  · exact re_rp (ha c X Wx x g h5)
  · cases a <;> first | exact absurd h5 Bool.false_ne_true | skip
    cases x <;> first | exact absurd h5 Bool.false_ne_true | skip
    obtain ⟨v1, v2, v3, v4⟩ := g.var h5
    exact xp_peek v1 v2 v3 v4
theorem si_seq {a : E} (ha : SE G p a) : SI G p (.seq a) := fun c X Wx tg e g h => xi_seq g.K (ha c X Wx e g h)
theorem si_rng1 {a : E} (ha : SE G p a) : SI G p (.rng1 a) := fun c X Wx tg e g h => by
  cases e <;> first | exact absurd h Bool.false_ne_true | skip
  rename_i fn xs kw ps
  cases fn <;> first | exact absurd h Bool.false_ne_true | skip
  rename_i f q
  rcases xs with _ | ⟨x, _ | ⟨_, _⟩⟩ <;> first | exact absurd h Bool.false_ne_true | skip
  cases kw <;> first | exact absurd h Bool.false_ne_true | skip
  obtain ⟨h, h3⟩ := and2 (show (bltB c f "range" && notStar x && chkE c a x) = true from h)
  obtain ⟨h1, h2⟩ := and2 h
  obtain ⟨rfl, q1, q2⟩ := g.bl h1
  exact xi_rng1 q1 q2 (ha c X Wx x g h3) h2
theorem si_rng1H {a : E} (ha : SE G p a) : SIH G p (.rng1 a) := fun c X Wx tg e g _ h => by
  cases e <;> first | exact absurd h Bool.false_ne_true | skip
  rename_i fn xs kw ps
  cases fn <;> first | exact absurd h Bool.false_ne_true | skip
  rename_i f q
  rcases xs with _ | ⟨x, _ | ⟨_, _⟩⟩ <;> first | exact absurd h Bool.false_ne_true | skip
  cases kw <;> first | exact absurd h Bool.false_ne_true | skip
  obtain ⟨h, h3⟩ := and2 (show (bltB c f "range" && notStar x && chkE c a x) = true from h)
  obtain ⟨h1, h2⟩ := and2 h
  obtain ⟨rfl, q1, q2⟩ := g.bl h1
  exact xi_rng1H q1 q2 (ha c X Wx x g h3) h2
theorem si_rng2 {a b : E} (ha : SE G p a) (hb : SE G p b) : SI G p (.rng2 a b) := fun c X Wx tg e g h => by
  cases e <;> first | exact absurd h Bool.false_ne_true | skip
  rename_i fn xs kw ps
  cases fn <;> first | exact absurd h Bool.false_ne_true | skip
  rename_i f q
  rcases xs with _ | ⟨x, _ | ⟨y, _ | ⟨_, _⟩⟩⟩ <;> first | exact absurd h Bool.false_ne_true | skip
  cases kw <;> first | exact absurd h Bool.false_ne_true | skip
  obtain ⟨h, h5⟩ := and2 (show (bltB c f "range" && notStar x && notStar y && chkE c a x && chkE c b y) = true from h)
  obtain ⟨h, h4⟩ := and2 h
  obtain ⟨h, h3⟩ := and2 h
  obtain ⟨h1, h2⟩ := and2 h
  obtain ⟨rfl, q1, q2⟩ := g.bl h1
  exact xi_rng2 q1 q2 (ha c X Wx x g h4) (hb c X Wx y g h5) h2 h3
end
end Pix
end
section
set_option Elab.async false
set_option linter.all false
set_option maxRecDepth 100000
set_option maxHeartbeats 1000000
/-! PixZ2: instances in the check. -/
namespace Pix
open PySem PySem.Spec PyProof.Rows L2
section
variable {G : Gl0} {p : Px}
theorem se_fld {i : Nat} {a : E} {f : String} (ha : SE G p a) : SE G p (.fld i a f) := fun c X Wx e g h => by
  cases e <;> first | exact absurd h Bool.false_ne_true | skip
  rename_i x m ps
  obtain ⟨h, h4⟩ := and2 (show (baseB x && (m == PySem.Str.ofString f) && c.cl.fl.contains (i, m) && chkE c a x) = true from h)
  obtain ⟨h, h3⟩ := and2 h
  obtain ⟨h1, h2⟩ := and2 h
  have em : m = PySem.Str.ofString f := by simpa using h2
  subst em
  exact xe_fld g.K g.kok (g.cfl i _ (by simpa using h3)) (ha c X Wx x g h4) h1
theorem se_meth {f i : Nat} {m : String} {o : E} {es : Es} (ho : SE G p o) (hs : SEs G p es) : SE G p (.meth f i m o es) := fun c X Wx e g h => by
  cases e <;> first | exact absurd h Bool.false_ne_true | skip
  rename_i fn xs kw cp
  cases fn <;> first | exact absurd h Bool.false_ne_true | skip
  rename_i x n ap
  cases kw <;> first | exact absurd h Bool.false_ne_true | skip
  obtain ⟨h, h9⟩ := and2 (show (!c.hot && baseB x && (n == PySem.Str.ofString m) && decide (c.cl.me.lookup (i, n) = some (f, Es.len es + 1)) && (ap.endLine == cp.line) && decide (xs.length < 29) && chkE c o x && chkEs c es xs && xs.all notStar) = true from h)
  obtain ⟨h, h8⟩ := and2 h
  obtain ⟨h, h7⟩ := and2 h
  obtain ⟨h, h6⟩ := and2 h
  obtain ⟨h, h5⟩ := and2 h
  obtain ⟨h, h4⟩ := and2 h
  obtain ⟨h, h3⟩ := and2 h
  obtain ⟨h1, h2⟩ := and2 h
  have em : n = PySem.Str.ofString m := by simpa using h3
  subst em
  obtain ⟨⟨k1, _⟩, k2, k3⟩ := hs c X Wx xs g h8
  obtain ⟨kk, fa, fd, pp, q1, q2, q3, q4⟩ := g.meth (by simpa using h1) i _ f _ (of_decide_eq_true h4)
  cases xs with
  | nil =>
    cases es with
    | nil => exact xe_meth0 g.K g.kok q1 q3 q4 q2 g.tk (ho c X Wx x g h7) h2 h5
    | cons a as => exact absurd h8 Bool.false_ne_true
  | cons y ys => exact xe_meth g.K g.kok q1 q3 q4 q2 g.tk (ho c X Wx x g h7) k1 k2 (fun s us s' e => congrArg Nat.succ (evEs_len e)) h2 h5 (of_decide_eq_true h6)
theorem se_new {f i : Nat} {es : Es} (hs : SEs G p es) : SE G p (.new i f es) := fun c X Wx e g h => by
  cases e <;> first | exact absurd h Bool.false_ne_true | skip
  rename_i fn xs kw cp
  cases fn <;> first | exact absurd h Bool.false_ne_true | skip
  rename_i x px
  cases xs <;> first | exact absurd h Bool.false_ne_true | skip
  rename_i y ys
  cases kw <;> first | exact absurd h Bool.false_ne_true | skip
  obtain ⟨h, h5⟩ := and2 (show (!c.hot && glB c x && decide (c.cl.nw.lookup x = some (i, f, Es.len es + 1)) && chkEs c es (y :: ys) && (y :: ys).all notStar) = true from h)
  obtain ⟨h, h4⟩ := and2 h
  obtain ⟨h, h3⟩ := and2 h
  obtain ⟨h1, h2⟩ := and2 h
  obtain ⟨⟨k1, _⟩, k2, k3⟩ := hs c X Wx _ g h4
  obtain ⟨g1, g2⟩ := g.gl h2
  obtain ⟨c1, c2⟩ := g.cls x i f _ (of_decide_eq_true h3)
  obtain ⟨kk, fa, fd, pp, q1, q2, q3, q4⟩ := g.new (by simpa using h1) x i f _ (of_decide_eq_true h3)
  exact xe_new g.K c1 q1 q3 q4 q2 g.tk g1 c2 g2 k1 k2 fun s us s' e => congrArg Nat.succ (evEs_len e)
theorem kwNames_len {l : List Keyword} {r : List PySem.Str} (z : kwNames l = some r) : r.length = l.length := by
  induction l generalizing r with
  | nil => cases z; rfl
  | cons a l ih =>
    obtain ⟨nm, v, kp⟩ := a
    cases nm with
    | none => simp [kwNames] at z
    | some nm =>
      cases e2 : kwNames l with
      | none => simp [kwNames, e2] at z
      | some r2 =>
        simp only [kwNames, e2, Option.some.injEq] at z
        subst z
        rw [List.length_cons, List.length_cons, ih e2]
theorem se_methK {f i : Nat} {m : String} {perm : List Nat} {o : E} {es ks : Es} (ho : SE G p o) (hs : SEs G p es) (hk : SEs G p ks) : SE G p (.methK f i m perm o es ks) := fun c X Wx e g h => by
  cases e <;> first | exact absurd h Bool.false_ne_true | skip
  rename_i fn xs kws cp
  cases fn <;> first | exact absurd h Bool.false_ne_true | skip
  rename_i x n ap
  obtain ⟨h, h11⟩ := and2 (show (!c.hot && baseB x && (n == PySem.Str.ofString m) && mkwB c i n (Es.len es) kws f perm && (ap.endLine == cp.line) && decide (xs.length + kws.length < 28) && chkE c o x && chkEs c es xs && xs.all notStar && chkEs c ks (kws.map (·.value)) && decide (xs.length = Es.len es)) = true from h)
  obtain ⟨h, h10⟩ := and2 h
  obtain ⟨h, h9⟩ := and2 h
  obtain ⟨h, h8⟩ := and2 h
  obtain ⟨h, h7⟩ := and2 h
  obtain ⟨h, h6⟩ := and2 h
  obtain ⟨h, h5⟩ := and2 h
  obtain ⟨h, h4⟩ := and2 h
  obtain ⟨h, h3⟩ := and2 h
  obtain ⟨h1, h2⟩ := and2 h
  have em : n = PySem.Str.ofString m := by simpa using h3
  subst em
  unfold mkwB at h4
  cases hn : kwNames kws with
  | none => rw [hn] at h4; cases h4
  | some nms =>
    rw [hn] at h4
    obtain ⟨n, kk, fa, fd, pp, q1, q3, q4, q5, q6⟩ := g.methk (by simpa using h1) i _ _ nms f perm (of_decide_eq_true h4)
    obtain ⟨⟨k1, _⟩, k2, k3⟩ := hs c X Wx xs g h8
    obtain ⟨⟨_, m1⟩, m2, m3⟩ := hk c X Wx _ g h10
    have lk : Es.len ks = nms.length := by rw [← m3, List.length_map, kwNames_len hn]
    cases xs with
    | nil =>
      cases es with
      | nil => exact xe_methK0 g.K g.kok q1 q4 q5 q3 g.tk (ho c X Wx x g h7) (m1 kws rfl) hn (fun s us s' e => by rw [evEs_len e, lk]) (fun l hl => q6 l (by simpa [Es.len] using hl)) h2 h5 (by simpa using of_decide_eq_true h6)
      | cons a as => exact absurd h8 Bool.false_ne_true
    | cons y ys => exact xe_methK g.K g.kok q1 q4 q5 q3 g.tk (ho c X Wx x g h7) k1 (m1 kws rfl) k2 hn (fun s us s' e => evEs_len e) (fun s us s' e => by rw [evEs_len e, lk]) q6 h2 h5 (of_decide_eq_true h6)
theorem se_newK {f i : Nat} {perm : List Nat} {es ks : Es} (hs : SEs G p es) (hk : SEs G p ks) : SE G p (.newK i f perm es ks) := fun c X Wx e g h => by
  cases e <;> first | exact absurd h Bool.false_ne_true | skip
  rename_i fn xs kws cp
  cases fn <;> first | exact absurd h Bool.false_ne_true | skip
  rename_i x px
  obtain ⟨h, h7⟩ := and2 (show (!c.hot && glB c x && nkwB c x (Es.len es) kws i f perm && chkEs c es xs && xs.all notStar && chkEs c ks (kws.map (·.value)) && decide (xs.length = Es.len es)) = true from h)
  obtain ⟨h, h6⟩ := and2 h
  obtain ⟨h, h5⟩ := and2 h
  obtain ⟨h, h4⟩ := and2 h
  obtain ⟨h, h3⟩ := and2 h
  obtain ⟨h1, h2⟩ := and2 h
  obtain ⟨g1, g2⟩ := g.gl h2
  unfold nkwB at h3
  cases hn : kwNames kws with
  | none => rw [hn] at h3; cases h3
  | some nms =>
    rw [hn] at h3
    obtain ⟨c1, c2, n, kk, fa, fd, pp, q1, q3, q4, q5, q6⟩ := g.newk (by simpa using h1) x _ nms i f perm (of_decide_eq_true h3)
    obtain ⟨⟨k1, _⟩, k2, k3⟩ := hs c X Wx xs g h4
    obtain ⟨⟨_, m1⟩, m2, m3⟩ := hk c X Wx _ g h6
    have lk : Es.len ks = nms.length := by rw [← m3, List.length_map, kwNames_len hn]
    cases xs with
    | nil =>
      cases es with
      | nil => exact xe_newK0 g.K c1 q1 q4 q5 q3 g.tk g1 c2 g2 (m1 kws rfl) hn (fun s us s' e => by rw [evEs_len e, lk]) (fun l hl => q6 l (by simpa [Es.len] using hl))
      | cons a as => exact absurd h4 Bool.false_ne_true
    | cons y ys => exact xe_newK g.K c1 q1 q4 q5 q3 g.tk g1 c2 g2 k1 (m1 kws rfl) k2 hn (fun s us s' e => evEs_len e) (fun s us s' e => by rw [evEs_len e, lk]) q6
theorem se_upper {a : E} (ha : SE G p a) : SE G p (.upper a) := fun c X Wx e g h => by
  cases e <;> first | exact absurd h Bool.false_ne_true | skip
  rename_i fn xs kw cp
  cases fn <;> first | exact absurd h Bool.false_ne_true | skip
  rename_i x n ap
  cases xs <;> first | exact absurd h Bool.false_ne_true | skip
  cases kw <;> first | exact absurd h Bool.false_ne_true | skip
  obtain ⟨h, h4⟩ := and2 (show ((n == ("upper" : PySem.Str)) && baseB x && (ap.endLine == cp.line) && chkE c a x) = true from h)
  obtain ⟨h, h3⟩ := and2 h
  obtain ⟨h1, h2⟩ := and2 h
  have em : n = ("upper" : PySem.Str) := by simpa using h1
  subst em
  exact xe_upper (ha c X Wx x g h4) h2 h3
theorem si_enum {a : E} (ha : SE G p a) : SI G p (.enum a) := fun c X Wx tg e g h => by
  cases tg <;> first | exact absurd h Bool.false_ne_true | skip
  cases e <;> first | exact absurd h Bool.false_ne_true | skip
  rename_i fn xs kw ps
  cases fn <;> first | exact absurd h Bool.false_ne_true | skip
  rename_i f q
  rcases xs with _ | ⟨x, _ | ⟨_, _⟩⟩ <;> first | exact absurd h Bool.false_ne_true | skip
  cases kw <;> first | exact absurd h Bool.false_ne_true | skip
  obtain ⟨h, h3⟩ := and2 (show (bltB c f "enumerate" && notStar x && chkE c a x) = true from h)
  obtain ⟨h1, h2⟩ := and2 h
  obtain ⟨rfl, q1, q2⟩ := g.bl h1
  exact xi_enum g.K q1 q2 (ha c X Wx x g h3) h2
end
end Pix
end
section
set_option Elab.async false
set_option linter.all false
set_option maxRecDepth 100000
set_option maxHeartbeats 1000000
/-! PixZ7: displays of dicts with keys ints and texts. -/
namespace Pix
open PySem PySem.Spec PyProof.Rows L2
section
variable {G : Gl0} {p : Px} {Wx : WX} {σ : L2.St}
def TKv (G : Gl0) (Wx : WX) (p : Px) : Kv → List (TE × TE)
  | .nil => []
  | .cons k v r => (RE G Wx (evE p k), RE G Wx (evE p v)) :: TKv G Wx p r
theorem RepK.all {W : Wd} : ∀ {ps : List (U × U)} {kvs : List (Key × V)} {acc : List (U × U)} {es : List (Key × V)}, RepK G W ps kvs → RepK G W acc es → RepK G W (putAll ps acc) (mergeK es kvs)
  | [], _, _, _, .nil, r => r
  | q :: ps, _, _, _, .cons hk rv rs, r => by
    have := RepK.all rs (r.put hk rv)
    exact this
theorem pairs_run {D : Addr} {QQ : List (V × V) → L2.Hp → Prop} : ∀ (kv : Kv) {b : Ba} {W : Wd} {s s2 : St} {H : L2.Hp} {ps : List (U × U)} (B : BSim G b W s σ H) (hA : Apart b W s σ D) (hD : H D = some (.dK [])) (e : evKv p false kv s = .ok ps s2)
    (K : ∀ (W' : Wd) (H' : L2.Hp) (kvs : List (Key × V)), W.le W' → BSim G b W' s2 σ H' → Apart b W' s2 σ D → H' D = some (.dK []) → RepK G W' ps kvs → QQ (kvs.map fun kv => (kV kv.1, kv.2)) H'), tPairs (TKv G Wx p kv) σ H QQ
  | .nil, b, W, s, s2, H, ps, B, hA, hD, e, K => by
    rw [evKv] at e
    cases e
    exact K W H [] .rfl' B hA hD .nil
  | .cons k v r, b, W, s, s2, H, ps, B, hA, hD, e, K => by
    rw [evKv] at e
    cases e1 : evE p k s with
    | bad => rw [e1] at e; cases e
    | ex c u s4 => rw [e1] at e; cases e
    | ok x s3 =>
    rw [e1] at e
    dsimp only [Re.bnd] at e
    cases e2 : evE p v s3 with
    | bad => rw [e2] at e; cases e
    | ex c u s4 => rw [e2] at e; cases e
    | ok y s4 =>
    rw [e2] at e
    dsimp only at e
    split at e
    · rename_i hput
      cases e3 : evKv p false r s4 with
      | bad => rw [e3] at e; cases e
      | ex c u s5 => rw [e3] at e; cases e
      | ok ps' s5 =>
      rw [e3] at e
      cases e
      refine ⟨_, W, s, B.start, ?_⟩
      rw [e1]
      intro W1 H1 le1 B1 vx rx
      refine ⟨_, W1, s3, B1, ?_⟩
      rw [e2]
      intro W2 H2 le2 B2 vy ry
      obtain ⟨hA2, hD2⟩ := hA.on hD B2
      refine pairs_run r (B.back_to B2) hA2 hD2 e3 fun W' H' kvs le B' A' D' rk => ?_
      unfold putOk at hput
      rw [Bool.and_eq_true] at hput
      obtain ⟨kk, ek⟩ := keyOf_some hput.1
      have ev : vx = kV kk := keyOf_rep rx ek
      rw [ev]
      exact K W' H' ((kk, vy) :: kvs) ((le1.trans le2).trans le) B' A' D' (.cons ek (ry.mono le) rk)
    · cases e
theorem disp_imp {kv : Kv} {b : Ba} {W : Wd} {s : St} {H : L2.Hp} {Q : VK} (B : BSim G b W s σ H)
    (ok : okR G b W σ Wx (kD G Q) ((noEx (evKv p false kv s)).bnd fun ps s1 => if ps.length ≤ 15 then .ok (false, putAll ps []) s1 else .bad)) : tDisp (TKv G Wx p kv) σ H Q := by
  obtain ⟨ps, s2, e0, q⟩ := noEx_ok ok
  split at q
  · rename_i h15
    intro D hD
    have B1 : BSim G b W s σ (upd H D (.dK [])) := B.more fun a o e => by rw [upd_ne (ne_of_none e hD)]; exact e
    refine pairs_run kv B1 (B.apart hD) upd_same e0 fun W' H' kvs le B' A' D' rk => ⟨D', kvs, rfl, by rw [← rk.length]; exact h15, ?_⟩
    have B3 := B'.less A'.fz A'.m A'.own A'.h0
    have := q W' _ le B3 D (.dK (mergeK [] kvs)) ⟨_, rfl, rk.all .nil⟩ (if_pos rfl)
    have e : upd (fun x => if x = D then none else H' x) D (.dK (mergeK [] kvs)) = upd H' D (.dK (mergeK [] kvs)) := by
      funext x
      unfold upd
      by_cases h : x = D <;> simp [h]
    rw [e] at this
    exact this
  · exact (show False from q).elim
end
end Pix
end
section
set_option Elab.async false
set_option linter.all false
set_option maxRecDepth 100000
set_option maxHeartbeats 4000000
/-! PixG1: what the check proves of expressions: calls by keyword, len(set(..)), slices, in, index, dict comprehensions. -/
namespace Pix
open PySem PySem.Spec PyProof.Rows L2
section
variable {G : Gl0} {p : Px}
theorem rp_of {a : E} (ha : SE G p a) {c : Ce} {X : Cx} {Wx : WX} {x : Expr} (g : Good G p c X Wx) (h : (chkE c a x || peekB c a x) = true) : PE X x (RP G Wx (evE p a)) := by
  rcases Bool.or_eq_true_iff.mp h with h5 | h5
  · exact re_rp (ha c X Wx x g h5)
  · cases a <;> first | exact absurd h5 Bool.false_ne_true | skip
    cases x <;> first | exact absurd h5 Bool.false_ne_true | skip
    obtain ⟨v1, v2, v3, v4⟩ := g.var h5
    exact xp_peek v1 v2 v3 v4
theorem se_lset {a : E} (ha : SE G p a) : SE G p (.lset a) := fun c X Wx e g h => by
  cases e <;> first | exact absurd h Bool.false_ne_true | skip
  rename_i fn xs kw ps
  cases fn <;> first | exact absurd h Bool.false_ne_true | skip
  rename_i f q
  unfold chkE at h
  split at h
  · rename_i f q f2 q2 x ps2 ps heq
    cases heq
    obtain ⟨h, h5⟩ := and2 h
    obtain ⟨h, h4⟩ := and2 h
    obtain ⟨h, h3⟩ := and2 h
    obtain ⟨h1, h2⟩ := and2 h
    obtain ⟨rfl, a1, a2⟩ := g.bl h2
    obtain ⟨rfl, b1, b2⟩ := g.bl h3
    exact xe_lenset g.K (g.calm (by simpa using h1)) a1 a2 b1 b2 (rp_of ha g h5) h4
  · cases h
theorem se_callK {f : Nat} {perm : List Nat} {es ks : Es} (hs : SEs G p es) (hk : SEs G p ks) : SE G p (.callK f perm es ks) := fun c X Wx e g h => by
  cases e <;> first | exact absurd h Bool.false_ne_true | skip
  rename_i fn xs kws ps
  cases fn <;> first | exact absurd h Bool.false_ne_true | skip
  rename_i x q
  obtain ⟨h, h7⟩ := and2 (show (!c.hot && glB c x && kwB c x (Es.len es) kws f perm && chkEs c es xs && xs.all notStar && chkEs c ks (kws.map (·.value)) && decide (xs.length = Es.len es)) = true from h)
  obtain ⟨h, h6⟩ := and2 h
  obtain ⟨h, h5⟩ := and2 h
  obtain ⟨h, h4⟩ := and2 h
  obtain ⟨h, h3⟩ := and2 h
  obtain ⟨h1, h2⟩ := and2 h
  obtain ⟨g1, g2⟩ := g.gl h2
  unfold kwB at h3
  cases hn : kwNames kws with
  | none => rw [hn] at h3; cases h3
  | some nms =>
    rw [hn] at h3
    obtain ⟨n, kk, fa, fd, pp, q1, q2, q3, q4, q5, q6⟩ := g.callk (by simpa using h1) x _ nms f perm (of_decide_eq_true h3)
    obtain ⟨⟨k1, _⟩, k2, k3⟩ := hs c X Wx xs g h4
    obtain ⟨⟨_, m1⟩, m2, m3⟩ := hk c X Wx _ g h6
    have ln : nms.length = kws.length := by
      have : ∀ {l : List Keyword} {r : List PySem.Str}, kwNames l = some r → r.length = l.length := by
        intro l
        induction l with
        | nil => intro r z; cases z; rfl
        | cons a l ih =>
          intro r z
          obtain ⟨nm, v, kp⟩ := a
          cases nm with
          | none => simp [kwNames] at z
          | some nm =>
            cases e2 : kwNames l with
            | none => simp [kwNames, e2] at z
            | some r2 =>
              simp only [kwNames, e2, Option.some.injEq] at z
              subst z
              rw [List.length_cons, List.length_cons, ih e2]
      exact this hn
    have lk : Es.len ks = nms.length := by rw [← m3, List.length_map, ln]
    cases xs with
    | nil =>
      cases es with
      | nil =>
        refine PE.imp (xe_callK0 q4 q5 q3 g.tk g1 q1 q2 g2 (m1 kws rfl) hn (fun s us s' e => by rw [evEs_len e, lk]) (fun l hl => q6 l hl)) fun σ H Q z => ?_
        obtain ⟨b, W, s, B, ok⟩ := z
        refine ⟨b, W, s, B, ?_⟩
        exact ok
      | cons a as => exact absurd h4 Bool.false_ne_true
    | cons y ys =>
      exact xe_callK q4 q5 q3 g.tk g1 q1 q2 g2 k1 (m1 kws rfl) k2 hn (fun s us s' e => evEs_len e) (fun s us s' e => by rw [evEs_len e, lk]) q6
theorem se_psl {i : Nat} {lo hi : Eo} (hl : SEo G p lo) (hh : SEo G p hi) : SE G p (.psl i lo hi) := fun c X Wx e g h => by
  cases e <;> first | exact absurd h Bool.false_ne_true | skip
  rename_i x y ps
  cases x <;> first | exact absurd h Bool.false_ne_true | skip
  rename_i x px
  cases y <;> first | exact absurd h Bool.false_ne_true | skip
  rename_i l u st ps2
  cases st <;> first | exact absurd h Bool.false_ne_true | skip
  obtain ⟨h, h3⟩ := and2 (show (varB c i x && chkEo c lo l && chkEo c hi u) = true from h)
  obtain ⟨h1, h2⟩ := and2 h
  obtain ⟨v1, v2, v3, v4⟩ := g.var h1
  exact xe_psl g.K v1 v2 v3 v4 ((hl c X Wx g).1 l h2) ((hh c X Wx g).1 u h3)
theorem se_pin {no : Bool} {a : E} {i : Nat} (ha : SE G p a) : SE G p (.pin no a i) ∧ ST G p (.pin no a i) := by
  have key : ∀ {c : Ce} {e : Expr}, chkE c (.pin no a i) e = true → ∃ x y py ps, e = .Compare x [copP (if no then .notin else .isin)] [.Name y py] ps ∧ chkE c a x = true ∧ varB c i y = true := fun {c e} h => by
    cases e <;> first | exact absurd h Bool.false_ne_true | skip
    rename_i x os ys ps
    unfold chkE at h
    split at h
    · rename_i x o y py ps heq
      cases heq
      obtain ⟨h, h3⟩ := and2 h
      obtain ⟨h1, h2⟩ := and2 h
      have e1 := of_decide_eq_true h1
      subst e1
      exact ⟨_, _, _, _, rfl, h2, h3⟩
    · cases h
  have ev : evE p (.pin no a i) = fun s => (evE p a s).bnd fun y s1 => pinU (if no then .notin else .isin) i y s1 := by
    funext s
    rw [evE]
    rfl
  refine ⟨fun c X Wx e g h => ?_, fun c X Wx e g h h9 => ?_⟩
  · obtain ⟨x, y, py, ps, rfl, h2, h3⟩ := key h
    obtain ⟨v1, v2, v3, v4⟩ := g.var h3
    rw [ev]
    exact xe_pin g.K g.hu v1 v2 v3 v4 (ha c X Wx x g h2)
  · obtain ⟨x, y, py, ps, rfl, h2, h3⟩ := key h
    obtain ⟨v1, v2, v3, v4⟩ := g.var h3
    rw [ev]
    exact xt_pin g.K g.hu v1 v2 v3 v4 (ha c X Wx x g h2)
theorem se_idx {o a : E} (ho : SE G p o) (ha : SE G p a) : SE G p (.idx o a) := fun c X Wx e g h => by
  cases e <;> first | exact absurd h Bool.false_ne_true | skip
  rename_i fn xs kw cp
  cases fn <;> first | exact absurd h Bool.false_ne_true | skip
  rename_i x m ap
  rcases xs with _ | ⟨y, _ | ⟨_, _⟩⟩ <;> first | exact absurd h Bool.false_ne_true | skip
  cases kw <;> first | exact absurd h Bool.false_ne_true | skip
  obtain ⟨h, h6⟩ := and2 (show ((m == "index") && (ap.endLine == cp.line) && notStar y && notCall x && chkE c o x && chkE c a y) = true from h)
  obtain ⟨h, h5⟩ := and2 h
  obtain ⟨h, h4⟩ := and2 h
  obtain ⟨h, h3⟩ := and2 h
  obtain ⟨h1, h2⟩ := and2 h
  have em : m = "index" := by simpa using h1
  subst em
  exact xe_idx g.K g.hu h2 (ho c X Wx x g h5) (ha c X Wx y g h6) h3 h4
theorem se_pidx {i : Nat} {a : E} (ha : SE G p a) : SE G p (.pidx i a) := fun c X Wx e g h => by
  cases e <;> first | exact absurd h Bool.false_ne_true | skip
  rename_i fn xs kw cp
  cases fn <;> first | exact absurd h Bool.false_ne_true | skip
  rename_i x m ap
  cases x <;> first | exact absurd h Bool.false_ne_true | skip
  rename_i x px
  rcases xs with _ | ⟨y, _ | ⟨_, _⟩⟩ <;> first | exact absurd h Bool.false_ne_true | skip
  cases kw <;> first | exact absurd h Bool.false_ne_true | skip
  obtain ⟨h, h5⟩ := and2 (show ((m == "index") && (ap.endLine == cp.line) && notStar y && varB c i x && chkE c a y) = true from h)
  obtain ⟨h, h4⟩ := and2 h
  obtain ⟨h, h3⟩ := and2 h
  obtain ⟨h1, h2⟩ := and2 h
  have em : m = "index" := by simpa using h1
  subst em
  obtain ⟨v1, v2, v3, v4⟩ := g.var h4
  exact xe_pidx g.K g.hu h2 v1 v2 v3 v4 (ha c X Wx y g h5) h3
theorem sd_comp {t : T} {tk : Bool} {k v : E} {it : It} {own : List Nat} (hk : SE G p k) (hv : SE G p v) (hi : SI G p it) : SD G p (.comp tk k v t it own) := fun c X Wx e g h => by
  cases e <;> first | exact absurd h Bool.false_ne_true | skip
  rename_i kx vx gs scope ps
  unfold chkD at h
  split at h
  · rename_i kx' vx' tg iter scope' ps' heq
    cases heq
    obtain ⟨h, h8⟩ := and2 h
    obtain ⟨h, h7⟩ := and2 h
    obtain ⟨h, h6⟩ := and2 h
    obtain ⟨h, h5⟩ := and2 h
    obtain ⟨h, h4⟩ := and2 h
    obtain ⟨h, h3⟩ := and2 h
    obtain ⟨h1, h2⟩ := and2 h
    have h1 : c.hot = false := by simpa using h1
    have hu := g.hu
    have := pe_dcm (t := tk) (own := ownN c.N own) (X := X) (pos := ps) (by omega) (g.calm h1) (by rw [g.N]; exact g.nd) (hi c X Wx tg iter g h2) (by rw [g.N, g.sc]; exact blkOk_by h4)
      (fun s H C cl fp => sndTg (g.blk h1 scope s H C cl fp) t tg h6) (fun s H C cl fp => hk _ _ _ kx (g.blk h1 scope s H C cl fp) h7) (fun s H C cl fp => hv _ _ _ vx (g.blk h1 scope s H C cl fp) h8) (noFold_of h3 X.env)
    rw [ownN_snd] at this
    refine PE.imp this fun σ H Q ⟨b, W, s, B, ok⟩ => compD_imp g.kts B (fun i hi => by simpa using List.all_eq_true.mp h5 i hi) ?_
    exact ok
  · cases h
def SKv (G : Gl0) (p : Px) (a : Kv) : Prop := ∀ (c : Ce) (X : Cx) (Wx : WX) (ks : List (Option Expr)) (vs : List Expr) (pos : Pos), Good G p c X Wx → chkKv c a ks vs = true → PPs X pos ks vs (TKv G Wx p a) ∧ ks.all (·.isSome) = true ∧ ks.length = vs.length
theorem skv_nil : SKv G p .nil := fun c X Wx ks vs pos g h => by
  obtain ⟨h1, h2⟩ := and2 (show (ks.isEmpty && vs.isEmpty) = true from h)
  rw [List.isEmpty_iff] at h1 h2
  subst h1 h2
  exact ⟨pps_nil, rfl, rfl⟩
theorem skv_cons {k v : E} {r : Kv} (hk : SE G p k) (hv : SE G p v) (hr : SKv G p r) : SKv G p (.cons k v r) := fun c X Wx ks vs pos g h => by
  rcases ks with _ | ⟨x, ks⟩
  · exact absurd h Bool.false_ne_true
  cases x with
  | none => exact absurd h Bool.false_ne_true
  | some x =>
    rcases vs with _ | ⟨y, vs⟩
    · exact absurd h Bool.false_ne_true
    obtain ⟨h, h3⟩ := and2 (show (chkE c k x && chkE c v y && chkKv c r ks vs) = true from h)
    obtain ⟨h1, h2⟩ := and2 h
    obtain ⟨q1, q2, q3⟩ := hr c X Wx ks vs pos g h3
    exact ⟨pps_cons (hk c X Wx x g h1) (hv c X Wx y g h2) q1, by rw [List.all_cons, q2]; rfl, by rw [List.length_cons, List.length_cons, q3]⟩
theorem sd_disp {t : Bool} {kv : Kv} (hk : SKv G p kv) : SD G p (.disp t kv) := fun c X Wx e g h => by
  cases t with
  | true => exact absurd h Bool.false_ne_true
  | false =>
    cases e <;> first | exact absurd h Bool.false_ne_true | skip
    rename_i ks vs pos
    obtain ⟨h, h3⟩ := and2 (show (chkKv c kv ks vs && decide (ks.length ≤ 15) && !ks.isEmpty) = true from h)
    obtain ⟨h1, h2⟩ := and2 h
    obtain ⟨q1, q2, q3⟩ := hk c X Wx ks vs pos g h1
    refine PE.imp (pe_disp q1 q2 q3 (fun z => by subst z; cases h3) (of_decide_eq_true h2)) fun σ H Q ⟨b, W, s, B, ok⟩ => ?_
    rw [evD] at ok
    exact disp_imp B ok
theorem sd_no {d : D} (h : ∀ c e, chkD c d e = false) : SD G p d := fun c X Wx e g q => by rw [h c e] at q; cases q
theorem se_frd {d : D} (hd : SD G p d) : SE G p (.frd d) := fun c X Wx e g h => xe_frd (hd c X Wx e g h)
theorem se_bxd {d : D} (hd : SD G p d) : SE G p (.bxd d) := fun c X Wx e g h => xe_bxd (hd c X Wx e g h)
end
end Pix
end
section
set_option Elab.async false
set_option linter.all false
set_option maxRecDepth 100000
set_option maxHeartbeats 4000000
/-! PixE4: every expression that is checked; statements. -/
namespace Pix
open PySem PySem.Spec PyProof.Rows L2
section
variable {G : Gl0} {p : Px}
def SW (G : Gl0) (p : Px) (a : E) : Prop := ∀ (c : Ce) (X : Cx) (Wx : WX) (e : Expr) (es : List Expr) (ps : Pos), Good G p c X Wx →
  (chkE c a (.BoolOp .And (e :: es) ps) = true → (∃ x y, a = .an x y) → PW X (.BoolOp .And (e :: es) ps) (RT G Wx (tv (evE p a)))) ∧
  (chkE c a (.BoolOp .Or (e :: es) ps) = true → (∃ x y, a = .or x y) → PW X (.BoolOp .Or (e :: es) ps) (RT G Wx (tv (evE p a))))
structure SA (G : Gl0) (p : Px) (a : E) : Prop where
  e : SE G p a
  t : ST G p a
  w : SW G p a
theorem SA.of {a : E} (h : SE G p a) (hs : isSp a = false) (hw : SW G p a) : SA G p a := ⟨h, st_of h hs, hw⟩
theorem sw_no {a : E} (h1 : ∀ x y, a ≠ .an x y) (h2 : ∀ x y, a ≠ .or x y) : SW G p a := fun c X Wx e es ps g => ⟨fun _ ⟨x, y, z⟩ => absurd z (h1 x y), fun _ ⟨x, y, z⟩ => absurd z (h2 x y)⟩
/-- what the check refuses -/
theorem se_no {a : E} (h : ∀ c e, chkE c a e = false) : SE G p a := fun c X Wx e g q => by rw [h c e] at q; cases q
theorem sf_no {a : F} (h : ∀ c e, chkF c a e = false) : SF G p a := fun c X Wx e g q => by rw [h c e] at q; cases q
theorem si_no {a : It} (h : ∀ c tg e, chkIt c a tg e = false) : SI G p a := fun c X Wx tg e g q => by rw [h c tg e] at q; cases q
theorem no_exc {X : Cx} {Wx : WX} {e : Expr} {f : St → Re U} {i : Nat} (hx : G.exa = none) (hf : ∀ s, (∀ c u, s.fr[i]? ≠ some (.exc c u)) → f s = .bad) : PE X e (RE G Wx f) := by
  refine ⟨fun pins s σ H Q I ⟨b, W, s1, B, ok⟩ => ?_⟩
  rw [hf s1 fun c u e => by obtain ⟨_, _, _, _, _, _, e3⟩ := B.f.exc i c u e; rw [hx] at e3; cases e3] at ok
  exact (show False from ok).elim
theorem se_excf {i : Nat} {f : String} : SE G p (.excf i f) := fun c X Wx e g h => by
  cases e <;> first | exact absurd h Bool.false_ne_true | skip
  rename_i x m ps
  cases x <;> first | exact absurd h Bool.false_ne_true | skip
  rename_i x px
  obtain ⟨h, h3⟩ := and2 (show (c.hot && c.blk.isNone && varB c i x && (m == PySem.Str.ofString f)) = true from h)
  obtain ⟨h1, h2⟩ := and2 h
  have hbk : c.blk = none := by simpa using (and2 h1).2
  have em : m = PySem.Str.ofString f := by simpa using h3
  subst em
  obtain ⟨v1, v2, v3, v4⟩ := g.var h2
  cases hx : G.exa with
  | none =>
    refine no_exc (i := i) hx fun s hs => ?_
    simp only [evE]
  | some y =>
    obtain ⟨a, cls, d⟩ := y
    obtain ⟨X0, oe, pn, rfl, hz, hf⟩ := g.hsu hbk a cls d hx
    exact xe_excf hx v1 v2 v3 v4 hz hf g.xfo
theorem se_excis {i : Nat} {cs : List Nat} : SE G p (.excis i cs) := fun c X Wx e g h => by
  cases e <;> first | exact absurd h Bool.false_ne_true | skip
  rename_i fn xs kw ps
  cases fn <;> first | exact absurd h Bool.false_ne_true | skip
  rename_i f q
  rcases xs with _ | ⟨x, _ | ⟨y, _ | ⟨_, _⟩⟩⟩ <;> first | exact absurd h Bool.false_ne_true | (cases x <;> first | exact absurd h Bool.false_ne_true | (cases y <;> exact absurd h Bool.false_ne_true)) | (cases x <;> first | exact absurd h Bool.false_ne_true | skip)
  cases y <;> first | exact absurd h Bool.false_ne_true | skip
  cases kw <;> first | exact absurd h Bool.false_ne_true | skip
  rename_i x px y py
  rcases cs with _ | ⟨dd, _ | ⟨_, _⟩⟩
  · exact absurd (and2 h).2 Bool.false_ne_true
  · obtain ⟨h, h5⟩ := and2 (show (c.hot && c.blk.isNone && bltB c f "isinstance" && varB c i x && glB c y && decide (c.xc.lookup y = some dd)) = true from h)
    obtain ⟨h, h4⟩ := and2 h
    obtain ⟨h, h3⟩ := and2 h
    obtain ⟨h1, h2⟩ := and2 h
    have hbk : c.blk = none := by simpa using (and2 h1).2
    obtain ⟨rfl, b1, b2⟩ := g.bl h2
    obtain ⟨v1, v2, v3, v4⟩ := g.var h3
    obtain ⟨g1, g2⟩ := g.gl h4
    obtain ⟨k1, _, k3⟩ := g.xcl y dd (of_decide_eq_true h5)
    cases hx : G.exa with
    | none =>
      refine no_exc (i := i) hx fun s hs => ?_
      simp only [evE]
    | some z =>
      obtain ⟨a, cls, d⟩ := z
      obtain ⟨X0, oe, pn, rfl, hz, hf⟩ := g.hsu hbk a cls d hx
      exact xe_excis hx v1 v2 v3 v4 hz hf k3 b1 b2 g1 g2 k1
  · exact absurd (and2 h).2 Bool.false_ne_true
theorem se_excno {i : Nat} : SE G p (.excno i) := fun c X Wx e g h => by
  unfold chkE at h
  split at h
  · rename_i f q x px y1 p1 y2 p2 y3 p3 k pt ps
    obtain ⟨h, h6⟩ := and2 h
    obtain ⟨h, h5⟩ := and2 h
    obtain ⟨h, h4⟩ := and2 h
    obtain ⟨h, h3⟩ := and2 h
    obtain ⟨h1, h2⟩ := and2 h
    have hbk : c.blk = none := by simpa using (and2 h1).2
    obtain ⟨rfl, b1, b2⟩ := g.bl h2
    obtain ⟨v1, v2, v3, v4⟩ := g.var h3
    obtain ⟨rfl, c1, c2⟩ := g.bl h4
    obtain ⟨rfl, d1, d2⟩ := g.bl h5
    obtain ⟨rfl, f1, f2⟩ := g.bl h6
    cases hx : G.exa with
    | none =>
      refine no_exc (i := i) hx fun s hs => ?_
      simp only [evE]
    | some z =>
      obtain ⟨a, cls, d⟩ := z
      obtain ⟨X0, oe, pn, rfl, hz, hf⟩ := g.hsu hbk a cls d hx
      exact xe_excno hx v1 v2 v3 v4 hz hf g.xno b1 b2 c1 c2 d1 d2 f1 f2
  · cases h
theorem sa {a : E} (h : SE G p a) (hs : isSp a = false) (h1 : ∀ x y, a ≠ .an x y := by intro _ _ z; cases z) (h2 : ∀ x y, a ≠ .or x y := by intro _ _ z; cases z) : SA G p a := .of h hs (sw_no h1 h2)
theorem sa2 {a : E} (h : SE G p a ∧ ST G p a) (h1 : ∀ x y, a ≠ .an x y := by intro _ _ z; cases z) (h2 : ∀ x y, a ≠ .or x y := by intro _ _ z; cases z) : SA G p a := ⟨h.1, h.2, sw_no h1 h2⟩
theorem sa_an {a b : E} (ha : SA G p a) (hb : SA G p b) : SA G p (.an a b) := by
  obtain ⟨h1, h2⟩ := se_an ha.e ha.t hb.e hb.t fun c X Wx e es ps g q z => (hb.w c X Wx e es ps g).1 q z
  refine ⟨h1, fun c X Wx e g q q2 => ?_, fun c X Wx e es ps g => ⟨fun q _ => h2 c X Wx e es ps g q, fun q z => ?_⟩⟩
  · cases e <;> first | exact absurd q Bool.false_ne_true | skip
    rename_i o es ps
    cases es with
    | nil => cases o <;> exact absurd q Bool.false_ne_true
    | cons x es =>
      cases o with
      | And => exact (h2 c X Wx x es ps g q).pt
      | Or => cases es <;> exact absurd q Bool.false_ne_true
  · obtain ⟨x, y, z⟩ := z
    cases z
theorem sa_or {a b : E} (ha : SA G p a) (hb : SA G p b) : SA G p (.or a b) := by
  obtain ⟨h1, h2⟩ := se_or ha.e ha.t hb.e hb.t fun c X Wx e es ps g q z => (hb.w c X Wx e es ps g).2 q z
  refine ⟨h1, fun c X Wx e g q q2 => ?_, fun c X Wx e es ps g => ⟨fun q z => ?_, fun q _ => h2 c X Wx e es ps g q⟩⟩
  · cases e <;> first | exact absurd q Bool.false_ne_true | skip
    rename_i o es ps
    cases es with
    | nil => cases o <;> exact absurd q Bool.false_ne_true
    | cons x es =>
      cases o with
      | Or => exact (h2 c X Wx x es ps g q).pt
      | And => cases es <;> exact absurd q Bool.false_ne_true
  · obtain ⟨x, y, z⟩ := z
    cases z
mutual
theorem sndE : ∀ a : E, SA G p a
  | .non => sa se_non rfl
  | .bl _ => sa se_bl rfl
  | .int _ => sa se_int rfl
  | .str _ => sa se_str rfl
  | .var _ => sa se_var rfl
  | .peek _ => sa (se_no fun _ _ => rfl) rfl
  | .glb _ => sa se_glb rfl
  | .bin _ a b => sa (se_bin (sndE a).e (sndE b).e) rfl
  | .neg a => sa (se_neg (sndE a).e) rfl
  | .nt a => sa2 (se_nt (sndE a).e (sndE a).t)
  | .an a b => sa_an (sndE a) (sndE b)
  | .or a b => sa_or (sndE a) (sndE b)
  | .cmp _ a b => sa2 (se_cmp (sndE a).e (sndE b).e)
  | .chain _ _ a b d => sa2 (se_chain (sndE a).e (sndE b).e (sndE d).e)
  | .isN _ a => sa2 (se_isN (sndE a).e)
  | .ite t a b => sa2 (se_ite (sndE t).t (sndE a).e (sndE a).t (sndE b).e (sndE b).t)
  | .tup es => sa (se_tup (sndEs es)) rfl
  | .fr f => sa (se_fr (sndF f)) rfl
  | .bx f => sa (se_bx (sndF f)) rfl
  | .frd d => sa (se_frd (sndD d)) rfl
  | .bxd d => sa (se_bxd (sndD d)) rfl
  | .call _ es => sa (se_call (sndEs es)) rfl
  | .callK _ _ es ks => sa (se_callK (sndEs es) (sndEs ks)) rfl
  | .new _ _ es => sa (se_new (sndEs es)) rfl
  | .newK _ _ _ es ks => sa (se_newK (sndEs es) (sndEs ks)) rfl
  | .meth _ _ _ o es => sa (se_meth (sndE o).e (sndEs es)) rfl
  | .methK _ _ _ _ o es ks => sa (se_methK (sndE o).e (sndEs es) (sndEs ks)) rfl
  | .fld _ a _ => sa (se_fld (sndE a).e) rfl
  | .ix a b => sa (se_ix (sndE a).e (sndE b).e) rfl
  | .sl a lo hi => sa (se_sl (sndE a).e (sndEo lo) (sndEo hi)) rfl
  | .rev a => sa (se_rev (sndE a).e) rfl
  | .b1 _ a => sa (se_b1 (sndE a).e) rfl
  | .b2 _ a d => sa (se_b2 (sndE a).e (sndE d).e) rfl
  | .isi a _ => sa (se_isi (sndE a).e) rfl
  | .app o a => sa (se_app (sndE o).e (sndE a).e) rfl
  | .pop0 o => sa (se_pop0 (sndE o).e) rfl
  | .pop1 _ _ => sa (se_no fun _ _ => rfl) rfl
  | .opop0 _ => sa (se_no fun _ _ => rfl) rfl
  | .opop1 _ a => sa (se_opop1 (sndE a).e) rfl
  | .pix _ a => sa (se_pix (sndE a).e) rfl
  | .pin _ a _ => sa2 (se_pin (sndE a).e)
  | .psl _ lo hi => sa (se_psl (sndEo lo) (sndEo hi)) rfl
  | .idx o a => sa (se_idx (sndE o).e (sndE a).e) rfl
  | .pidx _ a => sa (se_pidx (sndE a).e) rfl
  | .lset a => sa (se_lset (sndE a).e) rfl
  | .upper a => sa (se_upper (sndE a).e) rfl
  | .excf _ _ => sa se_excf rfl
  | .excis _ _ => sa se_excis rfl
  | .excno _ => sa se_excno rfl
theorem sndEs : ∀ a : Es, SEs G p a
  | .nil => ses_nil
  | .cons a as => ses_cons (sndE a).e (sndEs as)
theorem sndEo : ∀ a : Eo, SEo G p a
  | .no => seo_no
  | .so a => seo_so (sndE a).e (sndE a).t
theorem sndF : ∀ a : F, SF G p a
  | .disp es => sf_disp (sndEs es)
  | .comp elt _ it cond _ => sf_comp (sndE elt).e (sndIt it) (sndItH it) (sndEo cond)
  | .comp2 elt _ it _ it2 cond _ _ => sf_comp2 (sndE elt).e (sndIt it) (sndIt it2) (sndEo cond)
  | .of a => sf_of (sndE a).e
  | .srt a _ => sf_srt (sndE a).e
  | .sl _ _ _ => sf_no fun _ _ => rfl
  | .cat a b => sf_cat (sndE a).e (sndE b).e
  | .rep a b => sf_rep (sndE a).e (sndE b).e
theorem sndD : ∀ a : D, SD G p a
  | .comp _ k v _ it _ => sd_comp (sndE k).e (sndE v).e (sndIt it)
  | .disp _ kv => sd_disp (sndKv kv)
  | .of _ => sd_no fun _ _ => rfl
theorem sndKv : ∀ a : Kv, SKv G p a
  | .nil => skv_nil
  | .cons k v r => skv_cons (sndE k).e (sndE v).e (sndKv r)
theorem sndIt : ∀ a : It, SI G p a
  | .seq a => si_seq (sndE a).e
  | .rng1 a => si_rng1 (sndE a).e
  | .rng2 a b => si_rng2 (sndE a).e (sndE b).e
  | .rng3 _ _ _ => si_no fun _ _ _ => rfl
  | .enum a => si_enum (sndE a).e
  | .zip _ _ => si_no fun _ _ _ => rfl
theorem sndItH : ∀ a : It, SIH G p a
  | .seq _ => fun _ _ _ _ _ _ h _ => by cases h
  | .rng1 a => si_rng1H (sndE a).e
  | .rng2 _ _ => fun _ _ _ _ _ _ h _ => by cases h
  | .rng3 _ _ _ => fun _ _ _ _ _ _ h _ => by cases h
  | .enum _ => fun _ _ _ _ _ _ h _ => by cases h
  | .zip _ _ => fun _ _ _ _ _ _ h _ => by cases h
end
end
end Pix
end
section
set_option Elab.async false
set_option linter.all false
set_option maxRecDepth 100000
set_option maxHeartbeats 1000000
/-! PixX6: an exception class of the program is called: its __init__ says super().__init__(text), then stores its one field. -/
namespace PySem
namespace XcE
open PySem.W PySem.Calls PyProof.Rows PySem.HandSPX
abbrev exTail : List Value := [.type "Exception", .type "BaseException", .type "object"]
def iA (f : Str) (p1 p2 : Pos) : Arguments := { posonlyargs := [], args := [{ arg := "self", annotation := none, pos := p1 }, { arg := f, annotation := none, pos := p2 }], vararg := none, kwonlyargs := [], kw_defaults := [], kwarg := none, defaults := [] }
def iB (f txt : Str) (q1 q2 q3 q4 q5 q6 q7 q8 q9 q10 : Pos) : List Stmt := [.Expr (.Call (.Attribute (.Call (.Name "super" q1) [] [] q2) "__init__" q3) [.Constant (.str txt) 0 q4] [] q5) q6, .Assign [.Attribute (.Name "self" q7) f q8] (.Name f q9) q10]
def iS (f : Str) : Scope := { kind := .function, names := [(PySem.Str.ofString "self", .local), (f, .local), (PySem.Str.ofString "__class__", .free), (PySem.Str.ofString "super", .globalImplicit)], isGenerator := false, isCoroutine := false, more := [] }
/-- what the written part says of the class at C and of its __init__ at fI: a = the function, its code, the cell of __class__ -/
structure XcT (K : Frag) (mg : Str → Option Value) (prog : Program) (nm fld : Str) (C fI cda cc : Addr) : Prop where
  gC : mg nm = some (.ref C)
  nd : (nm == ("__debug__" : Str)) = false
  init : excInitIn K C exTail "Exception.__new__" = true
  over : excOver K C exTail = true
  hd : hasDictIn K C = true
  sa : findIn K (.ref C) "__setattr__" = some (some (.builtin "object.__setattr__"))
  ht : takerIn K C fld = some none
  iC : findIn K (.ref C) "__init__" = some (some (.ref fI))
  tC : typeIn K (.ref fI) = some (.type "function")
  kC : keepIn K (.ref C) = true
  sup : ks_superIn K C C "__init__" = some (some (.builtin "Exception.__init__"))
  op : nsIn K cStatics "thirdparty.any" = some none
  subE : subIn K (.ref C) (.type "Exception") = some true
  exC : subIn K (.ref C) (.type "BaseException") = some true
  tyC : typeIn K (.ref C) = some (.type "type")
  self : mroIn K C (.ref C) = some true
  cell : ∃ cl cld csl, K.lookup cc = some ⟨cl, cld, .cell (some (.ref C)), csl⟩
  fn : ∃ oc od qual txt doc pm an ct osl p1 p2 q1 q2 q3 q4 q5 q6 q7 q8 q9 q10,
    K.lookup fI = some ⟨oc, od, .func (ksFn "__init__" qual (iA fld p1 p2) (iB fld txt q1 q2 q3 q4 q5 q6 q7 q8 q9 q10) (iS fld) .none .none doc pm an (.ref cda) ct cc), osl⟩ ∧ codeIn K (.ref cda) qual = true ∧ (q3.endLine == q5.line) = true
  code : ∃ ccl cdd vs ccs file tf, K.lookup cda = some ⟨ccl, cdd, .fields vs, ccs⟩ ∧ vs[2]? = some (.str file tf) ∧ ((prog.main.file : Str) == file) = true
  sup0 : mg "super" = none
  top0 : (prog.main.scope.names.lookup ("super" : Str)).isSome = false
  f1 : (fld == ("self" : Str)) = false
  f2 : (fld == ("__debug__" : Str)) = false
  f3 : ((PySem.Str.ofString "super") == fld) = false
  f4 : ((PySem.Str.ofString "__class__") == fld) = false
theorem boot_super : bootBuiltins "super" = some (.type "super") := by decide +kernel
theorem kept_but {K : Frag} {h h' : Heap} {x : Addr} (X : K.In h) (hx : K.lookup x = none) (k : ∀ b o, b ≠ x → h.get? b = some o → h'.get? b = some o) : K.In h' := fun a o e =>
  k a o (fun z => by rw [z, hx] at e; cases e) (X a o e)
/-- what __init__ leaves of a fresh exception at x -/
structure InitEnd (h h' : Heap) (x C dx : Addr) (fld : Str) (v : Value) : Prop where
  keep : ∀ b o, b ≠ x → h.get? b = some o → h'.get? b = some o
  obj : ∃ t1, h'.get? x = some { cls := .ref C, dict := some dx, data := .fields #[.ref t1, .none, .none, .none, .bool false, .none] }
  dbig : h.objs.size ≤ dx
  dne : dx ≠ x
  ns : h'.Ns1 dx (fun y => if y = fld then some v else none)
section
variable {prog : Program} {w : World} {A : Around} {E : Value → Shared → Prop} {R : Result → Shared → Prop} {hp : Heap} {g : Array GenState} {d : Drawn} {t : Nat} {os : OsState} {K : Frag}
/-- the first store of a field -/
theorem osa_first {name : Str} {tk : Tok} {v : Value} {x C : Addr} {fv : Array Value}
    (X : K.In hp) (hx : hp.get? x = some { cls := .ref C, data := .fields fv }) (hov : excOver K C exTail = true) (hh : hasDictIn K C = true) (ha : takerIn K C name = some none)
    (hq : ∀ h' tk' dx, (∀ b o, b ≠ x → hp.get? b = some o → h'.get? b = some o) → hp.objs.size ≤ dx → dx ≠ x → h'.get? x = some { cls := .ref C, dict := some dx, data := .fields fv } →
      h'.Ns1 dx (fun y => if y = name then some v else none) → R (.ok (.ret .none)) ⟨h', g, d, tk', os⟩) :
    codeAny (model prog w) A (.call (.builtin "object.__setattr__") ⟨[.ref x, .str name tk, v], []⟩) R ⟨hp, g, d, t, os⟩ := by
  have I : W.InstAt hp x { cls := .ref C, data := .fields fv } C none := ⟨hx, rfl, rfl, trivial⟩
  have hxs : x ≠ hp.objs.size := Nat.ne_of_lt (Heap.lt_size hx)
  refine osa_openX F.store_Exception X I hov ha fun b => ?_
  obtain ⟨cd, hcd, hdd⟩ := any_some hh
  have hcls : W.Looks (model prog w) hp (classData C) cd := W.looks_clsIn X hcd
  obtain ⟨nm, bs, mro, ns, qn, hd, sn, sb, ab, col, del⟩ := cd
  dsimp only at hdd
  subst hdd
  dsimp only
  unfold Builtin.ObjectAttr.storeInOwnDict Builtin.ObjectAttr.ownDictForStores
  repeat (first | with_reducible refine HandSPX.store_in_new ?_ ?_ | with_reducible refine wpAny_loadPart_at hx ?_ | with_reducible refine hcls.at ?_ | wp_step)
  · exact ⟨_, #[], _, (Heap.get?_update_ne _ _ _ _ hxs.symm).trans (Heap.get?_push_at rfl rfl), rfl, fun e he => absurd he (by simp), fun _ => rfl⟩
  · intro h' tk' hn' hs
    have hx₁ : (hp.push { cls := .type "dict", data := .dict #[] }).get? x = some { cls := .ref C, data := .fields fv } := Heap.get?_push_of_some _ hx
    refine hq h' tk' hp.objs.size (fun b o hb ho => ?_) (Nat.le_refl _) hxs.symm ?_ hn'
    · exact (hs.2 b (Nat.ne_of_lt (Heap.lt_size ho))).trans ((Heap.get?_update_ne _ _ _ _ hb).trans (Heap.get?_push_of_some _ ho))
    · exact (hs.2 x hxs).trans (Heap.get?_update_self _ hx₁ rfl)
end
theorem bind_init {fld : Str} {p1 p2 : Pos} {fd : FuncData} {u v : Value} (h1 : fd.params = iA fld p1 p2) (h2 : fd.defaults = .none) (hf : (fld == ("self" : Str)) = false) : bindArgs fd ⟨[u, v], []⟩ = pure [(("self" : Str), u), (fld, v)] := by
  unfold bindArgs
  have hs : seqItems? Value.none = pure none := by rfl
  rw [h1, h2, hs]
  simp [iA, List.lookup, hf]
theorem call_shape {o : Expr} {name : Str} {apos pos : Pos} {e : Expr} {env : Env} (hline : (apos.endLine == pos.line) = true) (hs : starEach [e] env = [(false, eval e env)]) :
    eval (.Call (.Attribute o name apos) [e] [] pos) env = (do
      let ov ← attributeBase o name env (eval o env)
      standAt apos.atName
      let (f, first) ← holding [ov] (getMethod ov name (do return (← importBound o env).getD true))
      callWith pos f first (backTo pos (starEach [e] env)) []) := by
  have hform : methodCallForm ([e].length + ([] : List Keyword).length) (backTo pos (starEach [e] env)) (backToKw pos (keywordEach [] env)) = true := by rw [hs]; rfl
  have hpos : methodCallPos true o env apos pos = pure pos := by unfold methodCallPos; simp [hline]
  rw [arm_eval_Call]
  unfold methodCall
  rw [hform, hpos]
  rfl
section
variable {prog : Program} {w : World} {A : Around} {E : Value → Shared → Prop} {R : Result → Shared → Prop} {s : Shared} {K : Frag} {mg : Str → Option Value} {base : Heap} {nm fld : Str} {C fI cda cc : Addr}
theorem xc_init (M : L2.Mod K mg base) (T : XcT K mg prog nm fld C fI cda cc) {x t0 : Addr} {v : Value} (kb : ∀ b o, base.get? b = some o → s.heap.get? b = some o) (hx : s.heap.get? x = some (excO C t0)) (hnx : base.get? x = none) (hroom : A.depth < recursionLimit)
    (hq : ∀ h' tk dx, InitEnd s.heap h' x C dx fld v → R (.ok (.ret .none)) { s with heap := h', toks := tk }) :
    codeAny (model prog w) A (.call (.ref fI) ⟨[.ref x, v], []⟩) R s := by
  obtain ⟨oc, od, qual, txt, doc, pm, an, ct, osl, p1, p2, q1, q2, q3, q4, q5, q6, q7, q8, q9, q10, ho, hcd, hline⟩ := T.fn
  obtain ⟨ccl, cdd, vs, ccs, file, tf, hcode, hvs, hfile⟩ := T.code
  obtain ⟨cl, cld, csl, hcell⟩ := T.cell
  have X : K.In s.heap := M.kin.keeps kb
  have hKx : K.lookup x = none := by
    cases e : K.lookup x with
    | none => rfl
    | some o => have := M.kin _ _ e; rw [hnx] at this; cases this
  have fl : (iS fld).names.lookup fld = some .local := by
    have h1 : (fld == PySem.Str.ofString "self") = false := T.f1
    simp [iS, List.lookup, h1]
  refine ks_codeAny_call_defAt (fd := ksFn "__init__" qual (iA fld p1 p2) (iB fld txt q1 q2 q3 q4 q5 q6 q7 q8 q9 q10) (iS fld) .none .none doc pm an (.ref cda) ct cc) (body := iB fld txt q1 q2 q3 q4 q5 q6 q7 q8 q9 q10) (binds := [("self", .ref x), (fld, v)])
    hroom (X _ _ ho) rfl (M.nolimit.keeps kb) (codeRec_of X hcd) rfl (BindsTo.of_eq (bind_init rfl rfl T.f1)) (by intro y hy; simp [iS] at hy; rcases hy with rfl | rfl | rfl | rfl <;> simp) ?_ (fun h₁ hns k₁ => ?_)
  · intro y hy
    simp at hy
    rcases hy with rfl | rfl
    · rfl
    · exact fl
  have X₁ : K.In h₁ := X.keeps k₁
  have kb₁ : ∀ b o, base.get? b = some o → h₁.get? b = some o := fun b o e => k₁ b o (kb b o e)
  have hx₁ := k₁ _ _ hx
  have n1 : (List.lookup (PySem.Str.ofString "self") [(fld, v), (PySem.Str.ofString "self", Value.ref x)]) = some (.ref x) := by
    have h1 : (PySem.Str.ofString "self" == fld) = false := by
      have := T.f1
      cases e : (PySem.Str.ofString "self" == fld) with
      | false => rfl
      | true => rw [eq_of_beq e] at this; simp at this
    simp [List.lookup, h1]
  have n2 : (List.lookup fld [(fld, v), (PySem.Str.ofString "self", Value.ref x)]) = some v := by simp [List.lookup]
  have kSup : (iS fld).names.lookup (PySem.Str.ofString "super") = some .globalImplicit := by
    have h0 : (PySem.Str.ofString "super" == PySem.Str.ofString "self") = false := by decide
    have h1 : (PySem.Str.ofString "super" == PySem.Str.ofString "__class__") = false := by decide
    simp [iS, List.lookup, T.f3, h0, h1]
  have kCls : (iS fld).names.lookup (PySem.Str.ofString "__class__") = some .free := by
    have h0 : (PySem.Str.ofString "__class__" == PySem.Str.ofString "self") = false := by decide
    simp [iS, List.lookup, T.f4, h0]
  have kSelf : (iS fld).names.lookup (PySem.Str.ofString "self") = some .local := rfl
  obtain ⟨oD, cdD, hD1, hD2, hDc⟩ : ∃ oD cdD, h₁.get? C = some oD ∧ oD.data = .cls cdD ∧ clsIn K C = some cdD := by
    obtain ⟨cd, hc, _⟩ := any_some T.hd
    unfold clsIn at hc
    split at hc
    · rename_i c' d' cd' sl ho'
      cases hc
      exact ⟨_, _, X₁ _ _ ho', rfl, by unfold clsIn; rw [ho']⟩
    · cases hc
  obtain ⟨mb, mb1, mb2⟩ := M.blt
  refine ks_wpAt_execs_cons (ks_wpAt_Expr_any ?_)
  refine ks_wpAt_MethodCall ?_ (call_shape hline rfl)
  refine ks_wpAt_super_base kSup kCls rfl rfl (X₁ _ _ ho) rfl rfl rfl (X₁ _ _ hcode) rfl hvs hfile T.top0 ?_
  refine ks_loadName_global rfl kSup (loadGlobal_builtin (M.glob.keeps kb₁) T.sup0 (mb1.keeps kb₁) ((mb2 _ (by decide)).trans boot_super) ⟨rfl, ?_⟩)
  refine wpAny_loadName_free rfl kCls rfl ⟨_, X₁ _ _ hcell, rfl⟩ ?_
  refine wpAny_loadName_local rfl kSelf hns n1 ?_
  refine ks_wpAny_isType_cls hD1 hD2 ⟨rfl, ?_⟩
  refine ks_wpAny_call_super hD1 hD2 hx₁ rfl (fun c e => by cases e) (looks_mroIn X₁ T.self) (fun h₂ e₂ k₂ => ?_)
  have X₂ : K.In h₂ := X₁.keeps k₂
  have hx₂ := k₂ _ _ hx₁
  have I₂ : W.InstAt h₂ x (excO C t0) C none := ⟨hx₂, rfl, rfl, trivial⟩
  have hal : alongIn K (PySem.Str.ofString "__init__") ((cdD.mro.dropWhile (· != .ref C)).drop 1) = some (some (.builtin "Exception.__init__")) := by
    have := T.sup
    unfold ks_superIn at this
    rw [hDc] at this
    exact this
  have hxC : x ≠ C := fun z => by
    unfold clsIn at hDc
    rw [← z, hKx] at hDc
    cases hDc
  refine kxs_getMethod kxs_Exception e₂ (looks_opaque X₂ T.op) (l₀ := cdD.mro) (fun A Q E s k q => wpAny_bind ((looks_clsIn X₂ hDc) A _ E s k (wpAny_pure q))) rfl X₂ hal (I₂.type.andThen (looks_subIn X₂ T.subE)) hxC (by decide) ?_
  have k₂' : ∀ b o, h₁.get? b = some o → (h₂.push (kxs_mw "Exception.__init__" x)).get? b = some o := fun b o e => Heap.get?_push_of_some _ (k₂ b o e)
  have X₂' := X₁.keeps k₂'
  obtain ⟨nm', N', qn, bs, bm, hdct, sn, sub, ab, col, dd, k0, kk1, kk2, kk3, k5, hC, hT⟩ := excInit_of X₂' T.init
  have hxp := k₂' _ _ hx₁
  refine ESX.callWith_bound (x := x) ?_
  refine PyProof.Rows.spliced_more (Calls.Constant_str (PyProof.Rows.spliced_none ⟨Heap.get?_push_at rfl rfl, ?_⟩))
  refine ESX.call_bw hC hxp (Heap.get?_push_at rfl rfl) (by rw [sizeLine_eq]; exact (by decide : 1 ≤ 16777216)) fun h₃ t1 k₃ hx₃ => ?_
  have kk : ∀ b o, b ≠ x → h₁.get? b = some o → h₃.get? b = some o := fun b o hb e => k₃ b o hb (k₂' b o e)
  have X₃ : K.In h₃ := kept_but X₁ hKx kk
  have hLx : s.heap.objs.size ≠ x := Nat.ne_of_gt (Heap.lt_size hx)
  have hns₃ := hns.at (fun o e => kk s.heap.objs.size o hLx e)
  have z : s.heap.objs.size < h₁.objs.size := hns.lt
  refine ks_wpAt_execs_cons (wpAt_of_wpAny (plainObj_wpAny_Assign_Attribute ?_ rfl))
  refine wpAny_Name (wpAny_loadName_local rfl fl hns₃ n2 ?_) T.f2
  refine wpAny_Name (wpAny_loadName_local rfl kSelf hns₃ n1 ?_) (by decide)
  refine set_plain X₃ (ox := excO C t1) (od := none) ⟨hx₃, rfl, rfl, trivial⟩ T.sa ?_
  refine osa_first X₃ hx₃ T.over T.hd T.ht (fun h₄ tk₄ dx k₄ dn dne hx₄ hn₄ => ?_)
  refine wpAt_of_wpAny (wpAny_execs_nil (hq h₄ tk₄ dx ⟨fun b o hb e => k₄ b o hb (kk b o hb (k₁ b o e)), ⟨t1, hx₄⟩, ?_, dne, hn₄⟩))
  exact Nat.le_of_lt (Nat.lt_of_lt_of_le hns₃.lt dn)
/-- an exception that was made -/
structure Made (h h' : Heap) (e C d : Addr) (fld : Str) (v : Value) : Prop where
  keep : ∀ b o, h.get? b = some o → h'.get? b = some o
  new : h.objs.size ≤ e
  obj : ∃ oe vs, h'.get? e = some oe ∧ oe.cls = .ref C ∧ oe.dict = some d ∧ oe.data = .fields vs ∧ vs[1]? = some .none ∧ vs[2]? = some .none
  dbig : h.objs.size ≤ d
  dne : d ≠ e
  ns : h'.Ns1 d (fun y => if y = fld then some v else none)
theorem xc_made (M : L2.Mod K mg base) (T : XcT K mg prog nm fld C fI cda cc) {v : Value} (kb : ∀ b o, base.get? b = some o → s.heap.get? b = some o) (hroom : A.depth + 1 < recursionLimit)
    (hq : ∀ h' tk e d, Made s.heap h' e C d fld v → R (.ok (.ret (.ref e))) { s with heap := h', toks := tk }) :
    codeAny (model prog w) A (.call (.ref C) ⟨[v], []⟩) R s := by
  have X : K.In s.heap := M.kin.keeps kb
  obtain ⟨nm', N', qn, bs, bm, hdct, sn, sub, ab, col, dd, k0, kk1, kk2, kk3, k5, hC, hT⟩ := excInit_of X T.init
  obtain ⟨hp, g, dr, tk, os⟩ := s
  have k : ∀ b o, hp.get? b = some o → ((hp.push (kdv_tup [v])).push (excO C hp.objs.size)).get? b = some o := fun b o e => Heap.get?_push_of_some _ (Heap.get?_push_of_some _ e)
  have hget : ((hp.push (kdv_tup [v])).push (excO C hp.objs.size)).get? (hp.objs.size + 1) = some (excO C hp.objs.size) := by heap_get
  have hnx : base.get? (hp.objs.size + 1) = none := by
    cases e : base.get? (hp.objs.size + 1) with
    | none => rfl
    | some o =>
      have z : hp.get? (hp.objs.size + 1) = some o := kb _ _ e
      exact absurd (Nat.lt_of_succ_lt (Heap.lt_size z)) (Nat.lt_irrefl _)
  refine HandSPX.call_own F.excBase_Exception hT hC (looks_findIn X T.iC) (fun self => bind_fn X self T.tC) (by rw [sizeLine_eq]; exact (by decide : 1 ≤ 16777216)) ?_
  refine xc_init (s := ⟨(hp.push (kdv_tup [v])).push (excO C hp.objs.size), g, dr, tk, os⟩) M T (fun b o e => k b o (kb b o e)) hget hnx ?_ fun h' tk' dx ⟨k', ⟨t1, hx⟩, dn, dne, hns⟩ => ?_
  · show A.depth + 1 < recursionLimit
    exact hroom
  · have old : ∀ b o, hp.get? b = some o → h'.get? b = some o := fun b o e => k' b o (Nat.ne_of_lt (Nat.lt_succ_of_lt (Heap.lt_size e))) (k b o e)
    have z : hp.objs.size + 1 + 1 ≤ dx := by
      first
        | (simpa only [Heap.size_push] using dn)
        | exact dn
        | (have q := dn; rw [Heap.size_push, Heap.size_push] at q; exact q)
    exact ⟨rfl, hq h' tk' (hp.objs.size + 1) dx ⟨old, Nat.le_succ _, ⟨_, _, hx, rfl, rfl, rfl, rfl, rfl⟩, Nat.le_trans (Nat.le_trans (Nat.le_succ _) (Nat.le_succ _)) z, dne, hns⟩⟩
end
end XcE
end PySem
namespace Pix
open PySem PySem.Spec PyProof.Rows L2
theorem relO_one {v : V} {v' : Value} {x : PySem.Str} (r : RelV v v') (f : PySem.Str) : RelO (List.lookup f [(x, v)]) (if f = x then some v' else none) := by
  by_cases hw : f = x
  · subst hw
    rw [if_pos rfl]
    have q : List.lookup f [(f, v)] = some v := by simp [List.lookup]
    rw [q]
    exact r
  · rw [if_neg hw]
    have qw : (f == x) = false := by simpa using hw
    have q2 : List.lookup f [(x, v)] = none := by simp [List.lookup, qw]
    rw [q2]
    trivial
section
variable {G : Gl0} {X : Cx} {fI cda cc : Addr}
theorem mkX_of {nm : PySem.Str} {c k : Nat} (T : PySem.XcE.XcT X.K X.mg X.prog nm (G.xf c) (G.xa c) fI cda cc) (hr : Room k X.A) (hg : Gl X nm) : MkX G X nm c := by
  intro a ta q0 pos hst ha pins s σ H Q I h
  refine wpAny_Call_Name_kw (ld_glob I hg T.gC ?_ T.nd)
  refine PySem.W.callWith_K (h₀ := X.base) I.ok.mod.kin T.kC (thn (ha.run pos pins s σ H _ I h) fun us s1 hh => ?_) (star_of hst _ _) rfl
  obtain ⟨vs, H1, I1, r1, v, ev, q1⟩ := hh
  subst ev
  refine ⟨I1.kIn, ?_⟩
  cases r1 with
  | cons rv rn =>
    rename_i v' us'
    cases rn
    show wpAny _ _ (call (.ref (G.xa c)) [v']) _ _ _
    have hbk := I1.bk
    obtain ⟨hp, g, dr, tk, os⟩ := s1
    refine wpAny_call (PySem.XcE.xc_made I1.mod T hbk (by have := hr.dp; omega) fun h' tk' e d M => ?_)
    show MkP X pins σ Q (.ref e) ⟨h', g, dr, tk', os⟩
    obtain ⟨oe, fv, hoe, hc, hd, hdat, h1, h1c⟩ := M.obj
    have hns := M.ns
    obtain ⟨G', g1, g2⟩ := restrict h' fun b => decide (b ≠ e)
    have gk : ∀ b, b ≠ e → G'.get? b = h'.get? b := fun b hb => g1 b (decide_eq_true hb)
    have ge : G'.get? e = none := g2 e (by simp)
    have old : ∀ b o, hp.get? b = some o → G'.get? b = some o := fun b o q => (gk b (Nat.ne_of_lt (Nat.lt_of_lt_of_le (Heap.lt_size q) M.new))).trans (M.keep b o q)
    have ob : ObjOk X.prog X.w (upd H1 d (.xd [(G.xf c, v)])) G' d (.xd [(G.xf c, v)]) :=
      ⟨_, hns.at (fun o q => (gk d M.dne).trans q), fun f => relO_one rv f⟩
    have J : Inv X pins σ (upd H1 d (.xd [(G.xf c, v)])) ⟨G', g, dr, tk', os⟩ := I1.laid (t' := tk') old M.dbig ob
    refine ⟨e, oe, fv, ⟨G', g, dr, tk', os⟩, _, .ref (G.xa c), some d, rfl, J, fun b o q => ?_, ge, hoe, ⟨hc, hd, fun vs e => by rw [hdat] at e; cases e; exact h1c⟩, hdat, h1, ?_, rfl, I1.bare, raises_own T.exC T.tyC, q1 d (I1.hok.fresh M.dbig)⟩
    · by_cases hb : b = e
      · have q' : G'.get? b = some o := q
        rw [hb, ge] at q'; cases q'
      · exact (gk b hb).symm.trans q
    · rw [upd_ne (Ne.symm M.dne)]
      exact I1.hok.fresh M.new
end
end Pix
end
section
set_option Elab.async false
set_option linter.all false
set_option maxRecDepth 100000
set_option maxHeartbeats 4000000
/-! PixF1: statements: the check, and what it proves. -/
namespace Pix
open PySem PySem.Spec PyProof.Rows L2
/-- a target's stores are made from the left -/
def notPar : Expr → Expr → Bool
  | .Tuple _ _ _, .Tuple _ _ _ => false
  | .List _ _, .Tuple _ _ _ => false
  | _, _ => true
theorem notPar_of {tg v : Expr} (h : notPar tg v = true) (env : Env) : swappedStores [tg] v env = pure none := by
  cases tg <;> cases v <;> first | rfl | exact absurd h Bool.false_ne_true
/-- the name of a clause -/
def hnB (c : Ce) : Option Nat → Option PySem.Str → Bool
  | none, none => true
  | some i, some n => decide (c.N[i]? = some n) && decide (c.sc.names.lookup n = some .local)
  | _, _ => false
mutual
def chkS (c : Ce) : Sm → Stmt → Bool
  | .pass, s => match s with | .Pass _ => true | _ => false
  | .brk, s => match s with | .Break _ => true | _ => false
  | .cont, s => match s with | .Continue _ => true | _ => false
  | .ex a, s => match s with | .Expr e _ => chkE c a e && notComp e | _ => false
  | .set i a, s => match s with | .Assign [.Name x _] e _ => locB c i x && chkE c a e && notComp e | _ => false
  | .own i f, s => match s with | .Assign [.Name x _] e _ => locB c i x && chkF c f e && (!c.hot || notComp e) | _ => false
  | .setT t a, s => match s with | .Assign [tg] e _ => chkTg c t tg && chkE c a e && notComp e && notStar tg && notPar tg e | _ => false
  | .par ts es, s => match ts with
    | [i, j] => (match s with | .Assign [.Tuple [.Name x px, .Name y py] _ _] (.Tuple [a, b] _ _) _ => !c.hot && decide (c.N[i]? = some x) && decide (c.N[j]? = some y) && decide (i ≠ j) && decide (c.sc.names.lookup x = some .local) && decide (c.sc.names.lookup y = some .local) && par2B x px y py a b && chkEs c es [a, b] | _ => false)
    | _ => false
  | .ixs o k a, s => match s with | .Assign [.Subscript x y _] e _ => chkE c o x && chkE c k y && chkE c a e && notComp e && notSlice y | _ => false
  | .oixs i k a, s => match s with | .Assign [.Subscript (.Name x _) y _] e _ => varB c i x && chkE c k y && chkE c a e && notComp e && notSlice y | _ => false
  | .fls i o f a, s => match s with | .Assign [.Attribute x m _] e _ => (m == PySem.Str.ofString f) && c.cl.fl.contains (i, m) && chkE c o x && chkE c a e | _ => false
  | .augF i o f op a, s => match s with | .AugAssign (.Attribute x m _) q e _ => decide (bopP op = q) && decide (op ≠ .pow) && (m == PySem.Str.ofString f) && c.cl.fl.contains (i, m) && chkE c o x && chkE c a e | _ => false
  | .aug i op a, s => match s with | .AugAssign (.Name x _) o e _ => decide (bopP op = o) && decide (op ≠ .pow) && locB c i x && chkE c a e | _ => false
  | .augI o k op a, s => match s with | .AugAssign (.Subscript x y _) q e _ => decide (bopP op = q) && decide (op ≠ .pow) && chkE c o x && chkE c k y && chkE c a e && notSlice y | _ => false
  | .oapp i a, s => match s with
    | .Expr (.Call (.Attribute (.Name x _) m ap) [y] [] cp) _ => (m == "append") && (ap.endLine == cp.line) && varB c i x && chkE c a y && notStar y
    | _ => false
  | .oext i a, s => match s with
    | .Expr (.Call (.Attribute (.Name x _) m ap) [y] [] cp) _ => (m == "extend") && (ap.endLine == cp.line) && varB c i x && chkE c a y && notStar y
    | _ => false
  | .oins i k a, s => match s with
    | .Expr (.Call (.Attribute (.Name x _) m ap) [z, y] [] cp) _ => (m == "insert") && (ap.endLine == cp.line) && varB c i x && chkE c k z && chkE c a y && notStar z && notStar y
    | _ => false
  | .ite t a b, s => match s with | .If e x y _ => chkE c t e && tOk t e && chkB c a x && chkB c b y | _ => false
  | .whl t b, s => match s with | .While e x [] _ => chkE c t e && tOk t e && chkB c b x | _ => false
  | .for_ t it b, s => match s with | .For tg iter x [] _ => (!c.hot || rng1B it) && chkTg c t tg && chkIt c it tg iter && notSet iter && chkB c b x | _ => false
  | .ret a, s => match s with | .Return (some e) _ => chkE c a e | _ => false
  | .ret0, s => match s with | .Return none _ => true | _ => false
  | .rais d a, s => match s with
    | .Raise (some (.Call (.Name x _) [e] [] _)) none _ => !c.hot && glB c x && decide (c.xm.lookup x = some d) && notStar e && chkE c a e
    | _ => false
  | .try_ b hs, s => match s with
    | .Try body (h₀ :: hds) [] [] _ => !c.hot && chkB c b body && chkH c hs (h₀ :: hds)
    | _ => false
def chkB (c : Ce) : Bl → List Stmt → Bool
  | .nil, l => match l with
    | [] => true
    | _ :: _ => false
  | .cons a as, l => match l with
    | [] => false
    | s :: ss => chkS c a s && chkB c as ss
def chkH (c : Ce) : Hs → List ExceptHandler → Bool
  | .nil, l => match l with
    | [] => true
    | _ :: _ => false
  | .cons dd i b hs, l => match l with
    | .ExceptHandler (some (.Name cn _)) n (b₀ :: suite) _ :: hds => glB c cn && decide (c.xc.lookup cn = some dd) && hnB c i n && chkB { c with hot := true } b (b₀ :: suite) && chkH c hs hds
    | _ => false
end
/-- .. where statements run -/
structure GoodS (G : Gl0) (p : Px) (c : Ce) (X : Cx) (Wx : WX) : Prop extends Good G p c X Wx where
  kd : c.sc.kind = .function
  po : PassesOwn (model X.prog X.w) X.A X.env X.xe
  stk : X.stack = X.env :: X.outer
  frm : X.env.frame = some X.env.locals
  mkx : c.hot = false → ∀ (x : PySem.Str) (d : Nat), c.xm.lookup x = some d → ∃ fI cda cc k, PySem.XcE.XcT X.K X.mg X.prog x (G.xf d) (G.xa d) fI cda cc ∧ Room k X.A
section
variable {G : Gl0} {p : Px} {c : Ce} {X : Cx} {Wx : WX}
/-- a try's body -/
theorem GoodS.tr (g : GoodS G p c X Wx) (hh : c.hot = false) {W : WX} {pn : List (Addr × Obj)} {xe : Value → Shared → Prop} (tk : Takes (X.tr pn xe) W) (po : PassesOwn (model X.prog X.w) X.A X.env xe) : GoodS G p c (X.tr pn xe) W where
  N := g.N
  nd := g.nd
  K := g.K
  sc := g.sc
  fnb := g.fnb
  calm := g.calm
  hu := g.hu
  kok := g.kok
  kts := g.kts
  blt := g.blt
  glb := g.glb
  call := g.call
  callk := g.callk
  callh := g.callh
  hotc := fun e => (by rw [hh] at e; cases e)
  cfl := g.cfl
  cls := g.cls
  meth := g.meth
  new := g.new
  methk := g.methk
  newk := g.newk
  tk := tk
  exn := g.exn
  xcl := g.xcl
  xfo := g.xfo
  xno := g.xno
  hsu := fun _ a cls d e => by rw [g.exn hh] at e; cases e
  kd := g.kd
  po := po
  stk := g.stk
  frm := g.frm
  mkx := g.mkx
/-- a clause's suite, without a name -/
theorem GoodS.suite0 (g : GoodS G p c X Wx) (hh : c.hot = false) {a : Addr} {q : Addr × Obj} {cls : Value} {d : Option Addr} {pn : List (Addr × Obj)} (ha : q.1 = a) (hz : Zc cls d q.2) (hf : ∃ vs, q.2.data = .fields vs) : GoodS G p { c with hot := true } (X.suite a (q :: pn)) (fun _ _ _ _ => False) where
  N := g.N
  nd := g.nd
  K := g.K
  sc := g.sc
  fnb := g.fnb
  calm := fun e => by cases e
  hu := g.hu
  kok := g.kok
  kts := g.kts
  blt := g.blt
  glb := g.glb
  call := fun e => by cases e
  callk := fun e => by cases e
  callh := fun x f n e1 e2 => (let ⟨kk, fa, fd, ps, q1, q2, q3, q4, q5⟩ := g.callh x f n e1 e2; ⟨kk, fa, fd, ps, q1, q2, q3, q4, ⟨q5.dp, q5.un⟩⟩)
  hotc := fun _ => (let ⟨vs, e⟩ := hf; ⟨q, ⟨congrArg (fun b => some (Value.ref b)) ha.symm, vs, e, hz.2.2 vs e⟩, List.mem_cons_self⟩)
  cfl := g.cfl
  cls := g.cls
  meth := fun e => by cases e
  new := fun e => by cases e
  methk := fun e => by cases e
  newk := fun e => by cases e
  tk := takes_none5
  exn := fun e => by cases e
  xcl := g.xcl
  xfo := g.xfo
  xno := g.xno
  hsu := fun _ a' cls' d' e => by rw [g.exn hh] at e; cases e
  kd := g.kd
  po := PassesOwn.never
  stk := g.stk
  frm := g.frm
  mkx := fun e => by cases e
/-- a clause's suite, with the exception's name -/
theorem GoodS.suite (g : GoodS G p c X Wx) (hh : c.hot = false) {a : Addr} {oe : Obj} {cls : Value} {d : Option Addr} {pn : List (Addr × Obj)} (hz : Zc cls d oe) (hf : ∃ vs, oe.data = .fields vs) :
    GoodS (G.exc (some (a, cls, d))) p { c with hot := true } (X.suite a ((a, oe) :: pn)) (fun _ _ _ _ => False) where
  N := g.N
  nd := g.nd
  K := g.K
  sc := g.sc
  fnb := g.fnb
  calm := fun e => by cases e
  hu := g.hu
  kok := ⟨g.kok.cls, g.kok.kty, g.kok.kcc, g.kok.ktc⟩
  kts := g.kts
  blt := g.blt
  glb := fun x y h => let ⟨v, u, h1, h2, h3⟩ := g.glb x y h; ⟨v, u, h1, h2, fun W => (h3 W).ex⟩
  call := fun e => by cases e
  callk := fun e => by cases e
  callh := fun x f n e1 e2 => (let ⟨kk, fa, fd, ps, q1, q2, q3, q4, q5⟩ := g.callh x f n e1 e2; ⟨kk, fa, fd, ps, q1, q2, q3, q4, ⟨q5.dp, q5.un⟩⟩)
  hotc := fun _ => (let ⟨vs, e⟩ := hf; ⟨(a, oe), ⟨rfl, vs, e, hz.2.2 vs e⟩, List.mem_cons_self⟩)
  cfl := g.cfl
  cls := g.cls
  meth := fun e => by cases e
  new := fun e => by cases e
  methk := fun e => by cases e
  newk := fun e => by cases e
  tk := takes_none5
  exn := fun e => by cases e
  xcl := g.xcl
  xfo := g.xfo
  xno := g.xno
  hsu := fun _ a' cls' d' e => by cases e; exact ⟨X, oe, pn, rfl, hz, hf⟩
  kd := g.kd
  po := PassesOwn.never
  stk := g.stk
  frm := g.frm
  mkx := fun e => by cases e
end
section
variable {G : Gl0} {p : Px}
def SS (G : Gl0) (p : Px) (a : Sm) : Prop := ∀ (c : Ce) (X : Cx) (Wx : WX) (s : Stmt), GoodS G p c X Wx → chkS c a s = true → PS X s (RS G Wx (evS p a))
def SB (G : Gl0) (p : Px) (a : Bl) : Prop := ∀ (c : Ce) (X : Cx) (Wx : WX) (s : List Stmt), GoodS G p c X Wx → chkB c a s = true → PSs X s (RS G Wx (evB p a))
theorem ss_pass : SS G p .pass := fun c X Wx s g h => by
  cases s <;> first | exact absurd h Bool.false_ne_true | exact xs_pass
theorem ss_brk : SS G p .brk := fun c X Wx s g h => by
  cases s <;> first | exact absurd h Bool.false_ne_true | exact xs_brk
theorem ss_cont : SS G p .cont := fun c X Wx s g h => by
  cases s <;> first | exact absurd h Bool.false_ne_true | exact xs_cont
theorem ss_ex {a : E} : SS G p (.ex a) := fun c X Wx s g h => by
  cases s <;> first | exact absurd h Bool.false_ne_true | skip
  rename_i e ps
  obtain ⟨h1, h2⟩ := and2 (show (chkE c a e && notComp e) = true from h)
  exact xs_ex ((sndE a).e c X Wx e g.toGood h1) h2
theorem asg1 {c : Ce} {X : Cx} {Wx : WX} {st : Stmt} {a : Sm} (h : chkS c a st = true) (P : Prop) (hs : ∀ (tg e : Expr) (ps : Pos), st = .Assign [tg] e ps → P) (hn : ∀ (tgs : List Expr) (e : Expr) (ps : Pos), st = .Assign tgs e ps → (∃ tg, tgs = [tg])) (hst : ∃ tgs e ps, st = .Assign tgs e ps) : P := by
  obtain ⟨tgs, e, ps, rfl⟩ := hst
  obtain ⟨tg, rfl⟩ := hn tgs e ps rfl
  exact hs tg e ps rfl
theorem ss_set {i : Nat} {a : E} : SS G p (.set i a) := fun c X Wx s g h => by
  cases s <;> first | exact absurd h Bool.false_ne_true | skip
  rename_i tgs e ps
  rcases tgs with _ | ⟨tg, _ | ⟨_, _⟩⟩ <;> first | exact absurd h Bool.false_ne_true | (cases tg <;> first | exact absurd h Bool.false_ne_true | skip)
  rename_i x px
  obtain ⟨h, h3⟩ := and2 (show (locB c i x && chkE c a e && notComp e) = true from h)
  obtain ⟨h1, h2⟩ := and2 h
  obtain ⟨k1, k2, k3, k4⟩ := g.loc h1
  exact xs_set k1 k2 k3 k4 ((sndE a).e c X Wx e g.toGood h2) h3
theorem swaps_lc {elt : Expr} {gs : List Comprehension} {scope : Scope} {pc p' : Pos} {x : PySem.Str} {n : Nat} {env : Env} : swapsWith (.ListComp elt gs scope pc) (some (.Name x p')) n env = pure (env.blockKind == .function && env.kindOf x == some .local && p'.line == pc.line && !(scope.names.any fun (n, k) => n == x && (k == .local || k == .cell))) := rfl
theorem swap_yes {X : Cx} {elt : Expr} {gs : List Comprehension} {scope : Scope} {pc px : Pos} {x : PySem.Str} (hs : ¬ ∀ n, swapsWith (.ListComp elt gs scope pc) (some (.Name x px)) n X.env = pure false) :
    (X.env.blockKind == .function && X.env.kindOf x == some .local && px.line == pc.line && !(scope.names.any fun (n, k) => n == x && (k == .local || k == .cell))) = true ∧ X.env.scope.names.lookup x = some .local := by
  have hb : (X.env.blockKind == .function && X.env.kindOf x == some .local && px.line == pc.line && !(scope.names.any fun (n, k) => n == x && (k == .local || k == .cell))) = true := by
    cases z : (X.env.blockKind == .function && X.env.kindOf x == some .local && px.line == pc.line && !(scope.names.any fun (n, k) => n == x && (k == .local || k == .cell))) with
    | true => rfl
    | false => exact absurd (fun n => by rw [swaps_lc, z]) hs
  refine ⟨hb, ?_⟩
  have := (and2 (and2 (and2 hb).1).1).2
  simpa [Env.kindOf] using this
theorem ss_own {i : Nat} {f : F} : SS G p (.own i f) := fun c X Wx s g h => by
  cases s <;> first | exact absurd h Bool.false_ne_true | skip
  rename_i tgs e ps
  rcases tgs with _ | ⟨tg, _ | ⟨_, _⟩⟩ <;> first | exact absurd h Bool.false_ne_true | (cases tg <;> first | exact absurd h Bool.false_ne_true | skip)
  rename_i x px
  obtain ⟨h, h3⟩ := and2 (show (locB c i x && chkF c f e && (!c.hot || notComp e)) = true from h)
  obtain ⟨h1, h2⟩ := and2 h
  obtain ⟨k1, k2, k3, k4⟩ := g.loc h1
  by_cases hs : ∀ n, swapsWith e (some (.Name x px)) n X.env = pure false
  · exact xs_own k1 k2 k3 k4 (sndF f c X Wx e g.toGood h2) hs
  · cases f with
    | comp elt t it cond own =>
      obtain ⟨y, tg, iter, ifs, scope, pc, rfl, _, q2, q3, q4, q5, q6, q7, q8⟩ := comp_parts h2
      have q1 : c.hot = false := by simpa [notComp] using h3
      obtain ⟨hb, hl⟩ := swap_yes hs
      have := xs_ownLc (i := i) (pos' := px) (pos := ps) (pc := pc) (own := ownN c.N own) (t := t) (Wx := Wx) g.K (g.calm q1) k1 k2 hl (by rw [swaps_lc, hb]) (sndIt it c X Wx tg iter g.toGood q2) (by rw [g.N, g.sc]; exact blkOk_by q4) (fun i hi => by rw [ownN_snd]; exact q5 i hi)
        (fun s H C cl fp => sndTg (g.toGood.blk q1 scope s H C cl fp) t tg q6) (fun s H C cl fp => (sndEo cond _ _ _ (g.toGood.blk q1 scope s H C cl fp)).2 ifs q7) (fun s H C cl fp => (sndE elt).e _ _ _ y (g.toGood.blk q1 scope s H C cl fp) q8) q3
      rw [ownN_snd] at this
      exact this
    | comp2 elt t it t2 it2 cond own own2 =>
      obtain ⟨y, tg, iter, tg2, iter2, ifs, scope, pc, rfl, h1, h2, h3, h3', h4, h5, h5', h5'', h6, h6', h6'', h7, h8⟩ := comp2_parts h2
      obtain ⟨hb, hl⟩ := swap_yes hs
      have := xs_ownLc2 (i := i) (pos' := px) (pos := ps) (pc := pc) (own := ownN c.N own) (own2 := own2) (t := t) (t2 := t2) (Wx := Wx) (g.calm h1) k1 k2 hl (by rw [swaps_lc, hb]) (sndIt it c X Wx tg iter g.toGood h2) (by rw [g.N, g.sc]; exact blkOk_by h4) (fun i hi => by rw [ownN_snd]; exact h5 i hi) h5' (fun i hi => by rw [ownN_snd]; exact h5'' i hi)
        (fun s H C cl fp => sndTg (g.toGood.blk h1 scope s H C cl fp) t tg h6) (fun s H C cl fp => sndIt it2 _ _ _ tg2 iter2 (g.toGood.blk h1 scope s H C cl fp) h6') (fun s H C cl fp => sndTg (g.toGood.blk h1 scope s H C cl fp) t2 tg2 h6'') (fun s H C cl fp => (sndEo cond _ _ _ (g.toGood.blk h1 scope s H C cl fp)).2 ifs h7) (fun s H C cl fp => (sndE elt).e _ _ _ y (g.toGood.blk h1 scope s H C cl fp) h8) h3 h3'
      rw [ownN_snd] at this
      exact this
    | _ =>
      exfalso
      apply hs
      intro n
      refine noSwap_of ?_ _ _ _
      cases e <;> first | rfl | exact absurd h2 Bool.false_ne_true
theorem ss_setT {t : T} {a : E} : SS G p (.setT t a) := fun c X Wx s g h => by
  cases s <;> first | exact absurd h Bool.false_ne_true | skip
  rename_i tgs e ps
  rcases tgs with _ | ⟨tg, _ | ⟨_, _⟩⟩ <;> first | exact absurd h Bool.false_ne_true | skip
  obtain ⟨h, h5⟩ := and2 (show (chkTg c t tg && chkE c a e && notComp e && notStar tg && notPar tg e) = true from h)
  obtain ⟨h, h4⟩ := and2 h
  obtain ⟨h, h3⟩ := and2 h
  obtain ⟨h1, h2⟩ := and2 h
  exact xs_setT ((sndE a).e c X Wx e g.toGood h2) (sndTgd g.toGood t tg h1) h3 h4 (notPar_of h5 _)
theorem ss_ixs {o k a : E} : SS G p (.ixs o k a) := fun c X Wx s g h => by
  cases s <;> first | exact absurd h Bool.false_ne_true | skip
  rename_i tgs e ps
  rcases tgs with _ | ⟨tg, _ | ⟨_, _⟩⟩ <;> first | exact absurd h Bool.false_ne_true | (cases tg <;> first | exact absurd h Bool.false_ne_true | skip)
  rename_i x y px
  obtain ⟨h, h5⟩ := and2 (show (chkE c o x && chkE c k y && chkE c a e && notComp e && notSlice y) = true from h)
  obtain ⟨h, h4⟩ := and2 h
  obtain ⟨h, h3⟩ := and2 h
  obtain ⟨h1, h2⟩ := and2 h
  exact xs_ixs g.kts g.hu ((sndE o).e c X Wx x g.toGood h1) ((sndE k).e c X Wx y g.toGood h2) ((sndE a).e c X Wx e g.toGood h3) h4 h5
theorem ss_oixs {i : Nat} {k a : E} : SS G p (.oixs i k a) := fun c X Wx s g h => by
  cases s <;> first | exact absurd h Bool.false_ne_true | skip
  rename_i tgs e ps
  rcases tgs with _ | ⟨tg, _ | ⟨_, _⟩⟩ <;> first | exact absurd h Bool.false_ne_true | (cases tg <;> first | exact absurd h Bool.false_ne_true | (rename_i v _ _; cases v <;> exact absurd h Bool.false_ne_true) | skip)
  rename_i x y px
  cases x <;> first | exact absurd h Bool.false_ne_true | skip
  rename_i x qx
  obtain ⟨h, h5⟩ := and2 (show (varB c i x && chkE c k y && chkE c a e && notComp e && notSlice y) = true from h)
  obtain ⟨h, h4⟩ := and2 h
  obtain ⟨h, h3⟩ := and2 h
  obtain ⟨h1, h2⟩ := and2 h
  obtain ⟨v1, v2, v3, v4⟩ := g.var h1
  exact xs_oixs v1 v2 v3 v4 ((sndE k).e c X Wx y g.toGood h2) ((sndE a).e c X Wx e g.toGood h3) h4 h5
theorem ss_aug {i : Nat} {op : Bop} {a : E} : SS G p (.aug i op a) := fun c X Wx s g h => by
  cases s <;> first | exact absurd h Bool.false_ne_true | skip
  rename_i tg o e ps
  cases tg <;> first | exact absurd h Bool.false_ne_true | skip
  rename_i x px
  obtain ⟨h, h4⟩ := and2 (show (decide (bopP op = o) && decide (op ≠ .pow) && locB c i x && chkE c a e) = true from h)
  obtain ⟨h, h3⟩ := and2 h
  obtain ⟨h1, h2⟩ := and2 h
  have e1 : bopP op = o := of_decide_eq_true h1
  subst e1
  obtain ⟨k1, k2, k3, k4⟩ := g.loc h3
  exact xs_aug (of_decide_eq_true h2) k1 k2 k3 k4 ((sndE a).e c X Wx e g.toGood h4)
theorem ss_augI {o k : E} {op : Bop} {a : E} : SS G p (.augI o k op a) := fun c X Wx s g h => by
  cases s <;> first | exact absurd h Bool.false_ne_true | skip
  rename_i tg q e ps
  cases tg <;> first | exact absurd h Bool.false_ne_true | skip
  rename_i x y px
  obtain ⟨h, h6⟩ := and2 (show (decide (bopP op = q) && decide (op ≠ .pow) && chkE c o x && chkE c k y && chkE c a e && notSlice y) = true from h)
  obtain ⟨h, h5⟩ := and2 h
  obtain ⟨h, h4⟩ := and2 h
  obtain ⟨h, h3⟩ := and2 h
  obtain ⟨h1, h2⟩ := and2 h
  have e1 : bopP op = q := of_decide_eq_true h1
  subst e1
  exact xs_augI g.kts g.K (of_decide_eq_true h2) g.hu ((sndE o).e c X Wx x g.toGood h3) ((sndE k).e c X Wx y g.toGood h4) ((sndE a).e c X Wx e g.toGood h5) h6
theorem ss_oapp {i : Nat} {a : E} : SS G p (.oapp i a) := fun c X Wx s g h => by
  cases s <;> first | exact absurd h Bool.false_ne_true | skip
  rename_i e ps
  cases e <;> first | exact absurd h Bool.false_ne_true | skip
  rename_i fn xs kw cp
  cases fn <;> first | exact absurd h Bool.false_ne_true | skip
  rename_i x m ap
  cases x <;> first | exact absurd h Bool.false_ne_true | skip
  rename_i x px
  rcases xs with _ | ⟨y, _ | ⟨_, _⟩⟩ <;> first | exact absurd h Bool.false_ne_true | skip
  cases kw <;> first | exact absurd h Bool.false_ne_true | skip
  obtain ⟨h, h5⟩ := and2 (show ((m == "append") && (ap.endLine == cp.line) && varB c i x && chkE c a y && notStar y) = true from h)
  obtain ⟨h, h4⟩ := and2 h
  obtain ⟨h, h3⟩ := and2 h
  obtain ⟨h1, h2⟩ := and2 h
  have em : m = "append" := by simpa using h1
  subst em
  obtain ⟨v1, v2, v3, v4⟩ := g.var h3
  exact xs_oapp h2 v1 v2 v3 v4 ((sndE a).e c X Wx y g.toGood h4) h5
theorem ss_oext {i : Nat} {a : E} : SS G p (.oext i a) := fun c X Wx s g h => by
  cases s <;> first | exact absurd h Bool.false_ne_true | skip
  rename_i e ps
  cases e <;> first | exact absurd h Bool.false_ne_true | skip
  rename_i fn xs kw cp
  cases fn <;> first | exact absurd h Bool.false_ne_true | skip
  rename_i x m ap
  cases x <;> first | exact absurd h Bool.false_ne_true | skip
  rename_i x px
  rcases xs with _ | ⟨y, _ | ⟨_, _⟩⟩ <;> first | exact absurd h Bool.false_ne_true | skip
  cases kw <;> first | exact absurd h Bool.false_ne_true | skip
  obtain ⟨h, h5⟩ := and2 (show ((m == "extend") && (ap.endLine == cp.line) && varB c i x && chkE c a y && notStar y) = true from h)
  obtain ⟨h, h4⟩ := and2 h
  obtain ⟨h, h3⟩ := and2 h
  obtain ⟨h1, h2⟩ := and2 h
  have em : m = "extend" := by simpa using h1
  subst em
  obtain ⟨v1, v2, v3, v4⟩ := g.var h3
  exact xs_oext h2 v1 v2 v3 v4 ((sndE a).e c X Wx y g.toGood h4) h5
theorem ss_oins {i : Nat} {k a : E} : SS G p (.oins i k a) := fun c X Wx s g h => by
  cases s <;> first | exact absurd h Bool.false_ne_true | skip
  rename_i e ps
  cases e <;> first | exact absurd h Bool.false_ne_true | skip
  rename_i fn xs kw cp
  cases fn <;> first | exact absurd h Bool.false_ne_true | skip
  rename_i x m ap
  cases x <;> first | exact absurd h Bool.false_ne_true | skip
  rename_i x px
  rcases xs with _ | ⟨z, _ | ⟨y, _ | ⟨_, _⟩⟩⟩ <;> first | exact absurd h Bool.false_ne_true | skip
  cases kw <;> first | exact absurd h Bool.false_ne_true | skip
  obtain ⟨h, h7⟩ := and2 (show ((m == "insert") && (ap.endLine == cp.line) && varB c i x && chkE c k z && chkE c a y && notStar z && notStar y) = true from h)
  obtain ⟨h, h6⟩ := and2 h
  obtain ⟨h, h5⟩ := and2 h
  obtain ⟨h, h4⟩ := and2 h
  obtain ⟨h, h3⟩ := and2 h
  obtain ⟨h1, h2⟩ := and2 h
  have em : m = "insert" := by simpa using h1
  subst em
  obtain ⟨v1, v2, v3, v4⟩ := g.var h3
  exact xs_oins h2 v1 v2 v3 v4 ((sndE k).e c X Wx z g.toGood h4) ((sndE a).e c X Wx y g.toGood h5) h6 h7
theorem ss_ite {t : E} {a b : Bl} (ha : SB G p a) (hb : SB G p b) : SS G p (.ite t a b) := fun c X Wx s g h => by
  cases s <;> first | exact absurd h Bool.false_ne_true | skip
  rename_i e x y ps
  obtain ⟨h, h4⟩ := and2 (show (chkE c t e && tOk t e && chkB c a x && chkB c b y) = true from h)
  obtain ⟨h, h3⟩ := and2 h
  obtain ⟨h1, h2⟩ := and2 h
  exact xs_ite ((sndE t).t c X Wx e g.toGood h1 h2) (ha c X Wx x g h3) (hb c X Wx y g h4)
theorem ss_whl {t : E} {b : Bl} (hb : SB G p b) : SS G p (.whl t b) := fun c X Wx s g h => by
  cases s <;> first | exact absurd h Bool.false_ne_true | skip
  rename_i e x y ps
  cases y <;> first | exact absurd h Bool.false_ne_true | skip
  obtain ⟨h, h3⟩ := and2 (show (chkE c t e && tOk t e && chkB c b x) = true from h)
  obtain ⟨h1, h2⟩ := and2 h
  exact xs_whl g.po ((sndE t).t c X Wx e g.toGood h1 h2) (hb c X Wx x g h3) SZ
theorem ss_for {t : T} {it : It} {b : Bl} (hb : SB G p b) : SS G p (.for_ t it b) := fun c X Wx s g h => by
  cases s <;> first | exact absurd h Bool.false_ne_true | skip
  rename_i tg iter x y ps
  cases y <;> first | exact absurd h Bool.false_ne_true | skip
  obtain ⟨h, h5⟩ := and2 (show ((!c.hot || rng1B it) && chkTg c t tg && chkIt c it tg iter && notSet iter && chkB c b x) = true from h)
  obtain ⟨h, h4⟩ := and2 h
  obtain ⟨h, h3⟩ := and2 h
  obtain ⟨h1, h2⟩ := and2 h
  cases hh : c.hot with
  | false => exact xs_for g.po (g.calm hh) (sndIt it c X Wx tg iter g.toGood h3) (sndTg g.toGood t tg h2) (hb c X Wx x g h5) h4
  | true =>
    rw [hh] at h1
    exact xs_forH g.po (g.hotc hh) (sndItH it c X Wx tg iter g.toGood (by simpa using h1) h3) (sndTg g.toGood t tg h2) (hb c X Wx x g h5) h4
theorem ss_ret {a : E} : SS G p (.ret a) := fun c X Wx s g h => by
  cases s <;> first | exact absurd h Bool.false_ne_true | skip
  rename_i o ps
  cases o with
  | none => exact absurd h Bool.false_ne_true
  | some e => exact xs_ret ((sndE a).e c X Wx e g.toGood h)
theorem ss_ret0 : SS G p .ret0 := fun c X Wx s g h => by
  cases s <;> first | exact absurd h Bool.false_ne_true | skip
  rename_i o ps
  cases o with
  | none => exact xs_ret0
  | some e => exact absurd h Bool.false_ne_true
theorem ss_rais {d : Nat} {a : E} : SS G p (.rais d a) := fun c X Wx s g h => by
  cases s <;> first | exact absurd h Bool.false_ne_true | skip
  rename_i o o2 ps
  cases o with
  | none => exact absurd h Bool.false_ne_true
  | some f =>
  cases f <;> first | exact absurd h Bool.false_ne_true | skip
  rename_i fn xs kw cp
  cases fn <;> first | exact absurd h Bool.false_ne_true | skip
  rename_i x px
  rcases xs with _ | ⟨y, _ | ⟨_, _⟩⟩ <;> first | exact absurd h Bool.false_ne_true | skip
  cases kw <;> first | exact absurd h Bool.false_ne_true | skip
  cases o2 <;> first | exact absurd h Bool.false_ne_true | skip
  obtain ⟨h, h5⟩ := and2 (show (!c.hot && glB c x && decide (c.xm.lookup x = some d) && notStar y && chkE c a y) = true from h)
  obtain ⟨h, h4⟩ := and2 h
  obtain ⟨h, h3⟩ := and2 h
  obtain ⟨h1, h2⟩ := and2 h
  have hh : c.hot = false := by simpa using h1
  obtain ⟨fI, cda, cc, k, T, hr⟩ := g.mkx hh x d (of_decide_eq_true h3)
  exact xs_rais (g.calm hh) g.tk (mkX_of T hr (g.gl h2).1) h4 ((sndE a).e c X Wx y g.toGood h5)
def SH (G : Gl0) (p : Px) (a : Hs) : Prop := ∀ (c : Ce) (X : Cx) (Wx : WX) (l : List ExceptHandler), GoodS G p c X Wx → c.hot = false → chkH c a l = true → HsOk G p X a l
theorem sh_nil : SH G p .nil := fun c X Wx l g hh h => by
  cases l with
  | nil => exact .nil
  | cons => exact absurd h Bool.false_ne_true
theorem sh_cons {dd : Nat} {i : Option Nat} {b : Bl} {hs : Hs} (hb : ∀ G, SB G p b) (hr : SH G p hs) : SH G p (.cons dd i b hs) := fun c X Wx l g hh h => by
  rcases l with _ | ⟨hd, hds⟩
  · exact absurd h Bool.false_ne_true
  obtain ⟨ty, n, su, ps⟩ := hd
  rcases ty with _ | ty
  · exact absurd h Bool.false_ne_true
  cases ty <;> first | exact absurd h Bool.false_ne_true | skip
  rename_i cn np
  rcases su with _ | ⟨b₀, suite⟩
  · exact absurd h Bool.false_ne_true
  obtain ⟨h, h5⟩ := and2 (show (glB c cn && decide (c.xc.lookup cn = some dd) && hnB c i n && chkB { c with hot := true } b (b₀ :: suite) && chkH c hs hds) = true from h)
  obtain ⟨h, h4⟩ := and2 h
  obtain ⟨h, h3⟩ := and2 h
  obtain ⟨h1, h2⟩ := and2 h
  obtain ⟨m1, m2, m3⟩ := g.xcl cn dd (of_decide_eq_true h2)
  have hc : Names X cn (.ref (G.xa dd)) := ⟨(g.gl h1).1, (g.gl h1).2, .inl m1⟩
  have hrs := hr c X Wx hds g hh h5
  cases i with
  | none =>
    cases n with
    | some _ => exact absurd h3 Bool.false_ne_true
    | none => exact .no hc m2 (fun a oe cls d pn hz hf => hb G { c with hot := true } _ _ (b₀ :: suite) (g.suite0 hh rfl hz hf) h4) hrs
  | some i =>
    cases n with
    | none => exact absurd h3 Bool.false_ne_true
    | some n =>
      obtain ⟨e1, e2⟩ := and2 (show (decide (c.N[i]? = some n) && decide (c.sc.names.lookup n = some .local)) = true from h3)
      refine .as hc m2 (by rw [g.N]; exact of_decide_eq_true e1) ?_ (fun a oe cls d pn hz hf => hb _ { c with hot := true } _ _ (b₀ :: suite) (g.suite hh hz hf) h4) hrs
      show X.env.scope.names.lookup n = some .local
      rw [g.sc]; exact of_decide_eq_true e2
theorem ss_try {b : Bl} {hs : Hs} (hb : SB G p b) (hh : SH G p hs) : SS G p (.try_ b hs) := fun c X Wx s g h => by
  cases s <;> first | exact absurd h Bool.false_ne_true | skip
  rename_i body hds oe fin ps
  rcases hds with _ | ⟨h₀, hds⟩
  · exact absurd h Bool.false_ne_true
  cases oe <;> first | exact absurd h Bool.false_ne_true | skip
  cases fin <;> first | exact absurd h Bool.false_ne_true | skip
  obtain ⟨h, h3⟩ := and2 (show (!c.hot && chkB c b body && chkH c hs (h₀ :: hds)) = true from h)
  obtain ⟨h1, h2⟩ := and2 h
  have hn : c.hot = false := by simpa using h1
  exact xs_try (g.exn hn) g.stk g.frm (by rw [g.N]; exact g.nd) g.tk (fun W pn xe tk po => hb c _ W body (g.tr hn tk po) h2) (hh c X Wx _ g hn h3)
theorem ss_fls {i : Nat} {o a : E} {f : String} : SS G p (.fls i o f a) := fun c X Wx s g h => by
  cases s <;> first | exact absurd h Bool.false_ne_true | skip
  rename_i ts e ps
  rcases ts with _ | ⟨t, _ | ⟨_, _⟩⟩ <;> first | exact absurd h Bool.false_ne_true | (cases t <;> exact absurd h Bool.false_ne_true) | skip
  cases t <;> first | exact absurd h Bool.false_ne_true | skip
  rename_i x m px
  obtain ⟨h, h4⟩ := and2 (show ((m == PySem.Str.ofString f) && c.cl.fl.contains (i, m) && chkE c o x && chkE c a e) = true from h)
  obtain ⟨h, h3⟩ := and2 h
  obtain ⟨h1, h2⟩ := and2 h
  have em : m = PySem.Str.ofString f := by simpa using h1
  subst em
  exact xs_fls g.K g.kok (g.cfl i _ (by simpa using h2)) ((sndE o).e c X Wx x g.toGood h3) ((sndE a).e c X Wx e g.toGood h4) swap_attr
theorem ss_augF {i : Nat} {o a : E} {f : String} {op : Bop} : SS G p (.augF i o f op a) := fun c X Wx s g h => by
  cases s <;> first | exact absurd h Bool.false_ne_true | skip
  rename_i t q e ps
  cases t <;> first | exact absurd h Bool.false_ne_true | skip
  rename_i x m px
  obtain ⟨h, h6⟩ := and2 (show (decide (bopP op = q) && decide (op ≠ .pow) && (m == PySem.Str.ofString f) && c.cl.fl.contains (i, m) && chkE c o x && chkE c a e) = true from h)
  obtain ⟨h, h5⟩ := and2 h
  obtain ⟨h, h4⟩ := and2 h
  obtain ⟨h, h3⟩ := and2 h
  obtain ⟨h1, h2⟩ := and2 h
  have em : m = PySem.Str.ofString f := by simpa using h3
  subst em
  have eq := of_decide_eq_true h1
  subst eq
  exact xs_augF g.K g.kok (of_decide_eq_true h2) (g.cfl i _ (by simpa using h4)) ((sndE o).e c X Wx x g.toGood h5) ((sndE a).e c X Wx e g.toGood h6)
theorem ss_par {ts : List Nat} {es : Es} : SS G p (.par ts es) := fun c X Wx s g h => by
  rcases ts with _ | ⟨i, _ | ⟨j, _ | ⟨_, _⟩⟩⟩ <;> first | exact absurd h Bool.false_ne_true | skip
  unfold chkS at h
  dsimp only at h
  split at h
  · rename_i x px y py kt pt a b k2 pt2 ps
    obtain ⟨h, h8⟩ := and2 h
    obtain ⟨h, h7⟩ := and2 h
    obtain ⟨h, h6⟩ := and2 h
    obtain ⟨h, h5⟩ := and2 h
    obtain ⟨h, h4⟩ := and2 h
    obtain ⟨h, h3⟩ := and2 h
    obtain ⟨h1, h2⟩ := and2 h
    obtain ⟨⟨k1, _⟩, _, _⟩ := (sndEs es) c X Wx _ g.toGood h8
    exact xs_par2 (g.calm (by simpa using h1)) (by rw [g.N]; exact g.nd) (by rw [g.N]; exact of_decide_eq_true h2) (by rw [g.N]; exact of_decide_eq_true h3) (of_decide_eq_true h4) (by rw [g.sc]; exact of_decide_eq_true h5) (by rw [g.sc]; exact of_decide_eq_true h6) (by rw [g.sc]; exact g.kd) h7 k1
  · cases h
theorem ss_no {a : Sm} (h : ∀ c s, chkS c a s = false) : SS G p a := fun c X Wx e g q => by rw [h c e] at q; cases q
end
section
variable {p : Px}
mutual
theorem sndS : ∀ (a : Sm) (G : Gl0), SS G p a
  | .pass, _ => ss_pass
  | .brk, _ => ss_brk
  | .cont, _ => ss_cont
  | .ex _, _ => ss_ex
  | .set _ _, _ => ss_set
  | .own _ _, _ => ss_own
  | .setT _ _, _ => ss_setT
  | .par _ _, _ => ss_par
  | .ixs _ _ _, _ => ss_ixs
  | .fls _ _ _ _, _ => ss_fls
  | .oixs _ _ _, _ => ss_oixs
  | .aug _ _ _, _ => ss_aug
  | .augI _ _ _ _, _ => ss_augI
  | .augF _ _ _ _ _, _ => ss_augF
  | .oapp _ _, _ => ss_oapp
  | .oext _ _, _ => ss_oext
  | .oins _ _ _, _ => ss_oins
  | .ite _ a b, G => ss_ite (sndB a G) (sndB b G)
  | .whl _ b, G => ss_whl (sndB b G)
  | .for_ _ _ b, G => ss_for (sndB b G)
  | .ret _, _ => ss_ret
  | .ret0, _ => ss_ret0
  | .rais _ _, _ => ss_rais
  | .try_ b hs, G => ss_try (sndB b G) (sndH hs G)
theorem sndB : ∀ (a : Bl) (G : Gl0), SB G p a
  | .nil, G => fun c X Wx s g h => by
    cases s with
    | nil => exact xss_nil
    | cons => exact absurd h Bool.false_ne_true
  | .cons a as, G => fun c X Wx s g h => by
    cases s with
    | nil => exact absurd h Bool.false_ne_true
    | cons st ss =>
      obtain ⟨h1, h2⟩ := and2 (show (chkS c a st && chkB c as ss) = true from h)
      exact xss_cons (sndS a G c X Wx st g h1) (sndB as G c X Wx ss g h2)
theorem sndH : ∀ (a : Hs) (G : Gl0), SH G p a
  | .nil, _ => sh_nil
  | .cons _ _ b hs, G => sh_cons (fun G => sndB b G) (sndH hs G)
end
end
end Pix
end
section
set_option Elab.async false
set_option linter.all false
set_option maxRecDepth 100000
set_option maxHeartbeats 4000000
/-! PixF2: defs: what is checked does what the own run says. -/
namespace Pix
open PySem PySem.Spec PyProof.Rows L2

/-- a def of the table -/
structure DefOk (G : Gl0) (R : Pr) (gl : List (PySem.Str × Nat)) (fn : List (PySem.Str × Nat × Nat)) (fk : List ((PySem.Str × Nat × List PySem.Str) × (Nat × List Nat))) (xc xm : List (PySem.Str × Nat)) (cl : Cl0) (i n : Nat) (fa : Addr) (fd : FuncData) (ps : List PySem.Str) : Prop where
  ex : ∃ (f : Fn) (x qual : PySem.Str) (params : Arguments) (body : List Stmt) (scope : Scope) (N : List PySem.Str), R.fns i = some f ∧ f.np = n ∧ FunD G.K x qual params body scope [] [] fa fd ∧ FnScope N ps scope ∧ N.length = f.ns.length ∧
    chkB ⟨N, scope, none, false, gl, fn, G.nc, fk, xc, xm, cl⟩ f.body body = true ∧ (cl.hf.contains i = true → chkB ⟨N, scope, none, true, gl, fn, G.nc, fk, xc, xm, cl⟩ f.body body = true)
  len : ps.length = n
  bind : Binds G.K fd ps []
  kp : PySem.W.keepIn G.K (.ref fa) = true
/-- what stands around the bodies, without the calls -/
def Pr.px (R : Pr) : Px := ⟨R.glb, fun _ _ _ => .bad, R.sub, R.kts, R.nx, R.xfn⟩
structure Tab (P : Program) (G : Gl0) (R : Pr) (mg : PySem.Str → Option Value) (gl : List (PySem.Str × Nat)) (fn : List (PySem.Str × Nat × Nat)) (fk : List ((PySem.Str × Nat × List PySem.Str) × (Nat × List Nat))) (xc xm : List (PySem.Str × Nat)) (cl : Cl0) : Prop where
  exn : G.exa = none
  xcl : ∀ x dd, xc.lookup x = some dd → mg x = some (.ref (G.xa dd)) ∧ (∀ k, k < R.nx → PySem.W.exmOne G.K (.ref (G.xa k)) (.ref (G.xa dd)) = some (R.sub k dd)) ∧ XiOk G R.px G.K dd
  xfo : XfOk G R.px G.K
  xno : XnOk G R.px G.K
  kok : KOk G
  kts : R.kts = G.kts
  blt : ∀ x ∈ bltNames, mg x = none
  glb : ∀ x g, gl.lookup x = some g → ∃ v u, mg x = some u ∧ RelV v u ∧ ∀ W, Rep G W (R.glb g) v
  fkw : ∀ x m ks f perm, fk.lookup (x, m, ks) = some (f, perm) → ∃ n fa fd ps, mg x = some (.ref fa) ∧ DefOk G R gl fn fk xc xm cl f n fa fd ps ∧ KwB G.K fd ps m ks perm ∧ ∀ l : List U, l.length = m + ks.length → (permL l perm).length = n
  cfl : ∀ i m, (i, m) ∈ cl.fl → NoAttr G.K (G.ca i) m
  cls : ∀ x i f n, cl.nw.lookup x = some (i, f, n) → i < G.nc ∧ mg x = some (.ref (G.ca i))
  meth : ∀ i m f n, cl.me.lookup (i, m) = some (f, n) → ∃ fa fd ps, Meth G.K (G.ca i) m fa ∧ DefOk G R gl fn fk xc xm cl f n fa fd ps
  new : ∀ x i f n, cl.nw.lookup x = some (i, f, n) → ∃ fa fd ps, Mk G.K (G.ca i) fa ∧ DefOk G R gl fn fk xc xm cl f n fa fd ps
  methk : ∀ i m k ks f perm, cl.mek.lookup (i, m, k, ks) = some (f, perm) → ∃ n fa fd ps, Meth G.K (G.ca i) m fa ∧ DefOk G R gl fn fk xc xm cl f n fa fd ps ∧ KwB G.K fd ps (k + 1) ks perm ∧ ∀ l : List U, l.length = k + 1 + ks.length → (permL l perm).length = n
  newk : ∀ x k ks i f perm, cl.nk.lookup (x, k, ks) = some (i, f, perm) → i < G.nc ∧ mg x = some (.ref (G.ca i)) ∧ ∃ n fa fd ps, Mk G.K (G.ca i) fa ∧ DefOk G R gl fn fk xc xm cl f n fa fd ps ∧ KwB G.K fd ps (k + 1) ks (0 :: perm.map (· + 1)) ∧ ∀ l : List U, l.length = k + ks.length → (permL l perm).length + 1 = n
  fn : ∀ x i n, fn.lookup x = some (i, n) → ∃ fa fd ps, mg x = some (.ref fa) ∧ DefOk G R gl fn fk xc xm cl i n fa fd ps
  mkx : ∀ (x : PySem.Str) (d : Nat), xm.lookup x = some d → ∃ fI cda cc, PySem.XcE.XcT G.K mg P x (G.xf d) (G.xa d) fI cda cc

section
variable {G : Gl0} {R : Pr} {P : Program} {w : World} {mg : PySem.Str → Option Value} {base : Heap} {gl : List (PySem.Str × Nat)} {fn : List (PySem.Str × Nat × Nat)} {fk : List ((PySem.Str × Nat × List PySem.Str) × (Nat × List Nat))} {xc xm : List (PySem.Str × Nat)} {cl : Cl0}
theorem frame_get {n : Nat} {us : List U} {i : Nat} {x : Sl} (h : (frame n us)[i]? = some x) : (∃ u, us[i]? = some u ∧ x = .val u) ∨ x = .emp := by
  unfold frame at h
  by_cases hi : i < us.length
  · rw [List.getElem?_append_left (by simpa using hi), List.getElem?_map] at h
    obtain ⟨u, h1, h2⟩ := Option.map_eq_some_iff.mp h
    exact .inl ⟨u, h1, h2.symm⟩
  · rw [List.getElem?_append_right (by simpa using Nat.le_of_not_lt hi)] at h
    exact .inr (List.eq_of_mem_replicate (List.mem_of_getElem? h))
theorem start_sim {W : Wd} {hp : Hp} {H : L2.Hp} {us : List U} {vs : List V} {N : List PySem.Str} {n : Nat} (h : HSim G W hp H) (rs : Reps G W us vs) (hN : N.length = n) : BSim G ⟨W, H, fun _ => False⟩ W ⟨frame n us, hp⟩ (L2.start N vs) H where
  h := h
  f := by
    refine ⟨?_, fun i u e => ?_, fun i xs e => ?_, fun i j a xs ys e => ?_, fun i c u e => ?_⟩
    · show (frame n us).length = (L2.start N vs).length
      unfold frame L2.start
      rw [List.length_append, List.length_append, List.length_map, List.length_map, List.length_replicate, List.length_replicate, rs.length, hN]
    · rcases frame_get e with ⟨u', h1, h2⟩ | h2
      · cases h2
        obtain ⟨v, h3, h4⟩ := rs.get h1
        refine ⟨v, ?_, h4⟩
        unfold L2.start
        have hl : i < (vs.map some).length := by rw [List.length_map]; exact (List.getElem?_eq_some_iff.mp h3).1
        rw [List.getElem?_append_left hl, List.getElem?_map, h3]; rfl
      · cases h2
    · rcases frame_get e with ⟨u', h1, h2⟩ | h2 <;> cases h2
    · rcases frame_get e with ⟨u', h1, h2⟩ | h2 <;> cases h2
    · rcases frame_get e with ⟨u', h1, h2⟩ | h2 <;> cases h2
  e := HExt.refl
  ob := fun a ⟨i, xs, e, _⟩ => by rcases frame_get e with ⟨u', h1, h2⟩ | h2 <;> cases h2
theorem exc_none (h : G.exa = none) : G.exc none = G := by
  obtain ⟨K, ca, xa, xf, kts, nc, exa⟩ := G
  have h : exa = none := h
  subst h
  rfl
/-- .. called while an exception is handled -/
theorem all_okH (T : Tab P G R mg gl fn fk xc xm cl) : ∀ (k i n : Nat) (fa : Addr) (fd : FuncData) (ps : List PySem.Str), DefOk G R gl fn fk xc xm cl i n fa fd ps → cl.hf.contains i = true → FnHp G P w mg base (2 * k) fa fd ps n (callF R k i)
  | 0, i, n, fa, fd, ps, D, _ => ⟨fun vs H Q E ⟨_, _, _, _, _, hl, _⟩ => by rw [hl, D.len], fun A outer s H args us vs Q E p hr hot hpin e0 hb rv h => by
      obtain ⟨_, _, _, _, _, _, h⟩ := h
      exact (show False from h).elim⟩
  | k + 1, i, n, fa, fd, ps, D, hi => by
    obtain ⟨f, x, qual, params, body, scope, N, hf, hn, F, S, hN, _, hc⟩ := D.ex
    have hc := hc hi
    have hlen := D.len
    obtain ⟨oc, od, dV, kV, doc, pm, an, cdv, ct, osl, rfl, lk, hcd, hD, hK⟩ := F.ex
    show L2H.FnH P w G.K mg base (CX P w) (2 * k + 1 + 1) fa _ ps _
    refine L2H.fn_ofH lk hcd S (fun vs H Q E ⟨_, _, _, _, _, hl, _⟩ => by rw [hl, hlen]) fun A outer s H vs Q E p hot hr h => ?_
    rw [exc_none T.exn] at h
    refine ⟨RS G (fun cls d _ H' => E cls d H') (evB ⟨R.glb, callF R k, R.sub, R.kts, R.nx, R.xfn⟩ f.body), ?_, ?_⟩
    · refine sndB f.body _ ⟨N, scope, none, true, gl, fn, G.nc, fk, xc, xm, cl⟩ _ _ body ?_ hc
      refine { N := rfl, nd := S.nd, K := rfl, sc := rfl, fnb := fun _ _ => rfl, calm := fun e => (by cases e), hu := ?_, kok := T.kok, kts := T.kts, blt := T.blt, glb := T.glb, call := fun e => (by cases e), callk := fun e => (by cases e), callh := fun y j m hj hy => ?_, hotc := fun _ => ⟨p, hot, List.mem_cons_self⟩, cfl := T.cfl, cls := T.cls, meth := fun e => (by cases e), new := fun e => (by cases e), methk := fun e => (by cases e), newk := fun e => (by cases e), tk := takes_of rfl rfl rfl rfl, exn := fun e => (by cases e), xcl := T.xcl, xfo := T.xfo, xno := T.xno, hsu := fun _ a cls d e => (by rw [T.exn] at e; cases e), kd := S.kind, po := passes_of rfl, stk := rfl, frm := rfl, mkx := fun e => (by cases e) }
      · have := hr.un
        show (A.deeper _).units + 65 < cLine
        omega
      · obtain ⟨fa', fd', ps', h1, D'⟩ := T.fn y j m hy
        exact ⟨2 * k, fa', fd', ps', h1, D'.kp, D'.bind, all_okH T k j m fa' fd' ps' D' hj, hr.mono (Nat.le_succ _)⟩
    · obtain ⟨W, us, hp, hs, rs, hl, h⟩ := h
      refine ⟨_, W, ⟨frame f.ns.length us, hp⟩, start_sim hs rs hN, ?_⟩
      by_cases hu : us.length = f.np
      · have ec : callF R (k + 1) i us hp = endC (evB ⟨R.glb, callF R k, R.sub, R.kts, R.nx, R.xfn⟩ f.body ⟨frame f.ns.length us, hp⟩) := by simp only [callF, hf, if_pos hu]
        rw [ec] at h
        cases e : evB ⟨R.glb, callF R k, R.sub, R.kts, R.nx, R.xfn⟩ f.body ⟨frame f.ns.length us, hp⟩ with
        | nx s1 => rw [e] at h; exact fun W' σ' H' le B => h W' H' .non B.h B.e .non
        | rt u s1 => rw [e] at h; exact fun W' σ' H' v le B r => h W' H' v B.h B.e r
        | bk s1 => rw [e] at h; exact (show False from h).elim
        | ct s1 => rw [e] at h; exact (show False from h).elim
        | ex c u s1 => rw [e] at h; exact fun W' σ' H' d v le B h1 r => h W' H' d v B.h B.e h1 r
        | bad => rw [e] at h; exact (show False from h).elim
      · have ec : callF R (k + 1) i us hp = .bad := by simp only [callF, hf, if_neg hu]
        rw [ec] at h
        exact (show False from h).elim
theorem all_ok (T : Tab P G R mg gl fn fk xc xm cl) : ∀ (k i n : Nat) (fa : Addr) (fd : FuncData) (ps : List PySem.Str), DefOk G R gl fn fk xc xm cl i n fa fd ps → FnOk P w G.K mg base (CX P w) (2 * k) fa fd ps (spC G n (callF R k i))
  | 0, i, n, fa, fd, ps, D => ⟨fun vs H Q E ⟨_, _, _, _, _, hl, _⟩ => by rw [hl, D.len], fun A outer s H args us vs Q E hr e0 hb rv h => by
      obtain ⟨_, _, _, _, _, _, h⟩ := h
      exact (show False from h).elim⟩
  | k + 1, i, n, fa, fd, ps, D => by
    obtain ⟨f, x, qual, params, body, scope, N, hf, hn, F, S, hN, hc, _⟩ := D.ex
    show FnOk P w G.K mg base (CX P w) (2 * k + 1 + 1) fa fd ps _
    refine F.ok S (fun vs H Q E ⟨_, _, _, _, _, hl, _⟩ => by rw [hl, D.len]) fun cdv A outer s H vs Q E hr h => ?_
    refine ⟨RS G (fun cls d _ H' => E cls d H') (evB ⟨R.glb, callF R k, R.sub, R.kts, R.nx, R.xfn⟩ f.body), ?_, ?_⟩
    · refine sndB f.body _ ⟨N, scope, none, false, gl, fn, G.nc, fk, xc, xm, cl⟩ _ _ body ?_ hc
      refine { N := rfl, nd := S.nd, K := rfl, sc := rfl, fnb := fun _ _ => rfl, calm := fun _ => rfl, hu := ?_, kok := T.kok, kts := T.kts, blt := T.blt, glb := T.glb, call := fun _ y j m hj => ?_, callk := fun _ y m ks j perm hj => ?_, callh := fun y j m hj hy => ?_, hotc := fun e => (by cases e), cfl := T.cfl, cls := T.cls, meth := fun _ i m j n hj => ?_, new := fun _ x i j n hj => ?_, methk := fun _ i m k' ks j perm hj => ?_, newk := fun _ x k' ks i j perm hj => ?_, tk := takes_of rfl rfl rfl rfl, exn := fun _ => T.exn, xcl := T.xcl, xfo := T.xfo, xno := T.xno, hsu := fun _ a cls d e => (by rw [T.exn] at e; cases e), kd := S.kind, po := passes_of rfl, stk := rfl, frm := rfl, mkx := fun _ y d hy => (let ⟨fI, cda, cc, T'⟩ := T.mkx y d hy; ⟨fI, cda, cc, _, T', hr⟩) }
      · have := hr.un
        show (A.deeper _).units + 65 < cLine
        omega
      · obtain ⟨fa', fd', ps', h1, D'⟩ := T.fn y j m hj
        exact ⟨2 * k, fa', fd', ps', h1, D'.kp, D'.bind, all_ok T k j m fa' fd' ps' D', hr.mono (Nat.le_succ _)⟩
      · obtain ⟨n', fa', fd', ps', h1, D', hb, hl⟩ := T.fkw y m ks j perm hj
        exact ⟨n', 2 * k, fa', fd', ps', h1, D'.kp, hb, all_ok T k j n' fa' fd' ps' D', hr.mono (Nat.le_succ _), hl⟩
      · obtain ⟨fa', fd', ps', h1, D'⟩ := T.fn y j m hy
        exact ⟨2 * k, fa', fd', ps', h1, D'.kp, D'.bind, all_okH T k j m fa' fd' ps' D' hj, L2H.roomH_of (hr.mono (Nat.le_succ _))⟩
      · obtain ⟨fa', fd', ps', h1, D'⟩ := T.meth i m j n hj
        exact ⟨2 * k, fa', fd', ps', h1, D'.bind, all_ok T k j n fa' fd' ps' D', hr.mono (Nat.le_succ _)⟩
      · obtain ⟨fa', fd', ps', h1, D'⟩ := T.new x i j n hj
        exact ⟨2 * k, fa', fd', ps', h1, D'.bind, all_ok T k j n fa' fd' ps' D', hr⟩
      · obtain ⟨n', fa', fd', ps', h1, D', hb, hl⟩ := T.methk i m k' ks j perm hj
        exact ⟨n', 2 * k, fa', fd', ps', h1, hb, all_ok T k j n' fa' fd' ps' D', hr.mono (Nat.le_succ _), hl⟩
      · obtain ⟨c1, c2, n', fa', fd', ps', h1, D', hb, hl⟩ := T.newk x k' ks i j perm hj
        exact ⟨c1, c2, n', 2 * k, fa', fd', ps', h1, hb, all_ok T k j n' fa' fd' ps' D', hr, hl⟩
    · obtain ⟨W, us, hp, hs, rs, hl, h⟩ := h
      refine ⟨_, W, ⟨frame f.ns.length us, hp⟩, start_sim hs rs hN, ?_⟩
      by_cases hu : us.length = f.np
      · have ec : callF R (k + 1) i us hp = endC (evB ⟨R.glb, callF R k, R.sub, R.kts, R.nx, R.xfn⟩ f.body ⟨frame f.ns.length us, hp⟩) := by simp only [callF, hf, if_pos hu]
        rw [ec] at h
        cases e : evB ⟨R.glb, callF R k, R.sub, R.kts, R.nx, R.xfn⟩ f.body ⟨frame f.ns.length us, hp⟩ with
        | nx s1 => rw [e] at h; exact fun W' σ' H' le B => h W' H' .non B.h B.e .non
        | rt u s1 => rw [e] at h; exact fun W' σ' H' v le B r => h W' H' v B.h B.e r
        | bk s1 => rw [e] at h; exact (show False from h).elim
        | ct s1 => rw [e] at h; exact (show False from h).elim
        | ex c u s1 => rw [e] at h; exact fun W' σ' H' d v le B h1 r => h W' H' d v B.h B.e h1 r
        | bad => rw [e] at h; exact (show False from h).elim
      · have ec : callF R (k + 1) i us hp = .bad := by simp only [callF, hf, if_neg hu]
        rw [ec] at h
        exact (show False from h).elim
end
end Pix
end
section
set_option Elab.async false
set_option linter.all false
set_option maxRecDepth 100000
set_option maxHeartbeats 1000000
/-! PixH1: a law's tables against the written part. -/
namespace Pix
open PySem PySem.Spec PyProof.Rows L2
/-! ### arguments by place -/
theorem look_zip : ∀ {ns : List PySem.Str} {us : List Value}, ns.Nodup → us.length = ns.length → ∀ n ∈ ns, ∃ u, (ns.zip us).lookup n = some u
  | [], _, _, _, n, h => by simp at h
  | x :: ns, [], _, hl, _, _ => by simp at hl
  | x :: ns, u :: us, hn, hl, n, h => by
    by_cases e : n = x
    · subst e; exact ⟨u, by simp [List.lookup]⟩
    · have e2 : (n == x) = false := by simpa using e
      obtain ⟨w, hw⟩ := look_zip (us := us) (List.nodup_cons.mp hn).2 (by simpa using hl) n (by simpa [e] using h)
      exact ⟨w, by simp [List.lookup, e2, hw]⟩
theorem fill_zip : ∀ {ns : List PySem.Str} {us : List Value}, ns.Nodup → us.length = ns.length → ns.filterMap (fun n => ((ns.zip us).lookup n).map (n, ·)) = ns.zip us
  | [], us, _, hl => by cases us <;> simp at hl ⊢
  | x :: ns, [], _, hl => by simp at hl
  | x :: ns, u :: us, hn, hl => by
    obtain ⟨h1, h2⟩ := List.nodup_cons.mp hn
    have ih := fill_zip (us := us) h2 (by simpa using hl)
    rw [List.zip_cons_cons, List.filterMap_cons]
    have e : ((x, u) :: ns.zip us).lookup x = some u := by simp [List.lookup]
    rw [e]
    simp only [Option.map_some]
    congr 1
    refine Eq.trans ?_ ih
    have key : ∀ l : List PySem.Str, (∀ n ∈ l, n ≠ x) → l.filterMap (fun n => (((x, u) :: ns.zip us).lookup n).map (n, ·)) = l.filterMap (fun n => ((ns.zip us).lookup n).map (n, ·)) := by
      intro l
      induction l with
      | nil => intro _; rfl
      | cons n l ih2 =>
        intro h
        have e2 : (n == x) = false := by simpa using h n (by simp)
        rw [List.filterMap_cons, List.filterMap_cons, ih2 fun m hm => h m (by simp [hm])]
        simp [List.lookup, e2]
    exact key ns fun n hm z => h1 (z ▸ hm)
theorem bind_pos {fd : FuncData} {args : List Arg} {us : List Value} (hp : fd.params = { posonlyargs := [], args := args, vararg := none, kwonlyargs := [], kw_defaults := [], kwarg := none, defaults := [] }) (hd : fd.defaults = .none) (hn : (args.map (·.arg)).Nodup) (hl : us.length = args.length) :
    bindArgs fd ⟨us, []⟩ = pure ((args.map (·.arg)).zip us) := by
  have hs : seqItems? Value.none = pure none := rfl
  have hl' : us.length = (args.map (·.arg)).length := by rw [List.length_map]; exact hl
  have h1 : (args.map (·.arg)).filter (fun n => (((args.map (·.arg)).zip us).lookup n).isNone) = [] := by
    rw [List.filter_eq_nil_iff]
    intro n hm
    obtain ⟨u, e⟩ := look_zip hn hl' n hm
    rw [e]; simp
  have h2 := fill_zip hn hl'
  have ha : args.length = (args.map (·.arg)).length := by rw [List.length_map]
  unfold bindArgs
  rw [hp, hd, hs]
  dsimp only
  rw [List.map_nil, List.nil_append]
  generalize args.map (·.arg) = ns at *
  simp [hl', h1, h2]

/-! ### tables -/
/-- what the law's program is: its defs, constants, exception classes -/
structure Ld where
  fns : List Fn
  /-- where the i-th def stands -/
  at_ : List (PySem.Str × Option PySem.Str)
  glbs : List (PySem.Str × U)
  /-- exception classes: the name, the base's number (itself: none), the field -/
  xs : List (PySem.Str × Nat × String)
  /-- those that are made -/
  xm : List (PySem.Str × Nat)
  fk : List ((PySem.Str × Nat × List PySem.Str) × (Nat × List Nat))
  /-- classes with instances: the name, the fields -/
  cs : List (PySem.Str × List PySem.Str) := []
  mek : List ((Nat × PySem.Str × Nat × List PySem.Str) × (Nat × List Nat)) := []
  nk : List ((PySem.Str × Nat × List PySem.Str) × (Nat × Nat × List Nat)) := []
  /-- the defs that are called while an exception is handled -/
  hf : List Nat := []
def Ld.nc (l : Ld) : Nat := l.cs.length
def tupsOf : List (PySem.Str × U) → List (List U)
  | [] => []
  | (_, .tup xs) :: r => xs :: tupsOf r
  | _ :: r => tupsOf r
/-- c is d, or below it -/
def isaN (xs : List (PySem.Str × Nat × String)) : Nat → Nat → Nat → Bool
  | 0, _, _ => false
  | n + 1, c, d => (c == d) || (match xs[c]? with
    | some (_, b, _) => if b == c then false else isaN xs n b d
    | none => false)
def Ld.R (l : Ld) : Pr where
  fns := fun i => l.fns[i]?
  glb := fun g => match l.glbs[g]? with
    | some (_, u) => u
    | none => .non
  sub := fun c d => isaN l.xs l.xs.length c d
  kts := tupsOf l.glbs
  nx := l.xs.length
  xfn := fun c => match l.xs[c]? with
    | some (_, _, f) => f
    | none => ""
def enumFrom {α β : Type} (g : α → Nat → Option β) : Nat → List α → List β
  | _, [] => []
  | n, x :: xs => match g x n with
    | some y => y :: enumFrom g (n + 1) xs
    | none => enumFrom g (n + 1) xs
theorem enumFrom_mem {α β : Type} {g : α → Nat → Option β} {y : β} : ∀ {xs : List α} {n : Nat}, y ∈ enumFrom g n xs → ∃ i x, xs[i]? = some x ∧ g x (n + i) = some y
  | [], n, h => by simp [enumFrom] at h
  | x :: xs, n, h => by
    unfold enumFrom at h
    split at h
    · rename_i z hz
      rcases List.mem_cons.mp h with e | h
      · exact ⟨0, x, rfl, by rw [e]; exact hz⟩
      · obtain ⟨i, w, h1, h2⟩ := enumFrom_mem h
        exact ⟨i + 1, w, h1, by rw [← h2]; congr 1; omega⟩
    · obtain ⟨i, w, h1, h2⟩ := enumFrom_mem h
      exact ⟨i + 1, w, h1, by rw [← h2]; congr 1; omega⟩
theorem lookup_in {α β : Type} [BEq α] [LawfulBEq α] {a : α} {b : β} : ∀ {l : List (α × β)}, l.lookup a = some b → (a, b) ∈ l
  | [], h => by cases h
  | (x, y) :: r, h => by
    simp only [List.lookup] at h
    split at h
    · rename_i e
      cases h
      rw [eq_of_beq e]
      exact List.mem_cons_self
    · exact List.mem_cons_of_mem _ (lookup_in h)
def Ld.gl (l : Ld) : List (PySem.Str × Nat) := enumFrom (fun x n => some (x.1, n)) 0 l.glbs
def Ld.np (l : Ld) (i : Nat) : Nat := match l.fns[i]? with
  | some f => f.np
  | none => 0
def Ld.fn (l : Ld) : List (PySem.Str × Nat × Nat) := enumFrom (fun x n => match x.2 with
  | none => some (x.1, n, l.np n)
  | some _ => none) 0 l.at_
def Ld.xc (l : Ld) : List (PySem.Str × Nat) := enumFrom (fun x n => some (x.1, n)) 0 l.xs
/-- which class bears the name -/
def Ld.ci (l : Ld) (x : PySem.Str) : Option Nat := l.cs.findIdx? fun y => y.1 == x
def flsOf : Nat → List (PySem.Str × List PySem.Str) → List (Nat × PySem.Str)
  | _, [] => []
  | n, (_, fs) :: r => fs.map (fun f => (n, f)) ++ flsOf (n + 1) r
def Ld.cl (l : Ld) : Cl0 where
  fl := flsOf 0 l.cs
  me := enumFrom (fun x n => match x.2 with
    | some m => (l.ci x.1).map fun c => ((c, m), (n, l.np n))
    | none => none) 0 l.at_
  nw := enumFrom (fun x n => match x.2 with
    | some m => if m = "__init__" then (l.ci x.1).map fun c => (x.1, (c, n, l.np n)) else none
    | none => none) 0 l.at_
  mek := l.mek
  nk := l.nk
  hf := l.hf
def Ld.cn (l : Ld) (c : Nat) : PySem.Str := match l.cs[c]? with
  | some (x, _) => x
  | none => ""
def Ld.gl0 (l : Ld) (K : PySem.W.Frag) : Gl0 where
  K := K
  ca := fun c => match l.cs[c]? with
    | some (x, _) => He.ga K x
    | none => 0
  xa := fun c => match l.xs[c]? with
    | some (x, _, _) => He.ga K x
    | none => 0
  xf := fun c => PySem.Str.ofString (l.R.xfn c)
  kts := l.R.kts
  nc := l.nc
  exa := none
/-! ### what is asked of the text -/
def isPlainArgs (a : Arguments) : Bool := a.posonlyargs.isEmpty && a.vararg.isNone && a.kwonlyargs.isEmpty && a.kw_defaults.isEmpty && a.kwarg.isNone && a.defaults.isEmpty
theorem plainArgs_eq {a : Arguments} (h : isPlainArgs a = true) : a = { posonlyargs := [], args := a.args, vararg := none, kwonlyargs := [], kw_defaults := [], kwarg := none, defaults := [] } := by
  obtain ⟨p, q, r, s, t, u, v⟩ := a
  simp only [isPlainArgs, Bool.and_eq_true, List.isEmpty_iff, Option.isNone_iff_eq_none] at h
  obtain ⟨⟨⟨⟨⟨h1, h2⟩, h3⟩, h4⟩, h5⟩, h6⟩ := h
  subst h1 h2 h3 h4 h5 h6
  rfl
def scB (N ps : List PySem.Str) (sc : Scope) : Bool := decide (sc.kind = .function) && !sc.isCoroutine && !sc.isGenerator && decide N.Nodup && decide (N.take ps.length = ps) && (ps.all fun x => decide (sc.names.lookup x = some .local) || decide (sc.names.lookup x = some .cell)) && (sc.names.all fun y => !decide (y.2 = .free))
theorem scB_ok {N ps : List PySem.Str} {sc : Scope} (h : scB N ps sc = true) : FnScope N ps sc := by
  simp only [scB, Bool.and_eq_true, decide_eq_true_eq, Bool.not_eq_true', List.all_eq_true, Bool.or_eq_true, decide_eq_false_iff_not] at h
  obtain ⟨⟨⟨⟨⟨⟨h1, h2⟩, h3⟩, h4⟩, h5⟩, h6⟩, h7⟩ := h
  exact ⟨h1, h2, h3, h4, h5, h6, h7⟩
def nmsP (l : List String) : List PySem.Str := l.map PySem.Str.ofString
/-- the i-th def, as the text has it -/
def defB (l : Ld) (i : Nat) (f : Fn) (d : He.DefD) : Bool := isPlainArgs d.params && decide ((d.params.args.map (·.arg)).Nodup) && decide (d.params.args.length = f.np) && scB (nmsP f.ns) (d.params.args.map (·.arg)) d.scope && d.dfl.isEmpty && d.kwd.isEmpty &&
  chkB ⟨nmsP f.ns, d.scope, none, false, l.gl, l.fn, l.nc, l.fk, l.xc, l.xm, l.cl⟩ f.body d.body &&
  (!l.hf.contains i || chkB ⟨nmsP f.ns, d.scope, none, true, l.gl, l.fn, l.nc, l.fk, l.xc, l.xm, l.cl⟩ f.body d.body)
def defsB (l : Ld) : Nat → List Fn → List He.DefD → List (PySem.Str × Option PySem.Str) → Bool
  | _, [], [], [] => true
  | i, f :: fs, d :: ds, a :: as => defB l i f d && decide (d.at_ = a) && defsB l (i + 1) fs ds as
  | _, _, _, _ => false
theorem defsB_get {l : Ld} : ∀ {fs : List Fn} {ds : List He.DefD} {as : List (PySem.Str × Option PySem.Str)} {n : Nat}, defsB l n fs ds as = true → ∀ i a, as[i]? = some a → ∃ f d, fs[i]? = some f ∧ ds[i]? = some d ∧ d.at_ = a ∧ defB l (n + i) f d = true
  | [], [], [], n, h, i, a, e => by simp at e
  | f :: fs, d :: ds, a' :: as, n, h, i, a, e => by
    obtain ⟨h, h2⟩ := and2 (show (defB l n f d && decide (d.at_ = a') && defsB l (n + 1) fs ds as) = true from h)
    obtain ⟨h0, h1⟩ := and2 h
    cases i with
    | zero => simp at e; subst e; exact ⟨f, d, rfl, rfl, of_decide_eq_true h1, h0⟩
    | succ i =>
      obtain ⟨f', d', q1, q2, q3, q4⟩ := defsB_get h2 i a (by simpa using e)
      exact ⟨f', d', by simpa using q1, by simpa using q2, q3, by rw [show n + (i + 1) = n + 1 + i by omega]; exact q4⟩
  | [], [], _ :: _, n, h, i, a, e => by cases h
  | [], _ :: _, [], n, h, i, a, e => by cases h
  | [], _ :: _, _ :: _, n, h, i, a, e => by cases h
  | _ :: _, [], [], n, h, i, a, e => by cases h
  | _ :: _, [], _ :: _, n, h, i, a, e => by cases h
  | _ :: _, _ :: _, [], n, h, i, a, e => by cases h
/-! ### what is asked of the written part -/
def flatU : U → Option V
  | .int i => some (.int i)
  | .str s => some (.str ⟨s.toArray⟩)
  | _ => none
def okStr (s : List Nat) : Bool := decide (s.length ≤ SZ) && s.all fun c => decide (c < 1114112)
def flatOk : U → Bool
  | .int _ => true
  | .str s => okStr s
  | _ => false
def relF : U → Value → Bool
  | .int i, .int j _ => decide (i = j)
  | .str s, .str x _ => decide (x = (⟨s.toArray⟩ : PySem.Str))
  | _, _ => false
def relFs : List U → List Value → Bool
  | [], [] => true
  | u :: us, v :: vs => flatOk u && relF u v && relFs us vs
  | _, _ => false
def glbB (K : PySem.W.Frag) (x : PySem.Str) (u : U) : Bool := match PySem.W.nsIn K mainGlobals x with
  | some (some w) => (match u with
    | .tup xs => (match w with
      | .ref a => (match K.lookup a with
        | some ⟨.type c, _, .seq its _, _⟩ => decide (c = "tuple") && decide (its.size ≤ sizeLine) && relFs xs its.toList
        | _ => false)
      | _ => false)
    | u => flatOk u && relF u w)
  | _ => false
theorem okStr_ok {s : List Nat} (h : okStr s = true) : s.length ≤ SZ ∧ ∀ c ∈ s, c < 1114112 := by
  simp only [okStr, Bool.and_eq_true, decide_eq_true_eq, List.all_eq_true] at h
  exact h
theorem relF_ok {G : Gl0} {u : U} {w : Value} (h1 : flatOk u = true) (h2 : relF u w = true) : ∃ v, RelV v w ∧ ∀ W, Rep G W u v := by
  cases u with
  | int i =>
    cases w <;> first | exact absurd h2 Bool.false_ne_true | skip
    rename_i j t
    have : i = j := of_decide_eq_true h2
    subst this
    exact ⟨.int i, ⟨t, rfl⟩, fun W => .int i⟩
  | str s =>
    cases w <;> first | exact absurd h2 Bool.false_ne_true | skip
    rename_i x t
    have : x = (⟨s.toArray⟩ : PySem.Str) := of_decide_eq_true h2
    subst this
    obtain ⟨k1, k2⟩ := okStr_ok h1
    exact ⟨.str _, ⟨t, rfl⟩, fun W => .str s k1 k2⟩
  | _ => exact absurd h1 Bool.false_ne_true
theorem relFs_ok {G : Gl0} : ∀ {us : List U} {ws : List Value}, relFs us ws = true → ∃ vs, Vals vs ws ∧ ∀ W, Reps G W us vs
  | [], [], _ => ⟨[], .nil, fun _ => .nil⟩
  | u :: us, w :: ws, h => by
    obtain ⟨h, h3⟩ := and2 (show (flatOk u && relF u w && relFs us ws) = true from h)
    obtain ⟨h1, h2⟩ := and2 h
    obtain ⟨v, q1, q2⟩ := relF_ok (G := G) h1 h2
    obtain ⟨vs, q3, q4⟩ := relFs_ok (G := G) h3
    exact ⟨v :: vs, .cons q1 q3, fun W => .cons (q2 W) (q4 W)⟩
  | [], _ :: _, h => by cases h
  | _ :: _, [], h => by cases h
mutual
theorem eqU_self : ∀ {u : U}, flatOk u = true → eqU u u = true
  | .int i, _ => by simp [eqU]
  | .str s, _ => by simp [eqU]
  | .non, h => by cases h
  | .bl _, h => by cases h
  | .tup _, h => by cases h
  | .lst _, h => by cases h
  | .dct _ _, h => by cases h
  | .ref _, h => by cases h
  | .scr _, h => by cases h
theorem eqUs_self : ∀ {us : List U} {ws : List Value}, relFs us ws = true → eqUs us us = true
  | [], _, _ => by simp [eqUs]
  | u :: us, [], h => by cases h
  | u :: us, w :: ws, h => by
    obtain ⟨h, h3⟩ := and2 (show (flatOk u && relF u w && relFs us ws) = true from h)
    obtain ⟨h1, h2⟩ := and2 h
    simp only [eqUs, eqU_self h1, eqUs_self h3, Bool.and_self]
end
theorem tupsOf_mem {x : PySem.Str} {xs : List U} : ∀ {l : List (PySem.Str × U)}, (x, .tup xs) ∈ l → xs ∈ tupsOf l
  | (y, u) :: r, h => by
    rcases List.mem_cons.mp h with e | h
    · cases e; exact List.mem_cons_self
    · have := tupsOf_mem h
      cases u <;> first | exact this | exact List.mem_cons_of_mem _ this
theorem glbB_ok {G : Gl0} {h : Heap} {mg : PySem.Str → Option Value} {x : PySem.Str} {u : U} (X : G.K.In h) (N : h.Ns mainGlobals mg) (hk : ∀ xs, u = .tup xs → xs ∈ G.kts) (e : glbB G.K x u = true) : ∃ v w, mg x = some w ∧ RelV v w ∧ ∀ W, Rep G W u v := by
  unfold glbB at e
  split at e
  · rename_i w hw
    have hm := PySem.W.mg_of X N hw
    have flat : (flatOk u && relF u w) = true → ∃ v w, mg x = some w ∧ RelV v w ∧ ∀ W, Rep G W u v := fun z => by
      obtain ⟨h1, h2⟩ := and2 z
      obtain ⟨v, q1, q2⟩ := relF_ok (G := G) h1 h2
      exact ⟨v, w, hm, q1, q2⟩
    cases u with
    | tup xs =>
      dsimp only at e
      split at e
      · rename_i a
        split at e
        · rename_i c d its n sl hl
          obtain ⟨e, e3⟩ := and2 e
          obtain ⟨e1, e2⟩ := and2 e
          obtain ⟨vs, q1, q2⟩ := relFs_ok (G := G) e3
          refine ⟨.ref a, .ref a, hm, rfl, fun W => .ktup ⟨_, its, n, hl, congrArg Value.type (of_decide_eq_true e1), rfl, of_decide_eq_true e2, q1⟩ ?_ (q2 W)⟩
          exact List.any_eq_true.mpr ⟨xs, hk xs rfl, eqUs_self e3⟩
        · cases e
      · cases e
    | _ => exact flat e
  · cases e
end Pix
end
section
set_option Elab.async false
set_option linter.all false
set_option maxRecDepth 100000
set_option maxHeartbeats 1000000
/-! PixH4: calls by keyword are bound. -/
namespace Pix
open PySem PySem.Spec PyProof.Rows L2
theorem kw_loop {ns : List PySem.Str} {f : PySem.Str × Value → List (PySem.Str × Value) × List (PySem.Str × Value) → Sem (ForInStep (List (PySem.Str × Value) × List (PySem.Str × Value)))}
    (hf : ∀ q sl ex, q.1 ∈ ns → sl.lookup q.1 = none → f q (sl, ex) = pure (.yield (sl ++ [q], ex))) : ∀ (kws sl : List (PySem.Str × Value)) (ex : List (PySem.Str × Value)), (∀ q ∈ kws, q.1 ∈ ns) → (kws.map (·.1)).Nodup → (∀ q ∈ kws, sl.lookup q.1 = none) → forIn kws (sl, ex) f = pure (sl ++ kws, ex)
  | [], sl, ex, _, _, _ => by rw [List.forIn_nil, List.append_nil]
  | q :: kws, sl, ex, h1, h2, h3 => by
    rw [List.forIn_cons, hf q sl ex (h1 q (by simp)) (h3 q (by simp)), pure_bind]
    dsimp only
    rw [List.map_cons, List.nodup_cons] at h2
    rw [kw_loop hf kws (sl ++ [q]) ex (fun z hz => h1 z (by simp [hz])) h2.2 fun z hz => ?_]
    · rw [List.append_assoc]; rfl
    · rw [List.lookup_append, h3 z (by simp [hz])]
      have e : (z.1 == q.1) = false := by
        have : z.1 ≠ q.1 := fun e => h2.1 (e ▸ List.mem_map_of_mem hz)
        simpa using this
      simp [List.lookup, e]
theorem look_idx {α β : Type} [BEq α] [LawfulBEq α] {n : α} : ∀ {xs : List α} {vs : List β}, xs.length = vs.length → (xs.zip vs).lookup n = vs[xs.idxOf n]?
  | [], [], _ => rfl
  | x :: xs, v :: vs, h => by
    rw [List.zip_cons_cons, List.lookup, List.idxOf_cons]
    by_cases e : n = x
    · subst e; simp
    · have e1 : (n == x) = false := by simpa using e
      have e2 : (x == n) = false := by simpa using fun z : x = n => e z.symm
      rw [e1, e2]
      simp only [cond_false, List.getElem?_cons_succ]
      exact look_idx (by simpa using h)
theorem fill_idx {α β : Type} {g : α → Nat} {vs : List β} : ∀ {ns : List α}, (∀ n ∈ ns, (vs[g n]?).isSome = true) → ns.filterMap (fun n => (vs[g n]?).map (n, ·)) = ns.zip (permL vs (ns.map g))
  | [], _ => rfl
  | n :: ns, h => by
    obtain ⟨v, hv⟩ := Option.isSome_iff_exists.mp (h n (by simp))
    unfold permL
    rw [List.map_cons, List.filterMap_cons, List.filterMap_cons, hv]
    simp only [Option.map_some, List.zip_cons_cons]
    exact congrArg _ (fill_idx fun m hm => h m (by simp [hm]))
/-- m by place, then ks: what is due of them -/
structure KwsOk (ns : List PySem.Str) (m : Nat) (ks : List PySem.Str) (perm : List Nat) : Prop where
  nd : ns.Nodup
  len : m + ks.length = ns.length
  kd : ks.Nodup
  mem : ∀ k ∈ ks, k ∈ ns ∧ k ∉ ns.take m
  all : ∀ n ∈ ns, n ∈ ns.take m ++ ks
  pe : perm = ns.map fun n => (ns.take m ++ ks).idxOf n
theorem zip_take {α β : Type} : ∀ {xs : List α} {ys : List β}, xs.zip ys = (xs.take ys.length).zip ys
  | [], ys => by simp
  | x :: xs, [] => by simp
  | x :: xs, y :: ys => by rw [List.length_cons, List.take_succ_cons, List.zip_cons_cons, List.zip_cons_cons, ← zip_take]
theorem look_nin {n : PySem.Str} : ∀ {xs : List PySem.Str} {us : List Value}, n ∉ xs → (xs.zip us).lookup n = none
  | [], us, _ => by simp
  | x :: xs, [], _ => by simp
  | x :: xs, u :: us, h => by
    have e : (n == x) = false := by simpa using fun z : n = x => h (by simp [z])
    rw [List.zip_cons_cons, List.lookup, e]
    exact look_nin fun z => h (by simp [z])
theorem bind_kw {fd : FuncData} {args : List Arg} {us ws : List Value} {ks : List PySem.Str} {perm : List Nat} (hp : fd.params = { posonlyargs := [], args := args, vararg := none, kwonlyargs := [], kw_defaults := [], kwarg := none, defaults := [] }) (hd : fd.defaults = .none)
    (hk : KwsOk (args.map (·.arg)) us.length ks perm) (hl : ws.length = ks.length) : bindArgs fd ⟨us, ks.zip ws⟩ = pure ((args.map (·.arg)).zip (permL (us ++ ws) perm)) := by
  have hs : seqItems? Value.none = pure none := rfl
  unfold bindArgs
  rw [hp, hd, hs]
  dsimp only
  rw [List.map_nil, List.nil_append]
  generalize args.map (·.arg) = ns at *
  obtain ⟨hn, hlen, kd, mem, hall, pe⟩ := hk
  have mz : ∀ q ∈ ks.zip ws, q.1 ∈ ks := fun q hq => (List.of_mem_zip (a := q.1) (b := q.2) hq).1
  have ez : ((ks.zip ws).map (·.1)) = ks := by rw [List.map_fst_zip (by omega)]
  rw [kw_loop (ns := ns) (fun q sl ex h1 h2 => by
    rw [if_pos (by simp [h1])]
    rw [if_neg (by simp [h2])]) (ks.zip ws) (ns.zip us) [] (fun q hq => (mem _ (mz q hq)).1) (by rw [ez]; exact kd) (fun q hq => by
      rw [zip_take]
      exact look_nin (mem _ (mz q hq)).2)]
  rw [pure_bind]
  have et : ns.zip us ++ ks.zip ws = (ns.take us.length ++ ks).zip (us ++ ws) := by
    rw [zip_take (ys := us), List.zip_append (by rw [List.length_take]; omega)]
  rw [et]
  have ll : (ns.take us.length ++ ks).length = (us ++ ws).length := by rw [List.length_append, List.length_append, List.length_take]; omega
  have lk : ∀ n, ((ns.take us.length ++ ks).zip (us ++ ws)).lookup n = (us ++ ws)[(ns.take us.length ++ ks).idxOf n]? := fun n => look_idx ll
  have ls : ∀ n ∈ ns, ((us ++ ws)[(ns.take us.length ++ ks).idxOf n]?).isSome = true := fun n hm => by
    have := List.idxOf_lt_length_iff.mpr (hall n hm)
    rw [List.getElem?_eq_getElem (by omega)]
    rfl
  have h1 : ns.filter (fun n => (((ns.take us.length ++ ks).zip (us ++ ws)).lookup n).isNone) = [] := by
    rw [List.filter_eq_nil_iff]
    intro n hm
    rw [lk]
    have := ls n hm
    simp only [Option.isSome_iff_exists] at this
    obtain ⟨v, e⟩ := this
    rw [e]; simp
  have h2 : ns.filterMap (fun n => (((ns.take us.length ++ ks).zip (us ++ ws)).lookup n).map (n, ·)) = ns.zip (permL (us ++ ws) perm) := by
    rw [pe, ← fill_idx ls]
    congr 1
    funext n
    rw [lk]
  generalize (ns.take us.length ++ ks).zip (us ++ ws) = sl at h1 h2
  have h3 : ¬ us.length > ns.length := by omega
  simp [h3, h1, h2]
def kwsB (ns : List PySem.Str) (m : Nat) (ks : List PySem.Str) (perm : List Nat) : Bool := decide ns.Nodup && decide (m + ks.length = ns.length) && decide ks.Nodup && (ks.all fun k => decide (k ∈ ns) && decide (k ∉ ns.take m)) && (ns.all fun n => decide (n ∈ ns.take m ++ ks)) && decide (perm = ns.map fun n => (ns.take m ++ ks).idxOf n)
theorem kwsB_ok {ns : List PySem.Str} {m : Nat} {ks : List PySem.Str} {perm : List Nat} (h : kwsB ns m ks perm = true) : KwsOk ns m ks perm := by
  simp only [kwsB, Bool.and_eq_true, decide_eq_true_eq, List.all_eq_true] at h
  obtain ⟨⟨⟨⟨⟨h1, h2⟩, h3⟩, h4⟩, h5⟩, h6⟩ := h
  exact ⟨h1, h2, h3, h4, h5, h6⟩
/-- the calls by keyword of the table -/
def fkB (l : Ld) (fns : List He.DefD) : Bool := (l.fk.all fun q => decide (l.at_[q.2.1]? = some (q.1.1, none)) && (match fns[q.2.1]? with
  | some d => kwsB (d.params.args.map (·.arg)) q.1.2.1 q.1.2.2 q.2.2 && decide (q.2.2.length = l.np q.2.1)
  | none => false)) &&
  (l.mek.all fun q => decide (q.1.1 < l.nc) && decide (l.at_[q.2.1]? = some (l.cn q.1.1, some q.1.2.1)) && (match fns[q.2.1]? with
  | some d => kwsB (d.params.args.map (·.arg)) (q.1.2.2.1 + 1) q.1.2.2.2 q.2.2 && decide (q.2.2.length = l.np q.2.1)
  | none => false)) &&
  (l.nk.all fun q => decide (q.2.1 < l.nc) && decide (l.cn q.2.1 = q.1.1) && decide (l.at_[q.2.2.1]? = some (q.1.1, some ("__init__" : PySem.Str))) && (match fns[q.2.2.1]? with
  | some d => kwsB (d.params.args.map (·.arg)) (q.1.2.1 + 1) q.1.2.2 (0 :: q.2.2.2.map (· + 1)) && decide (q.2.2.2.length + 1 = l.np q.2.2.1)
  | none => false))
theorem permL_len {α : Type} {l : List α} : ∀ {perm : List Nat}, (∀ i ∈ perm, i < l.length) → (permL l perm).length = perm.length
  | [], _ => rfl
  | i :: p, h => by
    have hi := h i (by simp)
    unfold permL
    rw [List.filterMap_cons, List.getElem?_eq_getElem hi]
    simp only [List.length_cons]
    exact congrArg (· + 1) (permL_len fun j hj => h j (by simp [hj]))
theorem KwsOk.lt {ns : List PySem.Str} {m : Nat} {ks : List PySem.Str} {perm : List Nat} (h : KwsOk ns m ks perm) : ∀ i ∈ perm, i < m + ks.length := by
  intro i hi
  rw [h.pe, List.mem_map] at hi
  obtain ⟨n, hn, rfl⟩ := hi
  have := List.idxOf_lt_length_iff.mpr (h.all n hn)
  rw [List.length_append, List.length_take] at this
  have := h.len
  omega
end Pix
end
section
set_option Elab.async false
set_option linter.all false
set_option maxRecDepth 100000
set_option maxHeartbeats 1000000
/-! PixH2: what the head shows of the written part; the tables of the run. -/
namespace Pix
open PySem PySem.Spec PyProof.Rows L2
/-! ### an exception class -/
def argIs (x : PySem.Str) : Arg → Bool
  | ⟨n, an, _⟩ => decide (n = x) && an.isNone
theorem argIs_ok {x : PySem.Str} {a : Arg} (h : argIs x a = true) : ∃ p, a = { arg := x, annotation := none, pos := p } := by
  obtain ⟨n, an, p⟩ := a
  obtain ⟨h1, h2⟩ := and2 (show (decide (n = x) && an.isNone) = true from h)
  cases an with
  | some _ => cases h2
  | none => exact ⟨p, by rw [of_decide_eq_true h1]⟩
def initA (f : PySem.Str) (a : Arguments) : Bool := isPlainArgs a && (match a.args with
  | [x, y] => argIs "self" x && argIs f y
  | _ => false)
theorem initA_ok {f : PySem.Str} {a : Arguments} (h : initA f a = true) : ∃ p1 p2, a = PySem.XcE.iA f p1 p2 := by
  obtain ⟨h1, h2⟩ := and2 h
  have e := plainArgs_eq h1
  obtain ⟨a1, a2, a3, a4, a5, a6, a7⟩ := a
  cases a2 with
  | nil => cases h2
  | cons x r =>
    cases r with
    | nil => cases h2
    | cons y r =>
      cases r with
      | cons _ _ => cases h2
      | nil =>
        obtain ⟨k1, k2⟩ := and2 (show (argIs "self" x && argIs f y) = true from h2)
        obtain ⟨p1, e1⟩ := argIs_ok k1
        obtain ⟨p2, e2⟩ := argIs_ok k2
        exact ⟨p1, p2, by rw [e, e1, e2]; rfl⟩
def initE1 : Expr → Bool
  | .Call (.Attribute (.Call (.Name s _) as ks _) i q3) [.Constant (.str _) n _] ks2 q5 => decide (s = "super") && as.isEmpty && ks.isEmpty && decide (i = "__init__") && decide (n = 0) && ks2.isEmpty && (q3.endLine == q5.line)
  | _ => false
theorem initE1_ok {e : Expr} (h : initE1 e = true) : ∃ txt q1 q2 q3 q4 q5, e = .Call (.Attribute (.Call (.Name "super" q1) [] [] q2) "__init__" q3) [.Constant (.str txt) 0 q4] [] q5 ∧ (q3.endLine == q5.line) = true := by
  unfold initE1 at h
  split at h
  · simp only [Bool.and_eq_true, decide_eq_true_eq, List.isEmpty_iff] at h
    obtain ⟨⟨⟨⟨⟨⟨h1, h2⟩, h3⟩, h4⟩, h5⟩, h6⟩, h7⟩ := h
    subst h1 h2 h3 h4 h5 h6
    exact ⟨_, _, _, _, _, _, rfl, h7⟩
  · cases h
def initB (f : PySem.Str) : List Stmt → Bool
  | [.Expr e _, .Assign [.Attribute (.Name se _) g _] (.Name h _) _] => initE1 e && decide (se = "self") && decide (g = f) && decide (h = f)
  | _ => false
theorem initB_ok {f : PySem.Str} {b : List Stmt} (h : initB f b = true) : ∃ txt q1 q2 q3 q4 q5 q6 q7 q8 q9 q10, b = PySem.XcE.iB f txt q1 q2 q3 q4 q5 q6 q7 q8 q9 q10 ∧ (q3.endLine == q5.line) = true := by
  unfold initB at h
  split at h
  · simp only [Bool.and_eq_true, decide_eq_true_eq] at h
    obtain ⟨⟨⟨h1, h2⟩, h3⟩, h4⟩ := h
    obtain ⟨txt, q1, q2, q3, q4, q5, e, hl⟩ := initE1_ok h1
    subst h2 h3 e
    subst h4
    exact ⟨txt, q1, q2, q3, q4, q5, _, _, _, _, _, rfl, hl⟩
  · cases h
def initF (K : PySem.W.Frag) (f : PySem.Str) (fI cda cc : Addr) : Bool := match K.lookup fI with
  | some ⟨_, _, .func ⟨nm, qual, ps, .stmts b, sc, gs, cl, df, kd, _, _, _, cd, _, bn⟩, _⟩ => decide (nm = "__init__") && initA f ps && initB f b && decide (sc = PySem.XcE.iS f) && decide (gs = mainGlobals) && decide (cl = [(("__class__" : PySem.Str), cc)]) && decide (df = .none) && decide (kd = .none) && decide (cd = .ref cda) && decide (bn = builtinsNs) && PySem.W.codeIn K cd qual
  | _ => false
/-- the addresses that the function at fI names: its code, its cell -/
def initAt (K : PySem.W.Frag) (fI : Addr) : Addr × Addr := match K.lookup fI with
  | some ⟨_, _, .func fd, _⟩ => (match fd.code, fd.closure with
    | .ref cda, [(_, cc)] => (cda, cc)
    | _, _ => (0, 0))
  | _ => (0, 0)
theorem initF_ok {K : PySem.W.Frag} {f : PySem.Str} {fI cda cc : Addr} (h : initF K f fI cda cc = true) : ∃ oc od qual txt doc pm an ct osl p1 p2 q1 q2 q3 q4 q5 q6 q7 q8 q9 q10,
    K.lookup fI = some ⟨oc, od, .func (PySem.W.ksFn "__init__" qual (PySem.XcE.iA f p1 p2) (PySem.XcE.iB f txt q1 q2 q3 q4 q5 q6 q7 q8 q9 q10) (PySem.XcE.iS f) .none .none doc pm an (.ref cda) ct cc), osl⟩ ∧ PySem.W.codeIn K (.ref cda) qual = true ∧ (q3.endLine == q5.line) = true := by
  unfold initF at h
  split at h
  · rename_i oc od nm qual ps b sc gs cl df kd doc pm an cd ct bn osl hl
    simp only [Bool.and_eq_true, decide_eq_true_eq] at h
    obtain ⟨⟨⟨⟨⟨⟨⟨⟨⟨⟨h1, h2⟩, h3⟩, h4⟩, h5⟩, h6⟩, h7⟩, h8⟩, h9⟩, h10⟩, h11⟩ := h
    obtain ⟨p1, p2, e1⟩ := initA_ok h2
    obtain ⟨txt, q1, q2, q3, q4, q5, q6, q7, q8, q9, q10, e2, hq⟩ := initB_ok h3
    subst h1 e1 e2 h4 h5 h6 h7 h8 h9 h10
    exact ⟨_, _, _, _, _, _, _, _, _, _, _, _, _, _, _, _, _, _, _, _, _, hl, h11, hq⟩
  · cases h
def cellB (K : PySem.W.Frag) (cc C : Addr) : Bool := match K.lookup cc with
  | some ⟨_, _, .cell (some (.ref D)), _⟩ => decide (D = C)
  | _ => false
theorem cellB_ok {K : PySem.W.Frag} {cc C : Addr} (h : cellB K cc C = true) : ∃ cl cld csl, K.lookup cc = some ⟨cl, cld, .cell (some (.ref C)), csl⟩ := by
  unfold cellB at h
  split at h
  · rename_i hl
    have e := of_decide_eq_true h
    subst e
    exact ⟨_, _, _, hl⟩
  · cases h
def fileB (K : PySem.W.Frag) (cda : Addr) (fl : PySem.Str) : Bool := match K.lookup cda with
  | some ⟨_, _, .fields vs, _⟩ => (match (vs[2]? : Option Value) with
    | some (Value.str x _) => (fl == x)
    | _ => false)
  | _ => false
theorem fileB_ok {K : PySem.W.Frag} {cda : Addr} {fl : PySem.Str} (h : fileB K cda fl = true) : ∃ ccl cdd vs ccs file tf, K.lookup cda = some ⟨ccl, cdd, .fields vs, ccs⟩ ∧ vs[2]? = some (.str file tf) ∧ (fl == file) = true := by
  unfold fileB at h
  split at h
  · rename_i hl
    split at h
    · rename_i h2
      exact ⟨_, _, _, _, _, _, hl, h2, h⟩
    · cases h
  · cases h
/-- the class at C may be made -/
def xcMk (K : PySem.W.Frag) (fl : PySem.Str) (nm f : PySem.Str) : Bool :=
  let C := He.ga K nm
  let fI := He.ma K C "__init__"
  let z := initAt K fI
  eqO' (PySem.W.nsIn K mainGlobals nm) (some (some (.ref C))) && !(nm == ("__debug__" : PySem.Str)) && PySem.W.excInitIn K C PySem.XcE.exTail "Exception.__new__" && PySem.W.excOver K C PySem.XcE.exTail && PySem.W.hasDictIn K C &&
  eqO' (PySem.W.findIn K (.ref C) "__setattr__") (some (some (.builtin "object.__setattr__"))) && eqO' (PySem.W.takerIn K C f) (some none) && eqO' (PySem.W.findIn K (.ref C) "__init__") (some (some (.ref fI))) && decide (PySem.W.typeIn K (.ref fI) = some (.type "function")) &&
  PySem.W.keepIn K (.ref C) && eqO' (PySem.W.ks_superIn K C C "__init__") (some (some (.builtin "Exception.__init__"))) && eqO' (PySem.W.nsIn K cStatics "thirdparty.any") (some none) && decide (PySem.W.subIn K (.ref C) (.type "Exception") = some true) && decide (PySem.W.subIn K (.ref C) (.type "BaseException") = some true) &&
  decide (PySem.W.typeIn K (.ref C) = some (.type "type")) && decide (PySem.W.mroIn K C (.ref C) = some true) && cellB K z.2 C && initF K f fI z.1 z.2 && fileB K z.1 fl && eqO' (PySem.W.nsIn K mainGlobals "super") (some none) &&
  !(f == ("self" : PySem.Str)) && !(f == ("__debug__" : PySem.Str)) && !((PySem.Str.ofString "super") == f) && !((PySem.Str.ofString "__class__") == f)
where eqO' (a b : Option (Option Value)) : Bool := decide (a = b)
theorem xcMk_ok {K : PySem.W.Frag} {h : Heap} {mg : PySem.Str → Option Value} {prog : Program} {nm f : PySem.Str} (X : K.In h) (N : h.Ns mainGlobals mg) (t0 : (prog.main.scope.names.lookup ("super" : PySem.Str)).isSome = false) (e : xcMk K prog.main.file nm f = true) :
    ∃ fI cda cc, PySem.XcE.XcT K mg prog nm f (He.ga K nm) fI cda cc := by
  simp only [xcMk, xcMk.eqO', Bool.and_eq_true, decide_eq_true_eq, Bool.not_eq_true'] at e
  obtain ⟨⟨⟨⟨⟨⟨⟨⟨⟨⟨⟨⟨⟨⟨⟨⟨⟨⟨⟨⟨⟨⟨⟨h1, h2⟩, h3⟩, h4⟩, h5⟩, h6⟩, h7⟩, h8⟩, h9⟩, h10⟩, h11⟩, h12⟩, h13⟩, h14⟩, h15⟩, h16⟩, h17⟩, h18⟩, h19⟩, h20⟩, h21⟩, h22⟩, h23⟩, h24⟩ := e
  exact ⟨_, _, _, { gC := PySem.W.mg_of X N h1, nd := h2, init := h3, over := h4, hd := h5, sa := h6, ht := h7, iC := h8, tC := h9, kC := h10, sup := h11, op := h12, subE := h13, exC := h14, tyC := h15, self := h16, cell := cellB_ok h17, fn := initF_ok h18, code := fileB_ok h19, sup0 := PySem.W.mg_none_of X N h20, top0 := t0, f1 := h21, f2 := h22, f3 := h23, f4 := h24 }⟩
/-- the class at C may be caught, its instances looked at -/
def excCB (K : PySem.W.Frag) (C : Addr) : Bool := xfB K C && decide (PySem.W.findIn K (.ref C) "__class__" = some (some (.builtin "object.__class__"))) && decide (PySem.W.specialIn K (.builtin "object.__class__") "__get__" = some (some (.builtin "getset_descriptor.__get__"))) && decide (PySem.W.takesIn K (.builtin "object.__class__") = some true) && decide (PySem.W.mroIn K C (.type "object") = some true)
theorem excCB_ok {K : PySem.W.Frag} {C : Addr} (h : excCB K C = true) : XfC K C ∧ ExcC K C := by
  simp only [excCB, Bool.and_eq_true, decide_eq_true_eq] at h
  obtain ⟨⟨⟨⟨h1, h2⟩, h3⟩, h4⟩, h5⟩ := h
  have T := xfB_ok h1
  exact ⟨T, ⟨T.ga, T.gg, T.exC, T.hdC, h2, h3, h4, h5⟩⟩
/-! ### all of it -/
def Ld.nm (l : Ld) (c : Nat) : PySem.Str := match l.xs[c]? with
  | some (x, _, _) => x
  | none => ""
def xcB (K : PySem.W.Frag) (l : Ld) (c : Nat) : Bool :=
  let C := He.ga K (l.nm c)
  decide (PySem.W.nsIn K mainGlobals (l.nm c) = some (some (.ref C))) && excCB K C && decide (PySem.W.findIn K (.ref C) (PySem.Str.ofString (l.R.xfn c)) = some none) && decide (PySem.W.kitAny K (.ref C) xnoU = some false) &&
  (List.range l.xs.length).all fun k => decide (PySem.W.exmOne K (.ref (He.ga K (l.nm k))) (.ref C) = some (l.R.sub k c)) && decide (PySem.W.kitOne K (.ref (He.ga K (l.nm k))) (.ref C) = some (l.R.sub k c))
def Ld.cf (l : Ld) (c : Nat) : List PySem.Str := match l.cs[c]? with
  | some (_, f) => f
  | none => []
/-- the c-th class -/
def clB (K : PySem.W.Frag) (l : Ld) (c : Nat) : Bool :=
  let C := He.ga K (l.cn c)
  decide (PySem.W.nsIn K mainGlobals (l.cn c) = some (some (.ref C))) && PySem.W.plainGet K C Str.empty && PySem.W.hasDictIn K C && PySem.W.plainOver K C &&
  decide (PySem.W.findIn K (.ref C) "__setattr__" = some (some (.builtin "object.__setattr__"))) && decide (PySem.W.findIn K (.ref C) "__class__" = some (some (.builtin "object.__class__"))) &&
  decide (PySem.W.specialIn K (.builtin "object.__class__") "__get__" = some (some (.builtin "getset_descriptor.__get__"))) && decide (PySem.W.takesIn K (.builtin "object.__class__") = some true) && decide (PySem.W.mroIn K C (.type "object") = some true) &&
  (["int", "bool", "str", "tuple", "list"].all fun T => decide (PySem.W.kitOne K (.ref C) (.type T) = some false)) && ((List.range l.nc).all fun d => decide (PySem.W.kitOne K (.ref C) (.ref (He.ga K (l.cn d))) = some (decide (c = d)))) &&
  (["NoneType", "int", "bool", "str", "tuple", "list", "dict"].all fun T => decide (PySem.W.kitOne K (.type T) (.ref C) = some false)) && PySem.W.makesIn K C && PySem.W.keepIn K (.ref C) &&
  ((l.cf c).all fun f => decide (PySem.W.findIn K (.ref C) f = some none))
def exB (l : Ld) (fl : PySem.Str) (K : PySem.W.Frag) : Bool :=
  (l.glbs.all fun x => glbB K x.1 x.2) && (bltNames.all fun x => decide (PySem.W.nsIn K mainGlobals x = some none)) && ((List.range l.xs.length).all fun c => xcB K l c) &&
  (l.xm.all fun y => decide (l.nm y.2 = y.1) && decide (y.2 < l.xs.length) && xcMk K fl y.1 (PySem.Str.ofString (l.R.xfn y.2))) &&
  (l.at_.all fun a => match a.2 with
    | none => decide (PySem.W.nsIn K mainGlobals a.1 = some (some (.ref (He.ga K a.1))))
    | some m => decide (PySem.W.findIn K (.ref (He.ga K a.1)) m = some (some (.ref (He.ma K (He.ga K a.1) m)))) && PySem.W.isFn K (.ref (He.ma K (He.ga K a.1) m)) && PySem.W.keepIn K (.ref (He.ma K (He.ga K a.1) m))) &&
  ((List.range l.nc).all fun c => clB K l c)
theorem gl0_ca {l : Ld} {K : PySem.W.Frag} {c : Nat} (h : c < l.nc) : (l.gl0 K).ca c = He.ga K (l.cn c) := by
  show (match l.cs[c]? with
    | some (x, _) => He.ga K x
    | none => 0) = He.ga K (match l.cs[c]? with
    | some (x, _) => x
    | none => "")
  obtain ⟨z, hz⟩ : ∃ z, l.cs[c]? = some z := ⟨_, List.getElem?_eq_getElem h⟩
  rw [hz]
theorem ci_of {l : Ld} {x : PySem.Str} {c : Nat} (h : l.ci x = some c) : c < l.nc ∧ l.cn c = x := by
  unfold Ld.ci at h
  obtain ⟨hl, hp, _⟩ := List.findIdx?_eq_some_iff_getElem.mp h
  refine ⟨hl, ?_⟩
  unfold Ld.cn
  rw [List.getElem?_eq_getElem hl]
  exact eq_of_beq hp
theorem flsOf_mem {i : Nat} {f : PySem.Str} : ∀ {l : List (PySem.Str × List PySem.Str)} {n : Nat}, (i, f) ∈ flsOf n l → ∃ k y, i = n + k ∧ l[k]? = some y ∧ f ∈ y.2
  | [], n, h => by cases h
  | (x, fs) :: r, n, h => by
    rcases List.mem_append.mp h with h | h
    · obtain ⟨g, hg, e⟩ := List.mem_map.mp h
      cases e
      exact ⟨0, _, rfl, rfl, hg⟩
    · obtain ⟨k, y, e, h1, h2⟩ := flsOf_mem h
      exact ⟨k + 1, y, by omega, h1, h2⟩
/-- what is known of the c-th class -/
structure ClK (K : PySem.W.Frag) (l : Ld) (c : Nat) : Prop where
  g : PySem.W.nsIn K mainGlobals (l.cn c) = some (some (.ref (He.ga K (l.cn c))))
  f : ClsF K (He.ga K (l.cn c))
  ty : ∀ T ∈ ["int", "bool", "str", "tuple", "list"], PySem.W.kitOne K (.ref (He.ga K (l.cn c))) (.type T) = some false
  cc : ∀ d, d < l.nc → PySem.W.kitOne K (.ref (He.ga K (l.cn c))) (.ref (He.ga K (l.cn d))) = some (decide (c = d))
  tc : ∀ T ∈ ["NoneType", "int", "bool", "str", "tuple", "list", "dict"], PySem.W.kitOne K (.type T) (.ref (He.ga K (l.cn c))) = some false
  mks : PySem.W.makesIn K (He.ga K (l.cn c)) = true
  kp : PySem.W.keepIn K (.ref (He.ga K (l.cn c))) = true
  na : ∀ f ∈ l.cf c, PySem.W.findIn K (.ref (He.ga K (l.cn c))) f = some none
theorem clB_ok {K : PySem.W.Frag} {l : Ld} {c : Nat} (h : clB K l c = true) : ClK K l c := by
  simp only [clB, Bool.and_eq_true, List.all_eq_true, decide_eq_true_eq] at h
  obtain ⟨⟨⟨⟨⟨⟨⟨⟨⟨⟨⟨⟨⟨⟨h1, h2⟩, h3⟩, h4⟩, h5⟩, h6⟩, h7⟩, h8⟩, h9⟩, h10⟩, h11⟩, h12⟩, h13⟩, h14⟩, h15⟩ := h
  exact ⟨h1, ⟨⟨h2, h3, h4, h5⟩, h6, h7, h8, h9⟩, h10, fun d hd => h11 d (List.mem_range.mpr hd), h12, h13, h14, h15⟩
theorem kok_of {K : PySem.W.Frag} {l : Ld} (h : ∀ c, c < l.nc → ClK K l c) : KOk (l.gl0 K) where
  cls := fun c hc => by rw [gl0_ca hc]; exact (h c hc).f
  kty := fun c hc => by rw [gl0_ca hc]; exact (h c hc).ty
  kcc := fun c d hc hd => by rw [gl0_ca hc, gl0_ca hd]; exact (h c hc).cc d hd
  ktc := fun c hc => by rw [gl0_ca hc]; exact (h c hc).tc
theorem gl0_xa {l : Ld} {K : PySem.W.Frag} {c : Nat} (h : c < l.xs.length) : (l.gl0 K).xa c = He.ga K (l.nm c) := by
  show (match l.xs[c]? with
    | some (x, _, _) => He.ga K x
    | none => 0) = He.ga K (match l.xs[c]? with
    | some (x, _, _) => x
    | none => "")
  obtain ⟨z, hz⟩ : ∃ z, l.xs[c]? = some z := ⟨_, List.getElem?_eq_getElem h⟩
  rw [hz]
theorem tab_of {l : Ld} {K : PySem.W.Frag} {h : Heap} {mg : PySem.Str → Option Value} {prog : Program} {fns : List He.DefD} (X : K.In h) (N : h.Ns mainGlobals mg) (t0 : (prog.main.scope.names.lookup ("super" : PySem.Str)).isSome = false)
    (e : exB l prog.main.file K = true) (S : He.SaysD [] fns K) (B : defsB l 0 l.fns fns l.at_ = true)
    (fb : fkB l fns = true) :
    Tab prog (l.gl0 K) l.R mg l.gl l.fn l.fk l.xc l.xm l.cl ∧ ∀ i x, l.at_[i]? = some (x, none) → ∃ fd ps, (fns[i]?.map fun d => d.params.args.map (·.arg)) = some ps ∧ mg x = some (.ref (He.ga K x)) ∧ DefOk (l.gl0 K) l.R l.gl l.fn l.fk l.xc l.xm l.cl i (l.np i) (He.ga K x) fd ps ∧ ∀ (s : Shared) (us : List Value), us.length = ps.length → BindsTo s fd ⟨us, []⟩ (ps.zip us) := by
  simp only [exB, Bool.and_eq_true, List.all_eq_true, decide_eq_true_eq] at e
  obtain ⟨⟨⟨⟨⟨e1, e2⟩, e3⟩, e4⟩, e5⟩, e6⟩ := e
  obtain ⟨fb', fb3⟩ := and2 fb
  obtain ⟨fb1, fb2⟩ := and2 fb'
  have ck : ∀ c, c < l.nc → ClK K l c := fun c hc => clB_ok (e6 c (List.mem_range.mpr hc))
  have kok : KOk (l.gl0 K) := kok_of ck
  have hx : ∀ c, c < l.xs.length → xcB K l c = true := fun c hc => e3 c (List.mem_range.mpr hc)
  have hd0 : ∀ i x, l.at_[i]? = some x → ∃ fd ps, (fns[i]?.map fun d => d.params.args.map (·.arg)) = some ps ∧ DefOk (l.gl0 K) l.R l.gl l.fn l.fk l.xc l.xm l.cl i (l.np i) (He.fAd K x) fd ps ∧ (∀ (s : Shared) (us : List Value), us.length = ps.length → BindsTo s fd ⟨us, []⟩ (ps.zip us)) ∧ ∀ (m : Nat) (ks : List PySem.Str) (perm : List Nat) (us ws : List Value), KwsOk ps m ks perm → us.length = m → ws.length = ks.length → bindArgs fd ⟨us, ks.zip ws⟩ = pure (ps.zip (permL (us ++ ws) perm)) := by
    intro i x hi
    obtain ⟨f, d, h1, h2, h3, h4⟩ := defsB_get B i _ hi
    obtain ⟨fd, F⟩ := S.def_ i h2
    rw [Nat.zero_add] at h4
    simp only [defB, Bool.and_eq_true, decide_eq_true_eq, List.isEmpty_iff] at h4
    obtain ⟨⟨⟨⟨⟨⟨⟨k1, k2⟩, k3⟩, k4⟩, k5⟩, k6⟩, k7⟩, k8⟩ := h4
    have hnp : l.np i = f.np := by unfold Ld.np; rw [h1]
    have hfa : He.fAd K d.at_ = He.fAd K x := by rw [h3]
    rw [hfa] at F
    have hdv : d.dvs K = [] := by unfold He.DefD.dvs; rw [k5]; rfl
    have hkw : d.kws K = [] := by unfold He.DefD.kws; rw [k6]; rfl
    rw [hdv, hkw] at F
    have hps : (d.params.args.map (·.arg)).length = d.params.args.length := List.length_map ..
    have hbd : ∀ us : List Value, us.length = (d.params.args.map (·.arg)).length → bindArgs fd ⟨us, []⟩ = pure ((d.params.args.map (·.arg)).zip us) := by
      intro us hl
      obtain ⟨oc, od, dV, kV, doc, pm, an, cdv, ct, osl, rfl, lk, hcd, hD, hK⟩ := F.ex
      rcases hD with ⟨_, rfl⟩ | ⟨z, _⟩
      · exact bind_pos (plainArgs_eq k1) rfl k2 (by rw [hl, hps])
      · exact absurd rfl z
    refine ⟨fd, d.params.args.map (·.arg), by rw [h2]; rfl, ⟨?_, by rw [hps, k3, hnp], .all hbd, ?_⟩, fun s us hl => .of_eq (hbd us hl), fun m ks perm us ws hk hm hl => ?_⟩
    · exact ⟨f, d.name, d.qual, d.params, d.body, d.scope, nmsP f.ns, h1, hnp.symm, F, scB_ok k4, by unfold nmsP; rw [List.length_map], k7, fun hh => by rw [show l.hf.contains i = true from hh] at k8; exact k8⟩
    · exact F.kp
    · obtain ⟨oc, od, dV, kV, doc, pm, an, cdv, ct, osl, rfl, lk, hcd, hD, hK⟩ := F.ex
      rcases hD with ⟨_, rfl⟩ | ⟨z, _⟩
      · subst hm
        exact bind_kw (plainArgs_eq k1) rfl hk hl
      · exact absurd rfl z
  have hd : ∀ i x, l.at_[i]? = some (x, none) → ∃ fd ps, (fns[i]?.map fun d => d.params.args.map (·.arg)) = some ps ∧ mg x = some (.ref (He.ga K x)) ∧ DefOk (l.gl0 K) l.R l.gl l.fn l.fk l.xc l.xm l.cl i (l.np i) (He.ga K x) fd ps ∧ (∀ (s : Shared) (us : List Value), us.length = ps.length → BindsTo s fd ⟨us, []⟩ (ps.zip us)) ∧ ∀ (m : Nat) (ks : List PySem.Str) (perm : List Nat) (us ws : List Value), KwsOk ps m ks perm → us.length = m → ws.length = ks.length → bindArgs fd ⟨us, ks.zip ws⟩ = pure (ps.zip (permL (us ++ ws) perm)) := by
    intro i x hi
    obtain ⟨fd, ps, q1, q2, q3, q4⟩ := hd0 i _ hi
    have hg : mg x = some (.ref (He.ga K x)) := PySem.W.mg_of X N (by
      have := e5 _ (List.mem_of_getElem? hi)
      exact of_decide_eq_true this)
    exact ⟨fd, ps, q1, hg, q2, q3, q4⟩
  refine ⟨{ exn := rfl, xcl := ?_, xfo := ?_, xno := ?_, kok := kok, kts := rfl, blt := ?_, glb := ?_, fkw := ?_, fn := ?_, mkx := ?_, cfl := ?_, cls := ?_, meth := ?_, new := ?_, methk := ?_, newk := ?_ }, fun i x hi => (let ⟨fd, ps, m1, m2, m3, m4, _⟩ := hd i x hi; ⟨fd, ps, m1, m2, m3, m4⟩)⟩
  · intro x dd hl
    obtain ⟨i, z, q1, q2⟩ := enumFrom_mem (lookup_in hl)
    simp only [Nat.zero_add, Option.some.injEq, Prod.mk.injEq] at q2
    obtain ⟨rfl, rfl⟩ := q2
    have hi : i < l.xs.length := (List.getElem?_eq_some_iff.mp q1).1
    have en : l.nm i = z.1 := by unfold Ld.nm; rw [q1]
    have w := hx i hi
    simp only [xcB, Bool.and_eq_true, List.all_eq_true, decide_eq_true_eq] at w
    obtain ⟨⟨⟨⟨w1, w2⟩, w3⟩, w5⟩, w4⟩ := w
    refine ⟨?_, fun k hk => ?_, fun k hk => ?_⟩
    · rw [gl0_xa hi, ← en]
      exact PySem.W.mg_of X N w1
    · rw [gl0_xa hi, gl0_xa hk]
      exact (w4 k (List.mem_range.mpr hk)).1
    · rw [gl0_xa hi, gl0_xa hk]
      have u := hx k hk
      simp only [xcB, Bool.and_eq_true, List.all_eq_true, decide_eq_true_eq] at u
      exact ⟨(excCB_ok u.1.1.1.2).2, (w4 k (List.mem_range.mpr hk)).2⟩
  · intro c hc
    rw [gl0_xa hc]
    have u := hx c hc
    simp only [xcB, Bool.and_eq_true, List.all_eq_true, decide_eq_true_eq] at u
    exact ⟨(excCB_ok u.1.1.1.2).1, rfl, u.1.1.2⟩
  · intro c hc
    rw [gl0_xa hc]
    have u := hx c hc
    simp only [xcB, Bool.and_eq_true, List.all_eq_true, decide_eq_true_eq] at u
    exact ⟨(excCB_ok u.1.1.1.2).2, u.1.2⟩
  · intro x hxm
    exact PySem.W.mg_none_of X N (e2 x hxm)
  · intro x g hl
    obtain ⟨i, z, q1, q2⟩ := enumFrom_mem (lookup_in hl)
    simp only [Nat.zero_add, Option.some.injEq, Prod.mk.injEq] at q2
    obtain ⟨rfl, rfl⟩ := q2
    have eg : l.R.glb i = z.2 := by
      show (match l.glbs[i]? with
        | some (_, u) => u
        | none => .non) = z.2
      rw [q1]
    rw [eg]
    obtain ⟨v, w, m1, m2, m3⟩ := glbB_ok (G := l.gl0 K) X N (fun xs he => tupsOf_mem (x := z.1) (by rw [← he]; exact List.mem_of_getElem? q1)) (e1 z (List.mem_of_getElem? q1))
    exact ⟨v, w, m1, m2, m3⟩
  · intro x m ks f perm hl
    have hq := List.all_eq_true.mp fb1 _ (lookup_in hl)
    obtain ⟨hq1, hq2⟩ := and2 hq
    have hat : l.at_[f]? = some (x, none) := of_decide_eq_true hq1
    obtain ⟨fd, ps, m1, m2, D, _, m4⟩ := hd f x hat
    dsimp only at hq2
    obtain ⟨d, hd1, hd2⟩ := Option.map_eq_some_iff.mp m1
    rw [hd1] at hq2
    obtain ⟨hq3, hq4⟩ := and2 hq2
    have KO := kwsB_ok hq3
    rw [hd2] at KO
    refine ⟨l.np f, _, fd, ps, m2, D, ⟨fun s us ws _ l1 l2 => .of_eq (m4 m ks perm us ws KO l1 l2), fun r1 r2 => vals_perm (r1.append r2) perm⟩, fun us hu => ?_⟩
    rw [permL_len (fun i hi => by rw [hu]; exact KO.lt i hi)]
    exact of_decide_eq_true hq4
  · intro c f hf
    obtain ⟨k, y, rfl, h1, h2⟩ := flsOf_mem (show (c, f) ∈ flsOf 0 l.cs from hf)
    rw [Nat.zero_add]
    have hk : k < l.nc := (List.getElem?_eq_some_iff.mp h1).1
    rw [gl0_ca hk]
    exact (ck k hk).na f (by unfold Ld.cf; rw [h1]; exact h2)
  · intro x c f n hl
    obtain ⟨j, z, q1, q2⟩ := enumFrom_mem (lookup_in hl)
    obtain ⟨za, zb⟩ := z
    cases zb with
    | none => cases q2
    | some m =>
      dsimp only at q2
      split at q2
      · obtain ⟨c', hc, e⟩ := Option.map_eq_some_iff.mp q2
        cases e
        obtain ⟨k1, k2⟩ := ci_of hc
        refine ⟨k1, ?_⟩
        rw [gl0_ca k1, ← k2]
        exact PySem.W.mg_of X N (ck _ k1).g
      · cases q2
  · intro c m f n hl
    obtain ⟨j, z, q1, q2⟩ := enumFrom_mem (lookup_in hl)
    obtain ⟨za, zb⟩ := z
    cases zb with
    | none => cases q2
    | some m' =>
      dsimp only at q2
      obtain ⟨c', hc, e⟩ := Option.map_eq_some_iff.mp q2
      simp only [Nat.zero_add, Prod.mk.injEq] at e
      obtain ⟨⟨rfl, rfl⟩, rfl, rfl⟩ := e
      obtain ⟨k1, k2⟩ := ci_of hc
      obtain ⟨fd, ps, _, D, _⟩ := hd0 j _ q1
      have w := e5 _ (List.mem_of_getElem? q1)
      simp only [Bool.and_eq_true, decide_eq_true_eq] at w
      refine ⟨_, fd, ps, ?_, D⟩
      rw [gl0_ca k1, k2]
      exact ⟨w.1.1, w.1.2, w.2⟩
  · intro x c f n hl
    obtain ⟨j, z, q1, q2⟩ := enumFrom_mem (lookup_in hl)
    obtain ⟨za, zb⟩ := z
    cases zb with
    | none => cases q2
    | some m' =>
      dsimp only at q2
      split at q2
      · rename_i hm
        subst hm
        obtain ⟨c', hc, e⟩ := Option.map_eq_some_iff.mp q2
        simp only [Nat.zero_add, Prod.mk.injEq] at e
        obtain ⟨rfl, rfl, rfl, rfl⟩ := e
        obtain ⟨k1, k2⟩ := ci_of hc
        obtain ⟨fd, ps, _, D, _⟩ := hd0 j _ q1
        have w := e5 _ (List.mem_of_getElem? q1)
        simp only [Bool.and_eq_true, decide_eq_true_eq] at w
        refine ⟨_, fd, ps, ?_, D⟩
        rw [gl0_ca k1, k2]
        exact ⟨by have := (ck _ k1).mks; rwa [k2] at this, w.1.1, w.1.2, by have := (ck _ k1).kp; rwa [k2] at this⟩
      · cases q2
  · intro i m k ks f perm hl
    have hq := List.all_eq_true.mp fb2 _ (lookup_in hl)
    obtain ⟨hq, hq2⟩ := and2 hq
    obtain ⟨hq0, hq1⟩ := and2 hq
    have hi : i < l.nc := of_decide_eq_true hq0
    have hat : l.at_[f]? = some (l.cn i, some m) := of_decide_eq_true hq1
    obtain ⟨fd, ps, m1, D, _, m4⟩ := hd0 f _ hat
    dsimp only at hq2
    obtain ⟨d, hd1, hd2⟩ := Option.map_eq_some_iff.mp m1
    rw [hd1] at hq2
    obtain ⟨hq3, hq4⟩ := and2 hq2
    have KO := kwsB_ok hq3
    rw [hd2] at KO
    have w := e5 _ (List.mem_of_getElem? hat)
    simp only [Bool.and_eq_true, decide_eq_true_eq] at w
    refine ⟨l.np f, _, fd, ps, ?_, D, ⟨fun s us ws _ l1 l2 => .of_eq (m4 (k + 1) ks perm us ws KO l1 l2), fun r1 r2 => vals_perm (r1.append r2) perm⟩, fun us hu => ?_⟩
    · rw [gl0_ca hi]
      exact ⟨w.1.1, w.1.2, w.2⟩
    · rw [permL_len (fun i hi => by rw [hu]; exact KO.lt i hi)]
      exact of_decide_eq_true hq4
  · intro x k ks i f perm hl
    have hq := List.all_eq_true.mp fb3 _ (lookup_in hl)
    obtain ⟨hq, hq2⟩ := and2 hq
    obtain ⟨hq, hq1⟩ := and2 hq
    obtain ⟨hq0, hqn⟩ := and2 hq
    have hi : i < l.nc := of_decide_eq_true hq0
    have hn : l.cn i = x := of_decide_eq_true hqn
    have hat : l.at_[f]? = some (x, some ("__init__" : PySem.Str)) := of_decide_eq_true hq1
    obtain ⟨fd, ps, m1, D, _, m4⟩ := hd0 f _ hat
    dsimp only at hq2
    obtain ⟨d, hd1, hd2⟩ := Option.map_eq_some_iff.mp m1
    rw [hd1] at hq2
    obtain ⟨hq3, hq4⟩ := and2 hq2
    have KO := kwsB_ok hq3
    rw [hd2] at KO
    have w := e5 _ (List.mem_of_getElem? hat)
    simp only [Bool.and_eq_true, decide_eq_true_eq] at w
    refine ⟨hi, ?_, l.np f, _, fd, ps, ?_, D, ⟨fun s us ws _ l1 l2 => .of_eq (m4 (k + 1) ks (0 :: perm.map (· + 1)) us ws KO l1 l2), fun r1 r2 => vals_perm (r1.append r2) (0 :: perm.map (· + 1))⟩, fun us hu => ?_⟩
    · rw [gl0_ca hi, ← hn]
      exact PySem.W.mg_of X N (ck _ hi).g
    · rw [gl0_ca hi, hn]
      exact ⟨by have := (ck _ hi).mks; rwa [hn] at this, w.1.1, w.1.2, by have := (ck _ hi).kp; rwa [hn] at this⟩
    · rw [permL_len (fun j hj => by
        have := KO.lt (j + 1) (List.mem_cons_of_mem _ (List.mem_map.mpr ⟨j, hj, rfl⟩))
        omega)]
      exact of_decide_eq_true hq4
  · intro x i n hl
    obtain ⟨j, z, q1, q2⟩ := enumFrom_mem (lookup_in hl)
    obtain ⟨za, zb⟩ := z
    cases zb with
    | some _ => cases q2
    | none =>
      simp only [Nat.zero_add, Option.some.injEq, Prod.mk.injEq] at q2
      obtain ⟨rfl, rfl, rfl⟩ := q2
      obtain ⟨fd, ps, _, m1, m2, _, _⟩ := hd j za q1
      exact ⟨_, fd, ps, m1, m2⟩
  · intro x d hl
    have w := e4 _ (lookup_in hl)
    simp only [Bool.and_eq_true, decide_eq_true_eq] at w
    obtain ⟨⟨w1, w2⟩, w3⟩ := w
    obtain ⟨fI, cda, cc, T⟩ := xcMk_ok (prog := prog) X N t0 w3
    rw [gl0_xa w2, w1]
    exact ⟨fI, cda, cc, T⟩
end Pix
end
section
set_option Elab.async false
set_option linter.all false
set_option maxRecDepth 100000
set_option maxHeartbeats 1000000
/-! PixH3: the Hook of a law, and its walk from the own run. -/
namespace Pix
open PySem PySem.Spec PyProof.Rows L2
def kP (n : Nat) (g : Addr → Option Obj) : PySem.W.Frag := He.frG g (cStatics :: He.asD g n)
abbrev AlP : Type := He.AlD × Bool
def obsP (n : Nat) (fn : List He.DefD) (ex : PySem.W.Frag → Bool) (g : Addr → Option Obj) : AlP := (fun K => (He.obsD [] fn K, ex K)) (kP n g)
def hookP (n : Nat) (fn : List He.DefD) (ex : PySem.W.Frag → Bool) : PySem.W.Hook where
  α := AlP
  obs := fun s => obsP n fn ex s.heap.get?
  val := fun _ => (He.valD fn, true)
  says := fun _ h => ∃ K : PySem.W.Frag, K.In h ∧ He.SaysD [] fn K ∧ ex K = true
  of := fun _ s e => ⟨kP n s.heap.get?, He.frG_in, congrArg (fun z : AlP => z.1) e, congrArg (fun z : AlP => z.2) e⟩
  keeps := fun _ _ _ ⟨K, hK, c⟩ k => ⟨K, PySem.W.Frag.In.keeps hK k, c⟩
theorem obsP_eq {n : Nat} {fn : List He.DefD} {ex : PySem.W.Frag → Bool} {g : Addr → Option Obj} {s : Shared} (h : ∀ a, g a = s.heap.get? a) : obsP n fn ex g = (hookP n fn ex).obs s := by
  have e : g = s.heap.get? := funext h
  rw [e] <;> rfl
theorem hsim0 {G : Gl0} {H : L2.Hp} (hO : Only H) : HSim G ⟨[], H⟩ [] H where
  fz := fun _ _ h => h
  len := rfl
  nd := List.nodup_nil
  mf := fun a h => by cases h
  box := fun r o a h => by cases h
  und := fun a ⟨o, h⟩ x e => by
    rcases hO a with z | ⟨o2, xs, z⟩
    · rw [z] at e; cases e
    · rw [z] at e; cases e
theorem scr0 {K : PySem.W.Frag} {H : L2.Hp} {a : Addr} {vs : List V} (hO : Only H) (h : SqL K H a vs) : ScrAt K ⟨[], H⟩ a vs := by
  rcases h with h | h
  · rcases h with h | ⟨o, h⟩
    · rcases hO a with z | ⟨o2, xs, z⟩
      · rw [z] at h; cases h
      · rw [z] at h; cases h
    · exact .inl ⟨o, h⟩
  · exact .inr h
/-- nothing raised gets out -/
theorem cx0 {P : Program} {w : World} (H : L2.Hp) (s : Shared) (e : Value) (s' : Shared) (h : CX P w [] H s (fun _ _ _ => False) e s') : False := by
  obtain ⟨H', cls, d, oe, _, _, _, _, _, _, h⟩ := h
  first | exact h | exact h.elim | (simp at h)
theorem kok0 {l : Ld} {K : PySem.W.Frag} (h : l.nc = 0) : KOk (l.gl0 K) where
  cls := fun c hc => absurd hc (by show ¬ c < l.nc; omega)
  kty := fun c hc => absurd hc (by show ¬ c < l.nc; omega)
  kcc := fun c d hc => absurd hc (by show ¬ c < l.nc; omega)
  ktc := fun d hd => absurd hd (by show ¬ d < l.nc; omega)
/-- what a law's own run must say -/
def LawSays (ld : Ld) (k i : Nat) : Prop := ∀ ns : List Int, ns.length ≤ 63 → ∃ hp, callF ld.R k i [.scr ns] [] = .ok (.bl true) hp
theorem pix_walk {l : PySem.W.OpenLaw} {ld : Ld} {fns : List He.DefD} {m k i : Nat} {q : Program} {loose : List PySem.Str} {XP : (PySem.Str → Option Value) → Heap → Prop} {d : DefRec} {x : PySem.Str}
    (hn : l.most = some 63) (hdf : d.params.defaults = []) (hk : k ≤ 60) (t0 : (l.prog.main.scope.names.lookup ("super" : PySem.Str)).isSome = false) (hname : d.name = x)
    (B : defsB ld 0 ld.fns fns ld.at_ = true) (hi : ld.at_[i]? = some (x, none)) (hx : ∃ y, (fns[i]?.map fun d => d.params.args.map (·.arg)) = some [y])
    (fb : fkB ld fns = true)
    (pure_ : LawSays ld k i) :
    PySem.W.WalkO q loose XP (hookP m fns (exB ld l.prog.main.file)).says l.row.toRowW d [] (fun f vs => PySem.call f vs) := by
  refine Att.attach_call hn hdf fun w s₀ s₁ mg mb fa o pm cd doc a vs ns G Y ho hd hcd hmg hobj hints hlen hg => ?_
  obtain ⟨K, KX, c, ce⟩ := Y
  obtain ⟨T, hdefs⟩ := tab_of (prog := l.prog) KX G.T.g t0 ce c B fb
  obtain ⟨fd, ps, hps, hmg2, D, hb⟩ := hdefs i x hi
  obtain ⟨y, hy⟩ := hx
  rw [hy] at hps
  cases hps
  have e : fa = He.ga K x := by
    rw [hname, hmg2] at hmg
    cases hmg
    rfl
  subst e
  refine law_call (CX := CX l.prog w) (k := 2 * k) (x := y) (sp := spC (ld.gl0 K) (ld.np i) (callF ld.R k i)) KX G.T.g G.T.b G.T.builtins G.T.nolimit hg hobj hints (Nat.le_trans hlen (by decide)) ⟨rfl, ?_, ?_⟩ (fun base h1 h2 => all_ok T k i _ _ fd _ D) (fun s u => hb s [u] rfl) (fun H hO hS => ?_) fun H e s' h => cx0 H s₁ e s' h
  · show callerA.depth + 3 * (2 * k) + 5 < 1000
    have : callerA.depth ≤ 600 := by decide +kernel
    omega
  · show callerA.units + 16 * (2 * k) + 200 < 9900
    have : callerA.units ≤ 3000 := by decide +kernel
    omega
  · obtain ⟨hp, hc⟩ := pure_ ns hlen
    refine ⟨⟨[], H⟩, [.scr ns], [], hsim0 hO, .cons (.scr (scr0 hO hS)) .nil, ?_, ?_⟩
    · exact D.len
    · rw [hc]
      intro W' H' v _ _ r
      cases r
      rfl
end Pix
end
section
set_option Elab.async false
set_option linter.all false
set_option maxRecDepth 100000
set_option maxHeartbeats 0
namespace Pix
namespace K00
open PySem PySem.Spec PyProof.Rows L2
/-! ### the text -/
abbrev prg : Program := PySem.Challenge.pw_stillmay_k00_errors
def top (i : Nat) : Stmt := prg.main.body.getD i (.Pass ⟨0, 0, 0, 0⟩)
abbrev f__law_flow : Fn := ⟨1, ["_law_script", "_law_mixed", "_law_cell"], (.cons (.set 1 (.int 1)) (.cons (.for_ (.s 2) (.seq (.var 0)) (.cons (.set 1 (.bin .mod (.b1 .int (.bin .add (.bin .mul (.var 1) (.int 31)) (.b1 .int (.peek 2)))) (.int 2147483647))) .nil)) (.cons (.ret (.bx (.disp (.cons (.fr (.of (.peek 0))) (.cons (.int 0) (.cons (.int 0) (.cons (.int 0) (.cons (.var 1) (.cons (.int 0) .nil))))))))) .nil)))⟩
abbrev i__law_flow : Nat := 0
abbrev f__law_load : Fn := ⟨1, ["_law_flow_here", "_law_cell"], (.cons (.ite (.cmp .ge (.pix 0 (.int 1)) (.b1 .len (.pix 0 (.int 0)))) (.cons (.ixs (.var 0) (.int 2) (.int 40503)) (.cons (.ixs (.var 0) (.int 3) (.int 1000)) (.cons (.ixs (.var 0) (.int 5) (.int 1)) (.cons .ret0 .nil)))) .nil) (.cons (.set 1 (.b1 .int (.ix (.pix 0 (.int 0)) (.pix 0 (.int 1))))) (.cons (.ixs (.var 0) (.int 1) (.bin .add (.pix 0 (.int 1)) (.int 1))) (.cons (.ixs (.var 0) (.int 2) (.bin .fdiv (.b1 .abs (.peek 1)) (.int 2))) (.cons (.ixs (.var 0) (.int 3) (.int 60)) (.cons (.ixs (.var 0) (.int 5) (.bin .mod (.b1 .int (.peek 1)) (.int 2))) (.cons (.ite (.cmp .eq (.pix 0 (.int 5)) (.int 1)) (.cons (.ixs (.var 0) (.int 2) (.bin .mod (.b1 .int (.pix 0 (.int 2))) (.int 2147483629))) (.cons (.ixs (.var 0) (.int 3) (.int 6)) .nil)) .nil) .nil)))))))⟩
abbrev i__law_load : Nat := 1
abbrev f__law_draw : Fn := ⟨2, ["_law_flow_here", "_law_many", "_law_drawn"], (.cons (.ite (.cmp .eq (.pix 0 (.int 3)) (.int 0)) (.cons (.ex (.call 1 (.cons (.var 0) .nil))) .nil) .nil) (.cons (.ixs (.var 0) (.int 3) (.bin .sub (.pix 0 (.int 3)) (.int 1))) (.cons (.ite (.cmp .eq (.pix 0 (.int 5)) (.int 1)) (.cons (.ixs (.var 0) (.int 4) (.bin .mod (.b1 .int (.bin .add (.bin .add (.bin .mul (.pix 0 (.int 4)) (.int 48271)) (.pix 0 (.int 2))) (.int 12345))) (.int 2147483647))) (.cons (.ret (.bin .mod (.b1 .int (.bin .fdiv (.pix 0 (.int 4)) (.int 7))) (.b2 .max (.int 1) (.var 1)))) .nil)) .nil) (.cons (.set 2 (.bin .mod (.b1 .int (.pix 0 (.int 2))) (.b2 .max (.int 1) (.var 1)))) (.cons (.ixs (.var 0) (.int 2) (.bin .fdiv (.pix 0 (.int 2)) (.b2 .max (.int 1) (.var 1)))) (.cons (.ite (.cmp .eq (.pix 0 (.int 2)) (.int 0)) (.cons (.ixs (.var 0) (.int 3) (.int 0)) .nil) .nil) (.cons (.ret (.var 2)) .nil)))))))⟩
abbrev i__law_draw : Nat := 2
abbrev f__law_pick : Fn := ⟨2, ["_law_flow_here", "_law_things"], (.cons (.ret (.pix 1 (.call 2 (.cons (.var 0) (.cons (.b1 .len (.peek 1)) .nil))))) .nil)⟩
abbrev i__law_pick : Nat := 3
abbrev f__law_raise : Fn := ⟨2, ["_law_kind", "_law_given_here"], (.cons (.ite (.cmp .eq (.var 0) (.int 0)) (.cons (.rais 1 (.var 1)) .nil) .nil) (.cons (.ite (.cmp .eq (.var 0) (.int 1)) (.cons (.rais 2 (.var 1)) .nil) .nil) (.cons (.ite (.cmp .eq (.var 0) (.int 2)) (.cons (.rais 3 (.var 1)) .nil) .nil) (.cons (.ite (.cmp .eq (.var 0) (.int 3)) (.cons (.rais 4 (.var 1)) .nil) .nil) (.cons (.ite (.cmp .eq (.var 0) (.int 4)) (.cons (.rais 5 (.var 1)) .nil) .nil) (.cons (.ite (.cmp .eq (.var 0) (.int 5)) (.cons (.rais 6 (.var 1)) .nil) .nil) (.cons (.rais 7 (.var 1)) .nil)))))))⟩
abbrev i__law_raise : Nat := 4
abbrev f__law_same : Fn := ⟨2, ["_law_actual", "_law_due", "_law_k"], (.cons (.ite (.or (.isi (.var 1) [.tup]) (.isi (.var 1) [.lst])) (.cons (.ite (.or (.cmp .ne (.isi (.var 1) [.tup]) (.isi (.var 0) [.tup])) (.cmp .ne (.isi (.var 1) [.lst]) (.isi (.var 0) [.lst]))) (.cons (.ret (.bl false)) .nil) .nil) (.cons (.ret (.an (.cmp .eq (.b1 .len (.peek 0)) (.b1 .len (.peek 1))) (.b1 .all (.fr (.comp (.call 5 (.cons (.pix 0 (.var 2)) (.cons (.pix 1 (.var 2)) .nil))) (.s 2) (.rng1 (.b1 .len (.peek 1))) .no [2]))))) .nil)) .nil) (.cons (.ite (.isN false (.var 1)) (.cons (.ret (.isN false (.var 0))) .nil) .nil) (.cons (.ite (.isi (.var 1) [.str]) (.cons (.ret (.an (.isi (.var 0) [.str]) (.cmp .eq (.var 0) (.var 1)))) .nil) .nil) (.cons (.ite (.isi (.var 1) [.bool]) (.cons (.ret (.an (.isi (.var 0) [.bool]) (.cmp .eq (.var 0) (.var 1)))) .nil) .nil) (.cons (.ret (.an (.isi (.var 0) [.int]) (.an (.nt (.isi (.var 0) [.bool])) (.cmp .eq (.var 0) (.var 1))))) .nil)))))⟩
abbrev i__law_same : Nat := 5
abbrev f__law_kept : Fn := ⟨2, ["_law_kind", "_law_given_here", "e"], (.cons (.try_ (.cons (.ex (.call 4 (.cons (.var 0) (.cons (.var 1) .nil)))) .nil) (.cons 1 (some 2) (.cons (.ret (.an (.cmp .eq (.var 0) (.int 0)) (.call 5 (.cons (.excf 2 "at") (.cons (.var 1) .nil))))) .nil) (.cons 2 (some 2) (.cons (.ret (.an (.cmp .eq (.var 0) (.int 1)) (.call 5 (.cons (.excf 2 "number") (.cons (.var 1) .nil))))) .nil) (.cons 3 (some 2) (.cons (.ret (.an (.cmp .eq (.var 0) (.int 2)) (.call 5 (.cons (.excf 2 "name") (.cons (.var 1) .nil))))) .nil) (.cons 4 (some 2) (.cons (.ret (.an (.cmp .eq (.var 0) (.int 3)) (.call 5 (.cons (.excf 2 "at") (.cons (.var 1) .nil))))) .nil) (.cons 5 (some 2) (.cons (.ret (.an (.cmp .eq (.var 0) (.int 4)) (.call 5 (.cons (.excf 2 "at") (.cons (.var 1) .nil))))) .nil) (.cons 6 (some 2) (.cons (.ret (.an (.cmp .eq (.var 0) (.int 5)) (.call 5 (.cons (.excf 2 "word") (.cons (.var 1) .nil))))) .nil) (.cons 7 (some 2) (.cons (.ret (.an (.cmp .eq (.var 0) (.int 6)) (.call 5 (.cons (.excf 2 "word") (.cons (.var 1) .nil))))) .nil) .nil)))))))) (.cons (.ret (.bl false)) .nil))⟩
abbrev i__law_kept : Nat := 6
abbrev f__law_classes : Fn := ⟨2, ["_law_kind", "_law_given_here", "e", "_law_found", "_law_k"], (.cons (.try_ (.cons (.ex (.call 4 (.cons (.var 0) (.cons (.var 1) .nil)))) .nil) (.cons 0 (some 2) (.cons (.set 3 (.fr (.disp (.cons (.excis 2 [1]) (.cons (.excis 2 [2]) (.cons (.excis 2 [3]) (.cons (.excis 2 [4]) .nil))))))) (.cons (.set 3 (.bin .add (.var 3) (.fr (.disp (.cons (.excis 2 [5]) (.cons (.excis 2 [6]) (.cons (.excis 2 [7]) .nil))))))) (.cons (.ite (.excno 2) (.cons (.ret (.bl false)) .nil) .nil) (.cons (.ret (.cmp .eq (.var 3) (.fr (.comp (.cmp .eq (.var 4) (.var 0)) (.s 4) (.rng1 (.int 7)) .no [4])))) .nil)))) .nil)) (.cons (.ret (.bl false)) .nil))⟩
abbrev i__law_classes : Nat := 7
abbrev f__law_given : Fn := ⟨2, ["_law_flow_here", "_law_kind", "_law_number", "_law_things"], (.cons (.set 2 (.call 3 (.cons (.var 0) (.cons (.fr (.disp (.cons (.int 0) (.cons (.int 1) (.cons (.neg (.int 1)) (.cons (.call 2 (.cons (.var 0) (.cons (.int 100) .nil))) (.cons (.call 2 (.cons (.var 0) (.cons (.bin .pow (.int 10) (.int 30)) .nil))) (.cons (.bin .sub (.int 0) (.call 2 (.cons (.var 0) (.cons (.bin .pow (.int 10) (.int 9)) .nil)))) .nil)))))))) .nil)))) (.cons (.ite (.or (.cmp .eq (.var 1) (.int 1)) (.cmp .eq (.var 1) (.int 2))) (.cons (.set 3 (.fr (.disp (.cons (.var 2) (.cons .non (.cons (.str "ash") (.cons (.str "") (.cons (.tup .nil) (.cons (.tup (.cons (.var 2) (.cons (.str "elm") .nil))) (.cons (.fr (.disp (.cons (.var 2) .nil))) (.cons (.fr (.disp .nil)) (.cons (.fr (.disp (.cons (.str "elm") (.cons (.tup (.cons .non .nil)) .nil)))) (.cons (.bl true) (.cons (.bl false) .nil)))))))))))))) (.cons (.ret (.call 3 (.cons (.var 0) (.cons (.var 3) .nil)))) .nil)) .nil) (.cons (.ite (.cmp .gt (.var 1) (.int 4)) (.cons (.ret (.call 3 (.cons (.var 0) (.cons (.fr (.disp (.cons (.str "games") (.cons (.str "paper") (.cons (.str "undo") (.cons (.str "") (.cons (.str "a b") .nil))))))) .nil)))) .nil) .nil) (.cons (.ret (.var 2)) .nil))))⟩
abbrev i__law_given : Nat := 8
abbrev f_law : Fn := ⟨1, ["_law_script", "_law_flow_here", "_law_kind", "_law_turn", "_law_given_here"], (.cons (.set 1 (.call 0 (.cons (.var 0) .nil))) (.cons (.for_ (.s 2) (.rng1 (.int 7)) (.cons (.for_ (.s 3) (.rng1 (.int 2)) (.cons (.set 4 (.call 8 (.cons (.var 1) (.cons (.var 2) .nil)))) (.cons (.ite (.or (.nt (.call 6 (.cons (.var 2) (.cons (.var 4) .nil)))) (.nt (.call 7 (.cons (.var 2) (.cons (.var 4) .nil))))) (.cons (.ret (.bl false)) .nil) .nil) .nil))) .nil)) (.cons (.ret (.bl true)) .nil)))⟩
abbrev i_law : Nat := 9
def sub (s : Stmt) (j : Nat) : Stmt := match s with
  | .ClassDef _ _ _ b _ _ _ _ _ _ _ => b.getD j (.Pass ⟨0, 0, 0, 0⟩)
  | _ => .Pass ⟨0, 0, 0, 0⟩
def fnD : List He.DefD := ([
  ⟨("_law_flow", none), "_law_flow", "_law_flow", defArgs (top 10), defBody (top 10), defScope (top 10), [], []⟩, 
  ⟨("_law_load", none), "_law_load", "_law_load", defArgs (top 11), defBody (top 11), defScope (top 11), [], []⟩, 
  ⟨("_law_draw", none), "_law_draw", "_law_draw", defArgs (top 12), defBody (top 12), defScope (top 12), [], []⟩, 
  ⟨("_law_pick", none), "_law_pick", "_law_pick", defArgs (top 13), defBody (top 13), defScope (top 13), [], []⟩, 
  ⟨("_law_raise", none), "_law_raise", "_law_raise", defArgs (top 14), defBody (top 14), defScope (top 14), [], []⟩, 
  ⟨("_law_same", none), "_law_same", "_law_same", defArgs (top 15), defBody (top 15), defScope (top 15), [], []⟩, 
  ⟨("_law_kept", none), "_law_kept", "_law_kept", defArgs (top 16), defBody (top 16), defScope (top 16), [], []⟩, 
  ⟨("_law_classes", none), "_law_classes", "_law_classes", defArgs (top 17), defBody (top 17), defScope (top 17), [], []⟩, 
  ⟨("_law_given", none), "_law_given", "_law_given", defArgs (top 18), defBody (top 18), defScope (top 18), [], []⟩, 
  ⟨("law", none), "law", "law", defArgs (top 19), defBody (top 19), defScope (top 19), [], []⟩] : List (He.DefD))
def ld : Ld where
  fns := ([f__law_flow, f__law_load, f__law_draw, f__law_pick, f__law_raise, f__law_same, f__law_kept, f__law_classes, f__law_given, f_law] : List (Fn))
  at_ := ([("_law_flow", none), ("_law_load", none), ("_law_draw", none), ("_law_pick", none), ("_law_raise", none), ("_law_same", none), ("_law_kept", none), ("_law_classes", none), ("_law_given", none), ("law", none)] : List (PySem.Str × Option PySem.Str))
  glbs := []
  xs := [("LeagueError", 0, ""), ("BadValue", 0, "at"), ("BadGame", 0, "number"), ("BadSide", 0, "name"), ("BadPaper", 0, "at"), ("BadLine", 0, "at"), ("TooMany", 0, "word"), ("NothingThere", 0, "word")]
  xm := [("BadValue", 1), ("BadGame", 2), ("BadSide", 3), ("BadPaper", 4), ("BadLine", 5), ("TooMany", 6), ("NothingThere", 7)]
  fk := []
  hf := [5]
theorem dB : defsB ld 0 ld.fns fnD ld.at_ = true := by decide +kernel
theorem kB : fkB ld fnD = true := by decide +kernel
/-! ### the head -/
abbrev Rw : PySem.W.OpenRow := PySem.W.OpenLaw.row PySem.Challenge.rw_stillmay_k00_errors
abbrev hk : PySem.W.Hook := hookP 5 fnD (exB ld prg.main.file)
def ob (s : PySem.W.SharedT) : AlP := obsP 5 fnD (exB ld prg.main.file) (HandSHeadRun.getT s)
theorem ob_eq (s : PySem.W.SharedT) : ob s = hk.obs s.abs := obsP_eq (HandSHeadRun.getT_eq s)
def loose : List PySem.Str := (["LeagueError", "BadValue", "BadGame", "BadSide", "BadPaper", "BadLine", "TooMany", "NothingThere", "_law_flow", "_law_load", "_law_draw", "_law_pick"] : List (PySem.Str)) ++ (["_law_raise", "_law_same", "_law_kept", "_law_classes", "_law_given"] : List (PySem.Str))
theorem run (w : World) : HandSHeadRun.RunEq Rw (PySem.W.view Rw.prog [19]) hk ob 60000 loose w := by
  intro os
  kernel_rfl
end K00
end Pix
open PySem PySem.W PySem.Calls PyProof.Rows
theorem K00_of (pure_ : Pix.LawSays Pix.K00.ld 7 9) : PySem.Challenge.rw_stillmay_k00_errors.Holds := by
  w_on; o_law
  refine HandSHeadRun.head_any (r := OpenLaw.row PySem.Challenge.rw_stillmay_k00_errors) (q := view (OpenLaw.row PySem.Challenge.rw_stillmay_k00_errors).prog [19]) (H := Pix.K00.hk) (ob := Pix.K00.ob) (M := 60000) (loose := Pix.K00.loose) (d := HandSHeadRun.topDef (OpenLaw.row PySem.Challenge.rw_stillmay_k00_errors).prog 19) (kwd := []) Pix.K00.ob_eq
    (by kernel_rfl) (fun s => by kernel_rfl) Pix.K00.run (by kernel_rfl) (by kernel_rfl) (by kernel_rfl) (by rfl) (by first | assumption | decide +kernel) (by decide +kernel) ⟨rfl, rfl, rfl, rfl, rfl, by decide +kernel⟩ ?hw ?hc
  case hw => w_witness2
  case hc =>
    exact Pix.pix_walk (l := PySem.Challenge.rw_stillmay_k00_errors) (ld := Pix.K00.ld) (fns := Pix.K00.fnD) (m := 5) (k := 7) (i := 9) (x := "law") rfl (by kernel_rfl) (by decide) (by kernel_rfl) (by kernel_rfl) Pix.K00.dB (by rfl) ⟨"_law_script", by kernel_rfl⟩ Pix.K00.kB pure_
end
section
set_option Elab.async false
set_option linter.all false
set_option maxRecDepth 100000
set_option maxHeartbeats 1000000
/-! the draws of k01, k02, k03 -/
namespace Pix
namespace K00
local macro_rules | `(tactic| fail "gB") => `(tactic| first
  | with_reducible refine S_cons ?_ | with_reducible refine S_nil ?_ | ((with_reducible refine H_yes ?_ ?_ ?_ ?_); exact Nat.le_of_ble_eq_true rfl; exact rfl; exact rfl; dsimp only [hold, List.set]))
local macro_rules | `(tactic| fail "gK") => `(tactic| first
  | with_reducible refine KC_nx ?_ | with_reducible refine KC_rt ?_ | with_reducible refine KC_ex ?_
  | with_reducible refine K_nx ?_ | with_reducible refine K_rt ?_ | with_reducible refine K_bk ?_ | with_reducible refine K_ct ?_ | with_reducible refine K_ex ?_)
local macro_rules | `(tactic| fail "gS") => `(tactic| ((with_reducible refine g_S ?_); first
  | with_reducible refine S_set ?_ | with_reducible refine S_ret ?_ | with_reducible refine S_ite ?_ | with_reducible refine S_own ?_ | with_reducible refine S_ret0 ?_ | with_reducible refine S_ex ?_
  | with_reducible refine S_rais ?_ | with_reducible refine S_pass ?_ | with_reducible refine S_brk ?_ | with_reducible refine S_cont ?_ | with_reducible refine S_augI ?_ | with_reducible refine S_ixs ?_ | with_reducible refine S_setT ?_
  | with_reducible refine S_for ?_ | with_reducible refine S_try ?_ | with_reducible refine S_fls ?_ | with_reducible refine S_augF ?_
  | ((with_reducible refine S_augX ?_); apply exAnd; exact rfl)
  | with_reducible refine S_par ?_ | ((with_reducible refine S_oapp ?_ ?_); exact rfl) | ((with_reducible refine S_oext ?_ ?_); exact rfl) | ((with_reducible refine S_oixs ?_ ?_); exact rfl)))
local macro_rules | `(tactic| fail "gE") => `(tactic| ((with_reducible refine g_E ?_); first
  | ((with_reducible refine W_varX ?_); apply exAnd; exact rfl) | with_reducible refine W_int ?_
  | with_reducible refine W_bin ?_ | with_reducible refine W_cmp ?_ | with_reducible refine W_call ?_
  | ((with_reducible refine W_pixVX ?_); apply exAnd; exact rfl) | ((with_reducible refine W_peekX ?_); apply exAnd; exact rfl) | with_reducible refine W_b1 ?_ | with_reducible refine W_an ?_ | with_reducible refine W_or ?_ | with_reducible refine W_nt ?_
  | with_reducible refine W_str ?_ | with_reducible refine W_bl ?_ | with_reducible refine W_non ?_
  | with_reducible refine W_ix ?_ | with_reducible refine W_isi ?_ | with_reducible refine W_tup ?_ | with_reducible refine W_fr ?_ | with_reducible refine W_bx ?_
  | ((with_reducible refine W_varoX ?_); apply exAnd; exact rfl) | ((with_reducible refine W_peekoX ?_); apply exAnd; exact rfl) | ((with_reducible refine W_pixOX ?_); apply exAnd; exact rfl)
  | with_reducible refine W_chain ?_ | with_reducible refine W_isN ?_ | with_reducible refine W_ite ?_ | with_reducible refine W_neg ?_
  | ((with_reducible refine W_pinVX ?_); apply exAnd; exact rfl) | ((with_reducible refine W_pinOX ?_); apply exAnd; exact rfl) | ((with_reducible refine W_pslVX ?_); apply exAnd; exact rfl) | ((with_reducible refine W_pslOX ?_); apply exAnd; exact rfl)
  | with_reducible refine W_sl ?_ | with_reducible refine W_rev ?_ | with_reducible refine W_b2 ?_ | with_reducible refine W_lset ?_ | with_reducible refine W_callK ?_ | with_reducible refine W_idx ?_ | with_reducible refine W_fld ?_ | with_reducible refine W_upper ?_
  | with_reducible refine W_frd ?_ | with_reducible refine W_bxd ?_ | with_reducible refine W_app ?_ | with_reducible refine W_pop0 ?_ | ((with_reducible refine W_opop1 ?_ ?_); exact rfl)
  | ((with_reducible refine W_excfX ?_); refine ⟨(_, _), rfl, ⟨Nat.le_of_ble_eq_true rfl, rfl⟩, ?_⟩) | ((with_reducible refine W_excisX ?_); refine ⟨(_, _), rfl, Nat.le_of_ble_eq_true rfl, ?_⟩)
  | with_reducible refine W_new ?_ | with_reducible refine W_newK ?_ | with_reducible refine W_meth ?_ | with_reducible refine W_methK ?_))
local macro_rules | `(tactic| fail "gX") => `(tactic| first
  | with_reducible refine Ws_nil ?_ | with_reducible refine Ws_cons ?_ | with_reducible refine Wo_no ?_ | with_reducible refine Wo_so ?_ | with_reducible refine Wt_no ?_ | with_reducible refine Wt_so ?_
  | with_reducible refine Wf_disp ?_ | with_reducible refine Wf_comp ?_ | with_reducible refine Wf_of ?_ | with_reducible refine Wf_srt ?_ | with_reducible refine Wf_rep ?_
  | with_reducible refine Wi_seq ?_ | with_reducible refine Wi_rng1 ?_ | with_reducible refine Wi_rng2 ?_ | with_reducible refine Wi_enum ?_
  | with_reducible refine L_ofl ?_ | with_reducible refine L_oft ?_ | with_reducible refine L_ofs ?_ | with_reducible refine L_ofc ?_)
local macro_rules | `(tactic| fail "gL") => `(tactic| first
  | ((with_reducible refine g_bin ?_); first | with_reducible refine L_add ?_ | with_reducible refine L_sub ?_ | ((with_reducible refine L_mod ?_ ?_); first | assumption | decide +kernel) | ((with_reducible refine L_mulr ?_ ?_); first | assumption | decide +kernel) | ((with_reducible refine L_mull ?_ ?_); first | assumption | decide +kernel) | ((with_reducible refine L_fdiv ?_ ?_); first | assumption | decide +kernel) | ((with_reducible refine L_pow ?_ ?_); decide +kernel))
  | ((with_reducible refine g_cmp ?_); first | with_reducible refine L_lt ?_ | with_reducible refine L_le ?_ | with_reducible refine L_gt ?_ | with_reducible refine L_ge ?_ | with_reducible refine L_eqi ?_ | with_reducible refine L_nei ?_ | with_reducible refine L_ins ?_ | with_reducible refine L_eqb ?_ | with_reducible refine L_neb ?_ | with_reducible refine L_eqs ?_ | with_reducible refine L_nes ?_)
  | ((with_reducible refine g_b1 ?_); first | with_reducible refine L_inti ?_ | with_reducible refine L_intb ?_ | ((with_reducible refine L_lenX ?_); apply exAnd; exact rfl) | with_reducible refine L_abs ?_ | with_reducible refine L_tupt ?_ | with_reducible refine L_tupl ?_)
  | ((with_reducible refine g_tst ?_); first | with_reducible refine W_tstb ?_ | with_reducible refine W_tsti ?_ | with_reducible refine W_tsts ?_ | with_reducible refine W_tstl ?_ | with_reducible refine W_tstt ?_ | with_reducible refine W_tstn ?_)
  | ((with_reducible refine L_ixtX ?_); apply exAnd; exact rfl) | ((with_reducible refine L_ixlX ?_); apply exAnd; exact rfl) | ((with_reducible refine L_ixqX ?_); apply exAnd; exact rfl)
  | ((with_reducible refine L_ixrX ?_); apply exAnd; (first | assumption | exact rfl); apply exAnd; exact rfl)
  | with_reducible refine L_cuts ?_ | with_reducible refine L_cutt ?_ | with_reducible refine L_cutl ?_ | with_reducible refine L_max2 ?_ | with_reducible refine L_min2 ?_
  | with_reducible refine L_augi ?_ | with_reducible refine L_augs ?_
  | ((with_reducible refine L_sset2X ?_); apply exAnd; (first | assumption | exact rfl); apply exAnd; exact rfl; intro _ _ _))
local macro_rules | `(tactic| fail "gP") => `(tactic| first
  | ((with_reducible refine g_Br ?_); first | with_reducible refine Br.tt ?_ | with_reducible refine Br.ff ?_ | with_reducible refine Br.not ?_ | with_reducible refine Br.dself ?_ | ((with_reducible apply Br.eqy); exact rfl) | ((with_reducible apply Br.eqn); exact rfl) | ((with_reducible apply Br.isy); exact rfl) | ((with_reducible apply Br.isn); exact rfl) | ((with_reducible apply Br.suby); exact rfl) | ((with_reducible apply Br.subn); exact rfl) | ((with_reducible apply Br.nuy); exact rfl) | ((with_reducible apply Br.nun); exact rfl) | ((with_reducible apply Br.yes); assumption) | ((with_reducible apply Br.no); assumption))
  | with_reducible refine ifT ?_
  | ((with_reducible refine ltAnd ?_ ?_); exact rfl; dsimp only [List.set]) | ((with_reducible refine And.intro ?_ ?_); exact rfl)
  | ((with_reducible refine g_Ex ?_); first | ((with_reducible apply exAnd); exact rfl) | ((with_reducible apply exAnd2); exact rfl; exact rfl)))
local macro_rules | `(tactic| fail "ev") => `(tactic| repeat (first | fail "gE" | fail "gL" | fail "gX" | fail "gK" | fail "gB" | fail "gS" | fail "gP" | ((try dsimp only); fail "cl")))
local macro_rules | `(tactic| fail "es") => `(tactic| repeat' (first | fail "gE" | fail "gL" | fail "gX" | fail "gK" | fail "gB" | fail "gS" | fail "gP" | ((try dsimp only); fail "cl") | (with_reducible refine Br.split (fun _ => ?_) (fun _ => ?_))))
/-- a state that draws -/
def Fk (o : O) : Prop := ∃ (cells : List Int) (p v c m f : Int), o = .lst [.lst (cells.map .int), .int p, .int v, .int c, .int m, .int f] ∧ 0 ≤ p
theorem load_W {k : Nat} {hp : Hp} {r : Nat} {o : O} {Q : U → Hp → Prop} {X : Nat → U → Hp → Prop} (ho : hp[r]? = some o) (t : Fk o)
    (hQ : ∀ o', Fk o' → Q .non (hp.set r o')) : (callF ld.R (k + 1) i__law_load [.ref r] hp).W Q X := by
  obtain ⟨cells, p, v, c, m, f, rfl, hp0⟩ := t
  refine W_enter (f := f__law_load) rfl rfl ?_
  show (evB _ _ ⟨[.val (.ref r), .emp], hp⟩).W _
  fail "es"
  · subst_vars
    simp only [List.set_set]
    exact hQ _ ⟨_, _, _, _, _, _, rfl, hp0⟩
  · rename_i h1
    have h2 : p < cells.length := by have := of_decide_eq_false h1; rw [List.length_map] at this; omega
    obtain ⟨x, hx, _, _⟩ := atL_some hp0 h2
    with_reducible refine L_ixl (atL_map hx) ?_
    fail "es"
    all_goals subst_vars
    all_goals simp only [List.set_set]
    all_goals exact hQ _ ⟨_, _, _, _, _, _, rfl, by omega⟩
set_option maxHeartbeats 400000 in
theorem draw_W {k : Nat} {lim : Int} {hp : Hp} {r : Nat} {o : O} {Q : U → Hp → Prop} {X : Nat → U → Hp → Prop} (hl : 0 < lim ∧ lim < 2 ^ 200) (ho : hp[r]? = some o) (t : Fk o)
    (hQ : ∀ v o', Fk o' → 0 ≤ v → v < lim → Q (.int v) (hp.set r o')) : (callF ld.R (k + 2) i__law_draw [.ref r, .int lim] hp).W Q X := by
  have hl1 : 0 < lim := hl.1
  have e1 : (if lim > 1 then lim else 1) = lim := by split <;> omega
  have m1 : ∀ z : Int, 0 ≤ z % lim := fun z => Int.emod_nonneg z (by omega)
  have m2 : ∀ z : Int, z % lim < lim := fun z => Int.emod_lt_of_pos z hl.1
  have key : ∀ (o : O) (hp : Hp), hp[r]? = some o → Fk o → (∀ v o', Fk o' → 0 ≤ v → v < lim → Q (.int v) (hp.set r o')) → (evB (pxOf ld.R (k + 1)) (match f__law_draw.body with | .cons _ b => b | .nil => .nil) ⟨[.val (.ref r), .val (.int lim), .emp], hp⟩).W (kC Q X) := by
    intro o hp ho t hQ
    obtain ⟨cells, p, v, c, m, f, rfl, hp0⟩ := t
    fail "es"
    · rw [e1]
      fail "es"
      subst_vars
      simp only [List.set_set]
      exact hQ _ _ ⟨_, _, _, _, _, _, rfl, hp0⟩ (m1 _) (m2 _)
    · rw [e1]
      fail "es"
      rw [e1]
      fail "es"
      all_goals subst_vars
      all_goals simp only [List.set_set]
      all_goals exact hQ _ _ ⟨_, _, _, _, _, _, rfl, hp0⟩ (m1 _) (m2 _)
  refine W_enter (f := f__law_draw) rfl rfl ?_
  show (evB _ _ ⟨[.val (.ref r), .val (.int lim), .emp], hp⟩).W _
  obtain ⟨cells, p, v, c, m, f, rfl, hp0⟩ := t
  fail "ev"
  with_reducible refine Br.split (fun _ => ?_) (fun _ => ?_)
  · have t0 : Fk (O.lst [U.lst (List.map U.int cells), U.int p, U.int v, U.int c, U.int m, U.int f]) := ⟨_, _, _, _, _, _, rfl, hp0⟩
    fail "ev"
    with_reducible refine load_W ho t0 fun o' t' => ?_
    dsimp only
    try fail "gK"
    fail "gB"
    try fail "gK"
    refine key o' (hp.set r o') (by rw [List.getElem?_set_self (List.getElem?_eq_some_iff.mp ho).1]) t' fun v o2 t2 h1 h2 => ?_
    rw [List.set_set]
    exact hQ v o2 t2 h1 h2
  · fail "gB"
    fail "gK"
    exact key _ hp ho ⟨_, _, _, _, _, _, rfl, hp0⟩ hQ
theorem draw0 {k : Nat} {lim : Int} {rest : Hp} {o : O} {Q : U → Hp → Prop} {X : Nat → U → Hp → Prop} (hl : 0 < lim ∧ lim < 2 ^ 200) (t : Fk o)
    (hQ : ∀ v o', Fk o' → 0 ≤ v → v < lim → Q (.int v) (o' :: rest)) : (callF ld.R (k + 2) i__law_draw [.ref 0, .int lim] (o :: rest)).W Q X :=
  draw_W hl rfl t fun v o' t' h1 h2 => hQ v o' t' h1 h2
theorem flow_W {k : Nat} {ns : List Int} {Q : U → Hp → Prop} {X : Nat → U → Hp → Prop} (hQ : ∀ o, Fk o → Q (.ref 0) [o]) : (callF ld.R (k + 1) i__law_flow [.scr ns] []).W Q X := by
  refine W_enter (f := f__law_flow) rfl rfl ?_
  show (evB _ _ ⟨[.val (.scr ns), .emp, .emp], []⟩).W _
  fail "ev"
  refine W_forL (fun i s => ∃ z c, s = ⟨[.val (.scr ns), .val (.int z), c], []⟩) ⟨_, _, rfl⟩ (fun i x s hx ⟨z, c, hs⟩ => ?_) (fun s ⟨z, c, hs⟩ => ?_)
  · subst hs
    obtain ⟨y, hy, rfl⟩ := Option.map_eq_some_iff.mp (by rw [← List.getElem?_map]; exact hx)
    refine ⟨_, rfl, ?_⟩
    dsimp only [List.set]
    fail "ev"
    exact ⟨_, _, rfl⟩
  · subst hs
    fail "ev"
    exact hQ _ ⟨_, _, _, _, _, _, rfl, Int.le_refl _⟩
/-- one of a list's things -/
theorem pick0 {k : Nat} {xs : List U} {rest : Hp} {o : O} {Q : U → Hp → Prop} {X : Nat → U → Hp → Prop} (hl : 0 < xs.length ∧ xs.length < 2 ^ 60) (t : Fk o)
    (hQ : ∀ v o', Fk o' → v ∈ xs → Q v (o' :: rest)) : (callF ld.R (k + 3) i__law_pick [.ref 0, .lst xs] (o :: rest)).W Q X := by
  refine W_enter (f := f__law_pick) rfl rfl ?_
  show (evB _ _ ⟨[.val (.ref 0), .val (.lst xs)], o :: rest⟩).W _
  fail "ev"
  with_reducible refine draw0 ⟨by omega, by omega⟩ t fun v o' t' h1 h2 => ?_
  fail "ev"
  obtain ⟨x, hx, hm, _⟩ := atL_some h1 h2
  with_reducible refine L_ixl hx ?_
  fail "gK"
  exact hQ x o' t' hm
end K00
end Pix
end
section
set_option Elab.async false
set_option linter.all false
set_option maxRecDepth 100000
set_option maxHeartbeats 1000000
namespace Pix
namespace K00
local macro_rules | `(tactic| fail "gB") => `(tactic| first
  | with_reducible refine S_cons ?_ | with_reducible refine S_nil ?_ | ((with_reducible refine H_yes ?_ ?_ ?_ ?_); exact Nat.le_of_ble_eq_true rfl; exact rfl; exact rfl; dsimp only [hold, List.set]))
local macro_rules | `(tactic| fail "gK") => `(tactic| first
  | with_reducible refine KC_nx ?_ | with_reducible refine KC_rt ?_ | with_reducible refine KC_ex ?_
  | with_reducible refine K_nx ?_ | with_reducible refine K_rt ?_ | with_reducible refine K_bk ?_ | with_reducible refine K_ct ?_ | with_reducible refine K_ex ?_)
local macro_rules | `(tactic| fail "gS") => `(tactic| ((with_reducible refine g_S ?_); first
  | with_reducible refine S_set ?_ | with_reducible refine S_ret ?_ | with_reducible refine S_ite ?_ | with_reducible refine S_own ?_ | with_reducible refine S_ret0 ?_ | with_reducible refine S_ex ?_
  | with_reducible refine S_rais ?_ | with_reducible refine S_pass ?_ | with_reducible refine S_brk ?_ | with_reducible refine S_cont ?_ | with_reducible refine S_augI ?_ | with_reducible refine S_ixs ?_ | with_reducible refine S_setT ?_
  | with_reducible refine S_for ?_ | with_reducible refine S_try ?_ | with_reducible refine S_fls ?_ | with_reducible refine S_augF ?_
  | ((with_reducible refine S_augX ?_); apply exAnd; exact rfl)
  | with_reducible refine S_par ?_ | ((with_reducible refine S_oapp ?_ ?_); exact rfl) | ((with_reducible refine S_oext ?_ ?_); exact rfl) | ((with_reducible refine S_oixs ?_ ?_); exact rfl)))
local macro_rules | `(tactic| fail "gE") => `(tactic| ((with_reducible refine g_E ?_); first
  | ((with_reducible refine W_varX ?_); apply exAnd; exact rfl) | with_reducible refine W_int ?_
  | with_reducible refine W_bin ?_ | with_reducible refine W_cmp ?_ | with_reducible refine W_call ?_
  | ((with_reducible refine W_pixVX ?_); apply exAnd; exact rfl) | ((with_reducible refine W_peekX ?_); apply exAnd; exact rfl) | with_reducible refine W_b1 ?_ | with_reducible refine W_an ?_ | with_reducible refine W_or ?_ | with_reducible refine W_nt ?_
  | with_reducible refine W_str ?_ | with_reducible refine W_bl ?_ | with_reducible refine W_non ?_
  | with_reducible refine W_ix ?_ | with_reducible refine W_isi ?_ | with_reducible refine W_tup ?_ | with_reducible refine W_fr ?_ | with_reducible refine W_bx ?_
  | ((with_reducible refine W_varoX ?_); apply exAnd; exact rfl) | ((with_reducible refine W_peekoX ?_); apply exAnd; exact rfl) | ((with_reducible refine W_pixOX ?_); apply exAnd; exact rfl)
  | with_reducible refine W_chain ?_ | with_reducible refine W_isN ?_ | with_reducible refine W_ite ?_ | with_reducible refine W_neg ?_
  | ((with_reducible refine W_pinVX ?_); apply exAnd; exact rfl) | ((with_reducible refine W_pinOX ?_); apply exAnd; exact rfl) | ((with_reducible refine W_pslVX ?_); apply exAnd; exact rfl) | ((with_reducible refine W_pslOX ?_); apply exAnd; exact rfl)
  | with_reducible refine W_sl ?_ | with_reducible refine W_rev ?_ | with_reducible refine W_b2 ?_ | with_reducible refine W_lset ?_ | with_reducible refine W_callK ?_ | with_reducible refine W_idx ?_ | with_reducible refine W_fld ?_ | with_reducible refine W_upper ?_
  | with_reducible refine W_frd ?_ | with_reducible refine W_bxd ?_ | with_reducible refine W_app ?_ | with_reducible refine W_pop0 ?_ | ((with_reducible refine W_opop1 ?_ ?_); exact rfl)
  | ((with_reducible refine W_excfX ?_); refine ⟨(_, _), rfl, ⟨Nat.le_of_ble_eq_true rfl, rfl⟩, ?_⟩) | ((with_reducible refine W_excisX ?_); refine ⟨(_, _), rfl, Nat.le_of_ble_eq_true rfl, ?_⟩)
  | with_reducible refine W_new ?_ | with_reducible refine W_newK ?_ | with_reducible refine W_meth ?_ | with_reducible refine W_methK ?_))
local macro_rules | `(tactic| fail "gX") => `(tactic| first
  | with_reducible refine Ws_nil ?_ | with_reducible refine Ws_cons ?_ | with_reducible refine Wo_no ?_ | with_reducible refine Wo_so ?_ | with_reducible refine Wt_no ?_ | with_reducible refine Wt_so ?_
  | with_reducible refine Wf_disp ?_ | with_reducible refine Wf_comp ?_ | with_reducible refine Wf_of ?_ | with_reducible refine Wf_srt ?_ | with_reducible refine Wf_rep ?_
  | with_reducible refine Wi_seq ?_ | with_reducible refine Wi_rng1 ?_ | with_reducible refine Wi_rng2 ?_ | with_reducible refine Wi_enum ?_
  | with_reducible refine L_ofl ?_ | with_reducible refine L_oft ?_ | with_reducible refine L_ofs ?_ | with_reducible refine L_ofc ?_)
local macro_rules | `(tactic| fail "gL") => `(tactic| first
  | ((with_reducible refine g_bin ?_); first | with_reducible refine L_add ?_ | with_reducible refine L_sub ?_ | ((with_reducible refine L_mod ?_ ?_); first | assumption | decide +kernel) | ((with_reducible refine L_mulr ?_ ?_); first | assumption | decide +kernel) | ((with_reducible refine L_mull ?_ ?_); first | assumption | decide +kernel) | ((with_reducible refine L_fdiv ?_ ?_); first | assumption | decide +kernel) | ((with_reducible refine L_pow ?_ ?_); decide +kernel))
  | ((with_reducible refine g_cmp ?_); first | with_reducible refine L_lt ?_ | with_reducible refine L_le ?_ | with_reducible refine L_gt ?_ | with_reducible refine L_ge ?_ | with_reducible refine L_eqi ?_ | with_reducible refine L_nei ?_ | with_reducible refine L_ins ?_ | with_reducible refine L_eqb ?_ | with_reducible refine L_neb ?_ | with_reducible refine L_eqs ?_ | with_reducible refine L_nes ?_)
  | ((with_reducible refine g_b1 ?_); first | with_reducible refine L_inti ?_ | with_reducible refine L_intb ?_ | ((with_reducible refine L_lenX ?_); apply exAnd; exact rfl) | with_reducible refine L_abs ?_ | with_reducible refine L_tupt ?_ | with_reducible refine L_tupl ?_)
  | ((with_reducible refine g_tst ?_); first | with_reducible refine W_tstb ?_ | with_reducible refine W_tsti ?_ | with_reducible refine W_tsts ?_ | with_reducible refine W_tstl ?_ | with_reducible refine W_tstt ?_ | with_reducible refine W_tstn ?_)
  | ((with_reducible refine L_ixtX ?_); apply exAnd; exact rfl) | ((with_reducible refine L_ixlX ?_); apply exAnd; exact rfl) | ((with_reducible refine L_ixqX ?_); apply exAnd; exact rfl)
  | ((with_reducible refine L_ixrX ?_); apply exAnd; (first | assumption | exact rfl); apply exAnd; exact rfl)
  | with_reducible refine L_cuts ?_ | with_reducible refine L_cutt ?_ | with_reducible refine L_cutl ?_ | with_reducible refine L_max2 ?_ | with_reducible refine L_min2 ?_
  | with_reducible refine L_augi ?_ | with_reducible refine L_augs ?_
  | ((with_reducible refine L_sset2X ?_); apply exAnd; (first | assumption | exact rfl); apply exAnd; exact rfl; intro _ _ _))
local macro_rules | `(tactic| fail "gP") => `(tactic| first
  | ((with_reducible refine g_Br ?_); first | with_reducible refine Br.tt ?_ | with_reducible refine Br.ff ?_ | with_reducible refine Br.not ?_ | with_reducible refine Br.dself ?_ | ((with_reducible apply Br.eqy); exact rfl) | ((with_reducible apply Br.eqn); exact rfl) | ((with_reducible apply Br.isy); exact rfl) | ((with_reducible apply Br.isn); exact rfl) | ((with_reducible apply Br.suby); exact rfl) | ((with_reducible apply Br.subn); exact rfl) | ((with_reducible apply Br.nuy); exact rfl) | ((with_reducible apply Br.nun); exact rfl) | ((with_reducible apply Br.yes); assumption) | ((with_reducible apply Br.no); assumption))
  | with_reducible refine ifT ?_
  | ((with_reducible refine ltAnd ?_ ?_); exact rfl; dsimp only [List.set]) | ((with_reducible refine And.intro ?_ ?_); exact rfl)
  | ((with_reducible refine g_Ex ?_); first | ((with_reducible apply exAnd); exact rfl) | ((with_reducible apply exAnd2); exact rfl; exact rfl)))
local macro_rules | `(tactic| fail "ev") => `(tactic| repeat (first | fail "gE" | fail "gL" | fail "gX" | fail "gK" | fail "gB" | fail "gS" | fail "gP" | ((try dsimp only); fail "cl")))
local macro_rules | `(tactic| fail "es") => `(tactic| repeat' (first | fail "gE" | fail "gL" | fail "gX" | fail "gK" | fail "gB" | fail "gS" | fail "gP" | ((try dsimp only); fail "cl") | (with_reducible refine Br.split (fun _ => ?_) (fun _ => ?_))))
end K00
end Pix
end
section
set_option Elab.async false
set_option linter.all false
set_option maxRecDepth 100000
set_option maxHeartbeats 1000000
namespace Pix
namespace K00
local macro_rules | `(tactic| fail "gB") => `(tactic| first
  | with_reducible refine S_cons ?_ | with_reducible refine S_nil ?_ | ((with_reducible refine H_yes ?_ ?_ ?_ ?_); exact Nat.le_of_ble_eq_true rfl; exact rfl; exact rfl; dsimp only [hold, List.set]))
local macro_rules | `(tactic| fail "gK") => `(tactic| first
  | with_reducible refine KC_nx ?_ | with_reducible refine KC_rt ?_ | with_reducible refine KC_ex ?_
  | with_reducible refine K_nx ?_ | with_reducible refine K_rt ?_ | with_reducible refine K_bk ?_ | with_reducible refine K_ct ?_ | with_reducible refine K_ex ?_)
local macro_rules | `(tactic| fail "gS") => `(tactic| ((with_reducible refine g_S ?_); first
  | with_reducible refine S_set ?_ | with_reducible refine S_ret ?_ | with_reducible refine S_ite ?_ | with_reducible refine S_own ?_ | with_reducible refine S_ret0 ?_ | with_reducible refine S_ex ?_
  | with_reducible refine S_rais ?_ | with_reducible refine S_pass ?_ | with_reducible refine S_brk ?_ | with_reducible refine S_cont ?_ | with_reducible refine S_augI ?_ | with_reducible refine S_ixs ?_ | with_reducible refine S_setT ?_
  | with_reducible refine S_for ?_ | with_reducible refine S_try ?_ | with_reducible refine S_fls ?_ | with_reducible refine S_augF ?_
  | ((with_reducible refine S_augX ?_); apply exAnd; exact rfl)
  | with_reducible refine S_par ?_ | ((with_reducible refine S_oapp ?_ ?_); exact rfl) | ((with_reducible refine S_oext ?_ ?_); exact rfl) | ((with_reducible refine S_oixs ?_ ?_); exact rfl)))
local macro_rules | `(tactic| fail "gE") => `(tactic| ((with_reducible refine g_E ?_); first
  | ((with_reducible refine W_varX ?_); apply exAnd; exact rfl) | with_reducible refine W_int ?_
  | with_reducible refine W_bin ?_ | with_reducible refine W_cmp ?_ | with_reducible refine W_call ?_
  | ((with_reducible refine W_pixVX ?_); apply exAnd; exact rfl) | ((with_reducible refine W_peekX ?_); apply exAnd; exact rfl) | with_reducible refine W_b1 ?_ | with_reducible refine W_an ?_ | with_reducible refine W_or ?_ | with_reducible refine W_nt ?_
  | with_reducible refine W_str ?_ | with_reducible refine W_bl ?_ | with_reducible refine W_non ?_
  | with_reducible refine W_ix ?_ | with_reducible refine W_isi ?_ | with_reducible refine W_tup ?_ | with_reducible refine W_fr ?_ | with_reducible refine W_bx ?_
  | ((with_reducible refine W_varoX ?_); apply exAnd; exact rfl) | ((with_reducible refine W_peekoX ?_); apply exAnd; exact rfl) | ((with_reducible refine W_pixOX ?_); apply exAnd; exact rfl)
  | with_reducible refine W_chain ?_ | with_reducible refine W_isN ?_ | with_reducible refine W_ite ?_ | with_reducible refine W_neg ?_
  | ((with_reducible refine W_pinVX ?_); apply exAnd; exact rfl) | ((with_reducible refine W_pinOX ?_); apply exAnd; exact rfl) | ((with_reducible refine W_pslVX ?_); apply exAnd; exact rfl) | ((with_reducible refine W_pslOX ?_); apply exAnd; exact rfl)
  | with_reducible refine W_sl ?_ | with_reducible refine W_rev ?_ | with_reducible refine W_b2 ?_ | with_reducible refine W_lset ?_ | with_reducible refine W_callK ?_ | with_reducible refine W_idx ?_ | with_reducible refine W_fld ?_ | with_reducible refine W_upper ?_
  | with_reducible refine W_frd ?_ | with_reducible refine W_bxd ?_ | with_reducible refine W_app ?_ | with_reducible refine W_pop0 ?_ | ((with_reducible refine W_opop1 ?_ ?_); exact rfl)
  | ((with_reducible refine W_excfX ?_); refine ⟨(_, _), rfl, ⟨Nat.le_of_ble_eq_true rfl, rfl⟩, ?_⟩) | ((with_reducible refine W_excisX ?_); refine ⟨(_, _), rfl, Nat.le_of_ble_eq_true rfl, ?_⟩)
  | with_reducible refine W_new ?_ | with_reducible refine W_newK ?_ | with_reducible refine W_meth ?_ | with_reducible refine W_methK ?_))
local macro_rules | `(tactic| fail "gX") => `(tactic| first
  | with_reducible refine Ws_nil ?_ | with_reducible refine Ws_cons ?_ | with_reducible refine Wo_no ?_ | with_reducible refine Wo_so ?_ | with_reducible refine Wt_no ?_ | with_reducible refine Wt_so ?_
  | with_reducible refine Wf_disp ?_ | with_reducible refine Wf_comp ?_ | with_reducible refine Wf_of ?_ | with_reducible refine Wf_srt ?_ | with_reducible refine Wf_rep ?_
  | with_reducible refine Wi_seq ?_ | with_reducible refine Wi_rng1 ?_ | with_reducible refine Wi_rng2 ?_ | with_reducible refine Wi_enum ?_
  | with_reducible refine L_ofl ?_ | with_reducible refine L_oft ?_ | with_reducible refine L_ofs ?_ | with_reducible refine L_ofc ?_)
local macro_rules | `(tactic| fail "gL") => `(tactic| first
  | ((with_reducible refine g_bin ?_); first | with_reducible refine L_add ?_ | with_reducible refine L_sub ?_ | ((with_reducible refine L_mod ?_ ?_); first | assumption | decide +kernel) | ((with_reducible refine L_mulr ?_ ?_); first | assumption | decide +kernel) | ((with_reducible refine L_mull ?_ ?_); first | assumption | decide +kernel) | ((with_reducible refine L_fdiv ?_ ?_); first | assumption | decide +kernel) | ((with_reducible refine L_pow ?_ ?_); decide +kernel))
  | ((with_reducible refine g_cmp ?_); first | with_reducible refine L_lt ?_ | with_reducible refine L_le ?_ | with_reducible refine L_gt ?_ | with_reducible refine L_ge ?_ | with_reducible refine L_eqi ?_ | with_reducible refine L_nei ?_ | with_reducible refine L_ins ?_ | with_reducible refine L_eqb ?_ | with_reducible refine L_neb ?_ | with_reducible refine L_eqs ?_ | with_reducible refine L_nes ?_)
  | ((with_reducible refine g_b1 ?_); first | with_reducible refine L_inti ?_ | with_reducible refine L_intb ?_ | ((with_reducible refine L_lenX ?_); apply exAnd; exact rfl) | with_reducible refine L_abs ?_ | with_reducible refine L_tupt ?_ | with_reducible refine L_tupl ?_)
  | ((with_reducible refine g_tst ?_); first | with_reducible refine W_tstb ?_ | with_reducible refine W_tsti ?_ | with_reducible refine W_tsts ?_ | with_reducible refine W_tstl ?_ | with_reducible refine W_tstt ?_ | with_reducible refine W_tstn ?_)
  | ((with_reducible refine L_ixtX ?_); apply exAnd; exact rfl) | ((with_reducible refine L_ixlX ?_); apply exAnd; exact rfl) | ((with_reducible refine L_ixqX ?_); apply exAnd; exact rfl)
  | ((with_reducible refine L_ixrX ?_); apply exAnd; (first | assumption | exact rfl); apply exAnd; exact rfl)
  | with_reducible refine L_cuts ?_ | with_reducible refine L_cutt ?_ | with_reducible refine L_cutl ?_ | with_reducible refine L_max2 ?_ | with_reducible refine L_min2 ?_
  | with_reducible refine L_augi ?_ | with_reducible refine L_augs ?_
  | ((with_reducible refine L_sset2X ?_); apply exAnd; (first | assumption | exact rfl); apply exAnd; exact rfl; intro _ _ _))
local macro_rules | `(tactic| fail "gP") => `(tactic| first
  | ((with_reducible refine g_Br ?_); first | with_reducible refine Br.tt ?_ | with_reducible refine Br.ff ?_ | with_reducible refine Br.not ?_ | with_reducible refine Br.dself ?_ | ((with_reducible apply Br.eqy); exact rfl) | ((with_reducible apply Br.eqn); exact rfl) | ((with_reducible apply Br.isy); exact rfl) | ((with_reducible apply Br.isn); exact rfl) | ((with_reducible apply Br.suby); exact rfl) | ((with_reducible apply Br.subn); exact rfl) | ((with_reducible apply Br.nuy); exact rfl) | ((with_reducible apply Br.nun); exact rfl) | ((with_reducible apply Br.yes); assumption) | ((with_reducible apply Br.no); assumption))
  | with_reducible refine ifT ?_
  | ((with_reducible refine ltAnd ?_ ?_); exact rfl; dsimp only [List.set]) | ((with_reducible refine And.intro ?_ ?_); exact rfl)
  | ((with_reducible refine g_Ex ?_); first | ((with_reducible apply exAnd); exact rfl) | ((with_reducible apply exAnd2); exact rfl; exact rfl)))
local macro_rules | `(tactic| fail "ev") => `(tactic| repeat (first | fail "gE" | fail "gL" | fail "gX" | fail "gK" | fail "gB" | fail "gS" | fail "gP" | ((try dsimp only); fail "cl")))
local macro_rules | `(tactic| fail "es") => `(tactic| repeat' (first | fail "gE" | fail "gL" | fail "gX" | fail "gK" | fail "gB" | fail "gS" | fail "gP" | ((try dsimp only); fail "cl") | (with_reducible refine Br.split (fun _ => ?_) (fun _ => ?_))))
local macro_rules | `(tactic| fail "cl") => `(tactic| first | ((with_reducible refine H_no ?_ ?_ ?_); exact Nat.le_of_ble_eq_true rfl; exact rfl) | ((with_reducible refine Br.yes ?_ ?_); decide +kernel) | ((with_reducible refine Br.no ?_ ?_); decide +kernel))
local macro_rules | `(tactic| fail "ek") => `(tactic| repeat (first | fail "gE" | fail "gL" | fail "gX" | fail "gB" | fail "gS" | fail "gP" | ((try dsimp only); fail "cl")))
theorem sz0 : SZ = 16777216 := rfl
theorem all_true {α : Type} : ∀ {xs : List α}, (xs.map fun _ => true).all id = true
  | [] => rfl
  | _ :: xs => by rw [List.map_cons, List.all_cons, all_true (xs := xs)]; rfl
set_option maxHeartbeats 400000 in
theorem same_ok {h : Hp} {u : U} : ∀ {n k : Nat}, Flat n u → n ≤ 20 → callF ld.R (k + n) i__law_same [u, u] h = .ok (.bl true) h
  | 0, k, f, _ => by cases f
  | n + 1, k, f, hn => by
    have fe : cmpH h .eq u u = some true := (f.mono hn).eqH
    refine Rc.W.eq (W_enter (k := k + n) (f := f__law_same) rfl rfl ?_)
    show (evB _ _ ⟨[.val u, .val u, .emp], h⟩).W _
    have key : ∀ xs : List U, (∀ x ∈ xs, Flat n x) → ∀ x ∈ rngL 0 1 ((xs.length : Nat) : Int).toNat, ∃ (i : Nat) (y : U), x = .int (i : Int) ∧ atL xs (i : Int) = some y ∧ callF ld.R (k + n) i__law_same [y, y] h = .ok (.bl true) h := by
      intro xs hx x e
      obtain ⟨i, e⟩ := List.getElem?_of_mem e
      obtain ⟨e1, e2⟩ := rng_get e
      rw [Int.zero_add] at e2
      have e3 : i < xs.length := by omega
      exact ⟨i, xs[i], e2, atL_nat (List.getElem?_eq_getElem e3), same_ok (hx _ (List.getElem_mem e3)) (by omega)⟩
    cases f with
    | non => fail "es"; rfl
    | bl b => fail "es"; exact ⟨by simp, rfl⟩
    | int i => fail "es"; exact ⟨by simp, rfl⟩
    | str x => fail "es"; exact ⟨by simp, rfl⟩
    | tup hl hx =>
      rename_i xs
      fail "es"
      refine ⟨⟨by have := sz0; omega, by omega⟩, ?_⟩
      refine comp_mapU (fun _ => .bl true) rfl (by rw [rngL_len]; have := sz0; omega) (fun z hz => ?_) ?_
      · obtain ⟨i, y, rfl, hy, hc⟩ := key xs hx z hz
        refine ⟨_, rfl, ?_⟩
        dsimp only [List.set]
        fail "es"
        with_reducible refine L_ixt hy ?_
        fail "es"
        with_reducible refine L_ixt hy ?_
        fail "es"
        refine Wc_eq hc ?_
        exact ⟨rfl, rfl, rfl⟩
      · with_reducible refine L_all (bs := List.map (fun _ => true) (rngL 0 1 ((xs.length : Nat) : Int).toNat)) ?_ ?_
        · rw [← blsOf_map, List.map_map]; rfl
        rw [all_true]
        fail "es"
        exact rfl
    | lst hl hx =>
      rename_i xs
      fail "es"
      refine ⟨⟨by have := sz0; omega, by omega⟩, ?_⟩
      refine comp_mapU (fun _ => .bl true) rfl (by rw [rngL_len]; have := sz0; omega) (fun z hz => ?_) ?_
      · obtain ⟨i, y, rfl, hy, hc⟩ := key xs hx z hz
        refine ⟨_, rfl, ?_⟩
        dsimp only [List.set]
        fail "es"
        with_reducible refine L_ixl hy ?_
        fail "es"
        with_reducible refine L_ixl hy ?_
        fail "es"
        refine Wc_eq hc ?_
        exact ⟨rfl, rfl, rfl⟩
      · with_reducible refine L_all (bs := List.map (fun _ => true) (rngL 0 1 ((xs.length : Nat) : Int).toNat)) ?_ ?_
        · rw [← blsOf_map, List.map_map]; rfl
        rw [all_true]
        fail "es"
        exact rfl
section
variable {k : Nat} {hp : Hp} {u : U} {Q : U → Hp → Prop} {X : Nat → U → Hp → Prop}
theorem raise_W {j : Nat} (hj : j < 7) (w : X (j + 1) u hp) : (callF ld.R (k + 1) i__law_raise [.int (j : Nat), u] hp).W Q X := by
  refine W_enter (f := f__law_raise) rfl rfl ?_
  show (evB _ _ ⟨[.val (.int (j : Nat)), .val u], hp⟩).W _
  match j, hj with
  | 0, _ => fail "ev"; exact w
  | 1, _ => fail "ev"; exact w
  | 2, _ => fail "ev"; exact w
  | 3, _ => fail "ev"; exact w
  | 4, _ => fail "ev"; exact w
  | 5, _ => fail "ev"; exact w
  | 6, _ => fail "ev"; exact w
theorem kept_W {j n : Nat} (hj : j < 7) (f : Flat n u) (hn : n ≤ 20) (w : Q (.bl true) hp) : (callF ld.R (k + n + 1) i__law_kept [.int (j : Nat), u] hp).W Q X := by
  refine W_enter (k := k + n) (f := f__law_kept) rfl rfl ?_
  show (evB _ _ ⟨[.val (.int (j : Nat)), .val u, .emp], hp⟩).W _
  have h0 : 0 < n := by cases f <;> exact Nat.succ_pos _
  have hk : ∃ m, k + n = m + 1 := ⟨k + n - 1, by omega⟩
  obtain ⟨m, hm⟩ := hk
  have hs : callF ld.R (m + 1) i__law_same [u, u] hp = .ok (.bl true) hp := by rw [← hm]; exact same_ok f hn
  rw [hm]
  fail "ek"
  refine raise_W hj ?_
  match j, hj with
  | 0, _ => fail "ev"; with_reducible refine Wc_eq hs ?_; fail "ev"; refine ⟨rfl, ?_⟩; fail "ev"; (try unfold gone); exact w
  | 1, _ => fail "ev"; with_reducible refine Wc_eq hs ?_; fail "ev"; refine ⟨rfl, ?_⟩; fail "ev"; (try unfold gone); exact w
  | 2, _ => fail "ev"; with_reducible refine Wc_eq hs ?_; fail "ev"; refine ⟨rfl, ?_⟩; fail "ev"; (try unfold gone); exact w
  | 3, _ => fail "ev"; with_reducible refine Wc_eq hs ?_; fail "ev"; refine ⟨rfl, ?_⟩; fail "ev"; (try unfold gone); exact w
  | 4, _ => fail "ev"; with_reducible refine Wc_eq hs ?_; fail "ev"; refine ⟨rfl, ?_⟩; fail "ev"; (try unfold gone); exact w
  | 5, _ => fail "ev"; with_reducible refine Wc_eq hs ?_; fail "ev"; refine ⟨rfl, ?_⟩; fail "ev"; (try unfold gone); exact w
  | 6, _ => fail "ev"; with_reducible refine Wc_eq hs ?_; fail "ev"; refine ⟨rfl, ?_⟩; fail "ev"; (try unfold gone); exact w
theorem rng_int {n : Nat} {z : U} (h : z ∈ rngL 0 1 n) : ∃ i : Int, z = .int i := by
  obtain ⟨i, e⟩ := List.getElem?_of_mem h
  obtain ⟨_, e2⟩ := rng_get e
  exact ⟨_, e2⟩
/-- k == kind -/
def eqJ (j : Nat) : U → U
  | .int i => .bl (decide (i = (j : Int)))
  | _ => .non
abbrev EQ (j : Nat) : List U := (rngL 0 1 7).map (eqJ j)
abbrev fl (c : Nat) : List U := [U.bl ([1].any fun d => ld.R.sub c d), U.bl ([2].any fun d => ld.R.sub c d), U.bl ([3].any fun d => ld.R.sub c d), U.bl ([4].any fun d => ld.R.sub c d)] ++ [U.bl ([5].any fun d => ld.R.sub c d), U.bl ([6].any fun d => ld.R.sub c d), U.bl ([7].any fun d => ld.R.sub c d)]
theorem fl_eq : ∀ {j : Nat}, j < 7 → fl (j + 1) = EQ j
  | 0, _ => rfl
  | 1, _ => rfl
  | 2, _ => rfl
  | 3, _ => rfl
  | 4, _ => rfl
  | 5, _ => rfl
  | 6, _ => rfl
theorem sub_0 : ∀ {j : Nat}, j < 7 → ld.R.sub (j + 1) 0 = true
  | 0, _ => rfl
  | 1, _ => rfl
  | 2, _ => rfl
  | 3, _ => rfl
  | 4, _ => rfl
  | 5, _ => rfl
  | 6, _ => rfl
theorem eq_flat {j : Nat} : Flat 2 (.lst (EQ j)) := .lst (by rw [List.length_map, rngL_len]; decide) fun x hx => by
  obtain ⟨z, hz, rfl⟩ := List.mem_map.mp hx
  obtain ⟨i, rfl⟩ := rng_int hz
  exact .bl _
local macro_rules | `(tactic| fail "cl") => `(tactic| first | ((with_reducible refine W_excisX ?_); refine ⟨(_, _), rfl, (by assumption), ?_⟩) | ((with_reducible refine W_excno ?_); refine ⟨(_, _), rfl, (by assumption), ?_⟩))
set_option maxHeartbeats 4000000 in
theorem classes_W {j : Nat} (hj : j < 7) (w : Q (.bl true) hp) : (callF ld.R (k + 2) i__law_classes [.int (j : Nat), u] hp).W Q X := by
  refine W_enter (f := f__law_classes) rfl rfl ?_
  show (evB _ _ ⟨[.val (.int (j : Nat)), .val u, .emp, .emp, .emp], hp⟩).W _
  have hlt : j + 1 < (pxOf ld.R (k + 1)).nx := by show j + 1 < 8; omega
  fail "ek"
  refine raise_W hj ?_
  fail "ev"
  with_reducible refine H_yes hlt (sub_0 hj) rfl ?_
  dsimp only [hold, List.set]
  fail "ev"
  with_reducible refine L_addl (Nat.le_of_ble_eq_true rfl) ?_
  have hf := fl_eq hj
  unfold fl at hf
  rw [hf]
  fail "ev"
  refine ⟨⟨by decide, by decide⟩, ?_⟩
  refine comp_mapU (zs := rngL 0 1 7) (eqJ j) rfl (by rw [rngL_len]; decide) (fun z hz => ?_) ?_
  · obtain ⟨i, rfl⟩ := rng_int hz
    refine ⟨_, rfl, ?_⟩
    try dsimp only [List.set]
    fail "ev"
    exact rfl
  fail "ev"
  have he : cmpH hp .eq (.lst (EQ j)) (.lst (EQ j)) = some true := Flat.eqH (h := hp) (eq_flat.mono (by decide))
  refine L_cmp (t := true) he ?_
  fail "ev"
  unfold gone
  exact w
end
end K00
end Pix
end
section
set_option Elab.async false
set_option linter.all false
set_option maxRecDepth 100000
set_option maxHeartbeats 1000000
namespace Pix
namespace K00
local macro_rules | `(tactic| fail "gB") => `(tactic| first
  | with_reducible refine S_cons ?_ | with_reducible refine S_nil ?_ | ((with_reducible refine H_yes ?_ ?_ ?_ ?_); exact Nat.le_of_ble_eq_true rfl; exact rfl; exact rfl; dsimp only [hold, List.set]))
local macro_rules | `(tactic| fail "gK") => `(tactic| first
  | with_reducible refine KC_nx ?_ | with_reducible refine KC_rt ?_ | with_reducible refine KC_ex ?_
  | with_reducible refine K_nx ?_ | with_reducible refine K_rt ?_ | with_reducible refine K_bk ?_ | with_reducible refine K_ct ?_ | with_reducible refine K_ex ?_)
local macro_rules | `(tactic| fail "gS") => `(tactic| ((with_reducible refine g_S ?_); first
  | with_reducible refine S_set ?_ | with_reducible refine S_ret ?_ | with_reducible refine S_ite ?_ | with_reducible refine S_own ?_ | with_reducible refine S_ret0 ?_ | with_reducible refine S_ex ?_
  | with_reducible refine S_rais ?_ | with_reducible refine S_pass ?_ | with_reducible refine S_brk ?_ | with_reducible refine S_cont ?_ | with_reducible refine S_augI ?_ | with_reducible refine S_ixs ?_ | with_reducible refine S_setT ?_
  | with_reducible refine S_for ?_ | with_reducible refine S_try ?_ | with_reducible refine S_fls ?_ | with_reducible refine S_augF ?_
  | ((with_reducible refine S_augX ?_); apply exAnd; exact rfl)
  | with_reducible refine S_par ?_ | ((with_reducible refine S_oapp ?_ ?_); exact rfl) | ((with_reducible refine S_oext ?_ ?_); exact rfl) | ((with_reducible refine S_oixs ?_ ?_); exact rfl)))
local macro_rules | `(tactic| fail "gE") => `(tactic| ((with_reducible refine g_E ?_); first
  | ((with_reducible refine W_varX ?_); apply exAnd; exact rfl) | with_reducible refine W_int ?_
  | with_reducible refine W_bin ?_ | with_reducible refine W_cmp ?_ | with_reducible refine W_call ?_
  | ((with_reducible refine W_pixVX ?_); apply exAnd; exact rfl) | ((with_reducible refine W_peekX ?_); apply exAnd; exact rfl) | with_reducible refine W_b1 ?_ | with_reducible refine W_an ?_ | with_reducible refine W_or ?_ | with_reducible refine W_nt ?_
  | with_reducible refine W_str ?_ | with_reducible refine W_bl ?_ | with_reducible refine W_non ?_
  | with_reducible refine W_ix ?_ | with_reducible refine W_isi ?_ | with_reducible refine W_tup ?_ | with_reducible refine W_fr ?_ | with_reducible refine W_bx ?_
  | ((with_reducible refine W_varoX ?_); apply exAnd; exact rfl) | ((with_reducible refine W_peekoX ?_); apply exAnd; exact rfl) | ((with_reducible refine W_pixOX ?_); apply exAnd; exact rfl)
  | with_reducible refine W_chain ?_ | with_reducible refine W_isN ?_ | with_reducible refine W_ite ?_ | with_reducible refine W_neg ?_
  | ((with_reducible refine W_pinVX ?_); apply exAnd; exact rfl) | ((with_reducible refine W_pinOX ?_); apply exAnd; exact rfl) | ((with_reducible refine W_pslVX ?_); apply exAnd; exact rfl) | ((with_reducible refine W_pslOX ?_); apply exAnd; exact rfl)
  | with_reducible refine W_sl ?_ | with_reducible refine W_rev ?_ | with_reducible refine W_b2 ?_ | with_reducible refine W_lset ?_ | with_reducible refine W_callK ?_ | with_reducible refine W_idx ?_ | with_reducible refine W_fld ?_ | with_reducible refine W_upper ?_
  | with_reducible refine W_frd ?_ | with_reducible refine W_bxd ?_ | with_reducible refine W_app ?_ | with_reducible refine W_pop0 ?_ | ((with_reducible refine W_opop1 ?_ ?_); exact rfl)
  | ((with_reducible refine W_excfX ?_); refine ⟨(_, _), rfl, ⟨Nat.le_of_ble_eq_true rfl, rfl⟩, ?_⟩) | ((with_reducible refine W_excisX ?_); refine ⟨(_, _), rfl, Nat.le_of_ble_eq_true rfl, ?_⟩)
  | with_reducible refine W_new ?_ | with_reducible refine W_newK ?_ | with_reducible refine W_meth ?_ | with_reducible refine W_methK ?_))
local macro_rules | `(tactic| fail "gX") => `(tactic| first
  | with_reducible refine Ws_nil ?_ | with_reducible refine Ws_cons ?_ | with_reducible refine Wo_no ?_ | with_reducible refine Wo_so ?_ | with_reducible refine Wt_no ?_ | with_reducible refine Wt_so ?_
  | with_reducible refine Wf_disp ?_ | with_reducible refine Wf_comp ?_ | with_reducible refine Wf_of ?_ | with_reducible refine Wf_srt ?_ | with_reducible refine Wf_rep ?_
  | with_reducible refine Wi_seq ?_ | with_reducible refine Wi_rng1 ?_ | with_reducible refine Wi_rng2 ?_ | with_reducible refine Wi_enum ?_
  | with_reducible refine L_ofl ?_ | with_reducible refine L_oft ?_ | with_reducible refine L_ofs ?_ | with_reducible refine L_ofc ?_)
local macro_rules | `(tactic| fail "gL") => `(tactic| first
  | ((with_reducible refine g_bin ?_); first | with_reducible refine L_add ?_ | with_reducible refine L_sub ?_ | ((with_reducible refine L_mod ?_ ?_); first | assumption | decide +kernel) | ((with_reducible refine L_mulr ?_ ?_); first | assumption | decide +kernel) | ((with_reducible refine L_mull ?_ ?_); first | assumption | decide +kernel) | ((with_reducible refine L_fdiv ?_ ?_); first | assumption | decide +kernel) | ((with_reducible refine L_pow ?_ ?_); decide +kernel))
  | ((with_reducible refine g_cmp ?_); first | with_reducible refine L_lt ?_ | with_reducible refine L_le ?_ | with_reducible refine L_gt ?_ | with_reducible refine L_ge ?_ | with_reducible refine L_eqi ?_ | with_reducible refine L_nei ?_ | with_reducible refine L_ins ?_ | with_reducible refine L_eqb ?_ | with_reducible refine L_neb ?_ | with_reducible refine L_eqs ?_ | with_reducible refine L_nes ?_)
  | ((with_reducible refine g_b1 ?_); first | with_reducible refine L_inti ?_ | with_reducible refine L_intb ?_ | ((with_reducible refine L_lenX ?_); apply exAnd; exact rfl) | with_reducible refine L_abs ?_ | with_reducible refine L_tupt ?_ | with_reducible refine L_tupl ?_)
  | ((with_reducible refine g_tst ?_); first | with_reducible refine W_tstb ?_ | with_reducible refine W_tsti ?_ | with_reducible refine W_tsts ?_ | with_reducible refine W_tstl ?_ | with_reducible refine W_tstt ?_ | with_reducible refine W_tstn ?_)
  | ((with_reducible refine L_ixtX ?_); apply exAnd; exact rfl) | ((with_reducible refine L_ixlX ?_); apply exAnd; exact rfl) | ((with_reducible refine L_ixqX ?_); apply exAnd; exact rfl)
  | ((with_reducible refine L_ixrX ?_); apply exAnd; (first | assumption | exact rfl); apply exAnd; exact rfl)
  | with_reducible refine L_cuts ?_ | with_reducible refine L_cutt ?_ | with_reducible refine L_cutl ?_ | with_reducible refine L_max2 ?_ | with_reducible refine L_min2 ?_
  | with_reducible refine L_augi ?_ | with_reducible refine L_augs ?_
  | ((with_reducible refine L_sset2X ?_); apply exAnd; (first | assumption | exact rfl); apply exAnd; exact rfl; intro _ _ _))
local macro_rules | `(tactic| fail "gP") => `(tactic| first
  | ((with_reducible refine g_Br ?_); first | with_reducible refine Br.tt ?_ | with_reducible refine Br.ff ?_ | with_reducible refine Br.not ?_ | with_reducible refine Br.dself ?_ | ((with_reducible apply Br.eqy); exact rfl) | ((with_reducible apply Br.eqn); exact rfl) | ((with_reducible apply Br.isy); exact rfl) | ((with_reducible apply Br.isn); exact rfl) | ((with_reducible apply Br.suby); exact rfl) | ((with_reducible apply Br.subn); exact rfl) | ((with_reducible apply Br.nuy); exact rfl) | ((with_reducible apply Br.nun); exact rfl) | ((with_reducible apply Br.yes); assumption) | ((with_reducible apply Br.no); assumption))
  | with_reducible refine ifT ?_
  | ((with_reducible refine ltAnd ?_ ?_); exact rfl; dsimp only [List.set]) | ((with_reducible refine And.intro ?_ ?_); exact rfl)
  | ((with_reducible refine g_Ex ?_); first | ((with_reducible apply exAnd); exact rfl) | ((with_reducible apply exAnd2); exact rfl; exact rfl)))
local macro_rules | `(tactic| fail "ev") => `(tactic| repeat (first | fail "gE" | fail "gL" | fail "gX" | fail "gK" | fail "gB" | fail "gS" | fail "gP" | ((try dsimp only); fail "cl")))
local macro_rules | `(tactic| fail "es") => `(tactic| repeat' (first | fail "gE" | fail "gL" | fail "gX" | fail "gK" | fail "gB" | fail "gS" | fail "gP" | ((try dsimp only); fail "cl") | (with_reducible refine Br.split (fun _ => ?_) (fun _ => ?_))))
local macro_rules | `(tactic| fail "cl") => `(tactic| first | ((with_reducible refine H_no ?_ ?_ ?_); exact Nat.le_of_ble_eq_true rfl; exact rfl) | ((with_reducible refine Br.yes ?_ ?_); decide +kernel) | ((with_reducible refine Br.no ?_ ?_); decide +kernel))
local macro_rules | `(tactic| fail "ek") => `(tactic| repeat (first | fail "gE" | fail "gL" | fail "gX" | fail "gB" | fail "gS" | fail "gP" | ((try dsimp only); fail "cl")))
theorem all_nil {P : U → Prop} : ∀ x ∈ ([] : List U), P x := fun x h => by cases h
theorem all_cons {P : U → Prop} {a : U} {l : List U} (h : P a) (h2 : ∀ x ∈ l, P x) : ∀ x ∈ a :: l, P x := fun x hx => by
  rcases List.mem_cons.mp hx with rfl | hx
  · exact h
  · exact h2 x hx
local macro_rules | `(tactic| fail "fl") => `(tactic| repeat' (first | exact all_nil | refine all_cons ?_ ?_ | exact .non | exact .bl _ | exact .int _ | exact .str _ | refine .tup (Nat.le_of_ble_eq_true rfl) ?_ | refine .lst (Nat.le_of_ble_eq_true rfl) ?_))
section
variable {k : Nat} {rest : Hp} {o : O} {Q : U → Hp → Prop} {X : Nat → U → Hp → Prop}
set_option maxHeartbeats 4000000 in
theorem given_W {j : Nat} (hj : j < 7) (t : Fk o) (hQ : ∀ v o', Fk o' → Flat 4 v → Q v (o' :: rest)) : (callF ld.R (k + 4) i__law_given [.ref 0, .int (j : Nat)] (o :: rest)).W Q X := by
  refine W_enter (f := f__law_given) rfl rfl ?_
  show (evB _ _ ⟨[.val (.ref 0), .val (.int (j : Nat)), .emp, .emp], o :: rest⟩).W _
  fail "ek"
  with_reducible refine draw0 ⟨by decide, by decide +kernel⟩ t fun a o1 t1 _ _ => ?_
  fail "ek"
  with_reducible refine draw0 ⟨by decide +kernel, by decide +kernel⟩ t1 fun b o2 t2 _ _ => ?_
  fail "ek"
  with_reducible refine draw0 ⟨by decide +kernel, by decide +kernel⟩ t2 fun c o3 t3 _ _ => ?_
  fail "ek"
  try dsimp only
  with_reducible refine pick0 ⟨Nat.le_of_ble_eq_true rfl, Nat.le_of_ble_eq_true rfl⟩ t3 fun v o4 t4 hv => ?_
  obtain ⟨z, rfl⟩ : ∃ z, v = U.int z := by
    simp only [List.mem_cons, List.not_mem_nil, or_false] at hv
    rcases hv with rfl | rfl | rfl | rfl | rfl | rfl <;> exact ⟨_, rfl⟩
  have things : ∀ x ∈ [U.int z, .non, .str (S "ash"), .str (S ""), .tup [], .tup [.int z, .str (S "elm")], .lst [.int z], .lst [], .lst [.str (S "elm"), .tup [.non]], .bl true, .bl false], Flat 4 x := by fail "fl"
  have words : ∀ x ∈ [U.str (S "games"), .str (S "paper"), .str (S "undo"), .str (S ""), .str (S "a b")], Flat 4 x := by fail "fl"
  rcases (by omega : j = 1 ∨ (j ≠ 1 ∧ j = 2) ∨ (j ≠ 1 ∧ j ≠ 2 ∧ 4 < j) ∨ (j ≠ 1 ∧ j ≠ 2 ∧ j ≤ 4)) with h | ⟨h, h2⟩ | ⟨h, h2, h4⟩ | ⟨h, h2, h4⟩
  · have e1 : decide ((j : Int) = 1) = true := decide_eq_true (by omega)
    fail "ek"
    try dsimp only
    with_reducible refine pick0 ⟨Nat.le_of_ble_eq_true rfl, Nat.le_of_ble_eq_true rfl⟩ t4 fun v o5 t5 hv => ?_
    fail "ev"
    exact hQ v o5 t5 (things v hv)
  · have e1 : decide ((j : Int) = 1) = false := decide_eq_false (by omega)
    have e2 : decide ((j : Int) = 2) = true := decide_eq_true (by omega)
    fail "ek"
    try dsimp only
    with_reducible refine pick0 ⟨Nat.le_of_ble_eq_true rfl, Nat.le_of_ble_eq_true rfl⟩ t4 fun v o5 t5 hv => ?_
    fail "ev"
    exact hQ v o5 t5 (things v hv)
  · have e1 : decide ((j : Int) = 1) = false := decide_eq_false (by omega)
    have e2 : decide ((j : Int) = 2) = false := decide_eq_false (by omega)
    fail "ek"
    with_reducible refine Br.yes (decide_eq_true (by omega)) ?_
    fail "ek"
    try dsimp only
    with_reducible refine pick0 ⟨Nat.le_of_ble_eq_true rfl, Nat.le_of_ble_eq_true rfl⟩ t4 fun v o5 t5 hv => ?_
    fail "ev"
    exact hQ v o5 t5 (words v hv)
  · have e1 : decide ((j : Int) = 1) = false := decide_eq_false (by omega)
    have e2 : decide ((j : Int) = 2) = false := decide_eq_false (by omega)
    fail "ek"
    with_reducible refine Br.no (decide_eq_false (by omega)) ?_
    fail "ev"
    exact hQ _ o4 t4 (.int _)
end
section
variable {k : Nat}
theorem law_W {ns : List Int} {Q : U → Hp → Prop} {X : Nat → U → Hp → Prop} (hQ : ∀ h, Q (.bl true) h) : (callF ld.R (k + 7) i_law [.scr ns] []).W Q X := by
  refine W_enter (f := f_law) rfl rfl ?_
  show (evB _ _ ⟨[.val (.scr ns), .emp, .emp, .emp, .emp], []⟩).W _
  fail "ek"
  with_reducible refine flow_W fun o t => ?_
  fail "ek"
  refine ⟨by decide, ?_⟩
  refine W_forL (fun i s => ∃ o x2 x3 x4, s = ⟨[.val (.scr ns), .val (.ref 0), x2, x3, x4], [o]⟩ ∧ Fk o) ⟨o, _, _, _, rfl, t⟩ (fun i x s he ⟨o, x2, x3, x4, es, t⟩ => ?_) (fun s ⟨o, x2, x3, x4, es, t⟩ => ?_)
  · subst es
    obtain ⟨hi, rfl⟩ := rng_get he
    rw [Int.zero_add]
    have hi7 : i < 7 := hi
    refine ⟨_, rfl, ?_⟩
    try dsimp only [List.set]
    fail "ek"
    refine ⟨by decide, ?_⟩
    refine W_forL (fun _ s => ∃ o x3 x4, s = ⟨[.val (.scr ns), .val (.ref 0), .val (.int (i : Nat)), x3, x4], [o]⟩ ∧ Fk o) ⟨o, _, _, rfl, t⟩ (fun m x s he ⟨o, x3, x4, es, t⟩ => ?_) (fun s ⟨o, x3, x4, es, t⟩ => ?_)
    · subst es
      refine ⟨_, rfl, ?_⟩
      try dsimp only [List.set]
      fail "ek"
      try dsimp only
      refine given_W (k := k + 2) hi7 t fun v o1 t1 fv => ?_
      fail "ek"
      try dsimp only
      refine kept_W (k := k + 1) (n := 4) hi7 fv (by decide) ?_
      fail "ek"
      try dsimp only
      refine classes_W (k := k + 4) hi7 ?_
      fail "ek"
      exact ⟨o1, _, _, rfl, t1⟩
    · subst es
      fail "ek"
      exact ⟨o, _, _, _, rfl, t⟩
  · subst es
    fail "ev"
    exact hQ _
end
theorem law_says : LawSays ld 7 9 := fun ns _ => by
  obtain ⟨v, h, e, rfl⟩ := (law_W (k := 0) (ns := ns) (Q := fun u _ => u = .bl true) (X := fun _ _ _ => False) fun _ => rfl).ex_ok
  exact ⟨h, e⟩
end K00
end Pix
end
set_option Elab.async false
set_option maxRecDepth 100000 in
set_option maxHeartbeats 8000000 in
theorem PySem.Challenge.cw_stillmay_k00_errors_holds : PySem.Challenge.rw_stillmay_k00_errors.Holds := by
  exact K00_of Pix.K00.law_says
