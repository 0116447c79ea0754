import PyProof.Rows.All
import Wide.All
import OpenK.AllK
import Wide.FinOn
import KE.DataEq
import KE.LtData
import KE.SortData
import KE.DataMinMax
import HandS.Base
import HandS.ForMost
import HandS.Exc
import HandS.Codes
import HandS.Lambda
import HandS.Nested
import HandS.Star
import HandS.TupAny
import HandS.TupMul
import HandS.Style
import HandS.Gcd
import HandS.IsInst
import HandS.Property
import HandS.Conv
import HandS.Zip
import KE.DataCmp
import KE.DataFind
import KE.KIndexOf
import KE.KDictSum
import KE.KDictZip
import HandS.Zip0
import KE.KDictDisplayH
import KE.GoesEnum
import HandS.NoneIn
import HandS.Small
import HandS.Words
import HandS.Defaults
import HandS.EndTab
import HandS.HeadHook4
import HandS.HeadWalk
import KE.KStateDown
import Lean
import HandS.Head3
import PySem.Challenge.RW_ownkinds_k51_whole_least_and_most_like_t
set_option Elab.async false
set_option linter.all false
set_option maxRecDepth 100000
/-! PLcore: a small language, its meaning over the library's data. Nothing of the model stands here. -/
namespace PL
open PySem

abbrev Val := PyData
/-- a text by its signs -/
def S (l : List Nat) : Str := ⟨l.toArray⟩

/-- a function that was handed in: its object, its code object, the name that this bears, what was frozen where it was made -/
structure Fz where
  a : Nat
  c : Nat
  q : Str
  G : Nat → Option L2.HO
inductive Slot where
  | u
  | v (x : Val)
  | L (xs : List Val)
  | D (t : Bool) (kvs : List (Val × Val))
  | LL (xss : List (List Val))
  | f (z : Fz)
abbrev Env := List Slot
abbrev M (α : Type) := Env → Option (α × Env)

def gs : Env → Nat → Slot
  | [], _ => .u
  | s :: _, 0 => s
  | _ :: r, n + 1 => gs r n
def ss : Env → Nat → Slot → Env
  | [], _, _ => []
  | _ :: r, 0, x => x :: r
  | s :: r, n + 1, x => s :: ss r n x
def ret {α : Type} (a : α) : M α := fun ρ => some (a, ρ)
def bnd {α β : Type} (m : M α) (f : α → M β) : M β := fun ρ => match m ρ with
  | none => none
  | some (a, ρ') => f a ρ'
def lft {α : Type} (o : Option α) : M α := fun ρ => match o with
  | none => none
  | some a => some (a, ρ)
def fail {α : Type} : M α := fun _ => none

/-! ### operations on data -/
inductive Bop where | add | sub | mul | mod | fdiv | pow
  deriving DecidableEq
inductive Cop where | eq | ne | lt | le | gt | ge | isin | notin | is_ | isnot
  deriving DecidableEq
inductive Ty where | int | bool | str | tuple | list | street
  deriving DecidableEq
inductive Bi where | len | int | abs | gcd | min | max | sum | all | any | sorted | tuple | list | dict | divmod
  deriving DecidableEq
inductive Me where | count | index | split
  deriving DecidableEq

def line : Nat := 16777216
/-- data without dicts, at most so deep -/
def pk : Nat → PyData → Bool
  | _, .none => true
  | _, .bool _ => true
  | _, .int _ => true
  | _, .str _ => true
  | 0, _ => false
  | n + 1, .list xs => xs.all (pk n)
  | n + 1, .tuple xs => xs.all (pk n)
  | _ + 1, .dict _ => false
/-- a street -/
def stV (parts : PyData) : PyData := .dict [(.none, parts)]
def partsOf : PyData → Option PyData
  | .dict [(.none, p)] => some p
  | _ => none

def repL {α : Type} (k : Nat) (xs : List α) : List α := (List.replicate k xs).flatten
def bopV : Bop → Val → Val → Option Val
  | .add, .int i, .int j => some (.int (i + j))
  | .add, .str x, .str y => if x.length + y.length ≤ line then some (.str (x ++ y)) else none
  | .add, .list xs, .list ys => if xs.length + ys.length ≤ line then some (.list (xs ++ ys)) else none
  | .add, .tuple xs, .tuple ys => if xs.length + ys.length ≤ line then some (.tuple (xs ++ ys)) else none
  | .sub, .int i, .int j => some (.int (i - j))
  | .mul, .int i, .int j => if (-(2 ^ 64) < i ∧ i < 2 ^ 64) ∨ (-(2 ^ 64) < j ∧ j < 2 ^ 64) then some (.int (i * j)) else none
  | .mul, .list xs, .int k => if 0 ≤ k ∧ k ≤ 1000 ∧ xs.length ≤ 1000 then some (.list (repL k.toNat xs)) else none
  | .mul, .tuple xs, .int k => if 1 ≤ k ∧ k ≤ 1000 ∧ xs.length ≤ 1000 ∧ xs ≠ [] then some (.tuple (repL k.toNat xs)) else none
  | .mul, .str x, .int k => if 1 ≤ k ∧ k ≤ 1000 ∧ x.length ≤ 1000 then some (.str (S (repL k.toNat x.cps.toList))) else none
  | .mod, .int i, .int j => if 0 < j then some (.int (i % j)) else none
  | .fdiv, .int i, .int j => if 0 < j ∧ j < 1073741824 then some (.int (i / j)) else none
  | .pow, .int i, .int j => if 0 ≤ j ∧ j ≤ 1000000 ∧ i.natAbs < 2 ^ 64 then some (.int (i ^ j.toNat)) else none
  | _, _, _ => none
def keyS : Val → Bool
  | .int _ => true
  | .str _ => true
  | _ => false
/-- the document's words, the rules: constants of the program -/
def wordsL : List Str := [S [97, 108, 108], S [97, 108, 105, 107, 101], S [97, 112, 97, 114, 116], S [98, 97, 99, 107], S [98, 101, 115, 105, 100, 101], S [98, 111, 111, 107], S [99, 97, 115, 101], S [99, 111, 110, 116, 101, 110, 116], S [102, 114, 101, 101], S [104, 111, 109, 101], S [105, 110], S [107, 105, 110, 100], S [108, 105, 107, 101], S [108, 111, 116], S [109, 105, 120, 101, 100], S [109, 111, 118, 101], S [110, 101, 119], S [110, 111, 110, 101], S [111, 102], S [111, 112, 101, 110], S [111, 117, 116], S [112, 97, 114, 116], S [112, 108, 97, 99, 101], S [113, 117, 105, 116], S [114, 101, 115, 116], S [114, 117, 108, 101], S [115, 101, 97, 116], S [115, 116, 97, 110, 100], S [115, 116, 101, 112], S [115, 116, 114, 101, 101, 116], S [115, 119, 97, 112], S [116, 97, 107, 101], S [116, 105, 101], S [117, 110, 100, 111], S [119, 97, 110, 116], S [119, 101, 98], S [121, 101, 115]]
def rulesL : List Str := [S [109, 111, 118, 101, 115], S [115, 119, 97, 112, 115], S [98, 111, 116, 104]]
/-- tuples that the module itself holds; they are never keys -/
def constL : List (List Val) := [[.int 0, .int 1], [.int 1, .int 1], wordsL.map .str, rulesL.map .str]
def kc (xs : List Val) : Bool := constL.any fun c => PyData.eqvAll c xs
/-- the kinds, a constant that is walked and looked into alone -/
def ctV (xs : List Val) : PyData := .dict [(.bool true, .tuple xs)]
/-- the script: read alone -/
def scrV (xs : List Val) : PyData := .dict [(.bool false, .list xs)]
/-- a def of the table, as a value -/
def gfV (k : Nat) : PyData := .dict [(.bool false, .int k)]
def keyT : Val → Bool
  | .tuple xs => xs.all keyS && !kc xs
  | _ => false
def keyOk (t : Bool) (k : Val) : Bool := if t then keyT k else keyS k
def dget (kvs : List (Val × Val)) (k : Val) : Option Val := (kvs.find? fun kv => PyData.eqv kv.1 k).map (·.2)
def dhas (kvs : List (Val × Val)) (k : Val) : Bool := kvs.any fun kv => PyData.eqv kv.1 k
def dput (kvs : List (Val × Val)) (k v : Val) : List (Val × Val) :=
  if dhas kvs k = true then kvs.map (fun kv => if PyData.eqv kv.1 k then (kv.1, v) else kv) else kvs ++ [(k, v)]
def dputs (kvs : List (Val × Val)) : List (Val × Val) → List (Val × Val)
  | [] => kvs
  | kv :: r => dputs (dput kvs kv.1 kv.2) r
/-- x in y -/
def inV (x : Val) : Val → Option Bool
  | .list ys => if pk 8 x && ys.all (pk 8) then some (ys.any fun y => PyData.eqv y x) else none
  | .tuple ys => if pk 8 x && ys.all (pk 8) then some (ys.any fun y => PyData.eqv y x) else none
  | .str z => match x with
    | .str w => match w.cps.toList with
      | [c] => some (z.cps.toList.contains c)
      | _ => none
    | _ => none
  | .dict [(.bool true, .tuple ys)] => if pk 8 x && ys.all (pk 8) then some (ys.any fun y => PyData.eqv y x) else none
  | .dict kvs => if !kvs.isEmpty && ((keyS x && kvs.all fun kv => keyS kv.1) || (keyT x && kvs.all fun kv => keyT kv.1)) then some (dhas kvs x) else none
  | _ => none
def isV : Val → Val → Option Bool
  | .none, .none => some true
  | .bool a, .bool b => some (a == b)
  | .bool _, .none => some false
  | .int _, .none => some false
  | .str _, .none => some false
  | .list _, .none => some false
  | .tuple _, .none => some false
  | .dict _, .none => some false
  | _, _ => none
def notNone : Val → Bool
  | .none => false
  | _ => true
def okLt (x y : Val) : Bool := pk 8 x && pk 8 y && PySem.W.alike x y && notNone x
def cmpV : Cop → Val → Val → Option Bool
  | .eq, x, y => if pk 8 x && pk 8 y then some (PyData.eqv x y) else none
  | .ne, x, y => if pk 8 x && pk 8 y then some (!PyData.eqv x y) else none
  | .lt, x, y => if okLt x y then some (PySem.W.dataLt x y) else none
  | .gt, x, y => if okLt x y then some (PySem.W.dataLt y x) else none
  | .le, x, y => if okLt x y then some (!PySem.W.dataLt y x) else none
  | .ge, x, y => if okLt x y then some (!PySem.W.dataLt x y) else none
  | .isin, x, y => inV x y
  | .notin, x, y => (inV x y).map not
  | .is_, x, y => isV x y
  | .isnot, x, y => (isV x y).map not
/-- the place of an index -/
def ixP (n : Nat) (i : Int) : Option Nat := if 0 ≤ i then (if i < n then some i.toNat else none) else if -(n : Int) ≤ i then some (i + n).toNat else none
def atP {α : Type} (xs : List α) (i : Int) : Option α := (ixP xs.length i).bind fun j => xs[j]?
def idxV : Val → Val → Option Val
  | .list xs, .int i => atP xs i
  | .tuple xs, .int i => atP xs i
  | .str z, .int i => if z.length ≤ line then (match atP z.cps.toList i with
    | some c => some (.str (S [c]))
    | none => none) else none
  | .dict [(.bool false, .list xs)], .int i => atP xs i
  | .dict kvs, k => if (keyS k && kvs.all fun kv => keyS kv.1) || (keyT k && kvs.all fun kv => keyT kv.1) then dget kvs k else none
  | _, _ => none
/-- the place of a slice's bound -/
def sIx (n d : Nat) : Option Int → Nat
  | none => d
  | some v => if v < 0 then (v + (n : Int)).toNat else min v.toNat n
def cutP {α : Type} (xs : List α) (lo hi : Option Int) : List α := (xs.drop (sIx xs.length 0 lo)).take (sIx xs.length xs.length hi - sIx xs.length 0 lo)
def slcV (lo hi : Option Int) : Val → Option Val
  | .list xs => some (.list (cutP xs lo hi))
  | .tuple xs => some (.tuple (cutP xs lo hi))
  | .str z => if z.length ≤ line then some (.str (S (cutP z.cps.toList lo hi))) else none
  | .dict [(.bool false, .list xs)] => some (.list (cutP xs lo hi))
  | _ => none
def isaB : Ty → Val → Bool
  | .int, .int _ => true
  | .int, .bool _ => true
  | .bool, .bool _ => true
  | .str, .str _ => true
  | .tuple, .tuple _ => true
  | .list, .list _ => true
  | .street, .dict [(.none, _)] => true
  | _, _ => false
/-- isinstance; the walked constant is not asked -/
def isaV (t : Ty) : Val → Option Bool
  | .dict [(.bool _, _)] => none
  | x => some (isaB t x)
def intsOf : List Val → Option (List Int)
  | [] => some []
  | .int i :: r => (intsOf r).map (i :: ·)
  | _ => none
def boolsOf : List Val → Option (List Bool)
  | [] => some []
  | .bool b :: r => (boolsOf r).map (b :: ·)
  | _ => none
def pairsOf : List Val → Option (List (Val × Val))
  | [] => some []
  | .tuple [a, b] :: r => (pairsOf r).map ((a, b) :: ·)
  | _ => none
/-- all alike, none None -/
def allLike (xs : List Val) : Bool := xs.all (pk 8) && xs.all (fun x => xs.all fun y => PySem.W.alike x y) && xs.all notNone
def isTup : Val → Bool
  | .tuple _ => true
  | _ => false
def isTupC : Val → Bool
  | .tuple (_ :: _) => true
  | _ => false
def sortOk (xs : List Val) : Bool := allLike xs && (xs.all isTupC || xs.all fun x => notNone x && !isTup x)
def leD (x y : Val) : Bool := PySem.W.dataLe false id x y
def itemsV : Val → Option (List Val)
  | .list xs => some xs
  | .tuple xs => some xs
  | .dict [(.bool true, .tuple xs)] => some xs
  | _ => none
/-- a tuple's items -/
def tupsV : Val → Option (List Val)
  | .tuple xs => some xs
  | .dict [(.bool true, .tuple xs)] => some xs
  | _ => none
def lenV : Val → Option Val
  | .list xs => some (.int xs.length)
  | .tuple xs => some (.int xs.length)
  | .str z => if z.length ≤ line then some (.int z.length) else none
  | .dict kvs => match kvs with
    | [(.bool true, .tuple xs)] => some (.int xs.length)
    | [(.bool false, .list xs)] => some (.int xs.length)
    | _ => if !kvs.isEmpty && kvs.all fun kv => keyS kv.1 then some (.int kvs.length) else none
  | _ => none
def absV : Val → Option Val
  | .int i => some (.int (if i < 0 then -i else i))
  | _ => none
def intV : Val → Option Val
  | .int i => some (.int i)
  | _ => none
def minV : Val → Option Val
  | .list (x :: xs) => if allLike (x :: xs) then some (PySem.W.minD x xs) else none
  | .tuple (x :: xs) => if allLike (x :: xs) then some (PySem.W.minD x xs) else none
  | _ => none
def maxV : Val → Option Val
  | .list (x :: xs) => if allLike (x :: xs) then some (PySem.W.maxD x xs) else none
  | .tuple (x :: xs) => if allLike (x :: xs) then some (PySem.W.maxD x xs) else none
  | _ => none
def min2V : Val → Val → Option Val
  | .int i, .int j => some (.int (if j < i then j else i))
  | _, _ => none
def max2V : Val → Val → Option Val
  | .int i, .int j => some (.int (if j > i then j else i))
  | _, _ => none
def gcdV : Val → Val → Option Val
  | .int a, .int b => some (.int (Nat.gcd a.natAbs b.natAbs : Nat))
  | _, _ => none
def divmodV : Val → Val → Option Val
  | .int i, .int j => if 0 < j ∧ j < 1073741824 then some (.tuple [.int (i / j), .int (i % j)]) else none
  | _, _ => none
def sumV : Val → Option Val
  | .list xs => (intsOf xs).map fun ns => .int ns.sum
  | .tuple xs => (intsOf xs).map fun ns => .int ns.sum
  | _ => none
def allV : Val → Option Val
  | .list xs => (boolsOf xs).map fun bs => .bool (bs.all id)
  | _ => none
def anyV : Val → Option Val
  | .list xs => (boolsOf xs).map fun bs => .bool (bs.any id)
  | _ => none
def sortedV : Val → Option Val
  | .list xs => if sortOk xs then some (.list (xs.mergeSort leD)) else none
  | .dict kvs => if ((kvs.all fun kv => keyS kv.1) || (kvs.all fun kv => keyT kv.1)) && sortOk (kvs.map (·.1)) then some (.list ((kvs.map (·.1)).mergeSort leD)) else none
  | _ => none
def tupleV : Val → Option Val
  | .list xs => some (.tuple xs)
  | .tuple xs => some (.tuple xs)
  | _ => none
def listV : Val → Option Val
  | .list xs => some (.list xs)
  | .tuple xs => some (.list xs)
  | _ => none
def dictV : Val → Option Val
  | .list xs => match pairsOf xs with
    | some kvs => if kvs.all (fun kv => keyS kv.1) then some (.dict (dputs [] kvs)) else none
    | none => none
  | _ => none
def un1 (f : Val → Option Val) : List Val → Option Val
  | [x] => f x
  | _ => none
def un2 (f : Val → Val → Option Val) : List Val → Option Val
  | [x, y] => f x y
  | _ => none
def un12 (f : Val → Option Val) (g : Val → Val → Option Val) : List Val → Option Val
  | [x] => f x
  | [x, y] => g x y
  | _ => none
def biV : Bi → List Val → Option Val
  | .len => un1 lenV
  | .int => un1 intV
  | .abs => un1 absV
  | .gcd => un2 gcdV
  | .min => un12 minV min2V
  | .max => un12 maxV max2V
  | .sum => un1 sumV
  | .all => un1 allV
  | .any => un1 anyV
  | .sorted => un1 sortedV
  | .tuple => un1 tupleV
  | .list => un1 listV
  | .dict => un1 dictV
  | .divmod => un2 divmodV
def countV (x : Val) : Val → Option Val
  | .list xs => if pk 8 x && xs.all (pk 8) then some (.int (xs.countP fun y => PyData.eqv y x : Nat)) else none
  | .tuple xs => if pk 8 x && xs.all (pk 8) then some (.int (xs.countP fun y => PyData.eqv y x : Nat)) else none
  | _ => none
def strsOf : List Val → Option (List Str)
  | [] => some []
  | .str x :: r => (strsOf r).map (x :: ·)
  | _ => none
def indexV (x : Val) : Val → Option Val
  | .tuple xs => match x with
    | .str k => match strsOf xs with
      | some ys => if ys.contains k then some (.int (ys.idxOf k : Nat)) else none
      | none => none
    | _ => none
  | _ => none
def splitV : Val → Val → Option Val
  | .str w, .str z => if (w.length == 0) = false ∧ z.length + 2 ≤ line then some (.list ((Txt.split z w).map .str)) else none
  | _, _ => none
def meV : Me → Val → List Val → Option Val
  | .count, o => un1 fun x => countV x o
  | .index, o => un1 fun x => indexV x o
  | .split, o => un1 fun x => splitV x o
def propV (k : Nat) (x : Val) : Option Val := match partsOf x with
  | some (.tuple [p, t, w]) => match k with
    | 0 => some p
    | 1 => some t
    | 2 => some w
    | 3 => some (.tuple [p, t, w])
    | _ => none
  | _ => none
/-- the turns of a range -/
def rangeV (lo : Int) (n : Nat) : List Val := (List.range n).map fun i => .int (lo + (i : Nat))
def ranges : List Val → Option (List Val)
  | [.int j] => if -1000000 ≤ j ∧ j ≤ 1000000 then some (rangeV 0 j.toNat) else none
  | [.int i, .int j] => if -1000000 ≤ i ∧ i ≤ 1000000 ∧ j ≤ 1000000 ∧ -1000000 ≤ j then some (rangeV i (j - i).toNat) else none
  | _ => none
def enumV (n : Int) : List Val → List Val
  | [] => []
  | x :: r => .tuple [.int n, x] :: enumV (n + 1) r
def zipV : List Val → List Val → List Val
  | x :: xs, y :: ys => .tuple [x, y] :: zipV xs ys
  | _, _ => []
def seqV : Val → Option (List Val)
  | .list xs => some xs
  | .tuple xs => some xs
  | .dict [(.bool true, .tuple xs)] => some xs
  | .str z => some (z.cps.toList.map fun c => .str (S [c]))
  | _ => none
def keysV : Val → Option (List Val)
  | .dict kvs => if (kvs.all fun kv => keyS kv.1) || (kvs.all fun kv => keyT kv.1) then some (kvs.map (·.1)) else none
  | _ => none

/-! ### the language -/
inductive Tg where
  | n (i : Nat)
  | nil
  | cons (t ts : Tg)
inductive Ex where
  | nil
  | cons (e es : Ex)
  | star (e es : Ex)
  | var (i : Nat)
  | con (x : Val)
  | glob (s : Str) (x : Val)
  | tup (es : Ex)
  | lst (es : Ex)
  | bop (o : Bop) (a b : Ex)
  | cmp (o : Cop) (a b : Ex)
  | cmp2 (o o' : Cop) (a b c : Ex)
  | and (a b : Ex)
  | or (a b : Ex)
  | not (a : Ex)
  | ife (c a b : Ex)
  | neg (a : Ex)
  | prop (k : Nat) (a : Ex)
  | idx (a i : Ex)
  | slc (a lo hi : Ex)
  | idxO (s : Nat) (i : Ex)
  | inO (neg : Bool) (e : Ex) (s : Nat)
  | popO (s : Nat)
  | popAt (s : Nat) (i : Ex)
  | borrow (s : Nat) (e : Ex)
  | isa (t : Ty) (a : Ex)
  | bi (b : Bi) (es : Ex)
  | me (m : Me) (a es : Ex)
  | call (f : Nat) (es : Ex)
  | callP (f s : Nat) (es : Ex)
  | callK (f : Nat) (perm : List Nat) (es : Ex)
  | act (i : Nat) (es : Ex)
  | actG (i : Nat) (es : Ex)
  | callL (f : Nat) (es : Ex) (ps : List Nat) (b : Ex)
  | mk (es : Ex)
  | lrange (es : Ex)
  | lc (elt : Ex) (tg : Tg) (it c : Ex)
  | lc2 (elt : Ex) (tg : Tg) (it c : Ex) (tg1 : Tg) (it1 c1 : Ex)
  | iseq (e : Ex)
  | irange1 (a : Ex)
  | irange2 (a b : Ex)
  | ienum (e : Ex)
  | izip (a b : Ex)
  | ikeys (e : Ex)
  | dzip (a b : Ex)
  | dlit (t : Bool) (es : Ex)
inductive Ta where
  | n (i : Nat)
  | sub (i : Nat) (k : Ex)
  | nil
  | cons (t ts : Ta)
inductive St where
  | skip
  | seq (a b : St)
  | asg (t : Ta) (e : Ex)
  | own (i : Nat) (e : Ex)
  | par (is : List (Nat × Bool)) (es : Ex)
  | append (i : Nat) (e : Ex)
  | extend (i : Nat) (e : Ex)
  | update (i : Nat) (e : Ex)
  | ownLL (i : Nat) (e : Ex)
  | app2 (i : Nat) (k e : Ex)
  | ite (c : Ex) (a b : St)
  | for_ (t : Tg) (it : Ex) (b : St)
  | while_ (c : Ex) (b : St)
  | rt (e : Ex)
  | ex (e : Ex)
  | never

/-! ### its meaning -/
/-- what is taken for frozen while a part is looked at -/
def frz1 : Slot → Slot
  | .L xs => .v (.list xs)
  | .D _ kvs => .v (.dict kvs)
  | .LL xss => .v (.list (xss.map .list))
  | s => s
def getV (i : Nat) : M Val := fun ρ => match gs ρ i with
  | .v x => some (x, ρ)
  | .L xs => some (.list xs, ss ρ i (.v (.list xs)))
  | .D t kvs => some (.dict kvs, ss ρ i (.v (.dict kvs)))
  | .LL xss => some (.list (xss.map .list), ss ρ i (.v (.list (xss.map .list))))
  | .u => none
  | .f _ => none
def getL (i : Nat) : M (List Val) := fun ρ => match gs ρ i with
  | .L xs => some (xs, ρ)
  | _ => none
def setL (i : Nat) (xs : List Val) : M Unit := fun ρ => some ((), ss ρ i (.L xs))
mutual
def tgIdx : Tg → List Nat
  | .n i => [i]
  | .nil => []
  | .cons t ts => tgIdx t ++ tgIdx ts
end
def wipeE (ρ : Env) : List Nat → Env
  | [] => ρ
  | i :: r => wipeE (ss ρ i .u) r
/-- what is unpacked -/
def unpV : Val → Option (List Val)
  | .tuple xs => some xs
  | .list xs => some xs
  | _ => none
mutual
def asgT : Tg → Val → Env → Option Env
  | .n i, x, ρ => some (ss ρ i (.v x))
  | .nil, _, _ => none
  | .cons t ts, x, ρ => match unpV x with
    | some (y :: ys) => match asgT t y ρ with
      | some ρ' => asgTs ts ys ρ'
      | none => none
    | _ => none
def asgTs : Tg → List Val → Env → Option Env
  | .n _, _, _ => none
  | .nil, [], ρ => some ρ
  | .nil, _ :: _, _ => none
  | .cons t ts, y :: ys, ρ => match asgT t y ρ with
    | some ρ' => asgTs ts ys ρ'
    | none => none
  | .cons _ _, [], _ => none
end
def scalar : Val → Bool
  | .none => true
  | .bool _ => true
  | .int _ => true
  | .str _ => true
  | _ => false
/-- how an owned thing stands behind a part that might have changed it -/
def back1 : Slot → Slot → Option Slot
  | .u, _ => some .u
  | .v x, _ => some (.v x)
  | .L _, .L l => if l.all scalar then some (.L l) else none
  | .D _ _, .D false kvs => if kvs.all fun kv => scalar kv.2 then some (.D false kvs) else none
  | .D _ _, .D true [] => some (.D true [])
  | .f z, _ => some (.f z)
  | _, _ => none
def backE : Env → Env → Option Env
  | [], [] => some []
  | a :: r, b :: t => match back1 a b with
    | some c => match backE r t with
      | some q => some (c :: q)
      | none => none
    | none => none
  | _, _ => none
/-- one part looked at while slot s is taken for frozen: a scalar comes out, s is as it was -/
def borrowM (s : Nat) (m : M Val) : M Val := fun ρ => match frz1 (gs ρ s) with
  | .v y => match m (ss ρ s (.v y)) with
    | some (x, ρ') => if scalar x then (match backE (ss ρ s .u) ρ' with
      | some ρ'' => some (x, ss ρ'' s (gs ρ s))
      | none => none) else none
    | none => none
  | _ => none
def chkS (s : Nat) : M Unit := fun ρ => match gs ρ s with
  | .u => none
  | _ => some ((), ρ)
def chkD (s : Nat) : M Unit := fun ρ => match gs ρ s with
  | .D _ _ => some ((), ρ)
  | _ => none
def boolM (m : M Val) : M Bool := bnd m fun x => match x with
  | .bool b => ret b
  | _ => fail
def itemsM (m : M Val) : M (List Val) := bnd m fun x => match x with
  | .list xs => ret xs
  | _ => fail
def argsM (m : M Val) : M (List Val) := bnd m fun x => match x with
  | .tuple xs => ret xs
  | _ => fail
def lcLoop (step : Val → M (Option Val)) : List Val → List Val → M (List Val)
  | [], acc => ret acc
  | x :: r, acc => bnd (step x) fun o => match o with
    | some y => if acc.length < line then lcLoop step r (acc ++ [y]) else fail
    | none => lcLoop step r acc
def lcLoop2 (step : Val → List Val → M (List Val)) : List Val → List Val → M (List Val)
  | [], acc => ret acc
  | x :: r, acc => bnd (step x acc) fun acc' => lcLoop2 step r acc'
def asgM (t : Tg) (x : Val) : M Unit := fun ρ => match asgT t x ρ with
  | some ρ' => some ((), ρ')
  | none => none
def wipeM (l : List Nat) : M Unit := fun ρ => some ((), wipeE ρ l)
def partM (e : Ex) (m : M Val) : M (Option Int) := match e with
  | .nil => ret none
  | _ => bnd m fun x => match x with
    | .int i => ret (some i)
    | _ => fail
def condM (c : Ex) (m : M Val) : M Bool := match c with
  | .nil => ret true
  | _ => boolM m
/-- one turn of a comprehension -/
def lcStep (t : Tg) (mc : M Bool) (me : M Val) : Val → M (Option Val) := fun x => bnd (asgM t x) fun _ => bnd mc fun r => if r = true then bnd me fun y => bnd (wipeM (tgIdx t)) fun _ => ret (some y) else bnd (wipeM (tgIdx t)) fun _ => ret none
/-- one turn of the first of two clauses -/
def lcStep2 (t t1 : Tg) (mc : M Bool) (mi1 : M (List Val)) (mc1 : M Bool) (me : M Val) : Val → List Val → M (List Val) := fun x acc => bnd (asgM t x) fun _ => bnd mc fun r => if r = true then
    bnd mi1 fun xs1 => bnd (lcLoop (lcStep t1 mc1 me) xs1 acc) fun acc' => bnd (wipeM (tgIdx t ++ tgIdx t1)) fun _ => ret acc'
  else bnd (wipeM (tgIdx t ++ tgIdx t1)) fun _ => ret acc
/-- what a call gives: the value, the pool behind it; what the function that was handed in gives; what a def gives that is handed a function -/
structure Sem where
  call : Nat → Option (List Val) → List Val → Option (Val × List Val)
  act : Fz → List Val → Option Val
  hi : Nat → List Val → Fz → (List Val → Option Val) → Option Val
instance : CoeFun Sem (fun _ => Nat → Option (List Val) → List Val → Option (Val × List Val)) := ⟨Sem.call⟩
open Classical in
/-- what all tell alike -/
noncomputable def allF (g : Fz → Option Val) : Option Val :=
  if h : ∃ r, ∀ z, g z = some r then some h.choose else none
theorem allF_all {g : Fz → Option Val} {r : Val} (h : allF g = some r) (z : Fz) : g z = some r := by
  unfold allF at h
  split at h
  · rename_i q; cases h; exact q.choose_spec z
  · cases h
theorem allF_of {g : Fz → Option Val} {r : Val} (h : ∀ z, g z = some r) : allF g = some r := by
  have q : ∃ r, ∀ z, g z = some r := ⟨r, h⟩
  unfold allF
  rw [dif_pos q]
  exact (q.choose_spec ⟨0, 0, S [], fun _ => none⟩).symm.trans (h _)
def keepV : Slot → Slot
  | .v x => .v x
  | _ => .u
def setV : List Nat → List Val → Env → Env
  | i :: is, x :: xs, ρ => setV is xs (ss ρ i (.v x))
  | _, _, ρ => ρ
/-- a lambda's reading -/
def lamM (ps : List Nat) (m : M Val) (ρ : Env) (args : List Val) : Option Val := if args.length = ps.length then (match m (setV ps args (ρ.map keepV)) with
  | some (x, _) => some x
  | none => none) else none
def permute (perm : List Nat) (xs : List Val) : List Val := perm.filterMap fun i => xs[i]?
noncomputable def ev (C : Sem) : Ex → M Val
  | .nil => ret (.tuple [])
  | .cons e es => bnd (ev C e) fun x => bnd (argsM (ev C es)) fun xs => ret (.tuple (x :: xs))
  | .star e es => bnd (ev C e) fun x => bnd (lft (itemsV x)) fun ys => bnd (argsM (ev C es)) fun xs => ret (.tuple (ys ++ xs))
  | .var i => getV i
  | .con x => ret x
  | .glob _ x => ret x
  | .tup es => bnd (argsM (ev C es)) fun xs => if xs.length ≤ line then ret (.tuple xs) else fail
  | .lst es => bnd (argsM (ev C es)) fun xs => if xs.length ≤ line then ret (.list xs) else fail
  | .bop o a b => bnd (ev C a) fun x => bnd (ev C b) fun y => lft (bopV o x y)
  | .cmp o a b => bnd (ev C a) fun x => bnd (ev C b) fun y => bnd (lft (cmpV o x y)) fun r => ret (.bool r)
  | .cmp2 o o' a b c => bnd (ev C a) fun x => bnd (ev C b) fun y => bnd (lft (cmpV o x y)) fun r =>
      if r = true then bnd (ev C c) fun z => bnd (lft (cmpV o' y z)) fun r' => ret (.bool r') else ret (.bool false)
  | .and a b => bnd (boolM (ev C a)) fun r => if r = true then bnd (boolM (ev C b)) fun r' => ret (.bool r') else ret (.bool false)
  | .or a b => bnd (boolM (ev C a)) fun r => if r = true then ret (.bool true) else bnd (boolM (ev C b)) fun r' => ret (.bool r')
  | .not a => bnd (boolM (ev C a)) fun r => ret (.bool (!r))
  | .ife c a b => bnd (boolM (ev C c)) fun r => if r = true then ev C a else ev C b
  | .neg a => bnd (ev C a) fun x => match x with
    | .int i => ret (.int (-i))
    | _ => fail
  | .prop k a => bnd (ev C a) fun x => lft (propV k x)
  | .idx a i => bnd (ev C a) fun x => bnd (ev C i) fun y => lft (idxV x y)
  | .slc a lo hi => bnd (ev C a) fun x => bnd (partM lo (ev C lo)) fun l => bnd (partM hi (ev C hi)) fun h => lft (slcV l h x)
  | .idxO s i => bnd (chkS s) fun _ => bnd (ev C i) fun y => fun ρ => match gs ρ s, y with
    | .L xs, .int j => lft (atP xs j) ρ
    | .D t kvs, k => if keyOk t k then lft (dget kvs k) ρ else none
    | _, _ => none
  | .inO neg e s => bnd (ev C e) fun x => fun ρ => match gs ρ s with
    | .D t kvs => if keyOk t x then some (.bool (if neg then !dhas kvs x else dhas kvs x), ρ) else none
    | .v (.dict kvs) => match inV x (.dict kvs) with
      | some r => some (.bool (if neg then !r else r), ρ)
      | none => none
    | _ => none
  | .popO s => bnd (getL s) fun xs => match xs.getLast? with
    | some y => bnd (setL s xs.dropLast) fun _ => ret y
    | none => fail
  | .popAt s i => bnd (getL s) fun _ => bnd (ev C i) fun y => bnd (getL s) fun xs => match y with
    | .int j => match (if 0 ≤ j ∧ j < xs.length ∧ j < 1000000 then xs[j.toNat]? else none) with
      | some z => bnd (setL s (xs.eraseIdx j.toNat)) fun _ => ret z
      | none => fail
    | _ => fail
  | .borrow s e => borrowM s (ev C e)
  | .isa t a => bnd (ev C a) fun x => bnd (lft (isaV t x)) fun r => ret (.bool r)
  | .bi b es => bnd (argsM (ev C es)) fun xs => lft (biV b xs)
  | .me m a es => bnd (ev C a) fun x => bnd (argsM (ev C es)) fun xs => lft (meV m x xs)
  | .call f es => bnd (argsM (ev C es)) fun xs => bnd (lft (C f none xs)) fun r => ret r.1
  | .callP f s es => bnd (getL s) fun _ => bnd (argsM (ev C es)) fun xs => bnd (getL s) fun pl => bnd (lft (C f (some pl) xs)) fun r => bnd (setL s r.2) fun _ => ret r.1
  | .callK f perm es => bnd (argsM (ev C es)) fun xs => bnd (lft (C f none (permute perm xs))) fun r => ret r.1
  | .act i es => fun ρ => match gs ρ i with
    | .f z => bnd (argsM (ev C es)) (fun xs => lft (C.act z xs)) ρ
    | _ => none
  | .actG i es => fun ρ => match gs ρ i with
    | .v (.dict [(.bool false, .int k)]) => bnd (argsM (ev C es)) (fun xs => bnd (lft (C k.toNat none xs)) fun r => ret r.1) ρ
    | _ => none
  | .callL f es ps b => bnd (argsM (ev C es)) fun xs => fun ρ => match allF (fun z => C.hi f xs z (lamM ps (ev C b) ρ)) with
    | some r => some (r, ρ)
    | none => none
  | .mk es => bnd (argsM (ev C es)) fun xs => bnd (lft (C 0 none xs)) fun r => ret (stV r.1)
  | .lrange es => bnd (argsM (ev C es)) fun xs => bnd (lft (ranges xs)) fun ys => ret (.list ys)
  | .lc elt tg it c => bnd (itemsM (ev C it)) fun xs => bnd (wipeM (tgIdx tg)) fun _ => bnd (lcLoop (lcStep tg (condM c (ev C c)) (ev C elt)) xs []) fun ys => ret (.list ys)
  | .lc2 elt tg it c tg1 it1 c1 => bnd (itemsM (ev C it)) fun xs => bnd (wipeM (tgIdx tg ++ tgIdx tg1)) fun _ =>
    bnd (lcLoop2 (lcStep2 tg tg1 (condM c (ev C c)) (itemsM (ev C it1)) (condM c1 (ev C c1)) (ev C elt)) xs []) fun ys => ret (.list ys)
  | .iseq e => bnd (ev C e) fun x => bnd (lft (seqV x)) fun ys => ret (.list ys)
  | .irange1 a => bnd (argsM (bnd (ev C a) fun x => bnd (argsM (ret (.tuple []))) fun xs => ret (.tuple (x :: xs)))) fun xs => bnd (lft (ranges xs)) fun ys => ret (.list ys)
  | .irange2 a b => bnd (argsM (bnd (ev C a) fun x => bnd (argsM (bnd (ev C b) fun x => bnd (argsM (ret (.tuple []))) fun xs => ret (.tuple (x :: xs)))) fun xs => ret (.tuple (x :: xs)))) fun xs => bnd (lft (ranges xs)) fun ys => ret (.list ys)
  | .ienum e => bnd (ev C e) fun x => bnd (lft (seqV x)) fun ys => ret (.list (enumV 0 ys))
  | .izip a b => bnd (ev C a) fun x => bnd (ev C b) fun y => bnd (lft (tupsV x)) fun xs => bnd (lft (tupsV y)) fun ys => ret (.list (zipV xs ys))
  | .ikeys e => bnd (ev C e) fun x => bnd (lft (keysV x)) fun ys => ret (.list ys)
  | .dzip a b => bnd (ev C a) fun x => bnd (ev C b) fun y => bnd (lft (tupsV x)) fun xs => bnd (lft (tupsV y)) fun ys =>
    if xs.all keyS && decide (xs.length = ys.length) then ret (.dict (dputs [] (xs.zip ys))) else fail
  | .dlit t es => bnd (argsM (ev C es)) fun xs => match pairsOf xs with
    | some kvs => if kvs.all (fun kv => keyOk t kv.1) && decide (kvs.length ≤ 15) then ret (.dict (dputs [] kvs)) else fail
    | none => fail

inductive Out where
  | nx
  | rt (x : Val)
/-- a new list, to be owned -/
def lstS : Val → Option Slot
  | .list xs => some (.L xs)
  | _ => none
/-- a new thing, to be owned -/
noncomputable def evO (C : Sem) : Ex → M Slot
  | .dlit t .nil => ret (.D t [])
  | .dlit t (.cons (.tup (.cons k (.cons v .nil))) .nil) => bnd (ev C k) fun x => bnd (ev C v) fun y => if keyOk t x then ret (.D t [(x, y)]) else fail
  | e => bnd (ev C e) fun x => lft (lstS x)
def subM (i : Nat) (k x : Val) : M Unit := fun ρ => match gs ρ i with
  | .L xs => match k with
    | .int j => match ixP xs.length j with
      | some p => some ((), ss ρ i (.L (xs.set p x)))
      | none => none
    | _ => none
  | .D t kvs => if keyOk t k && decide (kvs.length < line) then some ((), ss ρ i (.D t (dput kvs k x))) else none
  | _ => none
/-- how many targets -/
def taLen : Ta → Nat
  | .cons _ ts => taLen ts + 1
  | _ => 0
mutual
noncomputable def asgA (C : Sem) : Ta → Val → M Unit
  | .n i, x => fun ρ => some ((), ss ρ i (.v x))
  | .sub i k, x => bnd (chkS i) fun _ => bnd (ev C k) fun kx => subM i kx x
  | .nil, _ => fail
  | .cons t ts, x => match unpV x with
    | some (y :: ys) => if ys.length = taLen ts then bnd (asgA C t y) fun _ => asgAs C ts ys else fail
    | _ => fail
noncomputable def asgAs (C : Sem) : Ta → List Val → M Unit
  | .n _, _ => fail
  | .sub _ _, _ => fail
  | .nil, [] => ret ()
  | .nil, _ :: _ => fail
  | .cons t ts, y :: ys => bnd (asgA C t y) fun _ => asgAs C ts ys
  | .cons _ _, [] => fail
end
/-- the values of a parallel assignment, some of them new objects -/
noncomputable def parM (C : Sem) : List (Nat × Bool) → Ex → M (List Slot)
  | [], .nil => ret []
  | (_, fr) :: is, .cons e es => bnd (if fr then evO C e else bnd (ev C e) fun x => ret (.v x)) fun s => bnd (parM C is es) fun r => ret (s :: r)
  | _, _ => fail
def setAll : List (Nat × Bool) → List Slot → Env → Env
  | (i, _) :: is, s :: r, ρ => setAll is r (ss ρ i s)
  | _, _, ρ => ρ
def forLoop (step : Val → M Out) : List Val → M Out
  | [] => ret .nx
  | x :: r => bnd (step x) fun o => match o with
    | .nx => forLoop step r
    | .rt y => ret (.rt y)
def whileLoop (c : M Bool) (b : M Out) : Nat → M Out
  | 0 => fail
  | n + 1 => bnd c fun r => if r = true then bnd b fun o => match o with
    | .nx => whileLoop c b n
    | .rt y => ret (.rt y) else ret .nx
def fuel : Nat := 1000000
def app2M (xss : List (List Val)) (j : Int) (x : Val) : Option (List (List Val)) := if 0 ≤ j then (match xss[j.toNat]? with
  | some xs => if xs.length < line then some (xss.set j.toNat (xs ++ [x])) else none
  | none => none) else none
def listsOf : List Val → Option (List (List Val))
  | [] => some []
  | .list xs :: r => (listsOf r).map (xs :: ·)
  | _ => none
noncomputable def exec (C : Sem) : St → M Out
  | .skip => ret .nx
  | .seq a b => bnd (exec C a) fun o => match o with
    | .nx => exec C b
    | .rt y => ret (.rt y)
  | .asg t e => bnd (ev C e) fun x => bnd (asgA C t x) fun _ => ret .nx
  | .own i e => bnd (evO C e) fun s => fun ρ => some (.nx, ss ρ i s)
  | .par is es => bnd (parM C is es) fun r => fun ρ => some (.nx, setAll is r ρ)
  | .append i e => bnd (getL i) fun _ => bnd (ev C e) fun x => bnd (getL i) fun xs => if xs.length < line then bnd (setL i (xs ++ [x])) fun _ => ret .nx else fail
  | .extend i e => bnd (getL i) fun _ => bnd (ev C e) fun x => bnd (getL i) fun xs => match x with
    | .list ys => if xs.length + ys.length ≤ line then bnd (setL i (xs ++ ys)) fun _ => ret .nx else fail
    | _ => fail
  | .update i e => bnd (chkD i) fun _ => bnd (ev C e) fun x => fun ρ => match gs ρ i, x with
    | .D t kvs, .dict more => if more.all (fun kv => keyOk t kv.1) && decide (kvs.length + more.length ≤ line) then some (.nx, ss ρ i (.D t (dputs kvs more))) else none
    | _, _ => none
  | .ownLL i e => bnd (ev C e) fun x => match x with
    | .list xs => bnd (lft (listsOf xs)) fun xss => fun ρ => some (.nx, ss ρ i (.LL xss))
    | _ => fail
  | .app2 i k e => bnd (ev C k) fun kx => bnd (ev C e) fun x => fun ρ => match gs ρ i, kx with
    | .LL xss, .int j => match app2M xss j x with
      | some r => some (.nx, ss ρ i (.LL r))
      | none => none
    | _, _ => none
  | .ite c a b => bnd (boolM (ev C c)) fun r => if r = true then exec C a else exec C b
  | .for_ t it b => bnd (itemsM (ev C it)) fun xs => forLoop (fun x => bnd (asgM t x) fun _ => exec C b) xs
  | .while_ c b => whileLoop (boolM (ev C c)) (exec C b) fuel
  | .rt e => bnd (ev C e) fun x => ret (.rt x)
  | .ex e => bnd (ev C e) fun _ => ret .nx
  | .never => fail

/-! ### programs -/
structure FDef where
  nm : Str
  ps : List Str
  N : List Str
  pool : Bool
  slf : Bool
  /-- its last parameter is a function that is handed in -/
  hi : Bool
  /-- lambdas are made in it -/
  lam : Bool
  /-- it gives a new list -/
  nw : Bool
  /-- how it is called by keywords alone: the keywords, how they lie -/
  kw : List (List Str × List Nat)
  body : St
abbrev Tbl := Nat → Option FDef
def startE (n : Nat) (pl : Option (List Val)) (args : List Val) : Env := match pl with
  | none => args.map .v ++ List.replicate (n - args.length) .u
  | some l => .L l :: (args.map .v ++ List.replicate (n - args.length - 1) .u)
def outV : Out → Val
  | .nx => .none
  | .rt x => x
noncomputable def runF (C : Sem) (d : FDef) (pl : Option (List Val)) (args : List Val) : Option (Val × List Val) :=
  match d.pool, pl with
  | false, none => match d.slf with
    | false => if args.length = d.ps.length then (match exec C d.body (startE d.N.length none args) with
      | some (o, _) => some (outV o, [])
      | none => none) else none
    | true => if args.length + 1 = d.ps.length then (match exec C d.body (.u :: startE (d.N.length - 1) none args) with
      | some (o, _) => some (outV o, [])
      | none => none) else none
  | true, some l => if args.length + 1 = d.ps.length then (match exec C d.body (startE d.N.length (some l) args) with
    | some (o, ρ) => (match gs ρ 0 with
      | .L l' => some (outV o, l')
      | _ => none)
    | none => none) else none
  | _, _ => none
open Classical in
/-- the table's meaning, with a function that was handed in -/
noncomputable def withAct (C : Sem) (z : Fz) (L : List Val → Option Val) : Sem := ⟨C.call, fun y xs => if y = z then L xs else none, fun _ _ _ _ => none⟩
noncomputable def runH (C : Sem) (d : FDef) (xs : List Val) (z : Fz) (L : List Val → Option Val) : Option Val :=
  if xs.length + 1 = d.ps.length then (match exec (withAct C z L) d.body (xs.map .v ++ .f z :: List.replicate (d.N.length - xs.length - 1) .u) with
    | some (o, _) => some (outV o)
    | none => none) else none
noncomputable def callN (T : Tbl) : Nat → Sem
  | 0 => ⟨fun _ _ _ => none, fun _ _ => none, fun _ _ _ _ => none⟩
  | n + 1 => ⟨fun f pl args => match T f with
      | some d => if d.hi then none else runF (callN T n) d pl args
      | none => none, fun _ _ => none, fun f xs z L => match T f with
      | some d => if d.hi then runH (callN T n) d xs z L else none
      | none => none⟩
end PL
set_option maxHeartbeats 1000000
/-! PLrel: how data of PLcore lies in the abstract heap; what a part of a body leaves. -/
namespace PL
open PySem PySem.Spec PyProof.Rows L2

def FSub (F H : Hp) : Prop := ∀ a o, F a = some o → H a = some o
theorem FSub.refl (F : Hp) : FSub F F := fun _ _ h => h
theorem FSub.trans {F G H : Hp} (h : FSub F G) (k : FSub G H) : FSub F H := fun a o e => k a o (h a o e)
theorem FSub.none {F H : Hp} (h : FSub F H) {a : Addr} (e : H a = Option.none) : F a = Option.none := by
  cases q : F a with
  | none => rfl
  | some o => rw [h a o q] at e; cases e
theorem FSub.upd_new {H : Hp} {a : Addr} {o : HO} (h : H a = Option.none) : FSub H (upd H a o) := fun b u e => by
  rw [upd_ne (ne_of_none e h)]; exact e
theorem FSub.upd_both {F H : Hp} {a : Addr} {o : HO} (h : FSub F H) : FSub (upd F a o) (upd H a o) := fun b u e => by
  by_cases hb : b = a
  · subst hb; rw [upd_same] at e ⊢; exact e
  · rw [upd_ne hb] at e ⊢; exact h b u e
theorem FSub.upd_right {F H : Hp} {a : Addr} {o : HO} (h : FSub F H) (n : F a = Option.none) : FSub F (upd H a o) := fun b u e => by
  rw [upd_ne (ne_of_none e n)]; exact h b u e

theorem SqT.sub {K : PySem.W.Frag} {F H : Hp} {a : Addr} {xs : List V} (h : FSub F H) : SqT K F a xs → SqT K H a xs
  | .inl (.inl e) => .inl (.inl (h _ _ e))
  | .inl (.inr ⟨o, e⟩) => .inl (.inr ⟨o, h _ _ e⟩)
  | .inr e => .inr e

theorem SqL.sub {K : PySem.W.Frag} {F H : Hp} {a : Addr} {xs : List V} (h : FSub F H) : SqL K F a xs → SqL K H a xs
  | .inl (.inl e) => .inl (.inl (h _ _ e))
  | .inl (.inr ⟨o, e⟩) => .inl (.inr ⟨o, h _ _ e⟩)
  | .inr e => .inr e

def keyD : Key → PyData
  | .inl i => .int i
  | .inr s => .str s

/-- what is fixed of a run: the street's class, the program, the world, the tables of code objects -/
structure Gx where
  cls : Addr
  P : Program
  w : World
  /-- the tables of code objects, each with the name of what is made -/
  T : List (Addr × Str)
  /-- the table's defs that may be values -/
  gf : Nat → Option Addr
/-- a tuple of the module -/
def KTup (K : PySem.W.Frag) (a : Addr) (xs : List V) : Prop :=
  ∃ (o : Obj) (its : Array Value) (n : Nat), K.lookup a = some o ∧ o.cls = .type "tuple" ∧ o.dict = none ∧ o.data = .seq its n ∧ its.size ≤ sizeLine ∧ Vals xs its.toList
theorem KTup.sq {K : PySem.W.Frag} {a : Addr} {xs : List V} (h : KTup K a xs) (H : Hp) : SqT K H a xs :=
  let ⟨o, its, n, h1, h2, _, h4, h5, h6⟩ := h
  .inr ⟨o, its, n, h1, h2, h4, h5, h6⟩
/-- a dict whose keys are tuples that stand (the keys' own addresses told) -/
def DX (P : Program) (w : World) (a : Addr) (kas : List (List Key × Addr × V)) : HO := .ext fun h => kas.length ≤ sizeLine ∧ (a == sysModules) = false ∧
  ∃ xs : List (List Key × Addr × Value), Paired (fun (p : List Key × Addr × V) (q : List Key × Addr × Value) => p.1 = q.1 ∧ p.2.1 = q.2.1 ∧ RelV p.2.2 q.2.2) kas xs ∧
    ∃ o es ep, h.get? a = some o ∧ o.ExactDict ∧ o.data = .dict es ep ∧ es.toList = xs.map (entryOfKey (tupleKind (mixKind P w))) ∧ (xs.map (·.1)).Nodup
mutual
/-- the value v is the data d, by what is frozen; tuples are known to the object (they have no dict of their own) -/
inductive RD (K : PySem.W.Frag) (C : Gx) (F : Hp) : V → PyData → Prop
  | non : RD K C F .non .none
  | bl (b : Bool) : RD K C F (.bl b) (.bool b)
  | int (i : Int) : RD K C F (.int i) (.int i)
  | str (x : Str) : RD K C F (.str x) (.str x)
  | lst {a : Addr} {xs : List V} {ds : List PyData} : F a = some (.lst xs) → RDs K C F xs ds → RD K C F (.ref a) (.list ds)
  | tup {a : Addr} {o : Obj} {xs : List V} {ds : List PyData} : F a = some (.frz o (.tup xs)) → o.dict = none → RDs K C F xs ds → RD K C F (.ref a) (.tuple ds)
  | tupK {a : Addr} {xs : List V} {ds : List PyData} : KTup K a xs → kc ds = true → RDs K C F xs ds → RD K C F (.ref a) (.tuple ds)
  | ct {a : Addr} {xs : List V} {ds : List PyData} : KTup K a xs → RDs K C F xs ds → RD K C F (.ref a) (ctV ds)
  | dK {a : Addr} {kvs : List (Key × V)} {ds : List (PyData × PyData)} : F a = some (.dK kvs) → RKs K C F kvs ds → RD K C F (.ref a) (.dict ds)
  | dT {a : Addr} {kvs : List (List Key × Addr × V)} {ds : List (PyData × PyData)} : F a = some (DX C.P C.w a kvs) → RTs K C F kvs ds → RD K C F (.ref a) (.dict ds)
  | scr {a : Addr} {xs : List V} {ds : List PyData} : SqL K F a xs → RDs K C F xs ds → RD K C F (.ref a) (scrV ds)
  | gf {a : Addr} {k : Nat} : C.gf k = some a → RD K C F (.ref a) (gfV k)
  | st {a dx : Addr} {v : V} {d : PyData} : F a = some (.ins C.cls dx [("all_told", v)]) → RD K C F v d → RD K C F (.ref a) (stV d)
inductive RDs (K : PySem.W.Frag) (C : Gx) (F : Hp) : List V → List PyData → Prop
  | nil : RDs K C F [] []
  | cons {v : V} {vs : List V} {d : PyData} {ds : List PyData} : RD K C F v d → RDs K C F vs ds → RDs K C F (v :: vs) (d :: ds)
inductive RKs (K : PySem.W.Frag) (C : Gx) (F : Hp) : List (Key × V) → List (PyData × PyData) → Prop
  | nil : RKs K C F [] []
  | cons {k : Key} {v : V} {vs : List (Key × V)} {d : PyData} {ds : List (PyData × PyData)} : RD K C F v d → RKs K C F vs ds → RKs K C F ((k, v) :: vs) ((keyD k, d) :: ds)
inductive RTs (K : PySem.W.Frag) (C : Gx) (F : Hp) : List (List Key × Addr × V) → List (PyData × PyData) → Prop
  | nil : RTs K C F [] []
  | cons {k : List Key} {q : Addr} {o : Obj} {v : V} {vs : List (List Key × Addr × V)} {d : PyData} {ds : List (PyData × PyData)} : F q = some (.frz o (.tup (k.map kV))) → o.dict = none →
      RD K C F v d → RTs K C F vs ds → RTs K C F ((k, q, v) :: vs) ((.tuple (k.map keyD), d) :: ds)
end
section
variable {K : PySem.W.Frag} {C : Gx} {F G : Hp}
mutual
theorem RD.sub (h : FSub F G) : ∀ {v : V} {d : PyData}, RD K C F v d → RD K C G v d
  | _, _, .non => .non
  | _, _, .bl b => .bl b
  | _, _, .int i => .int i
  | _, _, .str x => .str x
  | _, _, .lst e r => .lst (h _ _ e) (RDs.sub h r)
  | _, _, .tup e d r => .tup (h _ _ e) d (RDs.sub h r)
  | _, _, .tupK e c r => .tupK e c (RDs.sub h r)
  | _, _, .ct e r => .ct e (RDs.sub h r)
  | _, _, .dK e r => .dK (h _ _ e) (RKs.sub h r)
  | _, _, .dT e r => .dT (h _ _ e) (RTs.sub h r)
  | _, _, .scr e r => .scr (SqL.sub h e) (RDs.sub h r)
  | _, _, .gf e => .gf e
  | _, _, .st e r => .st (h _ _ e) (RD.sub h r)
theorem RDs.sub (h : FSub F G) : ∀ {v : List V} {d : List PyData}, RDs K C F v d → RDs K C G v d
  | _, _, .nil => .nil
  | _, _, .cons r t => .cons (RD.sub h r) (RDs.sub h t)
theorem RKs.sub (h : FSub F G) : ∀ {v : List (Key × V)} {d : List (PyData × PyData)}, RKs K C F v d → RKs K C G v d
  | _, _, .nil => .nil
  | _, _, .cons r t => .cons (RD.sub h r) (RKs.sub h t)
theorem RTs.sub (h : FSub F G) : ∀ {v : List (List Key × Addr × V)} {d : List (PyData × PyData)}, RTs K C F v d → RTs K C G v d
  | _, _, .nil => .nil
  | _, _, .cons e d r t => .cons (h _ _ e) d (RD.sub h r) (RTs.sub h t)
end
theorem RDs.length : ∀ {vs : List V} {ds : List PyData}, RDs K C F vs ds → vs.length = ds.length
  | _, _, .nil => rfl
  | _, _, .cons _ t => congrArg (· + 1) (RDs.length t)
theorem RKs.length : ∀ {vs : List (Key × V)} {ds : List (PyData × PyData)}, RKs K C F vs ds → vs.length = ds.length
  | _, _, .nil => rfl
  | _, _, .cons _ t => congrArg (· + 1) (RKs.length t)
theorem RTs.length : ∀ {vs : List (List Key × Addr × V)} {ds : List (PyData × PyData)}, RTs K C F vs ds → vs.length = ds.length
  | _, _, .nil => rfl
  | _, _, .cons _ _ _ t => congrArg (· + 1) (RTs.length t)
theorem RDs.get : ∀ {vs : List V} {ds : List PyData} {i : Nat} {d : PyData}, RDs K C F vs ds → ds[i]? = some d → ∃ v, vs[i]? = some v ∧ RD K C F v d
  | _, _, _, _, .nil, e => by simp at e
  | _, _, 0, _, .cons r _, e => by simp at e; subst e; exact ⟨_, rfl, r⟩
  | _, _, i + 1, d, .cons _ t, e => by
    obtain ⟨u, h1, h2⟩ := RDs.get (i := i) (d := d) t (by simpa using e)
    exact ⟨u, by simpa using h1, h2⟩
theorem RDs.get' : ∀ {vs : List V} {ds : List PyData} {i : Nat} {v : V}, RDs K C F vs ds → vs[i]? = some v → ∃ d, ds[i]? = some d ∧ RD K C F v d
  | _, _, _, _, .nil, e => by simp at e
  | _, _, 0, _, .cons r _, e => by simp at e; subst e; exact ⟨_, rfl, r⟩
  | _, _, i + 1, d, .cons _ t, e => by
    obtain ⟨u, h1, h2⟩ := RDs.get' (i := i) (v := d) t (by simpa using e)
    exact ⟨u, by simpa using h1, h2⟩
theorem RDs.append : ∀ {vs ws : List V} {ds es : List PyData}, RDs K C F vs ds → RDs K C F ws es → RDs K C F (vs ++ ws) (ds ++ es)
  | _, _, _, _, .nil, s => s
  | _, _, _, _, .cons r t, s => .cons r (RDs.append t s)
theorem RDs.snoc {vs : List V} {ds : List PyData} {v : V} {d : PyData} (h : RDs K C F vs ds) (r : RD K C F v d) : RDs K C F (vs ++ [v]) (ds ++ [d]) := h.append (.cons r .nil)
theorem RDs.take : ∀ {vs : List V} {ds : List PyData} (n : Nat), RDs K C F vs ds → RDs K C F (vs.take n) (ds.take n)
  | _, _, 0, _ => by simp only [List.take_zero]; exact .nil
  | _, _, _ + 1, .nil => .nil
  | _, _, n + 1, .cons r t => .cons r (RDs.take n t)
theorem RDs.drop : ∀ {vs : List V} {ds : List PyData} (n : Nat), RDs K C F vs ds → RDs K C F (vs.drop n) (ds.drop n)
  | _, _, 0, r => r
  | _, _, _ + 1, .nil => .nil
  | _, _, n + 1, .cons _ t => RDs.drop n t
theorem RDs.set {v : V} {d : PyData} (r : RD K C F v d) : ∀ {vs : List V} {ds : List PyData} (i : Nat), RDs K C F vs ds → RDs K C F (vs.set i v) (ds.set i d)
  | _, _, _, .nil => .nil
  | _, _, 0, .cons _ t => .cons r t
  | _, _, i + 1, .cons q t => .cons q (RDs.set r i t)
theorem RDs.eraseIdx : ∀ {vs : List V} {ds : List PyData} (i : Nat), RDs K C F vs ds → RDs K C F (vs.eraseIdx i) (ds.eraseIdx i)
  | _, _, _, .nil => .nil
  | _, _, 0, .cons _ t => t
  | _, _, i + 1, .cons q t => .cons q (RDs.eraseIdx i t)
theorem RDs.dropLast {vs : List V} {ds : List PyData} (h : RDs K C F vs ds) : RDs K C F vs.dropLast ds.dropLast := by
  rw [List.dropLast_eq_take, List.dropLast_eq_take, h.length]
  exact h.take _
theorem RDs.rep {vs : List V} {ds : List PyData} (h : RDs K C F vs ds) : ∀ k : Nat, RDs K C F (repL k vs) (repL k ds)
  | 0 => .nil
  | k + 1 => by
    unfold repL
    rw [List.replicate_succ, List.replicate_succ, List.flatten_cons, List.flatten_cons]
    exact h.append (RDs.rep h k)
theorem RDs.ints : ∀ (ns : List Int), RDs K C F (ns.map V.int) (ns.map PyData.int)
  | [] => .nil
  | n :: r => .cons (.int n) (RDs.ints r)
theorem RDs.strs : ∀ (ns : List Str), RDs K C F (ns.map V.str) (ns.map PyData.str)
  | [] => .nil
  | n :: r => .cons (.str n) (RDs.strs r)
/-! ### inversions -/
theorem RD.int_inv {v : V} {i : Int} (h : RD K C F v (.int i)) : v = .int i := by cases h; rfl
theorem RD.bool_inv {v : V} {b : Bool} (h : RD K C F v (.bool b)) : v = .bl b := by cases h; rfl
theorem RD.str_inv {v : V} {x : Str} (h : RD K C F v (.str x)) : v = .str x := by cases h; rfl
theorem RD.none_inv {v : V} (h : RD K C F v .none) : v = .non := by cases h; rfl
theorem RD.lst_inv {v : V} {ds : List PyData} (h : RD K C F v (.list ds)) : ∃ a xs, v = .ref a ∧ F a = some (.lst xs) ∧ RDs K C F xs ds := by
  cases h with
  | lst e r => exact ⟨_, _, rfl, e, r⟩
theorem RD.tup_inv {v : V} {ds : List PyData} (h : RD K C F v (.tuple ds)) : ∃ a xs, v = .ref a ∧ SqT K F a xs ∧ RDs K C F xs ds := by
  cases h with
  | tup e _ r => exact ⟨_, _, rfl, .inl (.inr ⟨_, e⟩), r⟩
  | tupK e _ r => exact ⟨_, _, rfl, e.sq F, r⟩
theorem RD.tup_key {v : V} {ds : List PyData} (h : RD K C F v (.tuple ds)) (k : kc ds = false) : ∃ a o xs, v = .ref a ∧ F a = some (.frz o (.tup xs)) ∧ o.dict = none ∧ RDs K C F xs ds := by
  cases h with
  | tup e d r => exact ⟨_, _, _, rfl, e, d, r⟩
  | tupK _ c _ => rw [k] at c; cases c
theorem RKs.cons_inv {vs : List (Key × V)} {p : PyData × PyData} {r : List (PyData × PyData)} (h : RKs K C F vs (p :: r)) : ∃ k v vs', vs = (k, v) :: vs' ∧ p.1 = keyD k ∧ RD K C F v p.2 ∧ RKs K C F vs' r := by
  generalize e : p :: r = ds at h
  cases h with
  | nil => cases e
  | cons a b => cases e; exact ⟨_, _, _, rfl, rfl, a, b⟩
theorem RTs.cons_inv {vs : List (List Key × Addr × V)} {p : PyData × PyData} {r : List (PyData × PyData)} (h : RTs K C F vs (p :: r)) :
    ∃ k q o v vs', vs = (k, q, v) :: vs' ∧ p.1 = .tuple (k.map keyD) ∧ F q = some (.frz o (.tup (k.map kV))) ∧ o.dict = none ∧ RD K C F v p.2 ∧ RTs K C F vs' r := by
  generalize e : p :: r = ds at h
  cases h with
  | nil => cases e
  | cons a b c d => cases e; exact ⟨_, _, _, _, _, rfl, rfl, a, b, c, d⟩
theorem RD.ct_inv {v : V} {ds : List PyData} (h : RD K C F v (ctV ds)) : ∃ a xs, v = .ref a ∧ SqT K F a xs ∧ RDs K C F xs ds := by
  generalize e : ctV ds = d at h
  cases h with
  | ct e1 r => cases e; exact ⟨_, _, rfl, e1.sq F, r⟩
  | dK _ r =>
    cases e
    obtain ⟨k, _, _, _, e, _⟩ := r.cons_inv
    cases k <;> cases e
  | dT _ r =>
    cases e
    obtain ⟨k, _, _, _, _, _, e, _⟩ := r.cons_inv
    cases e
  | _ => cases e
theorem RD.scr_inv {v : V} {ds : List PyData} (h : RD K C F v (scrV ds)) : ∃ a xs, v = .ref a ∧ SqL K F a xs ∧ RDs K C F xs ds := by
  generalize e : scrV ds = d at h
  cases h with
  | scr e1 r => cases e; exact ⟨_, _, rfl, e1, r⟩
  | dK _ r =>
    cases e
    obtain ⟨k, _, _, _, e, _⟩ := r.cons_inv
    cases k <;> cases e
  | dT _ r =>
    cases e
    obtain ⟨k, _, _, _, _, _, e, _⟩ := r.cons_inv
    cases e
  | _ => cases e
theorem RD.gf_inv {v : V} {k : Int} (h : RD K C F v (.dict [(.bool false, .int k)])) : ∃ a, v = .ref a ∧ C.gf k.toNat = some a := by
  generalize e : PyData.dict [(.bool false, .int k)] = d at h
  cases h with
  | gf e1 => cases e; exact ⟨_, rfl, e1⟩
  | dK _ r =>
    cases e
    obtain ⟨k, _, _, _, e, _⟩ := r.cons_inv
    cases k <;> cases e
  | dT _ r =>
    cases e
    obtain ⟨k, _, _, _, _, _, e, _⟩ := r.cons_inv
    cases e
  | _ => cases e
-- the library's own data relation
mutual
theorem RD.dp {H : Hp} (s : FSub F H) : ∀ (n : Nat) {v : V} {d : PyData}, RD K C F v d → pk n d = true → Dp K H v d
  | _, _, _, .non, _ => .non
  | _, _, _, .bl b, _ => .bl b
  | _, _, _, .int i, _ => .int i
  | _, _, _, .str x, _ => .str x
  | 0, _, _, .lst e r, h => by simp [pk] at h
  | n + 1, _, _, .lst e r, h => .lst (SqL.of (s _ _ e)) (RDs.dp s n r (by simpa [pk] using h))
  | 0, _, _, .tup e _ r, h => by simp [pk] at h
  | n + 1, _, _, .tup e _ r, h => .tup (.inl (.inr ⟨_, s _ _ e⟩)) (RDs.dp s n r (by simpa [pk] using h))
  | 0, _, _, .tupK e _ r, h => by simp [pk] at h
  | n + 1, _, _, .tupK e _ r, h => .tup (e.sq H) (RDs.dp s n r (by simpa [pk] using h))
  | 0, _, _, .ct e r, h => by simp [pk, ctV] at h
  | n + 1, _, _, .ct e r, h => by simp [pk, ctV] at h
  | 0, _, _, .dK e r, h => by simp [pk] at h
  | n + 1, _, _, .dK e r, h => by simp [pk] at h
  | 0, _, _, .dT e r, h => by simp [pk] at h
  | n + 1, _, _, .dT e r, h => by simp [pk] at h
  | 0, _, _, .scr e r, h => by simp [pk, scrV] at h
  | n + 1, _, _, .scr e r, h => by simp [pk, scrV] at h
  | 0, _, _, .gf e, h => by simp [pk, gfV] at h
  | n + 1, _, _, .gf e, h => by simp [pk, gfV] at h
  | 0, _, _, .st e r, h => by simp [pk, stV] at h
  | n + 1, _, _, .st e r, h => by simp [pk, stV] at h
theorem RDs.dp {H : Hp} (s : FSub F H) : ∀ (n : Nat) {vs : List V} {ds : List PyData}, RDs K C F vs ds → (∀ d ∈ ds, pk n d = true) → DpAll K H vs ds
  | _, _, _, .nil, _ => .nil
  | n, _, _, .cons r t, h => .cons (RD.dp s n r (h _ (List.mem_cons_self))) (RDs.dp s n t fun d hd => h d (List.mem_cons_of_mem _ hd))
end
mutual
theorem pk_plain : ∀ (n : Nat) (d : PyData), pk n d = true → d.plain = true
  | _, .none, _ => rfl
  | _, .bool _, _ => rfl
  | _, .int _, _ => rfl
  | _, .str _, _ => rfl
  | 0, .list _, h => by simp [pk] at h
  | n + 1, .list xs, h => by
    rw [PyData.plain]
    exact pk_plainAll n xs (by simpa [pk] using h)
  | 0, .tuple _, h => by simp [pk] at h
  | n + 1, .tuple xs, h => by
    rw [PyData.plain]
    exact pk_plainAll n xs (by simpa [pk] using h)
  | 0, .dict _, h => by simp [pk] at h
  | n + 1, .dict _, h => by simp [pk] at h
theorem pk_plainAll : ∀ (n : Nat) (ds : List PyData), (∀ d ∈ ds, pk n d = true) → PyData.plainAll ds = true
  | _, [], _ => rfl
  | n, d :: ds, h => by
    rw [PyData.plainAll, pk_plain n d (h d List.mem_cons_self), pk_plainAll n ds fun x hx => h x (List.mem_cons_of_mem _ hx)]
    rfl
end
mutual
theorem pk_depth : ∀ (n : Nat) (d : PyData), pk n d = true → d.depth ≤ n
  | _, .none, _ => by simp [PyData.depth]
  | _, .bool _, _ => by simp [PyData.depth]
  | _, .int _, _ => by simp [PyData.depth]
  | _, .str _, _ => by simp [PyData.depth]
  | 0, .list _, h => by simp [pk] at h
  | n + 1, .list xs, h => by
    have := pk_depthAll n xs (by simpa [pk] using h)
    simp only [PyData.depth]; omega
  | 0, .tuple _, h => by simp [pk] at h
  | n + 1, .tuple xs, h => by
    have := pk_depthAll n xs (by simpa [pk] using h)
    simp only [PyData.depth]; omega
  | 0, .dict _, h => by simp [pk] at h
  | n + 1, .dict _, h => by simp [pk] at h
theorem pk_depthAll : ∀ (n : Nat) (ds : List PyData), (∀ d ∈ ds, pk n d = true) → PyData.depthAll ds ≤ n
  | _, [], _ => by simp [PyData.depthAll]
  | n, d :: ds, h => by
    have h1 := pk_depth n d (h d List.mem_cons_self)
    have h2 := pk_depthAll n ds fun x hx => h x (List.mem_cons_of_mem _ hx)
    simp only [PyData.depthAll]; omega
end
end

/-! ### environments -/
/-- what stands at a slot; fp: the addresses that it owns -/
def SlotAt (K : PySem.W.Frag) (C : Gx) (F H : Hp) (o : Option (Option V)) : Slot → List Addr → Prop
  | .u, fp => fp = []
  | .v x, fp => fp = [] ∧ ∃ v, o = some (some v) ∧ RD K C F v x
  | .L xs, fp => ∃ p vs, fp = [p] ∧ o = some (some (.ref p)) ∧ F p = none ∧ H p = some (.lst vs) ∧ RDs K C F vs xs
  | .D false kvs, fp => ∃ p vs, fp = [p] ∧ o = some (some (.ref p)) ∧ F p = none ∧ H p = some (.dK vs) ∧ RKs K C F vs kvs
  | .D true kvs, fp => ∃ p vs, fp = [p] ∧ o = some (some (.ref p)) ∧ F p = none ∧ H p = some (DX C.P C.w p vs) ∧ RTs K C F vs kvs
  | .LL xss, fp => ∃ p qs, fp = p :: qs ∧ o = some (some (.ref p)) ∧ F p = none ∧ H p = some (.lst (qs.map .ref)) ∧ (p :: qs).Nodup ∧
      Paired (fun q xs => F q = none ∧ ∃ vs, H q = some (.lst vs) ∧ RDs K C F vs xs) qs xss
  | .f z, fp => fp = [] ∧ o = some (some (.ref z.a)) ∧ F z.c = some (LamX.CodeO z.c z.q) ∧ FSub z.G F
/-- a table of code objects, all known -/
def TabF (F H : Hp) (P : Addr) (q : Str) : Prop := ∃ ps : Array Value, H P = some (.tbl ps) ∧ TriplesOk ps.toList ∧ ∀ (pos : Pos) (cv : Value), codeAmong pos ps.toList = some cv → ∃ c, cv = .ref c ∧ F c = some (LamX.CodeO c q)
theorem TabF.mono {F H F' H' : Hp} {P : Addr} {q : Str} (t : TabF F H P q) (s : FSub F F') (k : ∀ ps, H P = some (.tbl ps) → H' P = some (.tbl ps)) : TabF F' H' P q :=
  let ⟨ps, h1, h2, h3⟩ := t
  ⟨ps, k _ h1, h2, fun pos cv h => let ⟨c, e1, e2⟩ := h3 pos cv h; ⟨c, e1, s _ _ e2⟩⟩
theorem TabF.ts {F H : Hp} {P : Addr} {q : Str} (t : TabF F H P q) (s : FSub F H) : LamX.TabS H P q :=
  let ⟨ps, h1, h2, h3⟩ := t
  ⟨ps, h1, h2, fun pos cv h => let ⟨c, e1, e2⟩ := h3 pos cv h; ⟨c, e1, s _ _ e2⟩⟩
abbrev Fps := Nat → List Addr
structure Rel (K : PySem.W.Frag) (C : Gx) (F H : Hp) (ρ : PL.Env) (σ : L2.St) (fps : Fps) : Prop where
  sub : FSub F H
  len : ρ.length = σ.length
  at_ : ∀ i, SlotAt K C F H σ[i]? (gs ρ i) (fps i)
  dis : ∀ i j a, a ∈ fps i → a ∈ fps j → i = j
  tab : ∀ p ∈ C.T, TabF F H p.1 p.2 ∧ F p.1 = none
section
variable {K : PySem.W.Frag} {C : Gx} {F F' H H' : Hp} {o : Option (Option V)}
theorem free_LL : ∀ {qs : List Addr} {xss : List (List Val)}, Paired (fun q xs => F q = none ∧ ∃ vs, H q = some (.lst vs) ∧ RDs K C F vs xs) qs xss → ∀ a ∈ qs, F a = none ∧ ∃ x, H a = some x
  | _, _, .nil, a, ha => by cases ha
  | _, _, .cons r t, a, ha => by
    rcases List.mem_cons.mp ha with e | hb
    · subst e; exact ⟨r.1, _, r.2.choose_spec.1⟩
    · exact free_LL t a hb
theorem SlotAt.free : ∀ {s : Slot} {fp : List Addr}, SlotAt K C F H o s fp → ∀ a ∈ fp, F a = none ∧ ∃ x, H a = some x
  | .u, _, h, a, ha => by rw [show _ = [] from h] at ha; cases ha
  | .v _, _, h, a, ha => by rw [h.1] at ha; cases ha
  | .L _, _, ⟨p, vs, e, _, f, g, _⟩, a, ha => by
    subst e; obtain rfl := List.mem_singleton.mp ha; exact ⟨f, _, g⟩
  | .D false _, _, ⟨p, vs, e, _, f, g, _⟩, a, ha => by
    subst e; obtain rfl := List.mem_singleton.mp ha; exact ⟨f, _, g⟩
  | .D true _, _, ⟨p, vs, e, _, f, g, _⟩, a, ha => by
    subst e; obtain rfl := List.mem_singleton.mp ha; exact ⟨f, _, g⟩
  | .LL xss, _, ⟨p, qs, e, _, f, g, nd, pr⟩, a, ha => by
    subst e
    rcases List.mem_cons.mp ha with e | hb
    · subst e; exact ⟨f, _, g⟩
    · exact free_LL pr a hb
  | .f _, _, h, a, ha => by rw [h.1] at ha; cases ha
theorem no_tbl_LL : ∀ {qs : List Addr} {xss : List (List Val)}, Paired (fun q xs => F q = none ∧ ∃ vs, H q = some (.lst vs) ∧ RDs K C F vs xs) qs xss → ∀ a ∈ qs, ∀ ys, H a ≠ some (.tbl ys)
  | _, _, .nil, a, ha, _ => by cases ha
  | _, _, .cons r t, a, ha, ys => by
    rcases List.mem_cons.mp ha with e | hb
    · subst e; obtain ⟨_, vs, hv, _⟩ := r; rw [hv]; intro z; cases z
    · exact no_tbl_LL t a hb ys
theorem SlotAt.no_tbl : ∀ {s : Slot} {fp : List Addr}, SlotAt K C F H o s fp → ∀ a ∈ fp, ∀ ys, H a ≠ some (.tbl ys)
  | .u, _, h, a, ha, _ => by rw [show _ = [] from h] at ha; cases ha
  | .v _, _, h, a, ha, _ => by rw [h.1] at ha; cases ha
  | .L _, _, ⟨p, vs, e, _, f, g, _⟩, a, ha, ys => by
    subst e; obtain rfl := List.mem_singleton.mp ha; rw [g]; intro z; cases z
  | .D false _, _, ⟨p, vs, e, _, f, g, _⟩, a, ha, ys => by
    subst e; obtain rfl := List.mem_singleton.mp ha; rw [g]; intro z; cases z
  | .D true _, _, ⟨p, vs, e, _, f, g, _⟩, a, ha, ys => by
    subst e; obtain rfl := List.mem_singleton.mp ha; rw [g]; intro z; unfold DX at z; cases z
  | .LL xss, _, ⟨p, qs, e, _, f, g, nd, pr⟩, a, ha, ys => by
    subst e
    rcases List.mem_cons.mp ha with e | hb
    · subst e; rw [g]; intro z; cases z
    · exact no_tbl_LL pr a hb ys
  | .f _, _, h, a, ha, _ => by rw [h.1] at ha; cases ha
/-- the frozen part grows beside it, the owned objects stand -/
theorem SlotAt.grow (hs : FSub F F') : ∀ {s : Slot} {fp : List Addr}, SlotAt K C F H o s fp → (∀ a ∈ fp, F' a = none) → (∀ a ∈ fp, ∀ x, H a = some x → H' a = some x) → SlotAt K C F' H' o s fp
  | .u, _, h, _, _ => h
  | .v _, _, ⟨e, v, e2, r⟩, _, _ => ⟨e, v, e2, r.sub hs⟩
  | .f _, _, ⟨e, e2, r, g⟩, _, _ => ⟨e, e2, hs _ _ r, g.trans hs⟩
  | .L _, _, ⟨p, vs, e, eo, f, g, r⟩, hf, hk => by
    subst e; exact ⟨p, vs, rfl, eo, hf p List.mem_cons_self, hk p List.mem_cons_self _ g, r.sub hs⟩
  | .D false _, _, ⟨p, vs, e, eo, f, g, r⟩, hf, hk => by
    subst e; exact ⟨p, vs, rfl, eo, hf p List.mem_cons_self, hk p List.mem_cons_self _ g, r.sub hs⟩
  | .D true _, _, ⟨p, vs, e, eo, f, g, r⟩, hf, hk => by
    subst e; exact ⟨p, vs, rfl, eo, hf p List.mem_cons_self, hk p List.mem_cons_self _ g, r.sub hs⟩
  | .LL xss, _, ⟨p, qs, e, eo, f, g, nd, pr⟩, hf, hk => by
    subst e
    refine ⟨p, qs, rfl, eo, hf p List.mem_cons_self, hk p List.mem_cons_self _ g, nd, ?_⟩
    have hf' : ∀ a ∈ qs, F' a = none := fun a ha => hf a (List.mem_cons_of_mem _ ha)
    have hk' : ∀ a ∈ qs, ∀ x, H a = some x → H' a = some x := fun a ha => hk a (List.mem_cons_of_mem _ ha)
    clear nd g f hf hk
    induction pr with
    | nil => exact .nil
    | cons r _ ih =>
      obtain ⟨_, vs, hv, rv⟩ := r
      exact .cons ⟨hf' _ List.mem_cons_self, vs, hk' _ List.mem_cons_self _ hv, rv.sub hs⟩ (ih (fun a ha => hf' a (List.mem_cons_of_mem _ ha)) fun a ha => hk' a (List.mem_cons_of_mem _ ha))
end
/-- what stands stays, tables stay tables -/
structure Tbs (H H' : Hp) : Prop where
  tb : ∀ a ps, H a = some (.tbl ps) → ∃ qs, H' a = some (.tbl qs)
  th : ∀ a o, H a = some o → ∃ o', H' a = some o'
theorem Tbs.refl (H : Hp) : Tbs H H := ⟨fun _ ps e => ⟨ps, e⟩, fun _ o e => ⟨o, e⟩⟩
theorem Tbs.trans {H H1 H2 : Hp} (A : Tbs H H1) (B : Tbs H1 H2) : Tbs H H2 := ⟨fun a ps e => (A.tb a ps e).elim fun qs q => B.tb a qs q, fun a o e => (A.th a o e).elim fun qs q => B.th a qs q⟩
theorem Tbs.new {H : Hp} {p : Addr} {o : HO} (hp : H p = none) : Tbs H (upd H p o) := ⟨fun a ps e => ⟨ps, by rw [upd_ne (ne_of_none e hp)]; exact e⟩, fun a u e => ⟨u, by rw [upd_ne (ne_of_none e hp)]; exact e⟩⟩
theorem Tbs.wr {H : Hp} {p : Addr} {o o0 : HO} (t : ∀ ps, o0 ≠ .tbl ps) (e : H p = some o0) : Tbs H (upd H p o) := ⟨fun a ps h => by
    by_cases z : a = p
    · rw [z, e] at h; exact (t _ (Option.some.inj h)).elim
    · rw [upd_ne z]; exact ⟨_, h⟩, fun a u h => by
    by_cases z : a = p
    · rw [z]; exact ⟨o, upd_same⟩
    · rw [upd_ne z]; exact ⟨_, h⟩⟩
theorem Tbs.off {H H' : Hp} {p : Addr} {o : HO} (hp : H p = none) (A : Tbs H H') : Tbs H (upd H' p o) := ⟨fun a ps h => by rw [upd_ne (ne_of_none h hp)]; exact A.tb a ps h, fun a ps h => by rw [upd_ne (ne_of_none h hp)]; exact A.th a ps h⟩
theorem Tbs.back {H H' : Hp} {p : Addr} {o : HO} (hp : H p = none) (A : Tbs (upd H p o) H') : Tbs H H' := ⟨fun a ps h => A.tb a ps (by rw [upd_ne (ne_of_none h hp)]; exact h), fun a ps h => A.th a ps (by rw [upd_ne (ne_of_none h hp)]; exact h)⟩
/-- what a part leaves -/
structure Post (K : PySem.W.Frag) (C : Gx) (F H : Hp) (fps : Fps) (ρ' : PL.Env) (σ' : L2.St) (F' H' : Hp) (fps' : Fps) : Prop where
  rel : Rel K C F' H' ρ' σ' fps'
  ext : FSub F F'
  keep : ∀ a o, H a = some o → (∀ i, a ∉ fps i) → (∀ ps, o ≠ .tbl ps) → H' a = some o
  tbs : Tbs H H'
  new : ∀ a o, F' a = some o → F a = some o ∨ H a = none ∨ ∃ i, a ∈ fps i
  own : ∀ i a, a ∈ fps' i → (∃ j, a ∈ fps j) ∨ H a = none
section
variable {K : PySem.W.Frag} {C : Gx} {F F1 F2 H H1 H2 : Hp} {ρ ρ1 ρ2 : PL.Env} {σ σ1 σ2 : L2.St} {fps fps1 fps2 : Fps}
theorem Post.refl (R : Rel K C F H ρ σ fps) : Post K C F H fps ρ σ F H fps :=
  ⟨R, FSub.refl _, fun _ _ e _ _ => e, Tbs.refl _, fun _ _ e => .inl e, fun i _ h => .inl ⟨i, h⟩⟩
theorem Post.stay (A : Post K C F H fps ρ1 σ1 F1 H1 fps1) {a : Addr} {o : HO} (e : H a = some o) : ∃ o', H1 a = some o' := A.tbs.th a o e
theorem Post.gone (A : Post K C F H fps ρ1 σ1 F1 H1 fps1) {a : Addr} (e : H1 a = none) : H a = none := by
  cases z : H a with
  | none => rfl
  | some u =>
    obtain ⟨o', q⟩ := A.stay z
    rw [q] at e; cases e
theorem Post.trans (A : Post K C F H fps ρ1 σ1 F1 H1 fps1) (B : Post K C F1 H1 fps1 ρ2 σ2 F2 H2 fps2) : Post K C F H fps ρ2 σ2 F2 H2 fps2 where
  rel := B.rel
  ext := A.ext.trans B.ext
  keep := fun a o e h n => B.keep a o (A.keep a o e h n) (fun i hi => by
    rcases A.own i a hi with ⟨j, hj⟩ | hn
    · exact h j hj
    · rw [e] at hn; cases hn) n
  tbs := A.tbs.trans B.tbs
  new := fun a o e => by
    rcases B.new a o e with q | q | ⟨i, q⟩
    · exact A.new a o q
    · by_cases hx : ∃ j, a ∈ fps j
      · exact .inr (.inr hx)
      · refine .inr (.inl ?_)
        cases z : H a with
        | none => rfl
        | some u =>
          obtain ⟨o', q'⟩ := A.stay z
          rw [q'] at q; cases q
    · rcases A.own i a q with hj | hn
      · exact .inr (.inr hj)
      · exact .inr (.inl hn)
  own := fun i a ha => by
    rcases B.own i a ha with ⟨j, hj⟩ | hn
    · exact A.own j a hj
    · by_cases hx : ∃ j, a ∈ fps j
      · exact .inl hx
      · refine .inr ?_
        cases z : H a with
        | none => rfl
        | some u =>
          obtain ⟨o', q'⟩ := A.stay z
          rw [q'] at hn; cases hn
theorem tab_upd {T : List (Addr × Str)} {p : Addr} {o : HO} (hp : H p = none) (t : ∀ q ∈ T, TabF F H q.1 q.2 ∧ F q.1 = none) : ∀ q ∈ T, TabF F (upd H p o) q.1 q.2 ∧ F q.1 = none := fun q hq =>
  ⟨(t q hq).1.mono (FSub.refl _) fun ps e => by rw [upd_ne (ne_of_none e hp)]; exact e, (t q hq).2⟩
theorem tab_ne {T : List (Addr × Str)} {p : Addr} (hp : H p = none) (t : ∀ q ∈ T, TabF F H q.1 q.2 ∧ F q.1 = none) : ∀ q ∈ T, q.1 ≠ p := fun q hq e => by
  obtain ⟨⟨ps, z, _⟩, _⟩ := t q hq
  rw [e, hp] at z; cases z
/-- a new object is laid and frozen -/
theorem Rel.laid (R : Rel K C F H ρ σ fps) {p : Addr} {o : HO} (hp : H p = none) : Rel K C (upd F p o) (upd H p o) ρ σ fps where
  sub := FSub.upd_both R.sub
  len := R.len
  at_ := fun i => (R.at_ i).grow (FSub.upd_new (R.sub.none hp)) (fun a ha => by
      obtain ⟨f, x, g⟩ := (R.at_ i).free a ha
      rw [upd_ne (ne_of_none g hp)]; exact f) fun a ha x g => by
      rw [upd_ne (ne_of_none g hp)]; exact g
  dis := R.dis
  tab := fun q hq => ⟨(R.tab q hq).1.mono (FSub.upd_new (R.sub.none hp)) fun ps e => by rw [upd_ne (ne_of_none e hp)]; exact e, by rw [upd_ne (tab_ne hp R.tab q hq)]; exact (R.tab q hq).2⟩
theorem Post.laid (R : Rel K C F H ρ σ fps) {p : Addr} {o : HO} (hp : H p = none) : Post K C F H fps ρ σ (upd F p o) (upd H p o) fps where
  rel := R.laid hp
  ext := FSub.upd_new (R.sub.none hp)
  keep := fun a u e _ _ => by rw [upd_ne (ne_of_none e hp)]; exact e
  tbs := Tbs.new hp
  new := fun a u e => by
    by_cases h : a = p
    · subst h; exact .inr (.inl hp)
    · rw [upd_ne h] at e; exact .inl e
  own := fun i a h => .inl ⟨i, h⟩
/-- a new object is laid, not frozen -/
theorem Post.laidU (R : Rel K C F H ρ σ fps) {p : Addr} {o : HO} (hp : H p = none) : Post K C F H fps ρ σ F (upd H p o) fps where
  rel := ⟨R.sub.upd_right (R.sub.none hp), R.len, fun i => (R.at_ i).grow (FSub.refl _) (fun a ha => ((R.at_ i).free a ha).1) fun a ha x g => by
      rw [upd_ne (ne_of_none g hp)]; exact g, R.dis, tab_upd hp R.tab⟩
  ext := FSub.refl _
  keep := fun a u e _ _ => by rw [upd_ne (ne_of_none e hp)]; exact e
  tbs := Tbs.new hp
  new := fun a u e => .inl e
  own := fun i a h => .inl ⟨i, h⟩
end
/-! ### the judgement of an expression -/
def tE (K : PySem.W.Frag) (C : Gx) (m : M Val) : TE := fun σ H Q => ∃ F ρ fps x ρ', Rel K C F H ρ σ fps ∧ m ρ = some (x, ρ') ∧
  ∀ v F' H' fps', Post K C F H fps ρ' σ F' H' fps' → RD K C F' v x → Q v H'
def tAs (K : PySem.W.Frag) (C : Gx) (m : M (List Val)) : TA := fun σ H Q => ∃ F ρ fps xs ρ', Rel K C F H ρ σ fps ∧ m ρ = some (xs, ρ') ∧
  ∀ vs F' H' fps', Post K C F H fps ρ' σ F' H' fps' → RDs K C F' vs xs → Q vs H'
def tBo (K : PySem.W.Frag) (C : Gx) (m : M Bool) : TT := fun σ H Q => ∃ F ρ fps b ρ', Rel K C F H ρ σ fps ∧ m ρ = some (b, ρ') ∧
  ∀ F' H' fps', Post K C F H fps ρ' σ F' H' fps' → Q b H'
theorem PE.imp {X : Cx} {e : Expr} {t t' : TE} (h : PE X e t) (k : ∀ σ H Q, t' σ H Q → t σ H Q) : PE X e t' := ⟨fun pins s σ H Q I q => h.run pins s σ H Q I (k σ H Q q)⟩
theorem PT.imp {X : Cx} {e : Expr} {t t' : TT} (h : PT X e t) (k : ∀ σ H Q, t' σ H Q → t σ H Q) : PT X e t' := ⟨fun pins s σ H Q I q => h.run pins s σ H Q I (k σ H Q q)⟩
theorem PW.imp {X : Cx} {e : Expr} {t t' : TT} (h : PW X e t) (k : ∀ σ H Q, t' σ H Q → t σ H Q) : PW X e t' := ⟨fun w pins s σ H Q I q => h.run w pins s σ H Q I (k σ H Q q)⟩
theorem PA.imp {X : Cx} {e : List Expr} {t t' : TA} (h : PA X e t) (k : ∀ σ H Q, t' σ H Q → t σ H Q) : PA X e t' := ⟨fun p pins s σ H Q I q => h.run p pins s σ H Q I (k σ H Q q)⟩
theorem PS.imp {X : Cx} {e : Stmt} {t t' : TS} (h : PS X e t) (k : ∀ D σ H, t' D σ H → t D σ H) : PS X e t' := ⟨fun pins s σ H D I q => h.run pins s σ H D I (k D σ H q)⟩
theorem PSs.imp {X : Cx} {e : List Stmt} {t t' : TS} (h : PSs X e t) (k : ∀ D σ H, t' D σ H → t D σ H) : PSs X e t' := ⟨fun pins s σ H D I q => h.run pins s σ H D I (k D σ H q)⟩
theorem PI.imp {X : Cx} {tg e : Expr} {t t' : TI} (h : PI X tg e t) (k : ∀ σ H Q, t' σ H Q → t σ H Q) : PI X tg e t' := ⟨fun pins s σ H Q I q => h.run pins s σ H Q I (k σ H Q q)⟩
theorem bnd_some {α β : Type} {m : M α} {f : α → M β} {ρ : PL.Env} {b : β} {ρ'' : PL.Env} (h : bnd m f ρ = some (b, ρ'')) : ∃ a ρ', m ρ = some (a, ρ') ∧ f a ρ' = some (b, ρ'') := by
  unfold bnd at h
  cases e : m ρ with
  | none => rw [e] at h; cases h
  | some p => obtain ⟨a, ρ'⟩ := p; rw [e] at h; exact ⟨a, ρ', rfl, h⟩
theorem lft_some {α : Type} {o : Option α} {ρ ρ' : PL.Env} {a : α} (h : lft o ρ = some (a, ρ')) : o = some a ∧ ρ' = ρ := by
  unfold lft at h
  cases e : o with
  | none => rw [e] at h; cases h
  | some x => rw [e] at h; cases h; exact ⟨rfl, rfl⟩
theorem ret_some {α : Type} {a b : α} {ρ ρ' : PL.Env} (h : ret a ρ = some (b, ρ')) : b = a ∧ ρ' = ρ := by
  unfold ret at h; cases h; exact ⟨rfl, rfl⟩
theorem fail_some {α : Type} {b : α} {ρ ρ' : PL.Env} (h : (fail : M α) ρ = some (b, ρ')) : False := by
  unfold fail at h; cases h
theorem line_eq : line = sizeLine := rfl
end PL
set_option maxHeartbeats 1000000
/-! PLs1: the parts of an expression, one by one. -/
namespace PL
open PySem PySem.Spec PyProof.Rows L2

/-! ### slots -/
theorem gs_ss_same : ∀ {ρ : PL.Env} {i : Nat} {x : Slot}, i < ρ.length → gs (ss ρ i x) i = x
  | [], _, _, h => absurd h (Nat.not_lt_zero _)
  | _ :: _, 0, _, _ => rfl
  | _ :: r, i + 1, _, h => gs_ss_same (ρ := r) (Nat.lt_of_succ_lt_succ h)
theorem gs_ss_ne : ∀ {ρ : PL.Env} {i j : Nat} {x : Slot}, j ≠ i → gs (ss ρ i x) j = gs ρ j
  | [], _, _, _, _ => rfl
  | _ :: _, 0, 0, _, h => absurd rfl h
  | _ :: _, 0, j + 1, _, _ => rfl
  | _ :: _, i + 1, 0, _, _ => rfl
  | _ :: r, i + 1, j + 1, _, h => gs_ss_ne (ρ := r) fun e => h (congrArg (· + 1) e)
theorem ss_length : ∀ {ρ : PL.Env} {i : Nat} {x : Slot}, (ss ρ i x).length = ρ.length
  | [], _, _ => rfl
  | _ :: _, 0, _ => rfl
  | _ :: r, i + 1, _ => congrArg (· + 1) (ss_length (ρ := r))
theorem gs_lt : ∀ {ρ : PL.Env} {i : Nat}, gs ρ i ≠ .u → i < ρ.length
  | [], _, h => absurd rfl h
  | _ :: _, 0, _ => Nat.zero_lt_succ _
  | _ :: r, i + 1, h => Nat.succ_lt_succ (gs_lt (ρ := r) h)

/-- the owned objects of slot i come to be frozen -/
def over (F H : Hp) (fp : List Addr) : Hp := fun a => if a ∈ fp then H a else F a
section
variable {K : PySem.W.Frag} {C : Gx} {F F1 F2 H H1 H2 : Hp} {ρ ρ1 ρ2 : PL.Env} {σ σ1 σ2 : L2.St} {fps fps1 fps2 : Fps}
theorem over_in {fp : List Addr} {a : Addr} (h : a ∈ fp) : over F H fp a = H a := if_pos h
theorem over_out {fp : List Addr} {a : Addr} (h : a ∉ fp) : over F H fp a = F a := if_neg h
theorem over_sub {fp : List Addr} (h : ∀ a ∈ fp, F a = none) : FSub F (over F H fp) := fun a o e => by
  by_cases ha : a ∈ fp
  · rw [h a ha] at e; cases e
  · rw [over_out ha]; exact e
theorem over_le {fp : List Addr} (s : FSub F H) : FSub (over F H fp) H := fun a o e => by
  by_cases ha : a ∈ fp
  · rw [over_in ha] at e; exact e
  · rw [over_out ha] at e; exact s a o e
def fpsW (fps : Fps) (i : Nat) (l : List Addr) : Fps := fun j => if j = i then l else fps j
theorem fpsW_same {i : Nat} {l : List Addr} : fpsW fps i l i = l := if_pos rfl
theorem fpsW_ne {i j : Nat} {l : List Addr} (h : j ≠ i) : fpsW fps i l j = fps j := if_neg h
theorem Rel.at_some (R : Rel K C F H ρ σ fps) {i : Nat} (h : gs ρ i ≠ .u) : i < σ.length := by rw [← R.len]; exact gs_lt h
theorem frozen_of {o : Option (Option V)} {fp : List Addr} (sub : FSub F H) : ∀ {s : Slot} {y : Val}, SlotAt K C F H o s fp → frz1 s = .v y → ∃ v, o = some (some v) ∧ RD K C (over F H fp) v y
  | .u, y, _, e => by cases e
  | .f _, y, _, e => by cases e
  | .v x, y, h, e => by cases e; obtain ⟨rfl, v, e, r⟩ := h; exact ⟨v, e, r.sub (over_sub fun a ha => by cases ha)⟩
  | .L xs, y, h, e => by
    cases e
    obtain ⟨p, vs, rfl, eo, f, g, r⟩ := h
    exact ⟨_, eo, .lst ((over_in List.mem_cons_self).trans g) (r.sub (over_sub fun a ha => by obtain rfl := List.mem_singleton.mp ha; exact f))⟩
  | .D false kvs, y, h, e => by
    cases e
    obtain ⟨p, vs, rfl, eo, f, g, r⟩ := h
    exact ⟨_, eo, .dK ((over_in List.mem_cons_self).trans g) (r.sub (over_sub fun a ha => by obtain rfl := List.mem_singleton.mp ha; exact f))⟩
  | .D true kvs, y, h, e => by
    cases e
    obtain ⟨p, vs, rfl, eo, f, g, r⟩ := h
    exact ⟨_, eo, .dT ((over_in List.mem_cons_self).trans g) (r.sub (over_sub fun a ha => by obtain rfl := List.mem_singleton.mp ha; exact f))⟩
  | .LL xss, y, h, e => by
    cases e
    have hfree := SlotAt.free h
    obtain ⟨p, qs, rfl, eo, f, g, nd, pr⟩ := h
    refine ⟨_, eo, .lst ((over_in List.mem_cons_self).trans g) ?_⟩
    have key : ∀ (G : Hp) (sub : FSub F G) {qs : List Addr} {xss : List (List Val)}, Paired (fun q xs => F q = none ∧ ∃ vs, H q = some (.lst vs) ∧ RDs K C F vs xs) qs xss → (∀ q ∈ qs, G q = H q) → RDs K C G (qs.map V.ref) (xss.map PyData.list) := by
      intro G sub qs xss pr
      induction pr with
      | nil => intro _; exact .nil
      | cons r _ ih =>
        intro hq
        obtain ⟨_, vs, hv, rv⟩ := r
        exact .cons (.lst ((hq _ List.mem_cons_self).trans hv) (rv.sub sub)) (ih fun q h => hq q (List.mem_cons_of_mem _ h))
    exact key _ (over_sub fun a ha => (hfree a ha).1) pr fun q hq => over_in (List.mem_cons_of_mem _ hq)
/-- an owned slot is frozen -/
theorem Post.frozen (R : Rel K C F H ρ σ fps) {i : Nat} {y : Val} (e : frz1 (gs ρ i) = .v y) :
    ∃ v, σ[i]? = some (some v) ∧ RD K C (over F H (fps i)) v y ∧ Post K C F H fps (ss ρ i (.v y)) σ (over F H (fps i)) H (fpsW fps i []) := by
  have hi : i < ρ.length := gs_lt fun z => by rw [z] at e; cases e
  have hf : ∀ a ∈ fps i, F a = none := fun a ha => ((R.at_ i).free a ha).1
  obtain ⟨v, ev, rv⟩ := frozen_of R.sub (R.at_ i) e
  refine ⟨v, ev, rv, ⟨⟨over_le R.sub, by rw [ss_length]; exact R.len, fun j => ?_, fun j k a hj hk => ?_, fun q hq => ⟨(R.tab q hq).1.mono (over_sub hf) fun _ e => e, ?_⟩⟩, over_sub hf, fun a o z _ _ => z, Tbs.refl _, fun a o z => ?_, fun j a h => .inl ?_⟩⟩
  · by_cases hj : j = i
    · subst hj
      rw [gs_ss_same hi, fpsW_same]
      exact ⟨rfl, v, ev, rv⟩
    · rw [gs_ss_ne hj, fpsW_ne hj]
      refine (R.at_ j).grow (over_sub hf) (fun a ha => ?_) fun a _ x z => z
      rw [over_out fun z => hj (R.dis j i a ha z)]
      exact ((R.at_ j).free a ha).1
  · by_cases ej : j = i
    · subst ej; rw [fpsW_same] at hj; cases hj
    · by_cases ek : k = i
      · subst ek; rw [fpsW_same] at hk; cases hk
      · rw [fpsW_ne ej] at hj; rw [fpsW_ne ek] at hk; exact R.dis j k a hj hk
  · rw [over_out fun z => ?_]
    · exact (R.tab q hq).2
    · obtain ⟨ps, t, _⟩ := (R.tab q hq).1
      exact (R.at_ i).no_tbl _ z ps t
  · by_cases ha : a ∈ fps i
    · exact .inr (.inr ⟨i, ha⟩)
    · rw [over_out ha] at z; exact .inl z
  · by_cases ej : j = i
    · subst ej; rw [fpsW_same] at h; cases h
    · rw [fpsW_ne ej] at h; exact ⟨j, h⟩
end

section
variable {X : Cx} {C : Gx} {e a b c : Expr} {es : List Expr} {pos : Pos} {m ma mb mc : M Val} {mas : M (List Val)}
abbrev SE (X : Cx) (C : Gx) (e : Expr) (m : M Val) : Prop := PE X e (tE X.K C m)
abbrev SA (X : Cx) (C : Gx) (es : List Expr) (m : M (List Val)) : Prop := PA X es (tAs X.K C m)
abbrev SB (X : Cx) (C : Gx) (e : Expr) (m : M Bool) : Prop := PT X e (tBo X.K C m)

theorem snd_var {i : Nat} {x : Str} (hN : X.N[i]? = some x) (hv : Vis X.env.scope x) (hd : (x == ("__debug__" : Str)) = false) (hcd : (x == ("__classdict__" : Str)) = false) : SE X C (.Name x pos) (getV i) := by
  refine PE.imp (pe_var hN hv hd hcd) ?_
  rintro σ H Q ⟨F, ρ, fps, y, ρ', R, h, k⟩
  have key : ∀ (z : Val), frz1 (gs ρ i) = .v z → y = z → ρ' = ss ρ i (.v z) → tVar i σ H Q := by
    rintro z ez rfl rfl
    obtain ⟨v, ev, rv, P⟩ := Post.frozen R ez
    exact ⟨v, ev, k v _ _ _ P rv⟩
  unfold getV at h
  cases e : gs ρ i with
  | u => rw [e] at h; cases h
  | f _ => rw [e] at h; cases h
  | v z =>
    rw [e] at h; cases h
    have hz := R.at_ i
    rw [e] at hz
    obtain ⟨_, v, ev, rv⟩ := hz
    exact ⟨v, ev, k v _ _ _ (Post.refl R) rv⟩
  | L xs => rw [e] at h; cases h; exact key _ (by rw [e]; rfl) rfl rfl
  | D t kvs => rw [e] at h; cases h; exact key _ (by rw [e]; rfl) rfl rfl
  | LL xss => rw [e] at h; cases h; exact key _ (by rw [e]; rfl) rfl rfl
/-- a constant of any make -/
theorem snd_tC {v : V} {x : Val} (h : PE X e (tC v)) (r : ∀ F, RD X.K C F v x) : SE X C e (ret x) := by
  refine PE.imp h ?_
  rintro σ H Q ⟨F, ρ, fps, y, ρ', R, h, k⟩
  obtain ⟨rfl, rfl⟩ := ret_some h
  exact k v _ _ _ (Post.refl R) (r F)
/-! ### lists of parts -/
theorem sa_nil : SA X C [] (argsM (ret (.tuple []))) := by
  refine PA.imp pa_nil ?_
  rintro σ H Q ⟨F, ρ, fps, xs, ρ', R, h, k⟩
  cases h
  exact k [] _ _ _ (Post.refl R) .nil
theorem argsM_cons {ρ ρ' : PL.Env} {xs : List Val} (h : argsM (bnd ma fun x => bnd mas fun xs => ret (.tuple (x :: xs))) ρ = some (xs, ρ')) :
    ∃ x ρ1 r, ma ρ = some (x, ρ1) ∧ mas ρ1 = some (r, ρ') ∧ xs = x :: r := by
  obtain ⟨y, ρ2, h1, h2⟩ := bnd_some h
  obtain ⟨x, ρ1, h3, h4⟩ := bnd_some h1
  obtain ⟨r, ρ3, h5, h6⟩ := bnd_some h4
  obtain ⟨rfl, rfl⟩ := ret_some h6
  obtain ⟨rfl, rfl⟩ := ret_some h2
  exact ⟨x, ρ1, r, h3, h5, rfl⟩
theorem sa_cons (ha : SE X C e ma) (hr : SA X C es mas) (hs : starEach (e :: es) X.env = (false, eval e X.env) :: starEach es X.env) :
    SA X C (e :: es) (argsM (bnd ma fun x => bnd mas fun xs => ret (.tuple (x :: xs)))) := by
  refine PA.imp (pa_cons ha hr hs) ?_
  rintro σ H Q ⟨F, ρ, fps, xs, ρ', R, h, k⟩
  obtain ⟨x, ρ1, r, h1, h2, rfl⟩ := argsM_cons h
  refine ⟨F, ρ, fps, x, ρ1, R, h1, fun v F1 H1 fps1 P1 rv => ⟨F1, ρ1, fps1, r, ρ', P1.rel, h2, fun vs F2 H2 fps2 P2 rvs => ?_⟩⟩
  exact k _ _ _ _ (P1.trans P2) (.cons (rv.sub P2.ext) rvs)
theorem argsM_star {ρ ρ' : PL.Env} {xs : List Val} (h : argsM (bnd ma fun x => bnd (lft (itemsV x)) fun ys => bnd mas fun xs => ret (.tuple (ys ++ xs))) ρ = some (xs, ρ')) :
    ∃ x ρ1 ys r, ma ρ = some (x, ρ1) ∧ itemsV x = some ys ∧ mas ρ1 = some (r, ρ') ∧ xs = ys ++ r := by
  obtain ⟨y, ρ2, h1, h2⟩ := bnd_some h
  obtain ⟨x, ρ1, h3, h4⟩ := bnd_some h1
  obtain ⟨ys, ρ4, h7, h8⟩ := bnd_some h4
  obtain ⟨h9, rfl⟩ := lft_some h7
  obtain ⟨r, ρ3, h5, h6⟩ := bnd_some h8
  obtain ⟨rfl, rfl⟩ := ret_some h6
  obtain ⟨rfl, rfl⟩ := ret_some h2
  exact ⟨x, ρ4, ys, r, h3, h9, h5, rfl⟩
/-- a list or a tuple of data -/
theorem RD.items {K : PySem.W.Frag} {F : Hp} {v : V} {x : Val} {ys : List Val} (r : RD K C F v x) (h : itemsV x = some ys) : ∃ p vs, v = .ref p ∧ (SqT K F p vs ∨ SqL K F p vs) ∧ RDs K C F vs ys := by
  cases x with
  | list xs => cases h; obtain ⟨p, vs, e, g, q⟩ := r.lst_inv; exact ⟨p, vs, e, .inr (SqL.of g), q⟩
  | tuple xs => cases h; obtain ⟨p, vs, e, g, q⟩ := r.tup_inv; exact ⟨p, vs, e, .inl g, q⟩
  | dict kvs =>
    unfold itemsV at h
    split at h
    · rename_i e; cases e
    · rename_i e; cases e
    rotate_left
    · cases h
    rename_i e
    cases h
    rw [e] at r
    obtain ⟨p, vs, e, g, q⟩ := RD.ct_inv (show RD K C F v (ctV ys) from r)
    exact ⟨p, vs, e, .inl g, q⟩
  | _ => cases h
theorem sa_star {p : Pos} (ha : SE X C e ma) (hr : SA X C es mas) (hs : starEach (.Starred e p :: es) X.env = (true, eval e X.env) :: starEach es X.env) :
    SA X C (.Starred e p :: es) (argsM (bnd ma fun x => bnd (lft (itemsV x)) fun ys => bnd mas fun xs => ret (.tuple (ys ++ xs)))) := by
  refine PA.imp (StX.pa_star ha hr hs) ?_
  rintro σ H Q ⟨F, ρ, fps, xs, ρ', R, h, k⟩
  obtain ⟨x, ρ1, ys, r, h1, h2, h3, rfl⟩ := argsM_star h
  refine ⟨F, ρ, fps, x, ρ1, R, h1, fun v F1 H1 fps1 P1 rv => ?_⟩
  obtain ⟨q, vs, ev, hq, rq⟩ := rv.items h2
  refine ⟨q, vs, ev, hq.elim (fun z => .inl (SqT.sub P1.rel.sub z)) (fun z => .inr (SqL.sub P1.rel.sub z)), F1, ρ1, fps1, r, ρ', P1.rel, h3, fun ws F2 H2 fps2 P2 rvs => ?_⟩
  exact k _ _ _ _ (P1.trans P2) ((rq.sub P2.ext).append rvs)
/-- a new tuple, known to the object -/
def tObj (us : List Value) : Obj := { cls := .type "tuple", data := .seq us.toArray }
theorem Inv.tupS {pins : List (Addr × Obj)} {σ : L2.St} {H : Hp} {s : Shared} {xs : List V} {us : List Value} {t' : Nat} (I : Inv X pins σ H s) (r : Vals xs us) (z : xs.length ≤ sizeLine) :
    Inv X pins σ (upd H s.heap.objs.size (.frz (tObj us) (.tup xs))) { s with heap := s.heap.push (tObj us), toks := t' } :=
  I.laid (t' := t') (fun _ _ e => Heap.get?_push_of_some _ e) (Nat.le_refl _) ⟨Heap.get?_push_size _ rfl, z, us, r, ⟨_, Heap.get?_push_size _ rfl, rfl, _, rfl⟩⟩
/-- what is laid: a tuple that has no dict of its own -/
def NewT (H : Hp) (xs : List V) (Q : VK) : Prop := ∀ p o, o.dict = none → H p = none → Q (.ref p) (upd H p (.frz o (.tup xs)))
theorem NewT.fin {pins : List (Addr × Obj)} {σ : L2.St} {H : Hp} {s : Shared} {xs : List V} {us : List Value} {t' : Nat} {Q : VK} (q : NewT H xs Q) (I : Inv X pins σ H s) (r : Vals xs us) (z : xs.length ≤ sizeLine) :
    EP X pins σ Q (.ref s.heap.objs.size) { s with heap := s.heap.push (tObj us), toks := t' } :=
  ⟨.ref s.heap.objs.size, _, Inv.tupS I r z, rfl, q _ _ rfl (I.hok.fresh (Nat.le_refl _))⟩
theorem pe_tupS {x1 : Nat} {t : TA} (h : PA X es t) : PE X (.Tuple es x1 pos) (fun σ H Q => t σ H fun xs H1 => xs.length ≤ sizeLine ∧ NewT H1 xs Q) := by
  refine ⟨fun pins s σ H Q I hq => ?_⟩
  refine wpAny_Tuple_spliced (thn (h.run pos pins s σ H _ I hq) fun us s1 ⟨xs, H1, I1, r, z, q⟩ => ⟨by rw [← r.length]; exact z, ?_⟩)
  exact q.fin (t' := s1.toks) I1 r z
theorem snd_tup {x1 : Nat} (h : SA X C es mas) : SE X C (.Tuple es x1 pos) (bnd mas fun xs => if xs.length ≤ line then ret (.tuple xs) else fail) :=
  PE.imp (pe_tupS h) fun σ H Q ⟨F, ρ, fps, x, ρ', R, e, k⟩ => by
    obtain ⟨xs, ρ1, h1, h2⟩ := bnd_some e
    refine ⟨F, ρ, fps, xs, ρ1, R, h1, fun vs F1 H1 fps1 P1 rv => ?_⟩
    split at h2
    · rename_i hl
      obtain ⟨rfl, rfl⟩ := ret_some h2
      refine ⟨by rw [rv.length]; exact hl, fun p o hd hp => k _ _ _ _ (P1.trans (Post.laid P1.rel hp)) (.tup upd_same hd (rv.sub (FSub.upd_new (P1.rel.sub.none hp))))⟩
    · exact (fail_some h2).elim
theorem snd_lst (h : SA X C es mas) : SE X C (.List es pos) (bnd mas fun xs => if xs.length ≤ line then ret (.list xs) else fail) := by
  refine PE.imp (pe_lst h) ?_
  rintro σ H Q ⟨F, ρ, fps, x, ρ', R, h, k⟩
  obtain ⟨xs, ρ1, h1, h2⟩ := bnd_some h
  refine ⟨F, ρ, fps, xs, ρ1, R, h1, fun vs F1 H1 fps1 P1 rv => ?_⟩
  split at h2
  · rename_i hl
    obtain ⟨rfl, rfl⟩ := ret_some h2
    refine ⟨by rw [rv.length]; exact hl, fun p hp => k _ _ _ _ (P1.trans (Post.laid P1.rel hp)) (.lst upd_same (rv.sub (FSub.upd_new (P1.rel.sub.none hp))))⟩
  · exact (fail_some h2).elim
/-! ### two parts and an operation -/
/-- an operation on two values, by what it asks where the values are data -/
def RuleOk (K : PySem.W.Frag) (C : Gx) (r : R2) (f : Val → Val → Option Val) : Prop :=
  ∀ (x y z : Val) (F H : Hp) (v u : V) (Q : VK), FSub F H → RD K C F v x → RD K C F u y → f x y = some z →
    (∀ w, RD K C F w z → Q w H) → (∀ p o w, H p = none → RD K C (upd F p o) w z → Q w (upd H p o)) → r v u H Q
theorem snd_op {r : R2} {f : Val → Val → Option Val} (h : PE X e (tOp r (tE X.K C ma) (tE X.K C mb))) (hr : RuleOk X.K C r f) : SE X C e (bnd ma fun x => bnd mb fun y => lft (f x y)) := by
  refine PE.imp h ?_
  rintro σ H Q ⟨F, ρ, fps, z, ρ', R, h, k⟩
  obtain ⟨x, ρ1, h1, h2⟩ := bnd_some h
  obtain ⟨y, ρ2, h3, h4⟩ := bnd_some h2
  obtain ⟨h5, rfl⟩ := lft_some h4
  refine ⟨F, ρ, fps, x, ρ1, R, h1, fun v F1 H1 fps1 P1 rv => ⟨F1, ρ1, fps1, y, ρ', P1.rel, h3, fun u F2 H2 fps2 P2 ru => ?_⟩⟩
  refine hr x y z F2 H2 v u Q P2.rel.sub (rv.sub P2.ext) ru h5 (fun w rw => k _ _ _ _ (P1.trans P2) rw) fun p o w hp rw => ?_
  exact k _ _ _ _ ((P1.trans P2).trans (Post.laid P2.rel hp)) rw
end
end PL
set_option maxHeartbeats 1000000
/-! PLs2: operators, comparisons, places, slices. -/
namespace PL
open PySem PySem.Spec PyProof.Rows L2
section
variable {X : Cx} {C : Gx}
theorem OpR.imp {f : Value → Value → PySem.Sem Value} {r r' : R2} (h : OpR X f r) (k : ∀ x y H Q, r' x y H Q → r x y H Q) : OpR X f r' :=
  fun pins s σ H x y v u Q I rx ry q => h pins s σ H x y v u Q I rx ry (k x y H Q q)
def bopPy : Bop → Operator
  | .add => .Add | .sub => .Sub | .mul => .Mult | .mod => .Mod | .fdiv => .FloorDiv | .pow => .Pow
/-! ### + -/
/-- two tuples in one -/
def rCatS (K : PySem.W.Frag) : R2 := fun x y H Q => ∃ a b xs ys, x = .ref a ∧ y = .ref b ∧ SqT K H a xs ∧ SqT K H b ys ∧ xs.length + ys.length ≤ sizeLine ∧
  (xs = [] → Q (.ref b) H) ∧ (xs ≠ [] → ys = [] → Q (.ref a) H) ∧ (xs ≠ [] → ys ≠ [] → NewT H (xs ++ ys) Q)
theorem op_catS : OpR X (binaryOp .Add) (rCatS X.K) := by
  intro pins s σ H x y v u Q I rx ry h
  obtain ⟨a, b, xs, ys, rfl, rfl, ha, hb, hz, q0, q1, q2⟩ := h
  by_cases hx : xs = []
  · exact op_catA pins s σ H _ _ v u Q I rx ry ⟨a, b, xs, ys, rfl, rfl, ha, hb, hz, q0, q1, fun k => (k hx).elim⟩
  by_cases hy : ys = []
  · exact op_catA pins s σ H _ _ v u Q I rx ry ⟨a, b, xs, ys, rfl, rfl, ha, hb, hz, q0, q1, fun _ k => (k hy).elim⟩
  cases rx
  cases ry
  obtain ⟨its, r1, p1, _⟩ := I.tuple ha
  obtain ⟨its2, r2, p2, _⟩ := I.tuple hb
  refine HT.cat_tup p1 p2 (fun z => hx (r1.nil_iff.mp z)) (fun z => (hy (r2.nil_iff.mp z)).elim) (fun z => ?_) (by rw [← r1.length, ← r2.length]; exact hz)
  exact (q2 hx hy).fin (t' := s.toks) I (r1.append r2) (by rw [List.length_append]; exact hz)
def rAddA (K : PySem.W.Frag) : R2 := fun x y H Q => ((rI0 fun i j => V.int (i + j)) x y H Q ∨ (fun x y H Q => ∃ i j, x = .str i ∧ y = .str j ∧ i.length + j.length ≤ sizeLine ∧ Q (.str (i ++ j)) H : R2) x y H Q) ∨ rCat x y H Q ∨ rCatS K x y H Q
theorem op_addA : OpR X (binaryOp .Add) (rAddA X.K) := OpR.or (OpR.or op_add op_add_str) (OpR.or op_cat op_catS)
theorem ok_add : RuleOk X.K C (rAddA X.K) (bopV .add) := by
  intro x y z F H v u Q s rv ru e q1 q2
  cases x <;> cases y <;> simp only [bopV] at e <;> first | cases e | skip
  · obtain rfl := rv.int_inv; obtain rfl := ru.int_inv
    exact .inl (.inl ⟨_, _, rfl, rfl, q1 _ (.int _)⟩)
  · obtain rfl := rv.str_inv; obtain rfl := ru.str_inv
    split at e
    · rename_i hl; cases e
      exact .inl (.inr ⟨_, _, rfl, rfl, hl, q1 _ (.str _)⟩)
    · cases e
  · split at e
    · rename_i hl; cases e
      obtain ⟨a, xs, rfl, ea, ra⟩ := rv.lst_inv
      obtain ⟨b, ys, rfl, eb, rb⟩ := ru.lst_inv
      exact .inr (.inl ⟨a, b, xs, ys, rfl, rfl, s _ _ ea, s _ _ eb, by rw [ra.length, rb.length]; exact hl, fun p hp => q2 p _ _ hp (.lst upd_same ((ra.append rb).sub (FSub.upd_new (s.none hp))))⟩)
    · cases e
  · split at e
    · rename_i hl; cases e
      obtain ⟨a, xs, rfl, ea, ra⟩ := rv.tup_inv
      obtain ⟨b, ys, rfl, eb, rb⟩ := ru.tup_inv
      refine .inr (.inr ⟨a, b, xs, ys, rfl, rfl, SqT.sub s ea, SqT.sub s eb, by rw [ra.length, rb.length]; exact hl, fun hx => ?_, fun _ hy => ?_, fun _ _ p o hd hp => q2 p _ _ hp (.tup upd_same hd ((ra.append rb).sub (FSub.upd_new (s.none hp))))⟩)
      · subst hx
        cases ra
        exact q1 _ ru
      · subst hy
        cases rb
        exact q1 _ (by rw [List.append_nil]; exact rv)
    · cases e
theorem ok_sub : RuleOk X.K C (rI0 fun i j => V.int (i - j)) (bopV .sub) := by
  intro x y z F H v u Q s rv ru e q1 q2
  cases x <;> cases y <;> simp only [bopV] at e <;> first | cases e | skip
  obtain rfl := rv.int_inv; obtain rfl := ru.int_inv
  exact ⟨_, _, rfl, rfl, q1 _ (.int _)⟩
/-! ### * -/
def rStrMul : R2 := fun x y H Q => ∃ z k, x = .str z ∧ y = .int k ∧ 1 ≤ k ∧ k ≤ 1000 ∧ z.length ≤ 1000 ∧ Q (.str (S (repL k.toNat z.cps.toList))) H
theorem foldl_app (xs : Array Nat) : ∀ (n : Nat) (acc : Array Nat), ((List.replicate n xs).foldl (· ++ ·) acc).toList = acc.toList ++ (List.replicate n xs.toList).flatten
  | 0, acc => by simp
  | n + 1, acc => by rw [List.replicate_succ, List.foldl_cons, foldl_app xs n, List.replicate_succ, List.flatten_cons, Array.toList_append, List.append_assoc]
theorem txt_mul (z : Str) (k : Int) (h1 : 1 ≤ k) : Txt.mul z k = S (repL k.toNat z.cps.toList) := by
  unfold Txt.mul
  rw [if_neg (by omega)]
  have hS : ∀ a : Array Nat, (⟨a⟩ : Str) = S a.toList := fun a => by simp [S]
  split
  · rename_i h
    rw [Bool.or_eq_true] at h
    rcases h with h | h
    · have : k = 1 := by simpa using h
      subst this
      cases z; simp [S, repL]
    · have : z.cps.toList = [] := by
        have h' : z.cps.size = 0 := by simpa [Str.length] using h
        cases z; simp at h' ⊢; exact h'
      cases z with
      | mk cps =>
        simp only at this ⊢
        have e0 : cps = #[] := by simpa using this
        subst e0
        have : repL k.toNat ([] : List Nat) = [] := by simp [repL]
        simp [S, this]
  · rw [hS, foldl_app]; rfl
theorem op_strMul : OpR X (binaryOp .Mult) rStrMul := by
  intro pins s σ H x y v u Q I rx ry h
  obtain ⟨z, k, rfl, rfl, h1, h2, h3, q⟩ := h
  obtain ⟨t, rfl⟩ := rx
  obtain ⟨t', rfl⟩ := ry
  have hb : z.length * k.toNat ≤ 1000 * 1000 := Nat.mul_le_mul h3 (by omega)
  refine SB.mul ⟨by rw [decide_eq_false (by omega), decide_eq_false (by omega)] <;> rfl, fun _ _ => ?_, fun _ _ => ?_⟩ fun t' tk => ?_
  · have h4 : (1000 : Int) ≤ (2 ^ 63 - 1) / k := Int.le_ediv_of_mul_le (by omega) (by omega)
    omega
  · unfold Builtin.Str.tooLong
    have := sizeLine_eq
    exact decide_eq_false (by omega)
  · rw [txt_mul z k h1]
    exact ⟨.str _, H, I.tok _, ⟨_, rfl⟩, q⟩
theorem tuple_mul1 (l : Addr) (items : Array Value) (n : Nat) (dd : Option Addr) (sl : Array (Option Value)) (u : Tok) :
    Meets (Builtin.«tuple.__mul__» ⟨[.ref l, .int 1 u], []⟩) (fun _ R s => s.heap.get? l = some { cls := .type "tuple", dict := dd, data := .seq items n, slots := sl } ∧ R (.ok (.ret (Value.ref l))) s) :=
  .of_wp fun prog w A R s h => by
    obtain ⟨hp, g, d, tk, os⟩ := s
    obtain ⟨hl, h⟩ := h
    have f1 := AutoSeq1.idx_int
    have c1 : (items.isEmpty || (1 : Int) == 1) = true := by simp
    wp_walk using wpAny_loadPart' hl
    repeat (first
      | (refine wpAny_ite_false (decide_eq_false (by decide)) ?_; wp_walk using wpAny_loadPart' hl)
      | (refine wpAny_ite_true (decide_eq_true (by first | exact c1 | decide)) ?_; wp_walk using wpAny_loadPart' hl))
    all_goals first | exact ⟨_, rfl, h⟩ | exact h
def rRep1 (K : PySem.W.Frag) : R2 := fun x y H Q => ∃ l xs, x = .ref l ∧ y = .int 1 ∧ SqT K H l xs ∧ Q (.ref l) H
theorem op_rep1 : OpR X (binaryOp .Mult) (rRep1 X.K) := by
  intro pins s σ H x y v u Q I rx ry h
  obtain ⟨l, xs, rfl, rfl, hT, q⟩ := h
  cases rx
  obtain ⟨t, rfl⟩ := ry
  obtain ⟨its, r, ⟨⟨cls, dd, data, sl⟩, ho, hc, n, hd⟩, hs⟩ := I.tuple hT
  simp only at hc hd
  subst hc hd
  refine wpAny_binaryOp_repeat_ref (T := "tuple") (U := "int") (by decide) ⟨_, ho, rfl⟩ (fun s' => typeIs_int s' 1 t) noFill_tuple_mul F.fills_int_mul F.slot_int_rmul repeat_tuple F.slot_int_index.lookup
    (call_meets F.slot_int_rmul (typeIs_int s 1 t) F.entry_int_rmul (F.args_int_rmul_2 _ _) (int_rmul_tuple 1 t l its.toArray n dd sl)
      ⟨ho, rfl, ⟨_, ho, rfl⟩, call_meets F.slot_tuple_mul ⟨_, ho, rfl⟩ F.entry_tuple_mul (F.args_tuple_mul_2 _ _) (tuple_mul1 l its.toArray n dd sl t) ⟨ho, ?_⟩⟩)
  exact ⟨.ref l, H, I, rfl, q⟩
end
end PL
set_option maxHeartbeats 1000000
/-! PLs3: operators put together, comparisons, places, slices. -/
namespace PL
open PySem PySem.Spec PyProof.Rows L2
section
variable {X : Cx} {C : Gx}
/-- a tuple, n times -/
def rRepS (K : PySem.W.Frag) : R2 := fun x y H Q => ∃ l k xs, x = .ref l ∧ y = .int k ∧ SqT K H l xs ∧ xs ≠ [] ∧ 2 ≤ k ∧ k ≤ 1000 ∧ xs.length ≤ 1000 ∧ NewT H (repL k.toNat xs) Q
theorem op_repS : OpR X (binaryOp .Mult) (rRepS X.K) := by
  intro pins s σ H x y v u Q I rx ry ⟨l, k, xs, e1, e2, hT, hne, h1, h2, hz, q⟩
  subst e1 e2; cases rx; obtain ⟨t, rfl⟩ := ry
  obtain ⟨us, r, ⟨⟨cls, dd, data, sl⟩, ho, hc, n, hd⟩, hs⟩ := I.tuple hT
  simp only at hc hd; subst hc hd
  have hle : us.length = xs.length := r.length.symm
  have hn : us ≠ [] := fun e => hne (by rw [e] at hle; exact List.eq_nil_of_length_eq_zero hle.symm)
  have hi : us.toArray.isEmpty = false := by cases us with | nil => exact absurd rfl hn | cons a b => rfl
  have hm : ((us.length : Nat) : Int) * k ≤ 1000000 := by
    have a1 : ((us.length : Nat) : Int) * k ≤ 1000 * k := Int.mul_le_mul_of_nonneg_right (by omega) (by omega)
    omega
  have f0 : k.toNat * us.length ≤ 1000 * 1000 := Nat.mul_le_mul (by omega) (by omega)
  have flen : (List.replicate k.toNat us).flatten.length ≤ sizeLine := by
    rw [PyProof.Rows.lm_len_rep_flat, sizeLine_eq]; omega
  have c4 : Builtin.Tuple.tupleTooMany (((us.toArray.size : Nat) : Int) * k) = false := by
    unfold Builtin.Tuple.tupleTooMany; rw [sizeLine_eq, List.size_toArray]; exact decide_eq_false (by omega)
  have hw := tuple_mulW l us.toArray n dd sl k t (by rw [decide_eq_false (by omega), decide_eq_false (by omega)]; rfl) (by rw [hi, Bool.false_or]; exact beq_eq_false_iff_ne.mpr (by omega))
    (by rw [hi, Bool.or_false]; exact decide_eq_false (by omega)) (by rw [List.size_toArray]; omega) c4 (by rw [size_rep, List.size_toArray]; exact flen)
  refine wpAny_binaryOp_repeat_ref (T := "tuple") (U := "int") (by decide) ⟨_, ho, rfl⟩ (fun s' => typeIs_int s' k t) noFill_tuple_mul F.fills_int_mul F.slot_int_rmul repeat_tuple F.slot_int_index.lookup
    (call_meets F.slot_int_rmul (typeIs_int s k t) F.entry_int_rmul (F.args_int_rmul_2 _ _) (int_rmul_tuple k t l us.toArray n dd sl) ⟨ho, rfl, ⟨_, ho, rfl⟩, call_meets F.slot_tuple_mul ⟨_, ho, rfl⟩ F.entry_tuple_mul (F.args_tuple_mul_2 _ _) hw ⟨ho, ?_⟩⟩)
  rw [size_rep]
  exact q.fin (t' := s.toks) I (r.rep k.toNat) (by show (List.replicate k.toNat xs).flatten.length ≤ sizeLine; rw [(r.rep k.toNat).length]; exact flen)
def rMulA (K : PySem.W.Frag) : R2 := fun x y H Q => ((rI CMul fun i j => V.int (i * j)) x y H Q ∨ rStrMul x y H Q) ∨ (rRep x y H Q ∨ (rRepS K x y H Q ∨ rRep1 K x y H Q))
theorem op_mulA : OpR X (binaryOp .Mult) (rMulA X.K) := OpR.or (OpR.or op_mul op_strMul) (OpR.or op_rep (OpR.or op_repS op_rep1))
theorem repL_one {α : Type} (xs : List α) : repL 1 xs = xs := by simp [repL]
theorem ok_mul : RuleOk X.K C (rMulA X.K) (bopV .mul) := by
  intro x y z F H v u Q s rv ru e q1 q2
  cases x <;> cases y <;> simp only [bopV] at e <;> first | cases e | skip
  · split at e
    · rename_i hl; cases e
      obtain rfl := rv.int_inv; obtain rfl := ru.int_inv
      exact .inl (.inl ⟨_, _, rfl, rfl, hl, q1 _ (.int _)⟩)
    · cases e
  · split at e
    · rename_i hl; cases e
      obtain rfl := rv.str_inv; obtain rfl := ru.int_inv
      exact .inl (.inr ⟨_, _, rfl, rfl, hl.1, hl.2.1, hl.2.2, q1 _ (.str _)⟩)
    · cases e
  · split at e
    · rename_i k hl; cases e
      obtain rfl := ru.int_inv
      obtain ⟨a, xs, rfl, ea, ra⟩ := rv.lst_inv
      refine .inr (.inl ⟨a, k, xs, rfl, rfl, s _ _ ea, by omega, by omega, ?_, fun p hp => q2 p _ _ hp (.lst upd_same ((ra.rep _).sub (FSub.upd_new (s.none hp))))⟩)
      have := ra.length
      rw [sizeLine_eq]
      have h2 : xs.length * k.toNat ≤ 1000 * 1000 := Nat.mul_le_mul (by omega) (by omega)
      exact Nat.le_trans h2 (by decide)
    · cases e
  · split at e
    · rename_i n hl; cases e
      obtain rfl := ru.int_inv
      obtain ⟨a, xs, rfl, ea, ra⟩ := rv.tup_inv
      have hlen := ra.length
      by_cases h1 : n = 1
      · subst h1
        refine .inr (.inr (.inr ⟨a, xs, rfl, rfl, SqT.sub s ea, q1 _ ?_⟩))
        rw [show Int.toNat 1 = 1 from rfl, repL_one]
        exact rv
      · refine .inr (.inr (.inl ⟨a, _, xs, rfl, rfl, SqT.sub s ea, ?_, by omega, hl.2.1, by omega, fun p o hd hp => q2 p _ _ hp (.tup upd_same hd ((ra.rep _).sub (FSub.upd_new (s.none hp))))⟩))
        intro e0; subst e0; cases ra; exact hl.2.2.2 rfl
    · cases e
theorem ok_mod : RuleOk X.K C (rI (fun _ j => 0 < j) fun i j => V.int (i % j)) (bopV .mod) := by
  intro x y z F H v u Q s rv ru e q1 q2
  cases x <;> cases y <;> simp only [bopV] at e <;> first | cases e | skip
  split at e
  · rename_i hl; cases e
    obtain rfl := rv.int_inv; obtain rfl := ru.int_inv
    exact ⟨_, _, rfl, rfl, hl, q1 _ (.int _)⟩
  · cases e
theorem ok_fdiv : RuleOk X.K C (rI CDiv fun i j => V.int (i / j)) (bopV .fdiv) := by
  intro x y z F H v u Q s rv ru e q1 q2
  cases x <;> cases y <;> simp only [bopV] at e <;> first | cases e | skip
  split at e
  · rename_i hl; cases e
    obtain rfl := rv.int_inv; obtain rfl := ru.int_inv
    exact ⟨_, _, rfl, rfl, hl, q1 _ (.int _)⟩
  · cases e
theorem ok_pow : RuleOk X.K C (rI CPow fun i j => V.int (i ^ j.toNat)) (bopV .pow) := by
  intro x y z F H v u Q s rv ru e q1 q2
  cases x <;> cases y <;> simp only [bopV] at e <;> first | cases e | skip
  split at e
  · rename_i hl; cases e
    obtain rfl := rv.int_inv; obtain rfl := ru.int_inv
    exact ⟨_, _, rfl, rfl, hl, q1 _ (.int _)⟩
  · cases e
theorem snd_bop {o : Bop} {a b : Expr} {pos : Pos} {ma mb : M Val} (ha : SE X C a ma) (hb : SE X C b mb) : SE X C (.BinOp a (bopPy o) b pos) (bnd ma fun x => bnd mb fun y => lft (bopV o x y)) := by
  cases o
  · exact snd_op (pe_op op_addA ha hb) ok_add
  · exact snd_op (pe_op op_sub ha hb) ok_sub
  · exact snd_op (pe_op op_mulA ha hb) ok_mul
  · exact snd_op (pe_op op_mod ha hb) ok_mod
  · exact snd_op (pe_op op_fdiv ha hb) ok_fdiv
  · exact snd_op (pe_op op_pow ha hb) ok_pow
/-! ### comparisons -/
def copPy : Cop → CmpOp
  | .eq => .Eq | .ne => .NotEq | .lt => .Lt | .le => .LtE | .gt => .Gt | .ge => .GtE | .isin => .In | .notin => .NotIn | .is_ => .Is | .isnot => .IsNot
def rCmp (K : PySem.W.Frag) (C : Gx) (o : Cop) : R2 := fun x y H Q => ∃ F d e r, FSub F H ∧ RD K C F x d ∧ RD K C F y e ∧ cmpV o d e = some r ∧ Q (.bl r) H
theorem RD.reads {pins : List (Addr × Obj)} {σ : L2.St} {F H : Hp} {s : Shared} (I : Inv X pins σ H s) (sub : FSub F H) {v : V} {u : Value} {d : PyData} {n : Nat} (h : RD X.K C F v d) (p : pk n d = true) (r : RelV v u) : ∃ as, Reads s.heap u d as :=
  Dp.reads I d v u (h.dp sub n p) r
theorem RDs.readsAll {pins : List (Addr × Obj)} {σ : L2.St} {F H : Hp} {s : Shared} (I : Inv X pins σ H s) (sub : FSub F H) {v : List V} {u : List Value} {d : List PyData} {n : Nat} (h : RDs X.K C F v d) (p : ∀ x ∈ d, pk n x = true) (r : Vals v u) : ∃ as, ReadsAll s.heap u d as :=
  Dp.readsAll I d v u (h.dp sub n p) r
theorem pk_min {d e : PyData} {u : Nat} (h : pk 8 d = true) (hu : u + 64 < cLine) : u + min d.depth e.depth < cLine := by
  have := pk_depth 8 d h
  omega
theorem ne_none_of {x : PyData} (h : notNone x = true) : x ≠ .none := by
  intro e; subst e; cases h
theorem okLt_ok {x y : PyData} (h : okLt x y = true) : pk 8 x = true ∧ pk 8 y = true ∧ PySem.W.alike x y = true ∧ x ≠ .none := by
  unfold okLt at h
  simp only [Bool.and_eq_true] at h
  exact ⟨h.1.1.1, h.1.1.2, h.1.2, ne_none_of h.2⟩
theorem opc_eq (hu : X.A.units + 70 < cLine) : OpR X (compareOp .Eq) (rCmp X.K C .eq) := by
  rintro pins s σ H x y v u Q I rx ry ⟨F, d, e, r, sub, rd, re, h, q⟩
  simp only [cmpV] at h
  split at h
  · rename_i hp
    simp only [Bool.and_eq_true] at hp
    cases h
    obtain ⟨as, r1⟩ := rd.reads I sub hp.1 rx
    obtain ⟨bs, r2⟩ := re.reads I sub hp.2 ry
    exact SeqAt.eq_plain r1 r2 (pk_plain 8 _ hp.1) (pk_plain 8 _ hp.2) (pk_min hp.1 (by omega)) ⟨.bl _, H, I, rfl, q⟩
  · cases h
theorem opc_ne (hu : X.A.units + 70 < cLine) : OpR X (compareOp .NotEq) (rCmp X.K C .ne) := by
  rintro pins s σ H x y v u Q I rx ry ⟨F, d, e, r, sub, rd, re, h, q⟩
  simp only [cmpV] at h
  split at h
  · rename_i hp
    simp only [Bool.and_eq_true] at hp
    cases h
    obtain ⟨as, r1⟩ := rd.reads I sub hp.1 rx
    obtain ⟨bs, r2⟩ := re.reads I sub hp.2 ry
    exact SeqAt.ne_plain r1 r2 (pk_plain 8 _ hp.1) (pk_plain 8 _ hp.2) (pk_min hp.1 (by omega)) ⟨.bl _, H, I, rfl, q⟩
  · cases h
theorem opc_ord (hu : X.A.units + 70 < cLine) : (OpR X (compareOp .Lt) (rCmp X.K C .lt) ∧ OpR X (compareOp .Gt) (rCmp X.K C .gt)) ∧ OpR X (compareOp .LtE) (rCmp X.K C .le) ∧ OpR X (compareOp .GtE) (rCmp X.K C .ge) := by
  refine ⟨⟨?_, ?_⟩, ?_, ?_⟩
  all_goals
    rintro pins s σ H x y v u Q I rx ry ⟨F, d, e, r, sub, rd, re, h, q⟩
    simp only [cmpV] at h
    have hp : okLt d e = true := by
      cases z : okLt d e with
      | true => rfl
      | false => rw [z] at h; cases h
    rw [if_pos hp] at h
    obtain ⟨p1, p2, p3, p4⟩ := okLt_ok hp
    cases h
    obtain ⟨as, r1⟩ := rd.reads I sub p1 rx
    obtain ⟨bs, r2⟩ := re.reads I sub p2 ry
  · exact PySem.W.lt_data r1 r2 p3 p4 (pk_min p1 (by omega)) ⟨.bl _, H, I, rfl, q⟩
  · exact PySem.W.gt_data r1 r2 p3 p4 (pk_min p1 (by omega)) ⟨.bl _, H, I, rfl, q⟩
  · exact PySem.W.le_data r1 r2 p3 p4 (pk_min p1 (by omega)) ⟨.bl _, H, I, rfl, q⟩
  · exact PySem.W.ge_data r1 r2 p3 p4 (pk_min p1 (by omega)) ⟨.bl _, H, I, rfl, q⟩
/-! is -/
theorem RD.non_iff {K : PySem.W.Frag} {F : Hp} {v : V} {d : PyData} (h : RD K C F v d) (e : d ≠ .none) : v ≠ .non := by
  intro q; subst q; cases h; exact e rfl
theorem isV_ok {K : PySem.W.Frag} {F : Hp} {x y : V} {d e : PyData} {r : Bool} (rd : RD K C F x d) (re : RD K C F y e) (h : isV d e = some r) :
    (y = .non ∧ r = decide (x = .non)) ∨ ∃ a b : Bool, x = .bl a ∧ y = .bl b ∧ r = decide (a = b) := by
  unfold isV at h
  split at h
  all_goals first | (cases h; done) | skip
  · cases h; obtain rfl := rd.none_inv; obtain rfl := re.none_inv; exact .inl ⟨rfl, rfl⟩
  · cases h; obtain rfl := rd.bool_inv; obtain rfl := re.bool_inv; exact .inr ⟨_, _, rfl, rfl, by rename_i a b; cases a <;> cases b <;> rfl⟩
  all_goals
    cases h; obtain rfl := re.none_inv
    exact .inl ⟨rfl, (decide_eq_false (rd.non_iff (by intro z; cases z))).symm⟩
theorem opc_is : OpR X (compareOp .Is) (rCmp X.K C .is_) := by
  rintro pins s σ H x y v u Q I rx ry ⟨F, d, e, r, sub, rd, re, h, q⟩
  rcases isV_ok rd re (show isV d e = some r from h) with ⟨e1, e2⟩ | ⟨a, b, e1, e2, e3⟩
  · exact op_isN pins s σ H x y v u Q I rx ry ⟨e1, e2 ▸ q⟩
  · exact op_isBl pins s σ H x y v u Q I rx ry ⟨a, b, e1, e2, e3 ▸ q⟩
theorem opc_isnot : OpR X (compareOp .IsNot) (rCmp X.K C .isnot) := by
  rintro pins s σ H x y v u Q I rx ry ⟨F, d, e, r, sub, rd, re, h, q⟩
  simp only [cmpV] at h
  cases hi : isV d e with
  | none => rw [hi] at h; cases h
  | some r' =>
    rw [hi] at h; cases h
    rcases isV_ok rd re hi with ⟨e1, e2⟩ | ⟨a, b, e1, e2, e3⟩
    · exact op_notN pins s σ H x y v u Q I rx ry ⟨e1, e2 ▸ q⟩
    · exact op_notBl pins s σ H x y v u Q I rx ry ⟨a, b, e1, e2, e3 ▸ q⟩
end
end PL
set_option maxHeartbeats 1000000
/-! PLs4: dicts looked into, in, places, slices. -/
namespace PL
open PySem PySem.Spec PyProof.Rows L2
theorem keyS_key {d : Val} (h : keyS d = true) : ∃ k : Key, d = keyD k := by
  cases d with
  | int i => exact ⟨.inl i, rfl⟩
  | str x => exact ⟨.inr x, rfl⟩
  | _ => cases h
theorem keysD : ∀ {ds : List Val}, ds.all keyS = true → ∃ ks : List Key, ds = ks.map keyD
  | [], _ => ⟨[], rfl⟩
  | d :: ds, h => by
    rw [List.all_cons, Bool.and_eq_true] at h
    obtain ⟨k, rfl⟩ := keyS_key h.1
    obtain ⟨ks, rfl⟩ := keysD h.2
    exact ⟨k :: ks, rfl⟩
theorem keyT_key {d : Val} (h : keyT d = true) : ∃ ks : List Key, d = .tuple (ks.map keyD) ∧ kc (ks.map keyD) = false := by
  cases d with
  | tuple xs =>
    simp only [keyT, Bool.and_eq_true] at h
    obtain ⟨ks, rfl⟩ := keysD h.1
    exact ⟨ks, rfl, by simpa using h.2⟩
  | _ => cases h
theorem eqv_key (a b : Key) : PyData.eqv (keyD a) (keyD b) = decide (a = b) := by
  cases a with
  | inl i => cases b with
    | inl j => simp only [keyD, PyData.eqv]; by_cases h : i = j <;> simp [h]
    | inr y => simp [keyD, PyData.eqv]
  | inr x => cases b with
    | inl j => simp [keyD, PyData.eqv]
    | inr y => simp only [keyD, PyData.eqv]; by_cases h : x = y <;> simp [h]
theorem eqv_keys : ∀ a b : List Key, PyData.eqvAll (a.map keyD) (b.map keyD) = decide (a = b)
  | [], [] => rfl
  | [], _ :: _ => rfl
  | _ :: _, [] => rfl
  | x :: a, y :: b => by
    simp only [List.map_cons, PyData.eqvAll, eqv_key, eqv_keys a b]
    by_cases h : x = y <;> by_cases h2 : a = b <;> simp [h, h2]
section
variable {K : PySem.W.Frag} {C : Gx} {F H : Hp}
theorem RD.key {v : V} : ∀ {k : Key}, RD K C F v (keyD k) → v = kV k
  | .inl i, h => by obtain rfl := RD.int_inv (show RD K C F v (.int i) from h); rfl
  | .inr x, h => by obtain rfl := RD.str_inv (show RD K C F v (.str x) from h); rfl
theorem RDs.keys : ∀ {ks : List Key} {vs : List V}, RDs K C F vs (ks.map keyD) → vs = ks.map kV
  | [], vs, h => by cases h; rfl
  | k :: ks, vs, h => by
    generalize e : (k :: ks).map keyD = ds at h
    cases h with
    | nil => cases e
    | cons a b => cases e; rw [RD.key a, RDs.keys b]; rfl
/-- what a look-up gives, here and there -/
def GetR (K : PySem.W.Frag) (C : Gx) (F : Hp) : Option V → Option Val → Prop
  | none, none => True
  | some v, some x => RD K C F v x
  | _, _ => False
theorem dget_cons (p : Val × Val) (r : List (Val × Val)) (x : Val) : dget (p :: r) x = if PyData.eqv p.1 x = true then some p.2 else dget r x := by
  unfold dget
  rw [List.find?_cons]
  cases h : PyData.eqv p.1 x <;> simp [h]
theorem RKs.get : ∀ {vs : List (Key × V)} {kvs : List (Val × Val)} (k : Key), RKs K C F vs kvs → GetR K C F (valV vs k) (dget kvs (keyD k))
  | _, _, _, .nil => trivial
  | _, _, k, .cons (k := j) r t => by
    rw [dget_cons]
    simp only [eqv_key, decide_eq_true_eq]
    by_cases h : j = k
    · rw [if_pos h, valV_pos h]; exact r
    · rw [if_neg h, valV_neg h]; exact RKs.get k t
/-- a table of tuple keys, without the keys' places -/
def bare (kas : List (List Key × Addr × V)) : List (List Key × V) := kas.map fun e => (e.1, e.2.2)
theorem RTs.get : ∀ {vs : List (List Key × Addr × V)} {kvs : List (Val × Val)} (k : List Key), RTs K C F vs kvs → GetR K C F (valV (bare vs) k) (dget kvs (.tuple (k.map keyD)))
  | _, _, _, .nil => trivial
  | _, _, k, .cons (k := j) _ _ r t => by
    rw [dget_cons]
    simp only [PyData.eqv, eqv_keys, decide_eq_true_eq, bare, List.map_cons]
    by_cases h : j = k
    · rw [if_pos h, valV_pos h]; exact r
    · rw [if_neg h, valV_neg h]; exact RTs.get k t
/-- the keys' tuples stand -/
def KeysAt (H : Hp) (kas : List (List Key × Addr × V)) : Prop := ∀ e ∈ kas, ∃ ob, H e.2.1 = some (.frz ob (.tup (e.1.map kV)))
theorem RTs.keysAt (sub : FSub F H) : ∀ {vs : List (List Key × Addr × V)} {kvs : List (Val × Val)}, RTs K C F vs kvs → KeysAt H vs
  | _, _, .nil => fun e he => nomatch he
  | _, _, .cons hq _ _ t => fun e he => by
    rcases List.mem_cons.mp he with rfl | he
    · exact ⟨_, sub _ _ hq⟩
    · exact RTs.keysAt sub t e he
theorem dhas_get (kvs : List (Val × Val)) (x : Val) : dhas kvs x = (dget kvs x).isSome := by
  induction kvs with
  | nil => rfl
  | cons p r ih =>
    rw [dget_cons]
    unfold dhas at ih ⊢
    rw [List.any_cons, ih]
    cases h : PyData.eqv p.1 x <;> simp
theorem GetR.isSome : ∀ {a : Option V} {b : Option Val}, GetR K C F a b → a.isSome = b.isSome
  | none, none, _ => rfl
  | some _, some _, _ => rfl
  | none, some _, h => h.elim
  | some _, none, h => h.elim
/-- a dict that is not empty, of one kind of keys -/
theorem RD.dict_inv {v : V} {kvs : List (Val × Val)} (h : RD K C F v (.dict kvs)) (ne : kvs ≠ []) :
    ((kvs.all fun kv => keyS kv.1) = true → ∃ a vs, v = .ref a ∧ F a = some (.dK vs) ∧ RKs K C F vs kvs) ∧
    ((kvs.all fun kv => keyT kv.1) = true → ∃ a vs, v = .ref a ∧ F a = some (DX C.P C.w a vs) ∧ RTs K C F vs kvs) := by
  generalize e : PyData.dict kvs = d at h
  cases h with
  | dK e1 r =>
    cases e
    refine ⟨fun _ => ⟨_, _, rfl, e1, r⟩, fun ht => ?_⟩
    cases kvs with
    | nil => exact absurd rfl ne
    | cons p q =>
      obtain ⟨k, _, _, _, ek, _⟩ := r.cons_inv
      rw [List.all_cons, ek] at ht
      cases k <;> cases ht
  | dT e1 r =>
    cases e
    refine ⟨fun ht => ?_, fun _ => ⟨_, _, rfl, e1, r⟩⟩
    cases kvs with
    | nil => exact absurd rfl ne
    | cons p q =>
      obtain ⟨k, _, _, _, _, _, ek, _⟩ := r.cons_inv
      rw [List.all_cons, ek] at ht
      cases ht
  | st _ _ => cases e; exact ⟨fun ht => (by simp [keyS] at ht), fun ht => (by simp [keyT] at ht)⟩
  | ct _ _ => cases e; exact ⟨fun ht => (by simp [keyS] at ht), fun ht => (by simp [keyT] at ht)⟩
  | scr _ _ => cases e; exact ⟨fun ht => (by simp [keyS] at ht), fun ht => (by simp [keyT] at ht)⟩
  | gf _ => cases e; exact ⟨fun ht => (by simp [keyS] at ht), fun ht => (by simp [keyT] at ht)⟩
  | _ => cases e
/-- what the dict at a holds at the key y -/
def DG (P : Program) (w : World) (H : Hp) (a : Addr) (y : V) (o : Option V) : Prop := DGet H a y o ∨
  ∃ kas k b ob, H a = some (DX P w a kas) ∧ KeysAt H kas ∧ y = .ref b ∧ H b = some (.frz ob (.tup (k.map kV))) ∧ o = valV (bare kas) k
/-- a look-up in a frozen dict -/
theorem RD.look {v y : V} {kvs : List (Val × Val)} {x : Val} (sub : FSub F H) (h : RD K C F v (.dict kvs)) (rx : RD K C F y x) (ne : kvs ≠ [])
    (ok : ((keyS x && kvs.all fun kv => keyS kv.1) || (keyT x && kvs.all fun kv => keyT kv.1)) = true) : ∃ a o, v = .ref a ∧ DG C.P C.w H a y o ∧ GetR K C F o (dget kvs x) := by
  obtain ⟨hK, hT⟩ := h.dict_inv ne
  rcases Bool.or_eq_true_iff.mp ok with hs | hs
  · rw [Bool.and_eq_true] at hs
    obtain ⟨k, rfl⟩ := keyS_key hs.1
    obtain ⟨a, vs, rfl, e, r⟩ := hK hs.2
    obtain rfl := rx.key
    exact ⟨a, _, rfl, .inl (DGet.k (sub _ _ e)), r.get k⟩
  · rw [Bool.and_eq_true] at hs
    obtain ⟨ks, rfl, hc⟩ := keyT_key hs.1
    obtain ⟨a, vs, rfl, e, r⟩ := hT hs.2
    obtain ⟨b, ob, ws, rfl, eb, _, rb⟩ := rx.tup_key hc
    obtain rfl := rb.keys
    exact ⟨a, _, rfl, .inr ⟨_, ks, b, ob, sub _ _ e, r.keysAt sub, rfl, sub _ _ eb, rfl⟩, r.get ks⟩
end
/-! ### dicts of tuple keys -/
section
variable {P : Program} {w : World} {H : Hp} {h : Heap} {a : Addr}
theorem key_ofF {ks : List Key} {ob : Obj} (ok : HOk P w H h) (e : H a = some (.frz ob (.tup (ks.map kV)))) : (tupleKind (mixKind P w)).is h ks a := by
  obtain ⟨_, _, us, r, o, h1, h2, n, h3⟩ := (show ObjOk P w H h a (.frz ob (.tup (ks.map kV))) from ok a _ e)
  exact ⟨o, us.toArray, n, h1, h2, h3, by simpa using items_are r⟩
abbrev KA : List (List Key × Addr × V) → List (List Key × Addr × Value) → Prop := Paired fun p q => p.1 = q.1 ∧ p.2.1 = q.2.1 ∧ RelV p.2.2 q.2.2
theorem KA.is {kas : List (List Key × Addr × V)} {xs : List (List Key × Addr × Value)} (ok : HOk P w H h) (r : KA kas xs) (k : KeysAt H kas) : ∀ x ∈ xs, (tupleKind (mixKind P w)).is h x.1 x.2.1 := by
  induction r with
  | nil => intro x hx; exact nomatch hx
  | @cons p q ps qs hq t ih =>
    intro x hx
    rcases List.mem_cons.mp hx with rfl | hx
    · obtain ⟨ob, e⟩ := k p List.mem_cons_self
      rw [hq.1, hq.2.1] at e
      exact key_ofF ok e
    · exact ih (fun e he => k e (List.mem_cons_of_mem _ he)) x hx
theorem KA.val {kas : List (List Key × Addr × V)} {xs : List (List Key × Addr × Value)} (r : KA kas xs) (k : List Key) : RelO (valV (bare kas) k) ((atKey xs k).map (·.2)) := by
  induction r with
  | nil => exact True.intro
  | @cons p q ps qs h t ih =>
    obtain ⟨h1, _, h2⟩ := h
    show RelO (valV ((p.1, p.2.2) :: bare ps) k) _
    by_cases e : p.1 = k
    · have b : atKey (q :: qs) k = some q.2 := by simp [atKey, List.find?_cons, h1.symm.trans e]
      rw [valV_pos (show ((p.1, p.2.2) : List Key × V).1 = k from e), b]; exact h2
    · have e' : ¬ q.1 = k := fun z => e (h1.trans z)
      have b : atKey (q :: qs) k = atKey qs k := by simp [atKey, List.find?_cons, e']
      rw [valV_neg (show ¬ ((p.1, p.2.2) : List Key × V).1 = k from e), b]; exact ih
theorem dx_of {kas : List (List Key × Addr × V)} (ok : HOk P w H h) (e : H a = some (DX P w a kas)) (k : KeysAt H kas) :
    kas.length ≤ sizeLine ∧ (a == sysModules) = false ∧ ∃ xs, KA kas xs ∧ h.DictOfH (tupleKind (mixKind P w)) a xs := by
  obtain ⟨⟨z, y, xs, r, o, es, ep, h1, h2, h3, h4, h5⟩, _⟩ := (show ObjOk P w H h a (DX P w a kas) from ok a _ e)
  exact ⟨z, y, xs, r, o, es, ep, h1, h2, h3, h4, KA.is ok r k, h5⟩
/-- .. and back -/
theorem dx_to {kas : List (List Key × Addr × V)} {xs : List (List Key × Addr × Value)} (z : kas.length ≤ sizeLine) (y : (a == sysModules) = false) (r : KA kas xs) (d : h.DictOfH (tupleKind (mixKind P w)) a xs) : ObjOk P w H h a (DX P w a kas) := by
  obtain ⟨o, es, ep, h1, h2, h3, h4, _, h5⟩ := d
  refine ⟨⟨z, y, xs, r, o, es, ep, h1, h2, h3, h4, h5⟩, ⟨o, h1⟩, ?_⟩
  rintro g1 g2 ⟨z, y, xs, r, o, es, ep, h1, h2, h3, h4, h5⟩ k
  exact ⟨z, y, xs, r, o, es, ep, k _ h1, h2, h3, h4, h5⟩
end
section
variable {X : Cx} {pins : List (Addr × Obj)} {σ : L2.St} {H : Hp} {s : Shared} {a : Addr} {y v : V} {u r : Value} {o : Option V} {A : Around} {E : Value → Shared → Prop}
theorem g_getItem {Q : Value → Shared → Prop} (hu : A.units + 1 < cLine) (I : Inv X pins σ H s) (g : DG X.prog X.w H a y (some v)) (ry : RelV y u) (h : ∀ w' s', Inv X pins σ H s' → RelV v w' → Q w' s') :
    wpAny (model X.prog X.w) A (getItem (.ref a) u) Q E s := by
  rcases g with g | ⟨kas, k, b, ob, e, ka, ey, eb, l⟩
  · exact d_getItem hu I g ry h
  subst ey; cases (show u = Value.ref b from ry)
  obtain ⟨z, hd, xs, rel, dd⟩ := dx_of I.hok e ka
  obtain ⟨w', hw, rw'⟩ := RelO.some_of (v := v) (o := (atKey xs k).map (·.2)) (by rw [l]; exact rel.val k)
  obtain ⟨p, hp, rfl⟩ := Option.map_eq_some_iff.mp hw
  exact wpAny_getItem_heap (tupleKind_room_in1 hu) (key_ofF I.hok eb) dd hp (h _ _ (I.tok _) rw')
theorem g_in {Q : Value → Shared → Prop} (hu : A.units + 1 < cLine) (I : Inv X pins σ H s) (g : DG X.prog X.w H a y o) (ry : RelV y u) (h : ∀ s', Inv X pins σ H s' → Q (.bool o.isSome) s') :
    wpAny (model X.prog X.w) A (compareOp .In u (.ref a)) Q E s := by
  rcases g with g | ⟨kas, k, b, ob, e, ka, ey, eb, l⟩
  · exact d_in hu I g ry h
  subst ey; cases (show u = Value.ref b from ry)
  obtain ⟨z, hd, xs, rel, dd⟩ := dx_of I.hok e ka
  refine wpAny_in_heap (tupleKind_room_in1 hu) (key_ofF I.hok eb) hd dd ?_
  have q := (rel.val k).isSome_eq
  rw [Option.isSome_map] at q; rw [← q, ← l]; exact h _ (I.tok _)
theorem g_notIn {Q : Value → Shared → Prop} (hu : A.units + 1 < cLine) (I : Inv X pins σ H s) (g : DG X.prog X.w H a y o) (ry : RelV y u) (h : ∀ s', Inv X pins σ H s' → Q (.bool (!o.isSome)) s') :
    wpAny (model X.prog X.w) A (compareOp .NotIn u (.ref a)) Q E s := by
  rcases g with g | ⟨kas, k, b, ob, e, ka, ey, eb, l⟩
  · exact d_notIn hu I g ry h
  subst ey; cases (show u = Value.ref b from ry)
  obtain ⟨z, hd, xs, rel, dd⟩ := dx_of I.hok e ka
  refine wpAny_notIn_heap (tupleKind_room_in1 hu) (key_ofF I.hok eb) hd dd ?_
  have q := (rel.val k).isSome_eq
  rw [Option.isSome_map] at q; rw [← q, ← l]; exact h _ (I.tok _)
/-- in its place, or at the end -/
def putX (kas : List (List Key × Addr × V)) (k : List Key) (b : Addr) (v : V) : List (List Key × Addr × V) :=
  if (kas.any fun e => decide (e.1 = k)) = true then kas.map (fun e => if e.1 = k then (e.1, e.2.1, v) else e) else kas ++ [(k, b, v)]
theorem length_putX (kas : List (List Key × Addr × V)) (k : List Key) (b : Addr) (v : V) : (putX kas k b v).length ≤ kas.length + 1 := by
  unfold putX; split <;> simp
theorem KA.any {kas : List (List Key × Addr × V)} {xs : List (List Key × Addr × Value)} (r : KA kas xs) (k : List Key) : (kas.any fun e => decide (e.1 = k)) = (atKey xs k).isSome := by
  induction r with
  | nil => rfl
  | @cons p q ps qs h t ih =>
    rw [List.any_cons, ih]
    by_cases e : q.1 = k
    · simp [atKey, List.find?_cons, h.1, e]
    · simp [atKey, List.find?_cons, h.1, e]
theorem KA.put {kas : List (List Key × Addr × V)} {xs : List (List Key × Addr × Value)} (r : KA kas xs) (k : List Key) (b : Addr) {w' : Value} (rv : RelV v w') : KA (putX kas k b v) (storedH xs k b w') := by
  unfold putX storedH
  rw [r.any k]
  by_cases q : (atKey xs k).isSome = true
  · rw [if_pos q, if_pos q]
    clear q
    induction r with
    | nil => exact .nil
    | @cons p q ps qs h t ih =>
      rw [List.map_cons, List.map_cons]
      refine .cons ?_ ih
      unfold putAt
      by_cases e : q.1 = k
      · rw [if_pos e, if_pos (h.1.trans e)]; exact ⟨h.1, h.2.1, rv⟩
      · rw [if_neg e, if_neg (fun z => e (h.1.symm.trans z))]; exact h
  · rw [if_neg q, if_neg q]; exact Paired.snoc r ⟨rfl, rfl, rv⟩
theorem dx_setItem {kas : List (List Key × Addr × V)} {k : List Key} {b : Addr} {ob : Obj} {Q : Unit → Shared → Prop} (hu : A.units + 1 < cLine) (I : Inv X pins σ H s) (e : H a = some (DX X.prog X.w a kas)) (ka : KeysAt H kas)
    (eb : H b = some (.frz ob (.tup (k.map kV)))) (l : kas.length < sizeLine) (rv : RelV v r) (h : ∀ s', Inv X pins σ (upd H a (DX X.prog X.w a (putX kas k b v))) s' → Q () s') :
    wpAny (model X.prog X.w) A (setItem (.ref a) (.ref b) r) Q E s := by
  obtain ⟨z, hd, xs, rel, dd⟩ := dx_of I.hok e ka
  have hz : xs.length ≤ sizeLine := by rw [← Paired.length rel]; exact z
  have hl := length_putX kas k b v
  refine wpAny_setItem_heap (hsz := hz) (tupleKind_room_in1 hu) (key_ofF I.hok eb) dd fun h' dd' hs => h _ ?_
  have he : ∃ q, h'.get? a = some q := let ⟨q, _, _, hq, _⟩ := dd'; ⟨q, hq⟩
  exact d_write I (by rw [e]; exact True.intro) hs he (dx_to (by omega) hd (rel.put k b rv) dd')
theorem dx_empty {P : Program} {w : World} {H : Hp} (h : Heap) (hb : sysModules < h.objs.size) : ObjOk P w H (h.push { cls := .type "dict", data := .dict #[] }) h.objs.size (DX P w h.objs.size []) :=
  dx_to (Nat.zero_le _) (beq_eq_false_iff_ne.mpr (Ne.symm (Nat.ne_of_lt hb))) .nil ⟨_, #[], 0, Heap.get?_push_size _ rfl, ⟨rfl, rfl, rfl⟩, rfl, rfl, (fun _ h => nomatch h), List.nodup_nil⟩
end
/-- what holds of the run -/
def OnX (X : Cx) (C : Gx) : Prop := C.P = X.prog ∧ C.w = X.w
section
variable {X : Cx} {C : Gx}
/-! ### in -/
theorem inAny {ys : List Val} {x : Val} (h1 : pk 8 x = true) (h2 : ys.all (pk 8) = true) : PyData.plainAll ys = true ∧ x.plain = true ∧ PyData.depthAll ys ≤ 8 :=
  ⟨pk_plainAll 8 ys (List.all_eq_true.mp h2), pk_plain 8 x h1, pk_depthAll 8 ys (List.all_eq_true.mp h2)⟩
theorem one_sign {w : Str} {c : Nat} (h : w.cps.toList = [c]) : w = ⟨#[c]⟩ := by
  cases w with
  | mk cps =>
    simp only at h
    have : cps = #[c] := by
      have := congrArg List.toArray h
      simpa using this
    rw [this]
theorem opc_isin (hG : OnX X C) (hu : X.A.units + 70 < cLine) {neg : Bool} : OpR X (compareOp (if neg then .NotIn else .In)) (rCmp X.K C (if neg then .notin else .isin)) := by
  rintro pins s σ H x y v u Q I rx ry ⟨F, d, e, r, sub, rd, re, h, q⟩
  obtain ⟨r0, hin, hr⟩ : ∃ r0, inV d e = some r0 ∧ r = (if neg then !r0 else r0) := by
    cases neg with
    | false => exact ⟨r, h, rfl⟩
    | true =>
      have h' : (inV d e).map not = some r := h
      cases z : inV d e with
      | none => rw [z] at h'; cases h'
      | some r0 => rw [z] at h'; cases h'; exact ⟨r0, rfl, rfl⟩
  clear h
  have seqCase : ∀ (ys : List Val) (vs : List V) (p : Addr), pk 8 d = true → ys.all (pk 8) = true → y = .ref p → RDs X.K C F vs ys → (SqL X.K H p vs ∨ SqT X.K H p vs) → r0 = (ys.any fun z => PyData.eqv z d) →
      wpAny (model X.prog X.w) X.A (compareOp (if neg then .NotIn else .In) v u) (EP X pins σ Q) X.xe s := by
    intro ys vs p h1 h2 ey rys hs e0
    obtain ⟨pl, pd, dp⟩ := inAny h1 h2
    obtain ⟨as, r1⟩ := rd.reads I sub h1 rx
    subst ey
    obtain rfl : u = Value.ref p := ry
    have hroom : X.A.units + 1 + min (PyData.depthAll ys) d.depth < cLine := by omega
    subst hr e0
    rcases hs with hs | hs
    · obtain ⟨its, rv, ⟨o, n, ho, hc, hdn, hdt⟩, _⟩ := I.list hs
      obtain ⟨bs, r2⟩ := rys.readsAll I sub (List.all_eq_true.mp h2) rv
      have rc : Reads s.heap (.ref p) (.list ys) (p :: bs) := Reads.list ho hc hdt (by simpa using r2)
      cases neg with
      | false => exact SeqAt.in_list_data rc r1 pl pd hroom ⟨.bl _, H, I, rfl, q⟩
      | true => exact SeqAt.notIn_list_data rc r1 pl pd hroom ⟨.bl _, H, I, rfl, q⟩
    · obtain ⟨its, rv, ⟨o, ho, hc, n, hdt⟩, _⟩ := I.tuple hs
      obtain ⟨bs, r2⟩ := rys.readsAll I sub (List.all_eq_true.mp h2) rv
      have rc : Reads s.heap (.ref p) (.tuple ys) bs := Reads.tuple ho hc hdt (by simpa using r2)
      cases neg with
      | false => exact SeqAt.in_tuple_data rc r1 pl pd hroom ⟨.bl _, H, I, rfl, q⟩
      | true => exact SeqAt.notIn_tuple_data rc r1 pl pd hroom ⟨.bl _, H, I, rfl, q⟩
  unfold inV at hin
  split at hin
  · rename_i ys
    split at hin
    · rename_i hp
      rw [Bool.and_eq_true] at hp
      obtain ⟨p, vs, rfl, ep, rp⟩ := re.lst_inv
      exact seqCase ys vs p hp.1 hp.2 rfl rp (.inl (SqL.of (sub _ _ ep))) (Option.some.inj hin).symm
    · cases hin
  · rename_i ys
    split at hin
    · rename_i hp
      rw [Bool.and_eq_true] at hp
      obtain ⟨p, vs, rfl, ep, rp⟩ := re.tup_inv
      exact seqCase ys vs p hp.1 hp.2 rfl rp (.inr (SqT.sub sub ep)) (Option.some.inj hin).symm
    · cases hin
  · rename_i z
    split at hin
    · rename_i w
      split at hin
      · rename_i c hw
        obtain rfl := rd.str_inv
        obtain rfl := re.str_inv
        obtain rfl := one_sign hw
        cases hin
        have e0 : decide (c ∈ z.cps.toList) = z.cps.toList.contains c := by simp [List.contains_eq_mem]
        subst hr
        rw [← e0] at q
        cases neg with
        | false => exact op_in_sign pins s σ H _ _ v u Q I rx ry ⟨c, z, rfl, rfl, q⟩
        | true => exact op_notIn_sign pins s σ H _ _ v u Q I rx ry ⟨c, z, rfl, rfl, q⟩
      · cases hin
    · cases hin
  · rename_i ys
    split at hin
    · rename_i hp
      rw [Bool.and_eq_true] at hp
      obtain ⟨p, vs, rfl, ep, rp⟩ := RD.ct_inv (show RD X.K C F y (ctV ys) from re)
      exact seqCase ys vs p hp.1 hp.2 rfl rp (.inr (SqT.sub sub ep)) (Option.some.inj hin).symm
    · cases hin
  · rename_i kvs _
    split at hin
    · rename_i hp
      rw [Bool.and_eq_true] at hp
      have ne : kvs ≠ [] := by intro e0; subst e0; cases hp.1
      obtain ⟨a, o, rfl, g, gr⟩ := re.look sub rd ne hp.2
      obtain rfl : u = Value.ref a := ry
      cases hin
      rw [dhas_get, ← gr.isSome] at hr
      subst hr
      cases neg with
      | false => exact g_in (by omega) I (hG.1 ▸ hG.2 ▸ g) rx fun s' I' => ⟨.bl _, H, I', rfl, q⟩
      | true => exact g_notIn (by omega) I (hG.1 ▸ hG.2 ▸ g) rx fun s' I' => ⟨.bl _, H, I', rfl, q⟩
    · cases hin
  · cases hin
theorem opc (o : Cop) (hG : OnX X C) (hu : X.A.units + 70 < cLine) : OpR X (compareOp (copPy o)) (rCmp X.K C o) := by
  cases o
  · exact opc_eq hu
  · exact opc_ne hu
  · exact (opc_ord hu).1.1
  · exact (opc_ord hu).2.1
  · exact (opc_ord hu).1.2
  · exact (opc_ord hu).2.2
  · exact opc_isin hG hu (neg := false)
  · exact opc_isin hG hu (neg := true)
  · exact opc_is
  · exact opc_isnot
theorem snd_cmp {o : Cop} {a b : Expr} {pos : Pos} {ma mb : M Val} (hG : OnX X C) (hu : X.A.units + 70 < cLine) (ha : SE X C a ma) (hb : SE X C b mb) (hm : behindInMarks (copPy o) b = false) :
    SE X C (.Compare a [copPy o] [b] pos) (bnd ma fun x => bnd mb fun y => bnd (lft (cmpV o x y)) fun r => ret (.bool r)) := by
  refine PE.imp (pe_cmpR (opc (C := C) o hG hu) ha hb hm) ?_
  rintro σ H Q ⟨F, ρ, fps, z, ρ', R, h, k⟩
  obtain ⟨x, ρ1, h1, h2⟩ := bnd_some h
  obtain ⟨y, ρ2, h3, h4⟩ := bnd_some h2
  obtain ⟨r, ρ3, h5, h6⟩ := bnd_some h4
  obtain ⟨g5, rfl⟩ := lft_some h5
  obtain ⟨rfl, rfl⟩ := ret_some h6
  refine ⟨F, ρ, fps, x, ρ1, R, h1, fun v F1 H1 fps1 P1 rv => ⟨F1, ρ1, fps1, y, ρ', P1.rel, h3, fun u F2 H2 fps2 P2 ru => ?_⟩⟩
  exact ⟨F2, x, y, r, P2.rel.sub, rv.sub P2.ext, ru, g5, k _ _ _ _ (P1.trans P2) (.bl r)⟩
theorem snd_cmp2 {o o' : Cop} {a b c : Expr} {pos : Pos} {ma mb mc : M Val} (hG : OnX X C) (hu : X.A.units + 70 < cLine) (ha : SE X C a ma) (hb : SE X C b mb) (hc : SE X C c mc) (hm : lastMarks [copPy o, copPy o'] [b, c] = false) :
    SE X C (.Compare a [copPy o, copPy o'] [b, c] pos) (bnd ma fun x => bnd mb fun y => bnd (lft (cmpV o x y)) fun r =>
      if r = true then bnd mc fun z => bnd (lft (cmpV o' y z)) fun r' => ret (.bool r') else ret (.bool false)) := by
  refine PE.imp (pe_chain (opc (C := C) o hG hu) (opc (C := C) o' hG hu) ha hb hc hm) ?_
  rintro σ H Q ⟨F, ρ, fps, z, ρ', R, h, k⟩
  obtain ⟨x, ρ1, h1, h2⟩ := bnd_some h
  obtain ⟨y, ρ2, h3, h4⟩ := bnd_some h2
  obtain ⟨r, ρ3, h5, h6⟩ := bnd_some h4
  obtain ⟨g5, rfl⟩ := lft_some h5
  refine ⟨F, ρ, fps, x, ρ1, R, h1, fun v F1 H1 fps1 P1 rv => ⟨F1, ρ1, fps1, y, ρ3, P1.rel, h3, fun u F2 H2 fps2 P2 ru => ?_⟩⟩
  refine ⟨F2, x, y, r, P2.rel.sub, rv.sub P2.ext, ru, g5, r, rfl, ?_⟩
  cases r with
  | false =>
    obtain ⟨rfl, rfl⟩ := ret_some (show ret (.bool false) ρ3 = some (z, ρ') from h6)
    exact k _ _ _ _ (P1.trans P2) (.bl false)
  | true =>
    obtain ⟨w, ρ4, h7, h8⟩ := bnd_some (show (bnd mc fun z => bnd (lft (cmpV o' y z)) fun r' => ret (.bool r')) ρ3 = some (z, ρ') from h6)
    obtain ⟨r', ρ5, h9, h10⟩ := bnd_some h8
    obtain ⟨g9, rfl⟩ := lft_some h9
    obtain ⟨rfl, rfl⟩ := ret_some h10
    refine ⟨F2, ρ3, fps2, w, ρ', P2.rel, h7, fun v3 F3 H3 fps3 P3 r3 => ?_⟩
    exact ⟨F3, y, w, r', P3.rel.sub, ru.sub P3.ext, r3, g9, k _ _ _ _ ((P1.trans P2).trans P3) (.bl r')⟩
end
end PL
set_option maxHeartbeats 1000000
/-! PLs5: places, slices, tests, attributes. -/
namespace PL
open PySem PySem.Spec PyProof.Rows L2
section
variable {X : Cx} {C : Gx}
theorem atP_eq {α : Type} (xs : List α) (i : Int) : atP xs i = atI xs i := rfl
theorem atI_RDs {K : PySem.W.Frag} {F : Hp} {vs : List V} {ds : List Val} {i : Int} {d : Val} (r : RDs K C F vs ds) (h : atI ds i = some d) : ∃ v, atI vs i = some v ∧ RD K C F v d := by
  unfold atI at h ⊢
  rw [r.length]
  cases e : ixN ds.length i with
  | none => rw [e] at h; cases h
  | some j => rw [e] at h; exact r.get h
def isSlice : Expr → Bool
  | .Slice .. => true
  | _ => false
theorem plainIx_of {b : Expr} (h : isSlice b = false) : PlainIx b := by
  cases b <;> first | (intro _ _; rfl) | (cases h)
/-- a dict's item, as a place -/
def rIxD (P : Program) (w : World) : R2 := fun x y H Q => ∃ a v, x = .ref a ∧ DG P w H a y (some v) ∧ Q v H
theorem dg_typeIs {H : Hp} {s : Shared} {a : Addr} {y : V} {o : Option V} {pins : List (Addr × Obj)} {σ : L2.St} (I : Inv X pins σ H s) (g : DG X.prog X.w H a y o) : s.TypeIs (.ref a) "dict" := by
  rcases g with g | ⟨kas, k, b, ob, e, ka, _⟩
  · exact dict_typeIs I g
  · obtain ⟨_, _, xs, _, dd⟩ := dx_of I.hok e ka
    exact dd.typeIs
theorem ix_dict (hu : X.A.units + 1 < cLine) : IxR X (rIxD X.prog X.w) := by
  intro value slice pins s σ H x y v u Q I rx ry h hs
  obtain ⟨a, w, rfl, g, q⟩ := h
  obtain rfl : v = Value.ref a := rx
  exact tail_any (dg_typeIs I g) PySem.F.slot_dict_getitem.lookup (g_getItem hu I g ry fun w' s3 I3 rw' => ⟨w, H, I3, rw', q⟩) hs
def rIdx (X : Cx) : R2 := fun x y H Q => rIx X.K x y H Q ∨ rIxD X.prog X.w x y H Q
theorem ix_all (hu : X.A.units + 1 < cLine) : IxR X (rIdx X) := IxR.or ix_seq (ix_dict hu)
theorem ok_idx (hG : OnX X C) : RuleOk X.K C (rIdx X) idxV := by
  intro x y z F H v u Q s rv ru e q1 q2
  unfold idxV at e
  split at e
  · obtain rfl := ru.int_inv
    obtain ⟨p, vs, rfl, ep, rp⟩ := rv.lst_inv
    rw [atP_eq] at e
    obtain ⟨w, hw, rw'⟩ := atI_RDs rp e
    exact .inl (.inl ⟨p, vs, _, w, rfl, rfl, SqL.of (s _ _ ep), hw, q1 w rw'⟩)
  · obtain rfl := ru.int_inv
    obtain ⟨p, vs, rfl, ep, rp⟩ := rv.tup_inv
    rw [atP_eq] at e
    obtain ⟨w, hw, rw'⟩ := atI_RDs rp e
    exact .inl (.inr (.inl ⟨p, vs, _, w, rfl, rfl, SqT.sub s ep, hw, q1 w rw'⟩))
  · rename_i zs i
    obtain rfl := rv.str_inv
    obtain rfl := ru.int_inv
    split at e
    · rename_i hl
      split at e
      · rename_i c hc
        cases e
        rw [atP_eq] at hc
        exact .inl (.inr (.inr ⟨zs, i, c, rfl, rfl, hl, hc, q1 _ (.str _)⟩))
      · cases e
    · cases e
  · obtain rfl := ru.int_inv
    obtain ⟨p, vs, rfl, ep, rp⟩ := rv.scr_inv
    rw [atP_eq] at e
    obtain ⟨w, hw, rw'⟩ := atI_RDs rp e
    exact .inl (.inl ⟨p, vs, _, w, rfl, rfl, SqL.sub s ep, hw, q1 w rw'⟩)
  · rename_i kvs _
    split at e
    · rename_i hp
      have ne : kvs ≠ [] := by intro e0; subst e0; cases e
      obtain ⟨a, o, rfl, g, gr⟩ := rv.look s ru ne hp
      rw [e] at gr
      cases o with
      | none => exact gr.elim
      | some w => exact .inr ⟨a, w, rfl, hG.1 ▸ hG.2 ▸ g, q1 w gr⟩
    · cases e
  · cases e
theorem snd_idx {a b : Expr} {pos : Pos} {ma mb : M Val} (hG : OnX X C) (hu : X.A.units + 1 < cLine) (ha : SE X C a ma) (hb : SE X C b mb) (hs : isSlice b = false) :
    SE X C (.Subscript a b pos) (bnd ma fun x => bnd mb fun y => lft (idxV x y)) := snd_op (pe_ix (ix_all hu) ha hb (plainIx_of hs)) (ok_idx hG)
/-! ### slices -/
theorem sIx_eq (n d : Nat) (o : Option Int) : sIx n d o = HT.sIx n d o := by
  cases o <;> rfl
theorem cutP_RDs {K : PySem.W.Frag} {F : Hp} {vs : List V} {ds : List Val} (r : RDs K C F vs ds) (lo hi : Option Int) : RDs K C F (cutV vs lo hi) (cutP ds lo hi) := by
  unfold cutV cutP
  rw [r.length, ← sIx_eq, ← sIx_eq]
  exact (r.drop _).take _
/-- a part of a tuple -/
def rSlS (K : PySem.W.Frag) : V → Option Int → Option Int → Hp → VK → Prop := fun x lo hi H Q => ∃ a xs, x = .ref a ∧ SqT K H a xs ∧
  (HT.sIx xs.length 0 lo = 0 ∧ HT.sIx xs.length xs.length hi = xs.length → Q (.ref a) H) ∧ (¬ (HT.sIx xs.length 0 lo = 0 ∧ HT.sIx xs.length xs.length hi = xs.length) → NewT H (cutV xs lo hi) Q)
theorem sl_tupS : SlR X (rSlS X.K) := by
  intro pins s σ H x v vl vu lo hi sl Q I rx hs pl pu ⟨a, xs, e1, hx, q1, q2⟩
  by_cases hw : HT.sIx xs.length 0 lo = 0 ∧ HT.sIx xs.length xs.length hi = xs.length
  · exact sl_tupA pins s σ H x v vl vu lo hi sl Q I rx hs pl pu ⟨a, xs, e1, hx, q1, fun k => (k hw).elim⟩
  subst e1; cases rx
  obtain ⟨us, r, ht, hz⟩ := I.tuple hx
  have hlen : us.toArray.size = xs.length := by rw [List.size_toArray]; exact r.length.symm
  refine ⟨"tuple", _, PyProof.Rows.slot_tuple_getitem.lookup, ht.typeIs, HT.getItem_tuple_cut ht hs pl pu (by rw [hlen]; exact hw) ?_ (by rw [hlen]; exact hz)⟩
  rw [hlen]
  exact (q2 hw).fin (t' := s.toks) I ((r.drop (HT.sIx xs.length 0 lo)).take (HT.sIx xs.length xs.length hi - HT.sIx xs.length 0 lo)) (Nat.le_trans (cutV_length xs lo hi) hz)
def rSlice (K : PySem.W.Frag) : V → Option Int → Option Int → Hp → VK → Prop := fun x lo hi H Q => (rSlL K x lo hi H Q ∨ rSlS K x lo hi H Q) ∨ L2.rSlS x lo hi H Q
theorem sl_all : SlR X (rSlice X.K) := SlR.or (SlR.or sl_list sl_tupS) sl_str
/-- a part of a slice -/
def tP (K : PySem.W.Frag) (C : Gx) (m : M (Option Int)) : TO := fun σ H Q => ∃ F ρ fps x ρ', Rel K C F H ρ σ fps ∧ m ρ = some (x, ρ') ∧ ∀ F' H' fps', Post K C F H fps ρ' σ F' H' fps' → Q x H'
theorem po_ret : PO X none (tP X.K C (ret none)) := by
  refine ⟨?_⟩
  intro pins s σ H Q I h
  obtain ⟨F, ρ, fps, x, ρ', R, h, k⟩ := h
  obtain ⟨rfl, rfl⟩ := ret_some h
  exact po_none.run pins s σ H Q I (k _ _ _ (Post.refl R))
theorem po_int {e : Expr} {m : M Val} (h : SE X C e m) : PO X (some e) (tP X.K C (bnd m fun x => match x with
    | .int i => ret (some i)
    | _ => fail)) := by
  refine ⟨?_⟩
  intro pins s σ H Q I hh
  obtain ⟨F, ρ, fps, x, ρ', R, e1, k⟩ := hh
  obtain ⟨y, ρ1, h1, h2⟩ := bnd_some e1
  refine (po_some h).run pins s σ H Q I ⟨F, ρ, fps, y, ρ1, R, h1, fun v F1 H1 fps1 P1 rv => ?_⟩
  split at h2
  · obtain ⟨rfl, rfl⟩ := ret_some h2
    obtain rfl := rv.int_inv
    exact ⟨_, rfl, k _ _ _ P1⟩
  · exact (fail_some h2).elim
theorem snd_slc {a : Expr} {lo hi : Option Expr} {p2 pos : Pos} {ma : M Val} {ml mh : M (Option Int)} (ha : SE X C a ma) (hl : PO X lo (tP X.K C ml)) (hh : PO X hi (tP X.K C mh)) :
    SE X C (.Subscript a (.Slice lo hi none p2) pos) (bnd ma fun x => bnd ml fun l => bnd mh fun h => lft (slcV l h x)) := by
  refine PE.imp (pe_slice sl_all ha hl hh) ?_
  rintro σ H Q ⟨F, ρ, fps, z, ρ', R, h, k⟩
  obtain ⟨x, ρ1, h1, h2⟩ := bnd_some h
  obtain ⟨l, ρ2, h3, h4⟩ := bnd_some h2
  obtain ⟨u, ρ3, h5, h6⟩ := bnd_some h4
  obtain ⟨h7, rfl⟩ := lft_some h6
  refine ⟨F, ρ, fps, x, ρ1, R, h1, fun v F1 H1 fps1 P1 rv => ⟨F1, ρ1, fps1, l, ρ2, P1.rel, h3, fun F2 H2 fps2 P2 => ⟨F2, ρ2, fps2, u, ρ', P2.rel, h5, fun F3 H3 fps3 P3 => ?_⟩⟩⟩
  have P := (P1.trans P2).trans P3
  have rv3 := rv.sub (P2.ext.trans P3.ext)
  unfold slcV at h7
  split at h7
  · cases h7
    obtain ⟨p, vs, rfl, ep, rp⟩ := rv3.lst_inv
    exact .inl (.inl ⟨p, vs, rfl, SqL.of (P3.rel.sub _ _ ep), fun q hq => k _ _ _ _ (P.trans (Post.laid P3.rel hq)) (.lst upd_same ((cutP_RDs rp l u).sub (FSub.upd_new (P3.rel.sub.none hq))))⟩)
  · cases h7
    obtain ⟨p, vs, rfl, ep, rp⟩ := rv3.tup_inv
    refine .inl (.inr ⟨p, vs, rfl, SqT.sub P3.rel.sub ep, fun hw => ?_, fun _ q o hd hq => k _ _ _ _ (P.trans (Post.laid P3.rel hq)) (.tup upd_same hd ((cutP_RDs rp l u).sub (FSub.upd_new (P3.rel.sub.none hq))))⟩)
    refine k _ _ _ _ P ?_
    rename_i xs
    have e0 : cutP xs l u = xs := by
      unfold cutP
      rw [← rp.length, sIx_eq, sIx_eq, hw.1, hw.2]
      simp [rp.length]
    rw [e0]; exact rv3
  · split at h7
    · rename_i zs hl; cases h7
      obtain rfl := rv3.str_inv
      refine .inr ⟨zs, rfl, hl, ?_⟩
      have e0 : S (cutP zs.cps.toList l u) = cutS zs l u := by
        unfold S cutP cutS
        have : zs.cps.toList.length = zs.length := by simp [Str.length]
        rw [this, sIx_eq, sIx_eq]
      rw [e0] at k
      exact k _ _ _ _ P (.str _)
    · cases h7
  · cases h7
    obtain ⟨p, vs, rfl, ep, rp⟩ := rv3.scr_inv
    exact .inl (.inl ⟨p, vs, rfl, SqL.sub P3.rel.sub ep, fun q hq => k _ _ _ _ (P.trans (Post.laid P3.rel hq)) (.lst upd_same ((cutP_RDs rp l u).sub (FSub.upd_new (P3.rel.sub.none hq))))⟩)
  · cases h7
/-! ### tests -/
theorem boolM_some {m : M Val} {ρ ρ' : PL.Env} {b : Bool} (h : boolM m ρ = some (b, ρ')) : m ρ = some (.bool b, ρ') := by
  obtain ⟨x, ρ1, h1, h2⟩ := bnd_some h
  split at h2
  · obtain ⟨rfl, rfl⟩ := ret_some h2; exact h1
  · exact (fail_some h2).elim
theorem sb_val {e : Expr} {m : M Val} (h : SE X C e m) (he : ∀ whole, isTrue e X.env whole = (do let v ← whole; standAt e.pos; holding [v] (truthy v))) : SB X C e (boolM m) := by
  refine PT.imp (pt_val h he) ?_
  rintro σ H Q ⟨F, ρ, fps, b, ρ', R, h, k⟩
  refine ⟨F, ρ, fps, _, ρ', R, boolM_some h, fun v F1 H1 fps1 P1 rv => ⟨b, rv.bool_inv, k _ _ _ P1⟩⟩
theorem sb_cmp {o : Cop} {a b : Expr} {pos : Pos} {ma mb : M Val} (hG : OnX X C) (hu : X.A.units + 70 < cLine) (ha : SE X C a ma) (hb : SE X C b mb) (hm : behindInMarks (copPy o) b = false) :
    SB X C (.Compare a [copPy o] [b] pos) (boolM (bnd ma fun x => bnd mb fun y => bnd (lft (cmpV o x y)) fun r => ret (.bool r))) := by
  refine PT.imp (pt_cmpR (opc (C := C) o hG hu) ha hb hm) ?_
  rintro σ H Q ⟨F, ρ, fps, r, ρ', R, h, k⟩
  obtain ⟨x, ρ1, h1, h2⟩ := bnd_some (boolM_some h)
  obtain ⟨y, ρ2, h3, h4⟩ := bnd_some h2
  obtain ⟨r', ρ3, h5, h6⟩ := bnd_some h4
  obtain ⟨g5, rfl⟩ := lft_some h5
  obtain ⟨e6, rfl⟩ := ret_some h6
  cases e6
  refine ⟨F, ρ, fps, x, ρ1, R, h1, fun v F1 H1 fps1 P1 rv => ⟨F1, ρ1, fps1, y, ρ', P1.rel, h3, fun u F2 H2 fps2 P2 ru => ?_⟩⟩
  exact ⟨F2, x, y, r, P2.rel.sub, rv.sub P2.ext, ru, g5, r, rfl, k _ _ _ (P1.trans P2)⟩
theorem sb_cmp2 {o o' : Cop} {a b c : Expr} {pos : Pos} {ma mb mc : M Val} (hG : OnX X C) (hu : X.A.units + 70 < cLine) (ha : SE X C a ma) (hb : SE X C b mb) (hc : SE X C c mc) (hm : lastMarks [copPy o, copPy o'] [b, c] = false) :
    SB X C (.Compare a [copPy o, copPy o'] [b, c] pos) (boolM (bnd ma fun x => bnd mb fun y => bnd (lft (cmpV o x y)) fun r =>
      if r = true then bnd mc fun z => bnd (lft (cmpV o' y z)) fun r' => ret (.bool r') else ret (.bool false))) := by
  refine PT.imp (pt_chain (opc (C := C) o hG hu) (opc (C := C) o' hG hu) ha hb hc hm) ?_
  rintro σ H Q ⟨F, ρ, fps, q, ρ', R, h, k⟩
  obtain ⟨x, ρ1, h1, h2⟩ := bnd_some (boolM_some h)
  obtain ⟨y, ρ2, h3, h4⟩ := bnd_some h2
  obtain ⟨r, ρ3, h5, h6⟩ := bnd_some h4
  obtain ⟨g5, rfl⟩ := lft_some h5
  refine ⟨F, ρ, fps, x, ρ1, R, h1, fun v F1 H1 fps1 P1 rv => ⟨F1, ρ1, fps1, y, ρ3, P1.rel, h3, fun u F2 H2 fps2 P2 ru => ?_⟩⟩
  refine ⟨F2, x, y, r, P2.rel.sub, rv.sub P2.ext, ru, g5, r, rfl, ?_⟩
  cases r with
  | false =>
    obtain ⟨e6, rfl⟩ := ret_some (show ret (PyData.bool false) ρ3 = some (PyData.bool _, ρ') from h6)
    cases e6
    exact ⟨false, rfl, k _ _ _ (P1.trans P2)⟩
  | true =>
    obtain ⟨w, ρ4, h7, h8⟩ := bnd_some (show (bnd mc fun z => bnd (lft (cmpV o' y z)) fun r' => ret (PyData.bool r')) ρ3 = some (PyData.bool _, ρ') from h6)
    obtain ⟨r', ρ5, h9, h10⟩ := bnd_some h8
    obtain ⟨g9, rfl⟩ := lft_some h9
    obtain ⟨e10, rfl⟩ := ret_some h10
    cases e10
    refine ⟨F2, ρ3, fps2, w, ρ', P2.rel, h7, fun v3 F3 H3 fps3 P3 r3 => ?_⟩
    exact ⟨F3, y, w, q, P3.rel.sub, ru.sub P3.ext, r3, g9, q, rfl, k _ _ _ ((P1.trans P2).trans P3)⟩
theorem sb_not {a : Expr} {pos : Pos} {m : M Val} (h : SB X C a (boolM m)) : SB X C (.UnaryOp .Not a pos) (boolM (bnd (boolM m) fun r => ret (.bool (!r)))) := by
  refine PT.imp (pt_not h) ?_
  rintro σ H Q ⟨F, ρ, fps, b, ρ', R, h, k⟩
  obtain ⟨r, ρ1, h1, h2⟩ := bnd_some (boolM_some h)
  obtain ⟨e, rfl⟩ := ret_some h2
  cases e
  exact ⟨F, ρ, fps, r, ρ', R, h1, fun F1 H1 fps1 P1 => k _ _ _ P1⟩
abbrev SW (X : Cx) (C : Gx) (e : Expr) (m : M Bool) : Prop := PW X e (tBo X.K C m)
theorem sw_and1 {a : Expr} {pos : Pos} {m : M Bool} (h : SB X C a m) : SW X C (.BoolOp .And [a] pos) m := pw_and1 h
theorem sw_or1 {a : Expr} {pos : Pos} {m : M Bool} (h : SB X C a m) : SW X C (.BoolOp .Or [a] pos) m := pw_or1 h
theorem and_some {ma mb : M Val} {ρ ρ' : PL.Env} {b : Bool} (h : boolM (bnd (boolM ma) fun r => if r = true then bnd (boolM mb) fun r' => ret (.bool r') else ret (.bool false)) ρ = some (b, ρ')) :
    ∃ r ρ1, boolM ma ρ = some (r, ρ1) ∧ (if r = true then boolM mb ρ1 = some (b, ρ') else b = false ∧ ρ' = ρ1) := by
  obtain ⟨r, ρ1, h1, h2⟩ := bnd_some (boolM_some h)
  refine ⟨r, ρ1, h1, ?_⟩
  cases r with
  | false =>
    obtain ⟨e, e2⟩ := ret_some (show ret (PyData.bool false) ρ1 = some (PyData.bool _, ρ') from h2)
    cases e
    exact ⟨rfl, e2⟩
  | true =>
    obtain ⟨r', ρ2, h3, h4⟩ := bnd_some (show (bnd (boolM mb) fun r' => ret (PyData.bool r')) ρ1 = some (PyData.bool _, ρ') from h2)
    obtain ⟨e, rfl⟩ := ret_some h4
    cases e
    exact h3
theorem or_some {ma mb : M Val} {ρ ρ' : PL.Env} {b : Bool} (h : boolM (bnd (boolM ma) fun r => if r = true then ret (.bool true) else bnd (boolM mb) fun r' => ret (.bool r')) ρ = some (b, ρ')) :
    ∃ r ρ1, boolM ma ρ = some (r, ρ1) ∧ (if r = true then b = true ∧ ρ' = ρ1 else boolM mb ρ1 = some (b, ρ')) := by
  obtain ⟨r, ρ1, h1, h2⟩ := bnd_some (boolM_some h)
  refine ⟨r, ρ1, h1, ?_⟩
  cases r with
  | true =>
    obtain ⟨e, e2⟩ := ret_some (show ret (PyData.bool true) ρ1 = some (PyData.bool _, ρ') from h2)
    cases e
    exact ⟨rfl, e2⟩
  | false =>
    obtain ⟨r', ρ2, h3, h4⟩ := bnd_some (show (bnd (boolM mb) fun r' => ret (PyData.bool r')) ρ1 = some (PyData.bool _, ρ') from h2)
    obtain ⟨e, rfl⟩ := ret_some h4
    cases e
    exact h3
theorem sw_and {a b : Expr} {rest : List Expr} {pos : Pos} {ma mb : M Val} (ha : SB X C a (boolM ma)) (hb : SW X C (.BoolOp .And (b :: rest) pos) (boolM mb)) :
    SW X C (.BoolOp .And (a :: b :: rest) pos) (boolM (bnd (boolM ma) fun r => if r = true then bnd (boolM mb) fun r' => ret (.bool r') else ret (.bool false))) := by
  refine PW.imp (pw_and ha hb) ?_
  rintro σ H Q ⟨F, ρ, fps, q, ρ', R, h, k⟩
  obtain ⟨r, ρ1, h1, h2⟩ := and_some h
  refine ⟨F, ρ, fps, r, ρ1, R, h1, fun F1 H1 fps1 P1 => ?_⟩
  cases r with
  | false => obtain ⟨rfl, rfl⟩ := h2; exact k _ _ _ P1
  | true => exact ⟨F1, ρ1, fps1, q, ρ', P1.rel, h2, fun F2 H2 fps2 P2 => k _ _ _ (P1.trans P2)⟩
theorem sw_or {a b : Expr} {rest : List Expr} {pos : Pos} {ma mb : M Val} (ha : SB X C a (boolM ma)) (hb : SW X C (.BoolOp .Or (b :: rest) pos) (boolM mb)) :
    SW X C (.BoolOp .Or (a :: b :: rest) pos) (boolM (bnd (boolM ma) fun r => if r = true then ret (.bool true) else bnd (boolM mb) fun r' => ret (.bool r'))) := by
  refine PW.imp (pw_or ha hb) ?_
  rintro σ H Q ⟨F, ρ, fps, q, ρ', R, h, k⟩
  obtain ⟨r, ρ1, h1, h2⟩ := or_some h
  refine ⟨F, ρ, fps, r, ρ1, R, h1, fun F1 H1 fps1 P1 => ?_⟩
  cases r with
  | true => obtain ⟨rfl, rfl⟩ := h2; exact k _ _ _ P1
  | false => exact ⟨F1, ρ1, fps1, q, ρ', P1.rel, h2, fun F2 H2 fps2 P2 => k _ _ _ (P1.trans P2)⟩
/-! as values -/
theorem se_one {a : Expr} {op : PySem.BoolOp} {pos : Pos} {m : M Val} (h : SE X C a m) : SE X C (.BoolOp op [a] pos) m := pe_one h
theorem snd_and {a b : Expr} {rest : List Expr} {pos : Pos} {ma mb : M Val} (ha : SE X C a ma) (hb : SE X C (.BoolOp .And (b :: rest) pos) mb) :
    SE X C (.BoolOp .And (a :: b :: rest) pos) (bnd (boolM ma) fun r => if r = true then bnd (boolM mb) fun r' => ret (.bool r') else ret (.bool false)) := by
  refine PE.imp (pe_and ha hb) ?_
  rintro σ H Q ⟨F, ρ, fps, q, ρ', R, h, k⟩
  obtain ⟨r, ρ1, h1, h2⟩ := bnd_some h
  refine ⟨F, ρ, fps, _, ρ1, R, boolM_some h1, fun v F1 H1 fps1 P1 rv => ⟨r, rv.bool_inv, ?_⟩⟩
  cases r with
  | false => obtain ⟨rfl, rfl⟩ := ret_some (show ret (PyData.bool false) ρ1 = some (q, ρ') from h2); exact k _ _ _ _ P1 (.bl _)
  | true =>
    obtain ⟨r', ρ2, h3, h4⟩ := bnd_some (show (bnd (boolM mb) fun r' => ret (.bool r')) ρ1 = some (q, ρ') from h2)
    obtain ⟨rfl, rfl⟩ := ret_some h4
    exact ⟨F1, ρ1, fps1, _, ρ', P1.rel, boolM_some h3, fun w F2 H2 fps2 P2 rw' => k _ _ _ _ (P1.trans P2) rw'⟩
theorem snd_or {a b : Expr} {rest : List Expr} {pos : Pos} {ma mb : M Val} (ha : SE X C a ma) (hb : SE X C (.BoolOp .Or (b :: rest) pos) mb) :
    SE X C (.BoolOp .Or (a :: b :: rest) pos) (bnd (boolM ma) fun r => if r = true then ret (.bool true) else bnd (boolM mb) fun r' => ret (.bool r')) := by
  refine PE.imp (pe_or ha hb) ?_
  rintro σ H Q ⟨F, ρ, fps, q, ρ', R, h, k⟩
  obtain ⟨r, ρ1, h1, h2⟩ := bnd_some h
  refine ⟨F, ρ, fps, _, ρ1, R, boolM_some h1, fun v F1 H1 fps1 P1 rv => ⟨r, rv.bool_inv, ?_⟩⟩
  cases r with
  | true => obtain ⟨rfl, rfl⟩ := ret_some (show ret (PyData.bool true) ρ1 = some (q, ρ') from h2); exact k _ _ _ _ P1 (.bl _)
  | false =>
    obtain ⟨r', ρ2, h3, h4⟩ := bnd_some (show (bnd (boolM mb) fun r' => ret (.bool r')) ρ1 = some (q, ρ') from h2)
    obtain ⟨rfl, rfl⟩ := ret_some h4
    exact ⟨F1, ρ1, fps1, _, ρ', P1.rel, boolM_some h3, fun w F2 H2 fps2 P2 rw' => k _ _ _ _ (P1.trans P2) rw'⟩
theorem snd_not {a : Expr} {pos : Pos} {m : M Val} (h : SE X C a m) : SE X C (.UnaryOp .Not a pos) (bnd (boolM m) fun r => ret (.bool (!r))) := by
  refine PE.imp (pe_not h) ?_
  rintro σ H Q ⟨F, ρ, fps, q, ρ', R, h, k⟩
  obtain ⟨r, ρ1, h1, h2⟩ := bnd_some h
  obtain ⟨rfl, rfl⟩ := ret_some h2
  exact ⟨F, ρ, fps, _, ρ', R, boolM_some h1, fun v F1 H1 fps1 P1 rv => ⟨r, rv.bool_inv, k _ _ _ _ P1 (.bl _)⟩⟩
theorem snd_ife {c a b : Expr} {pos : Pos} {mc : M Bool} {ma mb : M Val} (hc : SB X C c mc) (ha : SE X C a ma) (hb : SE X C b mb) :
    SE X C (.IfExp c a b pos) (bnd mc fun r => if r = true then ma else mb) := by
  refine PE.imp (pe_ifExp hc ha hb) ?_
  rintro σ H Q ⟨F, ρ, fps, q, ρ', R, h, k⟩
  obtain ⟨r, ρ1, h1, h2⟩ := bnd_some h
  refine ⟨F, ρ, fps, r, ρ1, R, h1, fun F1 H1 fps1 P1 => ?_⟩
  cases r with
  | true => exact ⟨F1, ρ1, fps1, q, ρ', P1.rel, h2, fun w F2 H2 fps2 P2 rw' => k _ _ _ _ (P1.trans P2) rw'⟩
  | false => exact ⟨F1, ρ1, fps1, q, ρ', P1.rel, h2, fun w F2 H2 fps2 P2 rw' => k _ _ _ _ (P1.trans P2) rw'⟩
theorem snd_neg {a : Expr} {pos : Pos} {m : M Val} (h : SE X C a m) : SE X C (.UnaryOp .USub a pos) (bnd m fun x => match x with
    | .int i => ret (.int (-i))
    | _ => fail) := by
  refine PE.imp (pe_un un_neg h) ?_
  rintro σ H Q ⟨F, ρ, fps, q, ρ', R, h, k⟩
  obtain ⟨x, ρ1, h1, h2⟩ := bnd_some h
  refine ⟨F, ρ, fps, x, ρ1, R, h1, fun v F1 H1 fps1 P1 rv => ?_⟩
  split at h2
  · obtain ⟨rfl, rfl⟩ := ret_some h2
    obtain rfl := rv.int_inv
    exact ⟨_, rfl, k _ _ _ _ P1 (.int _)⟩
  · exact (fail_some h2).elim
end
end PL
set_option maxHeartbeats 1000000
/-! PLs6: builtins. -/
namespace PL
open PySem PySem.Spec PyProof.Rows L2
section
variable {X : Cx} {C : Gx}
/-- a built-in's call, where the values are data -/
def rBi (K : PySem.W.Frag) (C : Gx) (f : List Val → Option Val) : List V → Hp → VK → Prop := fun vs H Q => ∃ F xs z, FSub F H ∧ RDs K C F vs xs ∧ f xs = some z ∧
  (∀ w, RD K C F w z → Q w H) ∧ ∀ p o w, H p = none → RD K C (upd F p o) w z → Q w (upd H p o)
def BiOk (X : Cx) (C : Gx) (u : Value) (f : List Val → Option Val) : Prop := CallR X u (rBi X.K C f)
theorem RDs.one {K : PySem.W.Frag} {F : Hp} {vs : List V} {x : Val} (h : RDs K C F vs [x]) : ∃ v, vs = [v] ∧ RD K C F v x := by
  cases h with
  | cons a b => cases b; exact ⟨_, rfl, a⟩
theorem RDs.two {K : PySem.W.Frag} {F : Hp} {vs : List V} {x y : Val} (h : RDs K C F vs [x, y]) : ∃ v u, vs = [v, u] ∧ RD K C F v x ∧ RD K C F u y := by
  cases h with
  | cons a b => cases b with
    | cons c d => cases d; exact ⟨_, _, rfl, a, c⟩
/-- a rule over values serves data -/
theorem BiOk.of {u : Value} {f : List Val → Option Val} {r : List V → Hp → VK → Prop} (h : CallR X u r)
    (k : ∀ (F H : Hp) (vs : List V) (xs : List Val) (z : Val) (Q : VK), FSub F H → RDs X.K C F vs xs → f xs = some z → (∀ w, RD X.K C F w z → Q w H) → (∀ p o w, H p = none → RD X.K C (upd F p o) w z → Q w (upd H p o)) → r vs H Q) : BiOk X C u f := by
  rintro pins s σ H xs us Q I r ⟨F, ds, z, sub, rd, e, q1, q2⟩
  exact h pins s σ H xs us Q I r (k F H xs ds z Q sub rd e q1 q2)
theorem snd_bi {x : Str} {p pos : Pos} {e : Expr} {es : List Expr} {id : String} {f : List Val → Option Val} {mas : M (List Val)} (hc : BiOk X C (.builtin id) f) (hg : Gl X x) (hm : X.mg x = none) (hv : bootBuiltins x = some (.builtin id)) (ha : SA X C (e :: es) mas)
    (hn : x ≠ "__name__") (hdb : (x == ("__debug__" : Str)) = false) (he : starEach (e :: es) X.env = (false, eval e X.env) :: starEach es X.env) (hpl : (backTo pos (starEach es X.env)).any (·.1) = false) :
    SE X C (.Call (.Name x p) (e :: es) [] pos) (bnd mas fun xs => lft (f xs)) := by
  refine PE.imp (pe_callB hc hg hm hv ha hn hdb he hpl) ?_
  rintro σ H Q ⟨F, ρ, fps, z, ρ', R, h, k⟩
  obtain ⟨xs, ρ1, h1, h2⟩ := bnd_some h
  obtain ⟨h3, rfl⟩ := lft_some h2
  exact ⟨F, ρ, fps, xs, _, R, h1, fun vs F1 H1 fps1 P1 rv => ⟨F1, xs, z, P1.rel.sub, rv, h3, fun w rw' => k _ _ _ _ P1 rw', fun p o w hp rw' => k _ _ _ _ (P1.trans (Post.laid P1.rel hp)) rw'⟩⟩
theorem snd_ty {x : Str} {p pos : Pos} {e : Expr} {es : List Expr} {id : String} {f : List Val → Option Val} {mas : M (List Val)} (hc : BiOk X C (.type id) f) (hg : Gl X x) (hm : X.mg x = none) (hv : bootBuiltins x = some (.type id)) (ha : SA X C (e :: es) mas)
    (hn : x ≠ "__name__") (hdb : (x == ("__debug__" : Str)) = false) (he : starEach (e :: es) X.env = (false, eval e X.env) :: starEach es X.env) (hpl : (backTo pos (starEach es X.env)).any (·.1) = false) :
    SE X C (.Call (.Name x p) (e :: es) [] pos) (bnd mas fun xs => lft (f xs)) := by
  refine PE.imp (pe_callTy hc hg hm hv ha hn hdb he hpl) ?_
  rintro σ H Q ⟨F, ρ, fps, z, ρ', R, h, k⟩
  obtain ⟨xs, ρ1, h1, h2⟩ := bnd_some h
  obtain ⟨h3, rfl⟩ := lft_some h2
  exact ⟨F, ρ, fps, xs, _, R, h1, fun vs F1 H1 fps1 P1 rv => ⟨F1, xs, z, P1.rel.sub, rv, h3, fun w rw' => k _ _ _ _ P1 rw', fun p o w hp rw' => k _ _ _ _ (P1.trans (Post.laid P1.rel hp)) rw'⟩⟩
theorem snd_gcd {x : Str} {p pos : Pos} {e : Expr} {es : List Expr} {id : String} {f : List Val → Option Val} {mas : M (List Val)} (hc : BiOk X C (.builtin id) f) (hg : Gl X x) (hm : X.mg x = some (.builtin id)) (ha : SA X C (e :: es) mas)
    (hdb : (x == ("__debug__" : Str)) = false) (he : starEach (e :: es) X.env = (false, eval e X.env) :: starEach es X.env) (hpl : (backTo pos (starEach es X.env)).any (·.1) = false) :
    SE X C (.Call (.Name x p) (e :: es) [] pos) (bnd mas fun xs => lft (f xs)) := by
  refine PE.imp (pe_callBfun hc hg hm ha hdb he hpl) ?_
  rintro σ H Q ⟨F, ρ, fps, z, ρ', R, h, k⟩
  obtain ⟨xs, ρ1, h1, h2⟩ := bnd_some h
  obtain ⟨h3, rfl⟩ := lft_some h2
  exact ⟨F, ρ, fps, xs, _, R, h1, fun vs F1 H1 fps1 P1 rv => ⟨F1, xs, z, P1.rel.sub, rv, h3, fun w rw' => k _ _ _ _ P1 rw', fun p o w hp rw' => k _ _ _ _ (P1.trans (Post.laid P1.rel hp)) rw'⟩⟩
/-! ### one by one -/
theorem un1_some {f : Val → Option Val} {xs : List Val} {z : Val} (h : un1 f xs = some z) : ∃ x, xs = [x] ∧ f x = some z := by
  unfold un1 at h
  split at h
  · exact ⟨_, rfl, h⟩
  · cases h
theorem un2_some {f : Val → Val → Option Val} {xs : List Val} {z : Val} (h : un2 f xs = some z) : ∃ x y, xs = [x, y] ∧ f x y = some z := by
  unfold un2 at h
  split at h
  · exact ⟨_, _, rfl, h⟩
  · cases h
theorem un12_some {f : Val → Option Val} {g : Val → Val → Option Val} {xs : List Val} {z : Val} (h : un12 f g xs = some z) : (∃ x, xs = [x] ∧ f x = some z) ∨ ∃ x y, xs = [x, y] ∧ g x y = some z := by
  unfold un12 at h
  split at h
  · exact .inl ⟨_, rfl, h⟩
  · exact .inr ⟨_, _, rfl, h⟩
  · cases h
/-- the same for one argument -/
theorem BiOk.of1 {u : Value} {f : Val → Option Val} {r : List V → Hp → VK → Prop} (h : CallR X u r)
    (k : ∀ (F H : Hp) (v : V) (x z : Val) (Q : VK), FSub F H → RD X.K C F v x → f x = some z → (∀ w, RD X.K C F w z → Q w H) → (∀ p o w, H p = none → RD X.K C (upd F p o) w z → Q w (upd H p o)) → r [v] H Q) : BiOk X C u (un1 f) :=
  BiOk.of h fun F H vs xs z Q sub rd e q1 q2 => by
    obtain ⟨x, rfl, e1⟩ := un1_some e
    obtain ⟨v, rfl, rv⟩ := rd.one
    exact k F H v x z Q sub rv e1 q1 q2
theorem BiOk.of2 {u : Value} {f : Val → Val → Option Val} {r : List V → Hp → VK → Prop} (h : CallR X u r)
    (k : ∀ (F H : Hp) (v v' : V) (x y z : Val) (Q : VK), FSub F H → RD X.K C F v x → RD X.K C F v' y → f x y = some z → (∀ w, RD X.K C F w z → Q w H) → (∀ p o w, H p = none → RD X.K C (upd F p o) w z → Q w (upd H p o)) → r [v, v'] H Q) : BiOk X C u (un2 f) :=
  BiOk.of h fun F H vs xs z Q sub rd e q1 q2 => by
    obtain ⟨x, y, rfl, e1⟩ := un2_some e
    obtain ⟨v, v', rfl, rv, rv'⟩ := rd.two
    exact k F H v v' x y z Q sub rv rv' e1 q1 q2
def rLenK : List V → Hp → VK → Prop := fun xs H Q => ∃ p kvs, xs = [.ref p] ∧ H p = some (.dK kvs) ∧ Q (.int kvs.length) H
theorem call_lenK : CallR X (.builtin "len") rLenK := by
  rintro pins s σ H xs us Q I r ⟨p, kvs, rfl, hp, q⟩
  obtain ⟨u, rfl, rx⟩ := vals1 r
  obtain rfl : u = Value.ref p := rx
  exact d_len I (.inl hp) fun t s' I' => ⟨.int _, H, I', ⟨t, rfl⟩, q⟩
theorem bi_len : BiOk X C (.builtin "len") (biV .len) := by
  refine BiOk.of1 (CallR.or (CallR.or call_len_seq call_len_str) call_lenK) fun F H v x z Q sub rv e q1 q2 => ?_
  unfold lenV at e
  split at e
  · cases e
    obtain ⟨p, vs, rfl, ep, rp⟩ := rv.lst_inv
    exact .inl (.inl ⟨p, vs, rfl, .inl (SqL.of (sub _ _ ep)), q1 _ (by rw [rp.length]; exact .int _)⟩)
  · cases e
    obtain ⟨p, vs, rfl, ep, rp⟩ := rv.tup_inv
    exact .inl (.inl ⟨p, vs, rfl, .inr (SqT.sub sub ep), q1 _ (by rw [rp.length]; exact .int _)⟩)
  · split at e
    · rename_i hl; cases e
      obtain rfl := rv.str_inv
      exact .inl (.inr ⟨_, rfl, hl, q1 _ (.int _)⟩)
    · cases e
  · split at e
    · cases e
      obtain ⟨p, vs, rfl, ep, rp⟩ := RD.ct_inv (show RD X.K C F v (ctV _) from rv)
      exact .inl (.inl ⟨p, vs, rfl, .inr (SqT.sub sub ep), q1 _ (by rw [rp.length]; exact .int _)⟩)
    · cases e
      obtain ⟨p, vs, rfl, ep, rp⟩ := RD.scr_inv (show RD X.K C F v (scrV _) from rv)
      exact .inl (.inl ⟨p, vs, rfl, .inl (SqL.sub sub ep), q1 _ (by rw [rp.length]; exact .int _)⟩)
    · split at e
      · rename_i kvs _ _ _ hp; cases e
        rw [Bool.and_eq_true] at hp
        have ne : kvs ≠ [] := by intro e0; subst e0; cases hp.1
        obtain ⟨a, vs, rfl, ea, ra⟩ := (rv.dict_inv ne).1 hp.2
        have hl : vs.length = kvs.length := ra.length
        exact .inr ⟨a, vs, rfl, sub _ _ ea, q1 _ (by rw [hl]; exact .int _)⟩
      · cases e
  · cases e
theorem bi_int : BiOk X C (.type "int") (biV .int) := by
  refine BiOk.of1 call_int1 fun F H v x z Q sub rv e q1 q2 => ?_
  unfold intV at e
  split at e
  · cases e; obtain rfl := rv.int_inv; exact .inl ⟨_, rfl, q1 _ (.int _)⟩
  · cases e
theorem bi_abs : BiOk X C (.builtin "abs") (biV .abs) := by
  refine BiOk.of1 call_abs fun F H v x z Q sub rv e q1 q2 => ?_
  unfold absV at e
  split at e
  · cases e; obtain rfl := rv.int_inv; exact ⟨_, rfl, q1 _ (.int _)⟩
  · cases e
theorem bi_gcd : BiOk X C (.builtin "math.gcd") (biV .gcd) := by
  refine BiOk.of2 cr_gcd fun F H v v' x y z Q sub rv rv' e q1 q2 => ?_
  unfold gcdV at e
  split at e
  · cases e; obtain rfl := rv.int_inv; obtain rfl := rv'.int_inv; exact ⟨_, _, rfl, q1 _ (.int _)⟩
  · cases e
/-- a new pair -/
theorem call_divmodS : CallR X (.builtin "divmod") (fun xs H Q => ∃ i j, xs = [.int i, .int j] ∧ CDiv i j ∧ NewT H [.int (i / j), .int (i % j)] Q) := by
  intro pins s σ H xs us Q I r ⟨i, j, e, ⟨h1, h2⟩, q⟩
  subst e
  obtain ⟨u, w', rfl, ⟨t, rfl⟩, ⟨t', rfl⟩⟩ := vals2 r
  refine divmod_int (by omega) ?_ (.inl (PyProof.noPylong_small (by omega)))
  rw [Int.fdiv_eq_ediv_of_nonneg i (by omega), Int.fmod_eq_emod_of_nonneg i (by omega)]
  exact q.fin I (us := [.int (i / j) s.toks, .int (i % j) (s.toks + 1)]) (.cons ⟨_, rfl⟩ (.cons ⟨_, rfl⟩ .nil)) (by simp only [List.length_cons, List.length_nil]; rw [sizeLine_eq]; decide)
theorem bi_divmod : BiOk X C (.builtin "divmod") (biV .divmod) := by
  refine BiOk.of2 call_divmodS fun F H v v' x y z Q sub rv rv' e q1 q2 => ?_
  unfold divmodV at e
  split at e
  · split at e
    · rename_i hd; cases e; obtain rfl := rv.int_inv; obtain rfl := rv'.int_inv
      exact ⟨_, _, rfl, hd, fun p o hd hp => q2 p _ _ hp (.tup upd_same hd (.cons (.int _) (.cons (.int _) .nil)))⟩
    · cases e
  · cases e
theorem intsOf_some : ∀ {xs : List Val} {ns : List Int}, intsOf xs = some ns → xs = ns.map PyData.int
  | [], _, h => by cases h; rfl
  | x :: r, ns, h => by
    unfold intsOf at h
    split at h
    · rename_i e0; cases e0
    · rename_i i r' e0
      cases e0
      cases h1 : intsOf r with
      | none => rw [h1] at h; cases h
      | some ms => rw [h1] at h; cases h; rw [List.map_cons, ← intsOf_some h1]
    · cases h
theorem boolsOf_some : ∀ {xs : List Val} {ns : List Bool}, boolsOf xs = some ns → xs = ns.map PyData.bool
  | [], _, h => by cases h; rfl
  | x :: r, ns, h => by
    unfold boolsOf at h
    split at h
    · rename_i e0; cases e0
    · rename_i i r' e0
      cases e0
      cases h1 : boolsOf r with
      | none => rw [h1] at h; cases h
      | some ms => rw [h1] at h; cases h; rw [List.map_cons, ← boolsOf_some h1]
    · cases h
theorem RDs.ints_inv {K : PySem.W.Frag} {F : Hp} : ∀ {ns : List Int} {vs : List V}, RDs K C F vs (ns.map PyData.int) → vs = ns.map V.int
  | [], vs, h => by cases h; rfl
  | n :: r, vs, h => by
    cases h with
    | cons a b => obtain rfl := a.int_inv; rw [RDs.ints_inv b]; rfl
theorem RDs.bools_inv {K : PySem.W.Frag} {F : Hp} : ∀ {ns : List Bool} {vs : List V}, RDs K C F vs (ns.map PyData.bool) → vs = ns.map V.bl
  | [], vs, h => by cases h; rfl
  | n :: r, vs, h => by
    cases h with
    | cons a b => obtain rfl := a.bool_inv; rw [RDs.bools_inv b]; rfl
theorem bi_all (hc : X.calm = true) : BiOk X C (.builtin "all") (biV .all) := by
  refine BiOk.of1 (cr_all hc) fun F H v x z Q sub rv e q1 q2 => ?_
  unfold allV at e
  split at e
  · obtain ⟨p, vs, rfl, ep, rp⟩ := rv.lst_inv
    rename_i xs
    cases h1 : boolsOf xs with
    | none => rw [h1] at e; cases e
    | some bs =>
      rw [h1] at e; cases e
      rw [boolsOf_some h1] at rp
      obtain rfl := rp.bools_inv
      exact ⟨p, bs, rfl, SqL.of (sub _ _ ep), q1 _ (.bl _)⟩
  · cases e
theorem bi_any (hc : X.calm = true) : BiOk X C (.builtin "any") (biV .any) := by
  refine BiOk.of1 (cr_any hc) fun F H v x z Q sub rv e q1 q2 => ?_
  unfold anyV at e
  split at e
  · obtain ⟨p, vs, rfl, ep, rp⟩ := rv.lst_inv
    rename_i xs
    cases h1 : boolsOf xs with
    | none => rw [h1] at e; cases e
    | some bs =>
      rw [h1] at e; cases e
      rw [boolsOf_some h1] at rp
      obtain rfl := rp.bools_inv
      exact ⟨p, bs, rfl, SqL.of (sub _ _ ep), q1 _ (.bl _)⟩
  · cases e
theorem bi_list : BiOk X C (.type "list") (biV .list) := by
  refine BiOk.of1 call_list_of fun F H v x z Q sub rv e q1 q2 => ?_
  unfold listV at e
  split at e
  · cases e
    obtain ⟨p, vs, rfl, ep, rp⟩ := rv.lst_inv
    exact ⟨p, vs, rfl, .inl (SqL.of (sub _ _ ep)), fun l hl => q2 l _ _ hl (.lst upd_same (rp.sub (FSub.upd_new (sub.none hl))))⟩
  · cases e
    obtain ⟨p, vs, rfl, ep, rp⟩ := rv.tup_inv
    exact ⟨p, vs, rfl, .inr (SqT.sub sub ep), fun l hl => q2 l _ _ hl (.lst upd_same (rp.sub (FSub.upd_new (sub.none hl))))⟩
  · cases e
end
end PL
set_option maxHeartbeats 1000000
/-! PLs7: sums, least, greatest, sorted, methods. -/
namespace PL
open PySem PySem.Spec PyProof.Rows L2
section
variable {X : Cx} {C : Gx}
theorem preSum_getD (ns : List Int) : ∀ j, j ≤ ns.length → preSum (fun i => ns.getD i 0) j = (ns.take j).sum
  | 0, _ => by simp [preSum]
  | j + 1, h => by
    rw [preSum, preSum_getD ns j (by omega), List.take_add_one, List.sum_append]
    have : ns[j]? = some (ns.getD j 0) := by
      rw [List.getD_eq_getElem?_getD, List.getElem?_eq_getElem (by omega)]; rfl
    rw [this]; simp
theorem sum_tup {prog : Program} {w : World} {A : Around} {E : Value → Shared → Prop} {s : Shared} {l : Addr} {its : List Value} {ns : List Int} {Q : Value → Shared → Prop} (hh : A.handled = none) (hl : s.heap.IsTuple l its.toArray) (hi : IntsAre its ns)
    (h : ∀ h' tk t', (∀ b o, s.heap.get? b = some o → h'.get? b = some o) → Q (.int ns.sum t') { s with heap := h', toks := tk }) : wpAny (model prog w) A (call (.builtin "sum") [.ref l]) Q E s := by
  have hv : Vals (ns.map V.int) its := vals_of_ints hi
  have hlen : its.length = ns.length := by rw [← hv.length, List.length_map]
  refine call_sum_walkAnyS (PySem.W.iter_tupleW (A := A.in1) hh hl fun s₂ e W st hfp hw hk => ?_)
  refine ⟨_, _, _, _, _, _, _, fun i => ns.getD i 0, rfl, W, st, hfp, fun i v hv' => ?_, fun s' t' m => ?_⟩
  · have hv2 : its[i]? = some v := by simpa using hv'
    have hil : i < ns.length := by
      have := (List.getElem?_eq_some_iff.mp hv2).1
      omega
    have e1 : (ns.map V.int)[i]? = some (V.int (ns.getD i 0)) := by
      rw [List.getElem?_map, List.getD_eq_getElem?_getD, List.getElem?_eq_getElem hil]; rfl
    obtain ⟨u, h1, h2⟩ := hv.get e1
    rw [hv2] at h1; cases h1
    exact h2
  · obtain ⟨h', tk, rfl, hk'⟩ := PySem.W.moved_old e rfl m
    have : preSum (fun i => ns.getD i 0) its.toArray.size = ns.sum := by
      rw [List.size_toArray, hlen, preSum_getD ns _ (Nat.le_refl _), List.take_length]
    rw [this]
    exact h h' tk t' hk'
theorem bi_sum (hc : X.calm = true) : BiOk X C (.builtin "sum") (biV .sum) := by
  rintro pins s σ H vs us Q I r ⟨F, ds, z, sub, rd, e, q1, q2⟩
  obtain ⟨x, rfl, e0⟩ := un1_some e
  clear e
  have e := e0
  obtain ⟨v, rfl, rv⟩ := rd.one
  unfold sumV at e
  split at e
  · rename_i xs
    cases h1 : intsOf xs with
    | none => rw [h1] at e; cases e
    | some ns =>
      rw [h1] at e; cases e
      obtain ⟨p, vs, rfl, ep, rp⟩ := rv.lst_inv
      rw [intsOf_some h1] at rp
      obtain rfl := rp.ints_inv
      exact cr_sum hc pins s σ H _ us Q I r ⟨p, ns, rfl, SqL.of (sub _ _ ep), q1 _ (.int _)⟩
  · rename_i xs
    cases h1 : intsOf xs with
    | none => rw [h1] at e; cases e
    | some ns =>
      rw [h1] at e; cases e
      obtain ⟨p, vs, rfl, ep, rp⟩ := rv.tup_inv
      rw [intsOf_some h1] at rp
      obtain rfl := rp.ints_inv
      obtain rfl := Vals.ref1 r
      obtain ⟨its, rvs, ht, _⟩ := I.tuple (SqT.sub sub ep)
      exact sum_tup (I.ok.hd hc) ht rvs.ints fun h' tk t' hk => ⟨.int _, H, I.kept hk, ⟨t', rfl⟩, q1 _ (.int _)⟩
  · cases e
/-! ### least, greatest -/
theorem allLike_ok {xs : List Val} (h : allLike xs = true) : (∀ x ∈ xs, pk 8 x = true) ∧ PySem.W.AlikeAll xs := by
  unfold allLike at h
  simp only [Bool.and_eq_true, List.all_eq_true] at h
  exact ⟨h.1.1, h.1.2, fun x hx => ne_none_of (h.2 x hx)⟩
theorem RDs.at_reads {K : PySem.W.Frag} {F H : Hp} {pins : List (Addr × Obj)} {σ : L2.St} {s : Shared} (I : Inv X pins σ H s) (sub : FSub F H) {vs : List V} {ds : List Val} {its : List Value} (rv : Vals vs its) (rd : RDs X.K C F vs ds) (hp : ∀ x ∈ ds, pk 8 x = true)
    {i : Nat} {u : Value} {h' : Heap} {m : Val} {bs : List Addr} (hk : ∀ b o, s.heap.get? b = some o → h'.get? b = some o) (hi : its[i]? = some u) (hr : Reads h' u m bs) (hm : m.plain = true) : ∃ v, RelV v u ∧ RD X.K C F v m := by
  have hil : i < vs.length := by rw [rv.length]; exact (List.getElem?_eq_some_iff.mp hi).1
  have e1 : vs[i]? = some vs[i] := List.getElem?_eq_getElem hil
  obtain ⟨u', h1, h2⟩ := rv.get e1
  rw [hi] at h1; cases h1
  obtain ⟨d, h3, h4⟩ := rd.get' e1
  have hd := hp d (List.mem_of_getElem? h3)
  obtain ⟨as, r⟩ := h4.reads I sub hd h2
  have := SeqAt.plain_unique m d u bs as hm hr (PySem.W.reads_keeps hk r)
  exact ⟨_, h2, this ▸ h4⟩
theorem minD_mem (x : Val) (xs : List Val) : PySem.W.minD x xs ∈ x :: xs := by
  unfold PySem.W.minD
  induction xs generalizing x with
  | nil => exact List.mem_cons_self
  | cons y r ih =>
    rw [List.foldl_cons]
    split
    · exact List.mem_cons_of_mem _ (ih y)
    · rcases List.mem_cons.mp (ih x) with h | h
      · rw [h]; exact List.mem_cons_self
      · exact List.mem_cons_of_mem _ (List.mem_cons_of_mem _ h)
theorem maxD_mem (x : Val) (xs : List Val) : PySem.W.maxD x xs ∈ x :: xs := by
  unfold PySem.W.maxD
  induction xs generalizing x with
  | nil => exact List.mem_cons_self
  | cons y r ih =>
    rw [List.foldl_cons]
    split
    · exact List.mem_cons_of_mem _ (ih y)
    · rcases List.mem_cons.mp (ih x) with h | h
      · rw [h]; exact List.mem_cons_self
      · exact List.mem_cons_of_mem _ (List.mem_cons_of_mem _ h)
theorem bi_min (hc : X.calm = true) (hu : X.A.units + 70 < cLine) : BiOk X C (.builtin "min") (biV .min) := by
  rintro pins s σ H vs us Q I r ⟨F, ds, z, sub, rd, e, q1, q2⟩
  have e0 := un12_some e
  clear e
  rcases e0 with ⟨x, rfl, e⟩ | ⟨x, y, rfl, e⟩
  · obtain ⟨v, rfl, rv⟩ := rd.one
    unfold minV at e
    split at e
    · split at e
      · rename_i a xs hl; cases e
        obtain ⟨hp, ha⟩ := allLike_ok hl
        obtain ⟨p, vs, rfl, ep, rp⟩ := rv.lst_inv
        obtain rfl := Vals.ref1 r
        obtain ⟨its, rvs, ht, _⟩ := I.list (SqL.of (sub _ _ ep))
        obtain ⟨as, ra⟩ := rp.readsAll I sub hp rvs
        have hd := pk_depthAll 8 _ hp
        refine PySem.W.min_list_data (I.ok.hd hc) ht.isList (by simpa using ra) ha (by omega) fun i u h' tk bs hi hr hk => ?_
        obtain ⟨w, h1, h2⟩ := RDs.at_reads (K := X.K) I sub rvs rp hp hk (by simpa using hi) hr (pk_plain 8 _ (hp _ (minD_mem _ _)))
        exact ⟨w, H, I.kept hk, h1, q1 w h2⟩
      · cases e
    · split at e
      · rename_i a xs hl; cases e
        obtain ⟨hp, ha⟩ := allLike_ok hl
        obtain ⟨p, vs, rfl, ep, rp⟩ := rv.tup_inv
        obtain rfl := Vals.ref1 r
        obtain ⟨its, rvs, ht, _⟩ := I.tuple (SqT.sub sub ep)
        obtain ⟨as, ra⟩ := rp.readsAll I sub hp rvs
        have hd := pk_depthAll 8 _ hp
        refine PySem.W.min_tuple_data (I.ok.hd hc) ht (by simpa using ra) ha (by omega) fun i u h' tk bs hi hr hk => ?_
        obtain ⟨w, h1, h2⟩ := RDs.at_reads (K := X.K) I sub rvs rp hp hk (by simpa using hi) hr (pk_plain 8 _ (hp _ (minD_mem _ _)))
        exact ⟨w, H, I.kept hk, h1, q1 w h2⟩
      · cases e
    · cases e
  · obtain ⟨v, v', rfl, rv, rv'⟩ := rd.two
    unfold min2V at e
    split at e
    · cases e; obtain rfl := rv.int_inv; obtain rfl := rv'.int_inv
      exact call_min2 hc pins s σ H _ us Q I r ⟨_, _, rfl, q1 _ (.int _)⟩
    · cases e
theorem bi_max (hc : X.calm = true) (hu : X.A.units + 70 < cLine) : BiOk X C (.builtin "max") (biV .max) := by
  rintro pins s σ H vs us Q I r ⟨F, ds, z, sub, rd, e, q1, q2⟩
  have e0 := un12_some e
  clear e
  rcases e0 with ⟨x, rfl, e⟩ | ⟨x, y, rfl, e⟩
  · obtain ⟨v, rfl, rv⟩ := rd.one
    unfold maxV at e
    split at e
    · split at e
      · rename_i a xs hl; cases e
        obtain ⟨hp, ha⟩ := allLike_ok hl
        obtain ⟨p, vs, rfl, ep, rp⟩ := rv.lst_inv
        obtain rfl := Vals.ref1 r
        obtain ⟨its, rvs, ht, _⟩ := I.list (SqL.of (sub _ _ ep))
        obtain ⟨as, ra⟩ := rp.readsAll I sub hp rvs
        have hd := pk_depthAll 8 _ hp
        refine PySem.W.max_list_data (I.ok.hd hc) ht.isList (by simpa using ra) ha (by omega) fun i u h' tk bs hi hr hk => ?_
        obtain ⟨w, h1, h2⟩ := RDs.at_reads (K := X.K) I sub rvs rp hp hk (by simpa using hi) hr (pk_plain 8 _ (hp _ (maxD_mem _ _)))
        exact ⟨w, H, I.kept hk, h1, q1 w h2⟩
      · cases e
    · split at e
      · rename_i a xs hl; cases e
        obtain ⟨hp, ha⟩ := allLike_ok hl
        obtain ⟨p, vs, rfl, ep, rp⟩ := rv.tup_inv
        obtain rfl := Vals.ref1 r
        obtain ⟨its, rvs, ht, _⟩ := I.tuple (SqT.sub sub ep)
        obtain ⟨as, ra⟩ := rp.readsAll I sub hp rvs
        have hd := pk_depthAll 8 _ hp
        refine PySem.W.max_tuple_data (I.ok.hd hc) ht (by simpa using ra) ha (by omega) fun i u h' tk bs hi hr hk => ?_
        obtain ⟨w, h1, h2⟩ := RDs.at_reads (K := X.K) I sub rvs rp hp hk (by simpa using hi) hr (pk_plain 8 _ (hp _ (maxD_mem _ _)))
        exact ⟨w, H, I.kept hk, h1, q1 w h2⟩
      · cases e
    · cases e
  · obtain ⟨v, v', rfl, rv, rv'⟩ := rd.two
    unfold max2V at e
    split at e
    · cases e; obtain rfl := rv.int_inv; obtain rfl := rv'.int_inv
      exact call_max2 hc pins s σ H _ us Q I r ⟨_, _, rfl, q1 _ (.int _)⟩
    · cases e
/-- tuple(x) -/
theorem call_tupleS : CallR X (.type "tuple") (fun xs H Q => ∃ p ys, xs = [.ref p] ∧ ((SqL X.K H p ys ∧ NewT H ys Q) ∨ (SqT X.K H p ys ∧ Q (.ref p) H))) := by
  intro pins s σ H xs us Q I r ⟨p, ys, e, h⟩
  subst e
  rcases h with ⟨hq, q⟩ | h
  · obtain ⟨u, rfl, rx⟩ := vals1 r
    cases rx
    obtain ⟨ws, r', pl, hz⟩ := I.list hq
    refine call_tuple_list pl.isList (fun h' kp => ?_) (by have := r'.length; simp only [List.size_toArray]; omega)
    exact q.fin (t' := s.toks) (I.kept (t' := s.toks) kp) r' hz
  · exact call_tuple_of pins s σ H _ us Q I r ⟨p, ys, rfl, .inr h⟩
theorem bi_tuple : BiOk X C (.type "tuple") (biV .tuple) := by
  refine BiOk.of1 call_tupleS fun F H v x z Q sub rv e q1 q2 => ?_
  unfold tupleV at e
  split at e
  · cases e
    obtain ⟨p, vs, rfl, ep, rp⟩ := rv.lst_inv
    exact ⟨p, vs, rfl, .inl ⟨SqL.of (sub _ _ ep), fun l o hd hl => q2 l _ _ hl (.tup upd_same hd (rp.sub (FSub.upd_new (sub.none hl))))⟩⟩
  · cases e
    obtain ⟨p, vs, rfl, ep, rp⟩ := rv.tup_inv
    exact ⟨p, vs, rfl, .inr ⟨SqT.sub sub ep, q1 _ rv⟩⟩
  · cases e
/-! ### sorted -/
theorem sortOk_ok {xs : List Val} (h : sortOk xs = true) : (∀ x ∈ xs, pk 8 x = true) ∧ PySem.W.AllAlike xs ∧ PySem.W.Sortable xs := by
  unfold sortOk at h
  rw [Bool.and_eq_true] at h
  obtain ⟨hp, ha⟩ := allLike_ok h.1
  refine ⟨hp, fun d hd d' hd' => ha.1 d hd d' hd', ?_⟩
  rcases Bool.or_eq_true_iff.mp h.2 with h2 | h2
  · refine .inl fun d hd => ?_
    have := List.all_eq_true.mp h2 d hd
    unfold isTupC at this
    split at this
    · exact ⟨_, _, rfl⟩
    · cases this
  · refine .inr fun d hd => ?_
    have := List.all_eq_true.mp h2 d hd
    rw [Bool.and_eq_true] at this
    refine ⟨ne_none_of this.1, fun ys e => ?_⟩
    subst e
    cases this.2
theorem each_zip {K : PySem.W.Frag} {F : Hp} : ∀ {vs : List V} {ds : List Val} {its : List Value}, Vals vs its → RDs K C F vs ds → PySem.W.EachIs (fun u (b : V × Val) => RelV b.1 u ∧ RD K C F b.1 b.2) its (vs.zip ds)
  | _, _, _, .nil, .nil => .nil
  | _, _, _, .cons r t, .cons q s => .cons ⟨r, q⟩ (each_zip t s)
theorem each_out {K : PySem.W.Frag} {F : Hp} : ∀ {bs : List (V × Val)} {out : List Value}, PySem.W.EachIs (fun u (b : V × Val) => RelV b.1 u ∧ RD K C F b.1 b.2) out bs → Vals (bs.map (·.1)) out ∧ RDs K C F (bs.map (·.1)) (bs.map (·.2))
  | _, _, .nil => ⟨.nil, .nil⟩
  | _, _, .cons r t => by
    obtain ⟨h1, h2⟩ := each_out t
    exact ⟨.cons r.1 h1, .cons r.2 h2⟩
theorem EachIs.imp {α β : Type} {R R' : α → β → Prop} (k : ∀ a b, R a b → R' a b) : ∀ {as : List α} {bs : List β}, PySem.W.EachIs R as bs → PySem.W.EachIs R' as bs
  | _, _, .nil => .nil
  | _, _, .cons r t => .cons (k _ _ r) (EachIs.imp k t)
theorem zip_snd {vs : List V} {ds : List Val} (h : vs.length = ds.length) : (vs.zip ds).map (·.2) = ds := by
  rw [List.map_snd_zip]; omega
theorem sorted_ok {pins : List (Addr × Obj)} {s : Shared} {σ : L2.St} {F H : Hp} {p : Addr} {vs : List V} {ds : List Val} {Q : VK} {E : Value → Shared → Prop} (hu : X.A.units + 70 < cLine) (I : Inv X pins σ H s) (sub : FSub F H) (hp : SqL X.K H p vs) (rd : RDs X.K C F vs ds) (ok : sortOk ds = true)
    (q : ∀ l vs', H l = none → RDs X.K C F vs' (ds.mergeSort leD) → Q (.ref l) (upd H l (.lst vs'))) : wpAny (model X.prog X.w) X.A (call (.builtin "sorted") [.ref p]) (EP X pins σ Q) E s := by
  obtain ⟨hk, hal, hs⟩ := sortOk_ok ok
  obtain ⟨its, rvs, ht, hz⟩ := I.list hp
  have hlen := rd.length
  have e2 : (vs.zip ds).map (fun b : V × Val => b.2) = ds := zip_snd hlen
  have hzl : (vs.zip ds).length = ds.length := by rw [← List.length_map (f := fun b : V × Val => b.2), e2]
  have E0 := each_zip rvs rd
  refine PySem.W.sorted_data (enc := fun b : V × Val => b.2) (R := fun u (b : V × Val) => RelV b.1 u ∧ RD X.K C F b.1 b.2) (bs := vs.zip ds) ht.isList E0 ?_ (by rw [e2]; exact hal) (by rw [e2]; exact hs) (by rw [hzl]; omega) (fun b hb => ?_) fun out ho h => ?_
  · refine EachIs.imp (fun u b h => ?_) (PySem.W.each_mem E0)
    have hb : b.2 ∈ ds := by rw [← e2]; exact List.mem_map_of_mem h.2
    exact h.1.2.reads I sub (hk _ hb) h.1.1
  · have hb : b.2 ∈ ds := by rw [← e2]; exact List.mem_map_of_mem hb
    have := pk_depth 8 _ (hk _ hb)
    omega
  · obtain ⟨h1, h2⟩ := each_out h
    have e3 : ((vs.zip ds).mergeSort (PySem.W.dataLe false fun b : V × Val => b.2)).map (·.2) = ds.mergeSort leD := by
      have := List.map_mergeSort (r := PySem.W.dataLe false fun b : V × Val => b.2) (s := leD) (f := fun b : V × Val => b.2) (l := vs.zip ds) (fun a _ b _ => rfl)
      rw [this, e2]
    rw [e3] at h2
    obtain ⟨ep, he'⟩ := PyProof.Rows.sortedAll_at s.heap its out.toArray
    have hl2 : (((vs.zip ds).mergeSort (PySem.W.dataLe false fun b : V × Val => b.2)).map (·.1)).length ≤ sizeLine := by
      rw [List.length_map, List.length_mergeSort, hzl]; omega
    exact ⟨.ref _, upd H (s.heap.objs.size + 1) (.lst _), I.laid (t' := s.toks) (fun _ _ => PyProof.Rows.sortedAll_old) (Nat.le_succ _) ⟨hl2, out, ep, h1, he'⟩, rfl, q _ _ (I.hok.fresh (Nat.le_succ _)) h2⟩
end
end PL
set_option maxHeartbeats 1000000
/-! PLs8: sorted of lists and dicts. -/
namespace PL
open PySem PySem.Spec PyProof.Rows L2
section
variable {X : Cx} {C : Gx}
theorem reads_old {h : Heap} : ∀ {d : PyData} {v : Value} {as : List Addr}, Reads h v d as → ∀ a ∈ as, a < h.objs.size := by
  intro d v as r
  induction r using Reads.rec (motive_2 := fun vs ds as _ => ∀ a ∈ as, a < h.objs.size) with
  | none => intro a ha; cases ha
  | bool b => intro a ha; cases ha
  | int i t => intro a ha; cases ha
  | str x t => intro a ha; cases ha
  | list e _ _ _ ih =>
    intro a ha
    rcases List.mem_cons.mp ha with rfl | ha
    · exact Heap.lt_size e
    · exact ih a ha
  | tuple e _ _ _ ih => exact ih
  | dict e _ _ _ _ ih1 ih2 =>
    intro a ha
    rcases List.mem_append.mp ha with ha | ha
    · rcases List.mem_cons.mp ha with rfl | ha
      · exact Heap.lt_size e
      · exact ih1 _ ha
    · exact ih2 _ ha
  | nil => rename_i ha; cases ha
  | cons _ _ ih1 ih2 =>
    rename_i ha
    rcases List.mem_append.mp ha with ha | ha
    · exact ih1 _ ha
    · exact ih2 _ ha
/-- sorted of what is collected from a walk -/
theorem sorted_src {pins : List (Addr × Obj)} {s : Shared} {σ : L2.St} {H : Hp} {T : String} {r d : Addr} {n : Nat} {P : Nat → Value → Prop} {OK : Heap → Prop} {Q : VK} {E : Value → Shared → Prop} {F : Hp} {vs : List V} {ds : List Val}
    (hu : X.A.units + 70 < cLine) (hcalm : X.calm = true) (I : Inv X pins σ H s) (Kd : PySem.W.KdlSrc X.prog X.w T r d n P OK) (hok : OK s.heap) (hn : n ≤ sizeLine) (sub : FSub F H)
    (hv : ∀ us : List Value, us.length = n → (∀ j v, us[j]? = some v → P j v) → Vals vs us) (rd : RDs X.K C F vs ds) (ok : sortOk ds = true)
    (q : ∀ l vs', H l = none → RDs X.K C F vs' (ds.mergeSort leD) → Q (.ref l) (upd H l (.lst vs'))) : wpAny (model X.prog X.w) X.A (call (.builtin "sorted") [.ref r]) (EP X pins σ Q) E s := by
  obtain ⟨hk, hal, hs⟩ := sortOk_ok ok
  refine Calls.call_function_entry PyProof.Rows.kind_sorted PyProof.Rows.plain_sorted PyProof.Rows.entry_sorted (PyProof.Rows.args_sorted1 _) ?_
  unfold Builtin.«sorted»
  refine wpAny_bind (m := checkCount "sorted" 1 1 _) (wpAny_pure ?_)
  refine wpAny_bind (PySem.W.kdu_collect (A := X.A.in1) Kd (I.ok.hd hcalm) hok hn fun h' tk acc hk' hacc => ?_)
  have hlen : acc.toList.length = n := by rw [Array.length_toList]; exact hacc.1
  have rvs : Vals vs acc.toList := hv _ hlen fun j v e => hacc.2 j v (by rw [← Array.getElem?_toList]; exact e)
  have I1 : Inv X pins σ H { s with heap := h', toks := tk } := I.kept hk'
  have hl1 := rvs.length
  have hl2 := rd.length
  refine wpAny_bind (wpAny_newList ?_ (by rw [hlen]; exact hn))
  have hoL : (h'.push (seqObj "list" acc.toList.toArray 0)).get? h'.objs.size = some (seqObj "list" acc.toList.toArray 0) := Heap.get?_push_size _ rfl
  show wpAny _ _ _ _ _ { s with heap := h'.push (seqObj "list" acc.toList.toArray 0), toks := tk }
  have e2 : (vs.zip ds).map (fun b : V × Val => b.2) = ds := zip_snd hl2
  have hzl : (vs.zip ds).length = ds.length := by rw [← List.length_map (f := fun b : V × Val => b.2), e2]
  have E0 := each_zip rvs rd
  refine wpAny_bind (wpAny_holding (PySem.W.list_sort_data (A := X.A.in1) (s := { s with heap := h'.push (seqObj "list" acc.toList.toArray 0), toks := tk }) (enc := fun b : V × Val => b.2) (R := fun u (b : V × Val) => RelV b.1 u ∧ RD X.K C F b.1 b.2) (bs := vs.zip ds) hoL E0 ?_ (by rw [e2]; exact hal) (by rw [e2]; exact hs) (by rw [hzl]; omega) (fun b hb => ?_) fun out ho h => ?_))
  · refine EachIs.imp (fun u b h => ?_) (PySem.W.each_mem E0)
    have hb : b.2 ∈ ds := by rw [← e2]; exact List.mem_map_of_mem h.2
    obtain ⟨as, r1⟩ := h.1.2.reads I1 sub (hk _ hb) h.1.1
    exact ⟨as, PySem.W.reads_keeps (fun b o e => Heap.get?_push_of_some _ e) r1, fun z => Nat.lt_irrefl _ (reads_old r1 _ z)⟩
  · have hb : b.2 ∈ ds := by rw [← e2]; exact List.mem_map_of_mem hb
    have := pk_depth 8 _ (hk _ hb)
    show X.A.units + 1 + 1 + _ < _
    omega
  · obtain ⟨h1, h2⟩ := each_out h
    have e3 : ((vs.zip ds).mergeSort (PySem.W.dataLe false fun b : V × Val => b.2)).map (·.2) = ds.mergeSort leD := by
      have := List.map_mergeSort (r := PySem.W.dataLe false fun b : V × Val => b.2) (s := leD) (f := fun b : V × Val => b.2) (l := vs.zip ds) (fun a _ b _ => rfl)
      rw [this, e2]
    rw [e3] at h2
    obtain ⟨ep, he'⟩ := PyProof.Rows.sortedHeap_at (vs := acc.toList) (out := out.toArray) hoL
    have hz2 : (((vs.zip ds).mergeSort (PySem.W.dataLe false fun b : V × Val => b.2)).map (·.1)).length ≤ sizeLine := by
      rw [List.length_map, List.length_mergeSort, hzl]; omega
    refine wpAny_pure ⟨_, rfl, .ref h'.objs.size, upd H h'.objs.size (.lst _), I1.laid (t' := tk) (fun b u e => ?_) (Nat.le_refl _) ⟨hz2, out, ep, h1, he'⟩, rfl, q _ _ (I1.hok.fresh (Nat.le_refl _)) h2⟩
    have hb : b < h'.objs.size := Heap.lt_size e
    show (PyProof.Rows.sortedHeap _ _ _ _).get? b = some u
    rw [PyProof.Rows.sortedHeap_old (Nat.ne_of_lt hb) (by rw [size_push']; exact Nat.lt_succ_of_lt hb)]
    exact Heap.get?_push_of_some _ e
theorem RKs.keysRD {K : PySem.W.Frag} {F : Hp} : ∀ {vs : List (Key × V)} {kvs : List (Val × Val)}, RKs K C F vs kvs → RDs K C F (vs.map fun p => kV p.1) (kvs.map (·.1))
  | _, _, .nil => .nil
  | _, _, .cons (k := k) r t => by
    refine .cons ?_ (RKs.keysRD t)
    cases k with
    | inl i => exact .int i
    | inr x => exact .str x
theorem RDs.ofKeys {K : PySem.W.Frag} {F : Hp} : ∀ ks : List Key, RDs K C F (ks.map kV) (ks.map keyD)
  | [] => .nil
  | .inl i :: r => .cons (.int i) (RDs.ofKeys r)
  | .inr x :: r => .cons (.str x) (RDs.ofKeys r)
theorem RTs.keysRD {K : PySem.W.Frag} {F : Hp} : ∀ {vs : List (List Key × Addr × V)} {kvs : List (Val × Val)}, RTs K C F vs kvs → RDs K C F (vs.map fun e => V.ref e.2.1) (kvs.map (·.1))
  | _, _, .nil => .nil
  | _, _, .cons (k := k) e d _ t => .cons (.tup e d (RDs.ofKeys k)) (RTs.keysRD t)
theorem keys_vals : ∀ {us : List Value} {vs : List (Key × Value)}, us.length = vs.length → (∀ (j : Nat) (v : Value), us[j]? = some v → ∃ (k : Key) (x : Value), vs[j]? = some (k, x) ∧ keyIs k v = true) → Vals (vs.map fun p => kV p.1) us := fun h k => keys_at h k
theorem bi_sorted (hG : OnX X C) (hcalm : X.calm = true) (hu : X.A.units + 70 < cLine) : BiOk X C (.builtin "sorted") (biV .sorted) := by
  rintro pins s σ H vs us Q I r ⟨F, ds, z, sub, rd, e, _, q⟩
  have e0 := un1_some e
  clear e
  obtain ⟨x, rfl, e⟩ := e0
  obtain ⟨v, rfl, rv⟩ := rd.one
  unfold sortedV at e
  split at e
  · split at e
    · rename_i hl; cases e
      obtain ⟨p, vs, rfl, ep, rp⟩ := rv.lst_inv
      obtain rfl := Vals.ref1 r
      refine sorted_ok (C := C) hu I sub (SqL.of (sub _ _ ep)) rp hl fun l vs' hl' r' => q l _ _ hl' ?_
      exact .lst upd_same (r'.sub (FSub.upd_new (sub.none hl')))
    · cases e
  · split at e
    · rename_i kvs hl; cases e
      rw [Bool.and_eq_true] at hl
      by_cases ne : kvs = []
      · subst ne
        -- an empty dict, of either kind
        have fin : ∀ (p : Addr), v = .ref p → ((∃ w, F p = some (.dK w) ∧ RKs X.K C F w []) ∨ ∃ w, F p = some (DX C.P C.w p w) ∧ RTs X.K C F w []) → wpAny (model X.prog X.w) X.A (call (.builtin "sorted") us) (EP X pins σ Q) X.xe s := by
          rintro p rfl h
          obtain rfl := Vals.ref1 r
          have qq : ∀ l vs', H l = none → RDs X.K C F vs' (([] : List Val).mergeSort leD) → Q (.ref l) (upd H l (.lst vs')) := fun l vs' hl' r' => q l _ _ hl' (.lst upd_same (r'.sub (FSub.upd_new (sub.none hl'))))
          rcases h with ⟨w, ep, rw'⟩ | ⟨w, ep, rw'⟩
          · cases rw'
            obtain ⟨z, lo, vs, rel, dd⟩ := dk_rd I.hok (.inl (sub _ _ ep))
            obtain ⟨ep, hat⟩ := dd.dictAt
            have hvs : vs = [] := by cases rel; rfl
            subst hvs
            exact sorted_src (C := C) (vs := []) (ds := []) hu hcalm I (PySem.W.kdl_dict (knd := mixKind X.prog X.w) (kvs := []) (ep := ep) lo) hat (by simp) sub (fun us hl _ => by have : us = [] := List.eq_nil_of_length_eq_zero hl; subst this; exact .nil) .nil hl.2 qq
          · cases rw'
            rw [hG.1, hG.2] at ep
            obtain ⟨z, hs, ks, pr, o, es, ep, ho, hx, hdt, he, _, hn⟩ := dx_of I.hok (sub _ _ ep) (fun e he => nomatch he)
            have l1 : es.size = ks.length := size_of_entries he
            have hks : ks = [] := by cases pr; rfl
            subst hks
            have l2 : es.size = 0 := l1
            exact sorted_src (C := C) (vs := []) (ds := []) hu hcalm I (kdl_raw hs hx hdt) ho (by omega) sub (fun us hl _ => by have : us = [] := List.eq_nil_of_length_eq_zero (by omega); subst this; exact .nil) .nil hl.2 qq
        generalize eq0 : PyData.dict [] = dd at rv
        cases rv with
        | dK e1 r1 => cases eq0; exact fin _ rfl (.inl ⟨_, e1, r1⟩)
        | dT e1 r1 => cases eq0; exact fin _ rfl (.inr ⟨_, e1, r1⟩)
        | _ => cases eq0
      · rcases Bool.or_eq_true_iff.mp hl.1 with hk | hk
        · obtain ⟨p, w, rfl, ep, rw'⟩ := (rv.dict_inv ne).1 hk
          obtain rfl := Vals.ref1 r
          obtain ⟨z, lo, vs, rel, dd⟩ := dk_rd I.hok (.inl (sub _ _ ep))
          obtain ⟨epc, hat⟩ := dd.dictAt
          have hkeys : w.map (fun p => kV p.1) = vs.map (fun p => kV p.1) := by
            have := congrArg (List.map kV) rel.keys
            rw [List.map_map, List.map_map] at this
            exact this
          refine sorted_src (C := C) (vs := w.map fun p => kV p.1) hu hcalm I (PySem.W.kdl_dict (knd := mixKind X.prog X.w) (kvs := vs) (ep := epc) lo) hat (by rw [← rel.length]; exact z) sub (fun us hl2 hP => ?_) rw'.keysRD hl.2
            fun l vs' hl' r' => q l _ _ hl' (.lst upd_same (r'.sub (FSub.upd_new (sub.none hl'))))
          rw [hkeys]
          exact keys_at hl2 hP
        · obtain ⟨p, w, rfl, ep, rw'⟩ := (rv.dict_inv ne).2 hk
          obtain rfl := Vals.ref1 r
          rw [hG.1, hG.2] at ep
          obtain ⟨z, hs, ks, pr, o, es, epc, ho, hx, hdt, he, _, hn⟩ := dx_of I.hok (sub _ _ ep) (rw'.keysAt sub)
          have l1 : es.size = ks.length := size_of_entries he
          have l2 : w.length = ks.length := Paired.length pr
          refine sorted_src (C := C) (vs := w.map fun e => V.ref e.2.1) hu hcalm I (kdl_raw hs hx hdt) ho (by omega) sub (fun us hl2 hP => ?_) rw'.keysRD hl.2
            fun l vs' hl' r' => q l _ _ hl' (.lst upd_same (r'.sub (FSub.upd_new (sub.none hl'))))
          refine vals_of_at (by rw [List.length_map, hl2, l1, l2]) fun j x u hx hu => ?_
          obtain ⟨en, hen, rfl⟩ := hP j u hu
          have qe := entry_at he j
          rw [hen] at qe
          cases hb' : ks[j]? with
          | none => rw [hb'] at qe; cases qe
          | some b =>
            rw [hb'] at qe
            have e2 : en = entryOfKey (tupleKind (mixKind X.prog X.w)) b := Option.some.inj qe
            rw [List.getElem?_map] at hx
            cases hw : w[j]? with
            | none => rw [hw] at hx; cases hx
            | some a =>
              rw [hw] at hx
              cases hx
              obtain ⟨b2, hb2, _, h2, _⟩ := paired_get pr hw
              rw [hb'] at hb2
              cases hb2
              rw [e2]
              show Value.ref b.2.1 = Value.ref a.2.1
              rw [h2]
    · cases e
  · cases e
end
end PL
set_option maxHeartbeats 1000000
/-! PLs9: methods of lists, tuples, texts; isinstance; properties. -/
namespace PL
open PySem PySem.Spec PyProof.Rows L2
section
variable {X : Cx} {C : Gx}
def mePy : Me → Str
  | .count => "count" | .index => "index" | .split => "split"
theorem strsOf_some : ∀ {xs : List Val} {ns : List Str}, strsOf xs = some ns → xs = ns.map PyData.str
  | [], _, h => by cases h; rfl
  | .str i :: r, ns, h => by
    simp only [strsOf, Option.map_eq_some_iff] at h
    obtain ⟨a, h1, rfl⟩ := h
    rw [strsOf_some h1]; rfl
  | .none :: _, _, h => by cases h
  | .bool _ :: _, _, h => by cases h
  | .int _ :: _, _, h => by cases h
  | .list _ :: _, _, h => by cases h
  | .tuple _ :: _, _, h => by cases h
  | .dict _ :: _, _, h => by cases h
theorem strs_vals : ∀ {ns : List Str} {vs : List V} {us : List Value} {K : PySem.W.Frag} {F : Hp}, RDs K C F vs (ns.map PyData.str) → Vals vs us → StrsAre us ns
  | [], _, _, _, _, r, v => by cases r; cases v; exact .nil
  | n :: ns, vs, us, K, F, r, v => by
    generalize e : (n :: ns).map PyData.str = ds at r
    cases r with
    | nil => cases e
    | cons a b =>
      cases e
      obtain rfl := a.str_inv
      cases v with
      | cons h t =>
        obtain ⟨t', rfl⟩ := h
        exact .cons _ _ (strs_vals b t)
/-- a list, a tuple at hand: no dict of its own -/
theorem lst_no {pins : List (Addr × Obj)} {σ : L2.St} {H : Hp} {s : Shared} {p : Addr} {xs : List V} (I : Inv X pins σ H s) (h : H p = some (.lst xs)) :
    s.TypeIs (.ref p) "list" ∧ ∀ a, Value.ref p = .ref a → ∃ ob, s.heap.get? a = some ob ∧ ob.dict = none := by
  obtain ⟨_, its, n, _, e⟩ := I.hok p _ h
  exact ⟨⟨_, e, rfl⟩, fun a ea => by cases ea; exact ⟨_, e, rfl⟩⟩
theorem tup_no {pins : List (Addr × Obj)} {σ : L2.St} {F H : Hp} {s : Shared} {v : V} {u : Value} {ds : List Val} (I : Inv X pins σ H s) (sub : FSub F H) (rd : RD X.K C F v (.tuple ds)) (r : RelV v u) :
    s.TypeIs u "tuple" ∧ ∀ a, u = .ref a → ∃ ob, s.heap.get? a = some ob ∧ ob.dict = none := by
  cases rd with
  | tup e hd _ =>
    cases r
    obtain ⟨h1, _, its, _, o, h2, h3, _⟩ := I.hok _ _ (sub _ _ e)
    rw [h1] at h2; cases h2
    exact ⟨⟨_, h1, h3⟩, fun a ea => by cases ea; exact ⟨_, h1, hd⟩⟩
  | tupK e _ _ =>
    cases r
    obtain ⟨o, its, n, h1, h2, h3, _⟩ := e
    exact ⟨⟨_, I.kIn _ _ h1, h2⟩, fun a ea => by cases ea; exact ⟨_, I.kIn _ _ h1, h3⟩⟩
theorem ct_no {pins : List (Addr × Obj)} {σ : L2.St} {F H : Hp} {s : Shared} {v : V} {u : Value} {ds : List Val} (I : Inv X pins σ H s) (rd : RD X.K C F v (ctV ds)) (r : RelV v u) :
    s.TypeIs u "tuple" ∧ ∀ a, u = .ref a → ∃ ob, s.heap.get? a = some ob ∧ ob.dict = none := by
  generalize e0 : ctV ds = d at rd
  cases rd with
  | ct e _ =>
    cases r
    obtain ⟨o, its, n, h1, h2, h3, _⟩ := e
    exact ⟨⟨_, I.kIn _ _ h1, h2⟩, fun a ea => by cases ea; exact ⟨_, I.kIn _ _ h1, h3⟩⟩
  | dK _ r =>
    cases e0
    obtain ⟨k, _, _, _, e, _⟩ := r.cons_inv
    cases k <;> cases e
  | dT _ r =>
    cases e0
    obtain ⟨k, _, _, _, _, _, e, _⟩ := r.cons_inv
    cases e
  | _ => cases e0
/-- a method's call, its object and its arguments data -/
theorem me_on (hu : X.A.units + 70 < cLine) {m : Me} {pins : List (Addr × Obj)} {σ : L2.St} {F1 H1 : Hp} {s1 : Shared} {v : V} {u : Value} {x z : Val} {xs : List Val} (I1 : Inv X pins σ H1 s1) (sub1 : FSub F1 H1) (rd : RD X.K C F1 v x) (r : RelV v u) (h : meV m x xs = some z) :
    ∃ T id, PlainAttrs T ∧ PySem.Slot T (mePy m) id ∧ typeOf (.builtin id) = pure (.type "method_descriptor") ∧ s1.TypeIs u T ∧ (∀ a, u = .ref a → ∃ ob, s1.heap.get? a = some ob ∧ ob.dict = none) ∧
      ∀ (F2 H2 : Hp) (s2 : Shared) (vs : List V) (us : List Value) (Q : VK), Inv X pins σ H2 s2 → FSub F1 F2 → FSub F2 H2 → RDs X.K C F2 vs xs → Vals vs us → (∀ w, RD X.K C F2 w z → Q w H2) → (∀ p o w, H2 p = none → RD X.K C (upd F2 p o) w z → Q w (upd H2 p o)) →
        wpAny (model X.prog X.w) X.A (call (.builtin id) (u :: us)) (EP X pins σ Q) X.xe s2 := by
  cases m with
  | count =>
    obtain ⟨d, rfl, h⟩ := un1_some h
    change countV d x = some z at h
    unfold countV at h
    split at h
    · rename_i ys
      split at h
      · rename_i hp; cases h
        rw [Bool.and_eq_true] at hp
        obtain ⟨p, ws, rfl, ep, rp⟩ := rd.lst_inv
        cases r
        obtain ⟨t1, t2⟩ := lst_no I1 (sub1 _ _ ep)
        refine ⟨"list", _, F.plainAttrs_list, F.slot_list_count, F.type_list_count, t1, t2, fun F2 H2 s2 vs us Q I2 s12 s2' rvs rus q _ => ?_⟩
        obtain ⟨y, rfl, ry⟩ := rvs.one
        obtain ⟨uy, rfl, ruy⟩ := vals1 rus
        obtain ⟨pl, pd, dp⟩ := inAny hp.1 hp.2
        obtain ⟨as, r1⟩ := ry.reads I2 s2' hp.1 ruy
        obtain ⟨its, rv, ht, _⟩ := I2.list (SqL.of (s2' _ _ (s12 _ _ ep)))
        obtain ⟨bs, r2⟩ := (rp.sub s12).readsAll I2 s2' (List.all_eq_true.mp hp.2) rv
        exact SeqAt.count_list_data ht.isList (by simpa using r2) r1 pl pd (by omega) ⟨.int _, H2, I2.tok _, ⟨_, rfl⟩, q _ (.int _)⟩
      · cases h
    · rename_i ys
      split at h
      · rename_i hp; cases h
        rw [Bool.and_eq_true] at hp
        obtain ⟨t1, t2⟩ := tup_no I1 sub1 rd r
        obtain ⟨p, ws, rfl, ep, rp⟩ := rd.tup_inv
        cases r
        refine ⟨"tuple", _, F.plainAttrs_tuple, F.slot_tuple_count, F.type_tuple_count, t1, t2, fun F2 H2 s2 vs us Q I2 s12 s2' rvs rus q _ => ?_⟩
        obtain ⟨y, rfl, ry⟩ := rvs.one
        obtain ⟨uy, rfl, ruy⟩ := vals1 rus
        obtain ⟨pl, pd, dp⟩ := inAny hp.1 hp.2
        obtain ⟨as, r1⟩ := ry.reads I2 s2' hp.1 ruy
        obtain ⟨its, rv, ht, _⟩ := I2.tuple (SqT.sub s2' (SqT.sub s12 ep))
        obtain ⟨bs, r2⟩ := (rp.sub s12).readsAll I2 s2' (List.all_eq_true.mp hp.2) rv
        exact SeqAt.count_tuple_data ht (by simpa using r2) r1 pl pd (by omega) ⟨.int _, H2, I2.tok _, ⟨_, rfl⟩, q _ (.int _)⟩
      · cases h
    · cases h
  | index =>
    obtain ⟨d, rfl, h⟩ := un1_some h
    change indexV d x = some z at h
    unfold indexV at h
    have fin : ∀ (ys : List Val) (ns : List Str) (k : Str), d = .str k → strsOf ys = some ns → ns.contains k = true → z = .int (ns.idxOf k : Nat) → (s1.TypeIs u "tuple" ∧ ∀ a, u = .ref a → ∃ ob, s1.heap.get? a = some ob ∧ ob.dict = none) →
        (∃ p ws, v = .ref p ∧ SqT X.K F1 p ws ∧ RDs X.K C F1 ws ys) → ∃ T id, PlainAttrs T ∧ PySem.Slot T (mePy .index) id ∧ typeOf (.builtin id) = pure (.type "method_descriptor") ∧ s1.TypeIs u T ∧ (∀ a, u = .ref a → ∃ ob, s1.heap.get? a = some ob ∧ ob.dict = none) ∧
        ∀ (F2 H2 : Hp) (s2 : Shared) (vs : List V) (us : List Value) (Q : VK), Inv X pins σ H2 s2 → FSub F1 F2 → FSub F2 H2 → RDs X.K C F2 vs [d] → Vals vs us → (∀ w, RD X.K C F2 w z → Q w H2) → (∀ p o w, H2 p = none → RD X.K C (upd F2 p o) w z → Q w (upd H2 p o)) →
          wpAny (model X.prog X.w) X.A (call (.builtin id) (u :: us)) (EP X pins σ Q) X.xe s2 := by
      rintro ys ns k rfl h1 h2 rfl ⟨t1, t2⟩ ⟨p, ws, rfl, ep, rp⟩
      cases r
      refine ⟨"tuple", _, F.plainAttrs_tuple, F.slot_tuple_index, F.type_tuple_index, t1, t2, fun F2 H2 s2 vs us Q I2 s12 s2' rvs rus q _ => ?_⟩
      obtain ⟨y, rfl, ry⟩ := rvs.one
      obtain ⟨uy, rfl, ruy⟩ := vals1 rus
      obtain rfl := ry.str_inv
      obtain ⟨t, rfl⟩ := ruy
      rw [strsOf_some h1] at rp
      obtain ⟨its, rv, ht, _⟩ := I2.tuple (SqT.sub s2' (SqT.sub s12 ep))
      exact SeqAt.tuple_index_strs ht (strs_vals rp rv) (by simpa using h2) ⟨.int _, H2, I2.tok _, ⟨_, rfl⟩, q _ (.int _)⟩
    split at h
    · rename_i ys _
      split at h
      · rename_i k _
        split at h
        · rename_i ns h1
          split at h
          · rename_i h2; cases h
            exact fin ys ns k rfl h1 h2 rfl (tup_no I1 sub1 rd r) (rd.tup_inv)
          · cases h
        · cases h
      · cases h
    · cases h
  | split =>
    obtain ⟨d, rfl, h⟩ := un1_some h
    change splitV d x = some z at h
    unfold splitV at h
    split at h
    · rename_i w z0 _
      split at h
      · rename_i hp; cases h
        obtain rfl := rd.str_inv
        obtain ⟨t, rfl⟩ := id r
        refine ⟨"str", _, F.plainAttrs_str, F.slot_str_split, F.type_str_split, typeIs_str _ _ _, (fun _ e => nomatch e), fun F2 H2 s2 vs us Q I2 s12 s2' rvs rus _ q => ?_⟩
        obtain ⟨y, rfl, ry⟩ := rvs.one
        obtain rfl := ry.str_inv
        refine mt_split pins s2 σ H2 _ _ _ us Q I2 r rus ⟨z0, w, rfl, rfl, hp.1, hp.2, fun p hp2 => q p _ _ hp2 (.lst upd_same ?_)⟩
        have := RDs.strs (K := X.K) (C := C) (F := upd F2 p (.lst ((Txt.split z0 w).map V.str))) (Txt.split z0 w)
        exact this
      · cases h
    · cases h
theorem snd_me {m : Me} {a e : Expr} {es : List Expr} {apos pos : Pos} {ma : M Val} {mas : M (List Val)} (hu : X.A.units + 70 < cLine) (ha : SE X C a ma) (hs : SA X C (e :: es) mas)
    (hbase : attributeBase a (mePy m) X.env (eval a X.env) = eval a X.env)
    (hfew : ((backTo pos (starEach (e :: es) X.env)).all (fun x => !x.1) && (backToKw pos (keywordEach [] X.env)).all (fun x => x.1.isSome)
      && decide ((e :: es).length + ([] : List Keyword).length + (if ([] : List Keyword).isEmpty then 0 else 1) < 30)) = true)
    (hline : (apos.endLine == pos.line) = true) (hst : starEach (e :: es) X.env = (false, eval e X.env) :: starEach es X.env) (hpl : (backTo pos (starEach es X.env)).any (·.1) = false) :
    SE X C (.Call (.Attribute a (mePy m) apos) (e :: es) [] pos) (bnd ma fun x => bnd mas fun xs => lft (meV m x xs)) := by
  refine ⟨?_⟩
  rintro pins s σ H Q I ⟨F, ρ, fps, z, ρ', R, h, k⟩
  obtain ⟨x, ρ1, h1, h2⟩ := bnd_some h
  obtain ⟨xs, ρ2, h3, h4⟩ := bnd_some h2
  obtain ⟨h5, rfl⟩ := lft_some h4
  refine wpAny_Call_method_late hbase hfew hline rfl (thn (ha.run pins s σ H (fun v H1 => ∃ F1 fps1, Post X.K C F H fps ρ1 σ F1 H1 fps1 ∧ RD X.K C F1 v x) I ⟨F, ρ, fps, x, ρ1, R, h1, fun v F1 H1 fps1 P rv => ⟨F1, fps1, P, rv⟩⟩) fun u s1 ⟨v, H1, I1, r1, F1, fps1, P1, rv⟩ => ?_)
  obtain ⟨T, id, pa, slot, hty, t1, t2, hcall⟩ := me_on (C := C) hu I1 P1.rel.sub rv r1 h5
  refine ⟨T, id, pa, slot, hty, t1, t2, ?_⟩
  have hA := hs.run pos pins s1 σ H1 (fun vs H2 => ∃ F2 fps2, Post X.K C F1 H1 fps1 ρ' σ F2 H2 fps2 ∧ RDs X.K C F2 vs xs) I1 ⟨F1, ρ1, fps1, xs, ρ', P1.rel, h3, fun vs F2 H2 fps2 P rvs => ⟨F2, fps2, P, rvs⟩⟩
  rw [hst] at hA ⊢
  refine Calls.callWith_builtin (by show (false || (backTo pos (starEach es X.env)).any (·.1)) = false; rw [hpl] <;> rfl) (Calls.evalArgs_plain ?_)
  exact thn hA fun us s2 ⟨vs, H2, I2, r2, F2, fps2, P2, rvs⟩ => hcall F2 H2 s2 vs us Q I2 P2.ext P2.rel.sub rvs r2 (fun w rw' => k _ _ _ _ (P1.trans P2) rw') fun p o w hp rw' => k _ _ _ _ ((P1.trans P2).trans (Post.laid P2.rel hp)) rw'
end
end PL
set_option maxHeartbeats 1000000
/-! PLs10: isinstance; a street's properties. -/
namespace PL
open PySem PySem.Spec PyProof.Rows L2
section
variable {X : Cx} {C : Gx}
def tyS : Ty → String
  | .int => "int" | .bool => "bool" | .str => "str" | .tuple => "tuple" | .list => "list" | .street => "Street"
def clsU (C : Gx) : Ty → Value
  | .street => .ref C.cls
  | t => .type (tyS t)
def clsK (C : Gx) : Ty → V
  | .street => .ref C.cls
  | t => .ty (tyS t)
/-- what is asked of the street's class -/
structure StOk (K : PySem.W.Frag) (C : Gx) : Prop where
  cl : Cls K C.cls
  ha : PySem.W.findIn K (.ref C.cls) "__class__" = some (some (.builtin "object.__class__"))
  hn : PySem.W.specialIn K (.builtin "object.__class__") "__get__" = some (some (.builtin "getset_descriptor.__get__"))
  ht : PySem.W.takesIn K (.builtin "object.__class__") = some true
  hm : PySem.W.mroIn K C.cls (.type "object") = some true
  to : ["NoneType", "bool", "int", "str", "list", "tuple", "dict"].all (fun T => PySem.W.kitOne K (.type T) (.ref C.cls) == some false) = true
  of : ["int", "bool", "str", "tuple", "list"].all (fun T => PySem.W.kitOne K (.ref C.cls) (.type T) == some false) = true
/-- the type of data -/
def tyD : Val → String
  | .none => "NoneType" | .bool _ => "bool" | .int _ => "int" | .str _ => "str" | .list _ => "list" | .tuple _ => "tuple" | .dict _ => "dict"
theorem kitT (t : Ty) (ht : t ≠ .street) : (kitB "NoneType" (tyS t) = some false ∧ kitB "bool" (tyS t) = some (decide (t = .bool ∨ t = .int)) ∧ kitB "int" (tyS t) = some (decide (t = .int)) ∧ kitB "str" (tyS t) = some (decide (t = .str))) ∧
    kitB "list" (tyS t) = some (decide (t = .list)) ∧ kitB "tuple" (tyS t) = some (decide (t = .tuple)) ∧ kitB "dict" (tyS t) = some false := by
  cases t
  case street => exact absurd rfl ht
  all_goals decide +kernel
theorem isaB_dict (t : Ty) (ht : t ≠ .street) (kvs : List (Val × Val)) : isaB t (.dict kvs) = false := by
  cases t
  case street => exact absurd rfl ht
  all_goals rfl
theorem kit_tyD (t : Ty) (ht : t ≠ .street) (x : Val) : kitB (tyD x) (tyS t) = some (isaB t x) := by
  obtain ⟨⟨h1, h2, h3, h4⟩, h5, h6, h7⟩ := kitT t ht
  cases x with
  | none => refine h1.trans ?_; cases t <;> rfl
  | bool _ => refine h2.trans ?_; cases t <;> rfl
  | int _ => refine h3.trans ?_; cases t <;> rfl
  | str _ => refine h4.trans ?_; cases t <;> rfl
  | list _ => refine h5.trans ?_; cases t <;> rfl
  | tuple _ => refine h6.trans ?_; cases t <;> rfl
  | dict kvs => refine h7.trans ?_; rw [isaB_dict t ht]
/-- what isinstance asks of data: its type, or the street's class -/
theorem kit_data {pins : List (Addr × Obj)} {σ : L2.St} {F H : Hp} {s : Shared} {v : V} {u : Value} {x : Val} {t : Ty} {b : Bool} (S : StOk X.K C) (I : Inv X pins σ H s) (sub : FSub F H) (rd : RD X.K C F v x) (r : RelV v u) (h : isaV t x = some b) :
    ∃ T P, PySem.W.KitX X.K u T P ∧ P s.heap ∧ u ≠ .builtin "__main__.__loader__#opaque" ∧ PySem.W.kitOne X.K T (clsU C t) = some b := by
  have plain : ∀ T, T = tyD x → T ∈ ["NoneType", "bool", "int", "str", "list", "tuple", "dict"] → (∀ p, x ≠ .dict [(.none, p)]) → (∀ b p, x ≠ .dict [(.bool b, p)]) → PySem.W.kitOne X.K (.type T) (clsU C t) = some b := by
    intro T hT hm h1 h2
    have hb : b = isaB t x := by
      unfold isaV at h
      split at h
      · cases h
      · exact (Option.some.inj h).symm
    by_cases ht : t = .street
    · subst ht
      have e : isaB .street x = false := by
        unfold isaB
        split <;> first | rfl | (rename_i q; cases q) | skip
        exact absurd rfl (h1 _)
      rw [hb, e]
      have := List.all_eq_true.mp S.to T hm
      exact beq_iff_eq.mp this
    · have e : clsU C t = .type (tyS t) := by
        cases t
        case street => exact absurd rfl ht
        all_goals rfl
      rw [e, hb, hT]
      exact kit_ty (kit_tyD t ht x)
  cases rd with
  | non => cases r; exact ⟨_, _, PySem.W.kitx_none, True.intro, (fun z => nomatch z), plain "NoneType" rfl (by decide) nofun nofun⟩
  | bl y => cases r; exact ⟨_, _, PySem.W.kitx_bool, True.intro, (fun z => nomatch z), plain "bool" rfl (by decide) nofun nofun⟩
  | int i => obtain ⟨t', rfl⟩ := r; exact ⟨_, _, PySem.W.kitx_int, True.intro, (fun z => nomatch z), plain "int" rfl (by decide) nofun nofun⟩
  | str y => obtain ⟨t', rfl⟩ := r; exact ⟨_, _, PySem.W.kitx_str, True.intro, (fun z => nomatch z), plain "str" rfl (by decide) nofun nofun⟩
  | lst e _ =>
    cases r
    obtain ⟨_, _, n, _, h1⟩ := I.hok _ _ (sub _ _ e)
    exact ⟨_, _, PySem.W.kitx_list, ⟨_, h1, rfl⟩, (fun z => nomatch z), plain "list" rfl (by decide) nofun nofun⟩
  | tup e _ _ =>
    cases r
    obtain ⟨_, _, _, _, o, h1, h2, _⟩ := I.hok _ _ (sub _ _ e)
    exact ⟨_, _, PySem.W.kitx_tuple, ⟨o, h1, h2⟩, (fun z => nomatch z), plain "tuple" rfl (by decide) nofun nofun⟩
  | tupK e _ _ =>
    cases r
    obtain ⟨o, its, n, h1, h2, _⟩ := e
    exact ⟨_, _, PySem.W.kitx_tuple, ⟨o, I.kIn _ _ h1, h2⟩, (fun z => nomatch z), plain "tuple" rfl (by decide) nofun nofun⟩
  | ct e _ => unfold isaV ctV at h; cases h
  | scr e _ => unfold isaV scrV at h; cases h
  | gf e => unfold isaV gfV at h; cases h
  | dK e rk =>
    cases r
    obtain ⟨_, _, vs, _, o, es, ep, h1, h2, _⟩ := I.hok _ _ (sub _ _ e)
    refine ⟨_, _, PySem.W.kitx_dict, ⟨o, h1, h2.1⟩, (fun z => nomatch z), plain "dict" rfl (by decide) (fun p e0 => ?_) fun b p e0 => ?_⟩
    all_goals
      cases e0
      obtain ⟨k, _, _, _, e, _⟩ := rk.cons_inv
      cases k <;> cases e
  | dT e rk =>
    cases r
    obtain ⟨⟨_, _, xs, _, o, es, ep, h1, h2, _⟩, _⟩ := I.hok _ _ (sub _ _ e)
    refine ⟨_, _, PySem.W.kitx_dict, ⟨o, h1, h2.1⟩, (fun z => nomatch z), plain "dict" rfl (by decide) (fun p e0 => ?_) fun b p e0 => ?_⟩
    all_goals
      cases e0
      obtain ⟨k, _, _, _, _, _, e, _⟩ := rk.cons_inv
      cases e
  | st e _ =>
    obtain ⟨P, Z, p, hx⟩ := kit_of I r (.base (.ins (sub _ _ e) S.cl S.ha S.hn S.ht S.hm))
    refine ⟨_, P, Z, p, hx, ?_⟩
    have hb : b = isaB t (stV ‹_›) := by
      unfold isaV stV at h
      exact (Option.some.inj h).symm
    by_cases ht : t = .street
    · subst ht
      rw [hb]
      show PySem.W.kitOne X.K (.ref C.cls) (.ref C.cls) = some true
      unfold PySem.W.kitOne
      rw [if_pos (by simp)]
    · rw [hb]
      have hall := fun T hT => beq_iff_eq.mp (List.all_eq_true.mp S.of T hT)
      cases t
      case street => exact absurd rfl ht
      all_goals exact hall _ (by decide)
/-- isinstance(x, c) -/
def rIsX (K : PySem.W.Frag) (C : Gx) (t : Ty) : List V → Hp → VK → Prop := fun vs H Q => ∃ F v x b, vs = [v, clsK C t] ∧ FSub F H ∧ RD K C F v x ∧ isaV t x = some b ∧ Q (.bl b) H
theorem call_isX (S : StOk X.K C) (t : Ty) : CallR X (.builtin "isinstance") (rIsX X.K C t) := by
  rintro pins s σ H xs us Q I r ⟨F, v, x, b, rfl, sub, rd, h, q⟩
  obtain ⟨u1, u2, rfl, r1, r2⟩ := vals2 r
  obtain ⟨T, P, Z, p, hx, hk⟩ := kit_data S I sub rd r1 h
  have e2 : u2 = clsU C t := by cases t <;> exact r2
  subst e2
  exact PySem.W.kia_one Z I.kIn p hk hx fun tk => ⟨.bl b, H, I.tok tk, rfl, q⟩
theorem snd_isa {t : Ty} {a c : Expr} {p pos : Pos} {ma : M Val} (S : StOk X.K C) (hg : Gl X "isinstance") (hm : X.mg "isinstance" = none) (ha : SE X C a ma) (hc : PE X c (tC (clsK C t)))
    (he : starEach [a, c] X.env = (false, eval a X.env) :: starEach [c] X.env) (hpl : (backTo pos (starEach [c] X.env)).any (·.1) = false) (he2 : starEach [c] X.env = (false, eval c X.env) :: starEach [] X.env) :
    SE X C (.Call (.Name "isinstance" p) [a, c] [] pos) (bnd ma fun x => bnd (lft (isaV t x)) fun r => ret (.bool r)) := by
  refine PE.imp (pe_callB (call_isX S t) hg hm rfl (pa_cons ha (pa_cons hc pa_nil he2) he) (by decide) (by decide) he hpl) ?_
  rintro σ H Q ⟨F, ρ, fps, z, ρ', R, h, k⟩
  obtain ⟨x, ρ1, h1, h2⟩ := bnd_some h
  obtain ⟨b, ρ2, h3, h4⟩ := bnd_some h2
  obtain ⟨g3, rfl⟩ := lft_some h3
  obtain ⟨rfl, rfl⟩ := ret_some h4
  exact ⟨F, ρ, fps, x, _, R, h1, fun v F1 H1 fps1 P1 rv => ⟨F1, v, x, b, rfl, P1.rel.sub, rv, g3, k _ _ _ _ P1 (.bl b)⟩⟩
end
end PL
set_option maxHeartbeats 1000000
/-! PLs11: a street's properties. -/
namespace PL
open PySem PySem.Spec PyProof.Rows L2
theorem RD.st_inv {K : PySem.W.Frag} {C : Gx} {F : Hp} {v : V} {d : Val} (h : RD K C F v (stV d)) : ∃ a dx v', v = .ref a ∧ F a = some (.ins C.cls dx [("all_told", v')]) ∧ RD K C F v' d := by
  generalize e : stV d = x at h
  cases h with
  | st e1 r => cases e; exact ⟨_, _, _, rfl, e1, r⟩
  | dK _ r =>
    cases e
    obtain ⟨k, _, _, _, e, _⟩ := r.cons_inv
    cases k <;> cases e
  | dT _ r =>
    cases e
    obtain ⟨k, _, _, _, _, _, e, _⟩ := r.cons_inv
    cases e
  | _ => cases e
theorem propV_some {k : Nat} {x z : Val} (h : propV k x = some z) : ∃ p t w, x = stV (.tuple [p, t, w]) ∧ ((k = 0 ∧ z = p) ∨ (k = 1 ∧ z = t) ∨ (k = 2 ∧ z = w) ∨ (k = 3 ∧ z = .tuple [p, t, w])) := by
  unfold propV at h
  split at h
  · rename_i p t w e
    have ex : x = stV (.tuple [p, t, w]) := by
      unfold partsOf at e
      split at e
      · cases e; rfl
      · cases e
    refine ⟨p, t, w, ex, ?_⟩
    split at h
    · exact .inl ⟨rfl, (Option.some.inj h).symm⟩
    · exact .inr (.inl ⟨rfl, (Option.some.inj h).symm⟩)
    · exact .inr (.inr (.inl ⟨rfl, (Option.some.inj h).symm⟩))
    · exact .inr (.inr (.inr ⟨rfl, (Option.some.inj h).symm⟩))
    · cases h
  · cases h
def propN : Nat → Str
  | 0 => "places" | 1 => "ties" | 2 => "want" | _ => "parts"
/-- a property's promise -/
def spProp (K : PySem.W.Frag) (C : Gx) (k : Nat) : Sp := fun vs H Q _ => ∃ F v x z, vs = [v] ∧ FSub F H ∧ RD K C F v x ∧ propV k x = some z ∧ ∀ w, RD K C F w z → Q w H
structure PropFn (P : Program) (w : World) (K : PySem.W.Frag) (mg : Str → Option Value) (base : Heap) (C : Gx) (k : Nat) : Prop where
  ex : ∃ p g fd ps, PropOf K C.cls (propN k) p g ∧ FnOk P w K mg base CX0 2 g fd ps (spProp K C k) ∧ Binds K fd ps []
section
variable {X : Cx} {C : Gx}
theorem snd_prop {k : Nat} {a : Expr} {pos : Pos} {ma : M Val} (c : Cls X.K C.cls) (hp : PropFn X.prog X.w X.K X.mg X.base C k) (hr : Room 3 X.A) (ha : SE X C a ma) (hab : attributeBase a (propN k) X.env (eval a X.env) = eval a X.env) :
    SE X C (.Attribute a (propN k) pos) (bnd ma fun x => lft (propV k x)) := by
  obtain ⟨p, g, fd, ps, h1, h2, h3⟩ := hp.ex
  refine PE.imp (pe_prop (dvs := []) (E := E0) ha c h1 h2 hr h3 .nil pass0 hab) ?_
  rintro σ H Q ⟨F, ρ, fps, z, ρ', R, h, kk⟩
  obtain ⟨x, ρ1, e1, e2⟩ := bnd_some h
  obtain ⟨e3, rfl⟩ := lft_some e2
  refine ⟨F, ρ, fps, x, _, R, e1, fun v F1 H1 fps1 P1 rv => ?_⟩
  obtain ⟨pp, t, w, rfl, _⟩ := propV_some e3
  obtain ⟨b, dx, v', rfl, eb, rb⟩ := rv.st_inv
  exact ⟨b, dx, _, rfl, P1.rel.sub _ _ eb, F1, _, _, z, rfl, P1.rel.sub, rv, e3, fun w rw' => kk _ _ _ _ P1 rw'⟩
end
section
variable {P : Program} {w : World} {K : PySem.W.Frag} {mg : Str → Option Value} {base : Heap} {C : Gx} {fa : Addr} {name qual : Str} {params : Arguments} {body : List Stmt} {scope : Scope} {dV kV doc pm cdv ct oc : Value} {an od : Option Addr} {osl : Array (Option Value)} {p1 p2 p3 p4 p5 : Pos}
theorem fn_prop3 (lk : K.lookup fa = some ⟨oc, od, .func (PySem.W.fnOf name qual params body scope dV kV doc pm an cdv ct), osl⟩) (hcd : PySem.W.codeIn K cdv qual = true) (S : FnScope ["self"] ["self"] scope)
    (hb : body = [.Return (some (.Attribute (.Name "self" p1) "all_told" p2)) p3]) (c : Cls K C.cls) (n : NoAttr K C.cls "all_told") : FnOk P w K mg base CX0 2 fa (PySem.W.fnOf name qual params body scope dV kV doc pm an cdv ct) ["self"] (spProp K C 3) := by
  refine (fn_getter lk hcd S rfl hb c n).imp fun vs H Q E h => ?_
  obtain ⟨F, v, x, z, rfl, sub, rd, e, q⟩ := h
  obtain ⟨p, t, w, rfl, hz⟩ := propV_some e
  rcases hz with ⟨z, _⟩ | ⟨z, _⟩ | ⟨z, _⟩ | ⟨_, rfl⟩
  · cases z
  · cases z
  · cases z
  obtain ⟨b, dx, v', rfl, eb, rb⟩ := rd.st_inv
  exact ⟨b, dx, _, v', rfl, sub _ _ eb, rfl, q _ rb⟩
theorem fn_prop {k j : Nat} (hk : k < 3) (lk : K.lookup fa = some ⟨oc, od, .func (PySem.W.fnOf name qual params body scope dV kV doc pm an cdv ct), osl⟩) (hcd : PySem.W.codeIn K cdv qual = true) (S : FnScope ["self"] ["self"] scope)
    (hb : body = [.Return (some (.Subscript (.Attribute (.Name "self" p1) "all_told" p2) (.Constant (.int k) j p3) p4)) p5]) (c : Cls K C.cls) (n : NoAttr K C.cls "all_told") : FnOk P w K mg base CX0 2 fa (PySem.W.fnOf name qual params body scope dV kV doc pm an cdv ct) ["self"] (spProp K C k) := by
  refine fn_of lk hcd S (fun vs H Q E h => ?_) (fun A outer s H vs Q E hr h => ?_)
  · obtain ⟨F, v, x, z, rfl, _⟩ := h
    rfl
  · obtain ⟨F, v, x, z, rfl, sub, rd, e, q⟩ := h
    obtain ⟨p, t, w, rfl, hz⟩ := propV_some e
    obtain ⟨b, dx, v', rfl, eb, rb⟩ := rd.st_inv
    obtain ⟨ta, vs, rfl, et, rt⟩ := rb.tup_inv
    subst hb
    refine ⟨_, pss_one (ps_ret (pe_ix ix_seq (pe_fld (pe_var (i := 0) rfl ((S.par "self" (List.Mem.head _)).elim (fun z => .inl z) (fun z => .inr (.inl z)))) rfl) pe_int (plainIx_of rfl))), ?_⟩
    refine ⟨.ref b, rfl, b, C.cls, dx, _, _, rfl, sub _ _ eb, c, n, rfl, ?_⟩
    obtain ⟨u, hu, ru⟩ : ∃ u, atI vs (k : Int) = some u ∧ RD K C F u z := by
      refine atI_RDs rt ?_
      rcases hz with ⟨rfl, rfl⟩ | ⟨rfl, rfl⟩ | ⟨rfl, rfl⟩ | ⟨rfl, rfl⟩
      · rfl
      · rfl
      · rfl
      · exact absurd hk (by decide)
    exact .inr (.inl ⟨ta, vs, _, u, rfl, rfl, SqT.sub sub et, hu, q u ru⟩)
end
end PL
set_option maxHeartbeats 1000000
/-! PLz: dict(zip(t, u)) of two tuples. -/
namespace PL
open PySem PySem.Spec PyProof.Rows
section
variable {prog : Program} {w : World} {A : Around} {E : Value → Shared → Prop} {s : Shared}
theorem zipT_item_held {z TI TO T i1 i2 l1 l2 : Addr} {f : Bool} {oT : Obj} {k1 k2 : Nat} {xs ys : Array Value} {x y : Value} {Q : Option Value → Shared → Prop} (D : ZipApart z TI TO i1 i2 l1 l2)
    (hz : IsZipHeld s.heap z TI TO T f) (hT : s.heap.get? T = some oT) (hTI : IsPair s.heap TI (.ref i1) (.ref i2)) (h1 : s.heap.IsTupleIter i1 l1 k1) (h2 : s.heap.IsTupleIter i2 l2 k2) (hl1 : s.heap.IsTuple l1 xs) (hl2 : s.heap.IsTuple l2 ys) (hx : xs[k1]? = some x) (hy : ys[k2]? = some y)
    (hQ : ∀ h', IsZipHeld h' z TI TO T true → h'.IsTupleIter i1 l1 (k1 + 1) → h'.IsTupleIter i2 l2 (k2 + 1) → IsPair h' s.heap.objs.size x y → h'.objs.size = s.heap.objs.size + 1 → (∀ c o, c ≠ z → c ≠ i1 → c ≠ i2 → s.heap.get? c = some o → h'.get? c = some o) → Q (some (.ref s.heap.objs.size)) { s with heap := h' }) :
    wpAny (model prog w) A (pyNext (.ref z)) Q E s := by
  have hTy : s.TypeIs (.ref z) "zip" := ⟨_, hz, rfl⟩
  unfold pyNext
  refine wpAny_bind (wpAny_attempt (wpAny_callSpecial?_slot (name := Str.ofString "__next__") hTy F.slot_zip_next (wpAny_call_entry F.slot_zip_next hTy F.entry_zip_next ?_ (F.args_zip_next_1 _))))
  show wpAny _ _ (field (.ref z) 2 >>= _) _ _ _; refine wpAny_bind (wpAny_field hz rfl (x := .bool false) rfl ?_)
  show wpAny _ _ (field (.ref z) 3 >>= _) _ _ _; refine wpAny_bind (wpAny_field hz rfl (x := .ref TI) rfl ?_)
  refine wpAny_bind (wpAny_seqItems hTI rfl ?_); show wpAny _ _ (Builtin.SmallTypes.ownedTupleIsFree (.ref z) >>= _) _ _ _
  refine wpAny_bind (wpAny_tupleHeld_zip hz hT fun ha za sa => ?_); simp only [Bool.false_eq_true, if_false]; refine wpAny_bind ?_
  rw [← Array.forIn_toList]; simp only [List.forIn_cons, List.forIn_nil]; refine wpAny_bind (wpAny_bind (wpAny_holding ?_))
  show wpAny _ _ (Builtin.SmallTypes.nextOf (.ref i1) >>= _) _ _ _
  refine wpAny_bind (RZ.nextOf_tuple_item (s := { s with heap := ha }) (h1.extBut sa.extBut D.i1z) (hl1.extBut sa.extBut D.l1z) hx fun hb qb sb => wpAny_pure ?_)
  refine wpAny_pure ?_; refine wpAny_bind (wpAny_bind (wpAny_holding ?_)); show wpAny _ _ (Builtin.SmallTypes.nextOf (.ref i2) >>= _) _ _ _
  refine wpAny_bind (RZ.nextOf_tuple_item (s := { s with heap := hb }) ((h2.extBut sa.extBut D.i2z).extBut sb.extBut D.i12.symm) ((hl2.extBut sa.extBut D.l2z).extBut sb.extBut D.l2i1) hy fun hc qc sc => wpAny_pure ?_)
  refine wpAny_pure (wpAny_pure ?_); show wpAny _ _ (newTuple [x, y] >>= _) _ _ _; refine wpAny_bind (wpAny_newTuple ?_)
  have hsz : hc.objs.size = s.heap.objs.size := by rw [sc.1, sb.1, sa.1]
  have zc : IsZipHeld hc z TI TO T true := sc.extBut _ _ D.i2z.symm (sb.extBut _ _ D.i1z.symm za)
  have hk : ∀ c o, c ≠ z → c ≠ i1 → c ≠ i2 → s.heap.get? c = some o → hc.get? c = some o := fun c o n1 n2 n3 e => sc.extBut _ _ n3 (sb.extBut _ _ n2 (sa.extBut _ _ n1 e))
  have q1 : hc.IsTupleIter i1 l1 (k1 + 1) := qb.extBut sc.extBut D.i12
  refine wpAny_pure ⟨_, rfl, wpAny_pure ?_⟩; show Q (some (.ref hc.objs.size)) _
  have hp : IsPair (hc.push { cls := .type "tuple", data := .seq #[x, y] }) hc.objs.size x y := Heap.get?_push_size _ rfl
  have hz4 : (hc.push { cls := .type "tuple", data := .seq #[x, y] }).objs.size = hc.objs.size + 1 := Heap.size_push ..
  rw [hsz] at hp hz4 ⊢
  exact hQ _ (Heap.get?_push_of_some _ zc) (q1.at fun o e => Heap.get?_push_of_some _ e) (qc.at fun o e => Heap.get?_push_of_some _ e) hp hz4 fun c o n1 n2 n3 e => Heap.get?_push_of_some _ (hk c o n1 n2 n3 e)
theorem zipT_end0 {z TI TO T i1 i2 l1 l2 : Addr} {f : Bool} {oT : Obj} {k1 k2 : Nat} {xs ys : Array Value} {Q : Fin → Shared → Prop} (hh : A.handled = none) (D : ZipApart z TI TO i1 i2 l1 l2)
    (hz : IsZipHeld s.heap z TI TO T f) (hT : s.heap.get? T = some oT) (hTI : IsPair s.heap TI (.ref i1) (.ref i2)) (h1 : s.heap.IsTupleIter i1 l1 k1) (h2 : s.heap.IsTupleIter i2 l2 k2) (hl1 : s.heap.IsTuple l1 xs) (hl2 : s.heap.IsTuple l2 ys) (hend : xs[k1]? = none ∨ ys[k2]? = none)
    (fin : ∀ h' e, (∀ c o, c ≠ z → c ≠ i1 → c ≠ i2 → s.heap.get? c = some o → h'.get? c = some o) → (∃ o, h'.get? e = some o ∧ o.cls = .type "StopIteration") → E (.ref e) { s with heap := h' }) : wpAny (model prog w) A (Builtin.«zip.__next__» ⟨[.ref z], []⟩) Q E s := by
  show wpAny _ _ (field (.ref z) 2 >>= _) _ _ _; refine wpAny_bind (wpAny_field hz rfl (x := .bool false) rfl ?_)
  show wpAny _ _ (field (.ref z) 3 >>= _) _ _ _; refine wpAny_bind (wpAny_field hz rfl (x := .ref TI) rfl ?_)
  refine wpAny_bind (wpAny_seqItems hTI rfl ?_); show wpAny _ _ (Builtin.SmallTypes.ownedTupleIsFree (.ref z) >>= _) _ _ _
  refine wpAny_bind (wpAny_tupleHeld_zip hz hT fun ha za sa => ?_); simp only [Bool.false_eq_true, if_false]; refine wpAny_bind ?_
  rw [← Array.forIn_toList]; simp only [List.forIn_cons, List.forIn_nil]; refine wpAny_bind (wpAny_bind (wpAny_holding ?_))
  show wpAny _ _ (Builtin.SmallTypes.nextOf (.ref i1) >>= _) _ _ _
  cases hx : xs[k1]? with
  | none =>
    refine wpAny_bind (RZ.nextOf_tuple_end (s := { s with heap := ha }) hh (h1.extBut sa.extBut D.i1z) (hl1.extBut sa.extBut D.l1z) hx fun hb e sb he => ?_)
    exact fin hb e (fun c o n1 n2 _ x => sb _ _ n2 (sa.extBut _ _ n1 x)) he
  | some x =>
    have hy : ys[k2]? = none := by
      rcases hend with h | h
      · rw [hx] at h; cases h
      · exact h
    refine wpAny_bind (RZ.nextOf_tuple_item (s := { s with heap := ha }) (h1.extBut sa.extBut D.i1z) (hl1.extBut sa.extBut D.l1z) hx fun hb qb sb => wpAny_pure ?_)
    refine wpAny_pure ?_; refine wpAny_bind (wpAny_bind (wpAny_holding ?_)); show wpAny _ _ (Builtin.SmallTypes.nextOf (.ref i2) >>= _) _ _ _
    refine wpAny_bind (RZ.nextOf_tuple_end (s := { s with heap := hb }) hh ((h2.extBut sa.extBut D.i2z).extBut sb.extBut D.i12.symm) ((hl2.extBut sa.extBut D.l2z).extBut sb.extBut D.l2i1) hy fun hc e sc he => ?_)
    exact fin hc e (fun c o n1 n2 n3 x => sc _ _ n3 (sb.extBut _ _ n2 (sa.extBut _ _ n1 x))) he
theorem zipT_end_held {z TI TO T i1 i2 l1 l2 : Addr} {f : Bool} {oT : Obj} {k1 k2 : Nat} {xs ys : Array Value} {Q : Option Value → Shared → Prop} (hh : A.handled = none) (D : ZipApart z TI TO i1 i2 l1 l2)
    (hz : IsZipHeld s.heap z TI TO T f) (hT : s.heap.get? T = some oT) (hTI : IsPair s.heap TI (.ref i1) (.ref i2)) (h1 : s.heap.IsTupleIter i1 l1 k1) (h2 : s.heap.IsTupleIter i2 l2 k2) (hl1 : s.heap.IsTuple l1 xs) (hl2 : s.heap.IsTuple l2 ys) (hend : xs[k1]? = none ∨ ys[k2]? = none)
    (hQ : ∀ h', (∀ c o, c ≠ z → c ≠ i1 → c ≠ i2 → s.heap.get? c = some o → h'.get? c = some o) → Q none { s with heap := h' }) : wpAny (model prog w) A (pyNext (.ref z)) Q E s := by
  have hTy : s.TypeIs (.ref z) "zip" := ⟨_, hz, rfl⟩
  unfold pyNext
  refine wpAny_bind (wpAny_attempt (wpAny_callSpecial?_slot (name := Str.ofString "__next__") hTy F.slot_zip_next (wpAny_call_entry F.slot_zip_next hTy F.entry_zip_next (zipT_end0 hh D hz hT hTI h1 h2 hl1 hl2 hend fun h' e hk he => ?_) (F.args_zip_next_1 _))))
  obtain ⟨o, ho, hc⟩ := he
  exact wpAny_bind (wpAny_isInstance (T := "StopIteration") (b := true) ⟨o, ho, hc⟩ isSubtype_stop (wpAny_pure (hQ _ hk)))
end
/-- zip(t, u) over two tuples, as what dict() takes -/
theorem zipT_arg {prog : Program} {w : World} (z TI TO i1 i2 l1 l2 : Addr) (D : ZipApart z TI TO i1 i2 l1 l2) (xs ys : Array Value) :
    PairArg prog w "zip" z [z, TI, TO, i1, i2, l1, l2] [z, TO, i1, i2] (min xs.size ys.size) (fun i k v => xs[i]? = some k ∧ ys[i]? = some v)
      (fun h => IsZip h z TI TO .none ∧ IsPair h TI (.ref i1) (.ref i2) ∧ (∃ a b, IsPair h TO a b) ∧ h.IsTupleIter i1 l1 0 ∧ h.IsTupleIter i2 l2 0 ∧ h.IsTuple l1 xs ∧ h.IsTuple l2 ys) where
  type := fun s ok => ⟨_, ok.1, rfl⟩
  notDict := by decide
  keep := fun h h' ⟨hz, hTI, ⟨a, b, hTO⟩, h1, h2, hl1, hl2⟩ hk => ⟨hk _ _ hz, hk _ _ hTI, ⟨a, b, hk _ _ hTO⟩, h1.at fun o e => hk _ o e, h2.at fun o e => hk _ o e, hl1.at fun o e => hk _ o e, hl2.at fun o e => hk _ o e⟩
  there := fun h ⟨hz, hTI, ⟨a, b, hTO⟩, ⟨o1, e1, _⟩, ⟨o2, e2, _⟩, ⟨o3, e3, _⟩, ⟨o4, e4, _⟩⟩ c hc => by
    simp only [List.mem_cons, List.not_mem_nil, or_false] at hc
    rcases hc with rfl | rfl | rfl | rfl | rfl | rfl | rfl
    all_goals first | exact ⟨_, hz⟩ | exact ⟨_, hTI⟩ | exact ⟨_, hTO⟩ | exact ⟨_, e1⟩ | exact ⟨_, e2⟩ | exact ⟨_, e3⟩ | exact ⟨_, e4⟩
  sub := fun b hb => by
    simp only [List.mem_cons, List.not_mem_nil, or_false] at hb ⊢
    rcases hb with rfl | rfl | rfl | rfl <;> simp
  noKeys := fun A s Q E hA ok h => getAttrOr_miss_zip ok.1 rfl rfl rfl zip_no_keys (by decide +kernel) hA h
  iter := fun A s d Q E hA ok hd hdf h => by
    obtain ⟨hz, hTI, ⟨a, b, hTO⟩, h1, h2, hl1, hl2⟩ := ok
    simp only [List.mem_cons, List.not_mem_nil, or_false, not_or] at hdf
    obtain ⟨dz, dTI, dTO, di1, di2, dl1, dl2⟩ := hdf
    refine wpAny_pyIter_zip hz (h z [z, TO, i1, i2] (fun i h => IsPair h TI (.ref i1) (.ref i2) ∧ h.IsTupleIter i1 l1 i ∧ h.IsTupleIter i2 l2 i ∧ h.IsTuple l1 xs ∧ h.IsTuple l2 ys ∧
      ((IsZip h z TI TO .none ∧ ∃ a b, IsPair h TO a b) ∨ ∃ T f oT, IsZipHeld h z TI TO T f ∧ h.get? T = some oT ∧ T ≠ z ∧ T ≠ i1 ∧ T ≠ i2 ∧ T ≠ d)) s.heap s.toks ?_ ⟨hTI, h1, h2, hl1, hl2, .inl ⟨hz, a, b, hTO⟩⟩ (fun _ _ e => e) fun b hb => .inl hb)
    refine ⟨fun hm => ?_, fun i ha hb st hk => ?_, fun i s1 Q1 E1 hi st hds hQ => ?_, fun s1 Q1 E1 st hQ => ?_⟩
    · simp only [List.mem_cons, List.not_mem_nil, or_false] at hm
      rcases hm with e | e | e | e
      · exact dz e
      · exact dTO e
      · exact di1 e
      · exact di2 e
    · obtain ⟨gTI, g1, g2, gl1, gl2, gz⟩ := st
      refine ⟨hk _ _ (Ne.symm dTI) gTI, g1.at fun o e => hk _ o (Ne.symm di1) e, g2.at fun o e => hk _ o (Ne.symm di2) e, gl1.at fun o e => hk _ o (Ne.symm dl1) e, gl2.at fun o e => hk _ o (Ne.symm dl2) e, ?_⟩
      rcases gz with ⟨gz, a, b, gTO⟩ | ⟨T, f, oT, gz, gT, r1, r2, r3, r4⟩
      · exact .inl ⟨hk _ _ (Ne.symm dz) gz, a, b, hk _ _ (Ne.symm dTO) gTO⟩
      · exact .inr ⟨T, f, oT, hk _ _ (Ne.symm dz) gz, hk _ _ r4 gT, r1, r2, r3, r4⟩
    · obtain ⟨gTI, g1, g2, gl1, gl2, gz⟩ := st
      have ex := Array.getElem?_eq_getElem (xs := xs) (i := i) (Nat.lt_of_lt_of_le hi (Nat.min_le_left ..))
      have ey := Array.getElem?_eq_getElem (xs := ys) (i := i) (Nat.lt_of_lt_of_le hi (Nat.min_le_right ..))
      have lt : ∀ {c o}, s1.heap.get? c = some o → s1.heap.objs.size ≠ c := fun e => Nat.ne_of_gt (Heap.lt_size e)
      have n1 : s1.heap.objs.size ≠ i1 := let ⟨_, e, _⟩ := g1; lt e
      have n2 : s1.heap.objs.size ≠ i2 := let ⟨_, e, _⟩ := g2; lt e
      rcases gz with ⟨gz, a, b, gTO⟩ | ⟨T, f, oT, gz, gT, r1, r2, r3, r4⟩
      · refine RZ.pyNext_zipT_item D gz gTI gTO g1 g2 gl1 gl2 ex ey fun h' a1 a2 a3 a4 a5 a6 hk => ?_
        refine hQ s1.heap.objs.size _ _ h' s1.toks ⟨ex, ey⟩ (.inl ⟨_, a5, rfl, _, rfl⟩) ⟨hk _ _ D.TIz D.TITO D.TIi1 D.TIi2 gTI, a3, a4, gl1.at fun o e => hk _ o D.l1z D.l1TO D.l1i1 D.l1i2 e, gl2.at fun o e => hk _ o D.l2z D.l2TO D.l2i1 D.l2i2 e, .inr ⟨s1.heap.objs.size, false, _, a1, a5, lt gz, n1, n2, Nat.ne_of_gt hds⟩⟩ ?_
        exact fun c o hc e => hk c o (fun x => hc (by simp [x])) (fun x => hc (by simp [x])) (fun x => hc (by simp [x])) (fun x => hc (by simp [x])) e
      · refine zipT_item_held D gz gT gTI g1 g2 gl1 gl2 ex ey fun h' a1 a3 a4 a5 a6 hk => ?_
        refine hQ s1.heap.objs.size _ _ h' s1.toks ⟨ex, ey⟩ (.inl ⟨_, a5, rfl, _, rfl⟩) ⟨hk _ _ D.TIz D.TIi1 D.TIi2 gTI, a3, a4, gl1.at fun o e => hk _ o D.l1z D.l1i1 D.l1i2 e, gl2.at fun o e => hk _ o D.l2z D.l2i1 D.l2i2 e, .inr ⟨T, true, oT, a1, hk _ _ r1 r2 r3 gT, r1, r2, r3, r4⟩⟩ ?_
        exact fun c o hc e => hk c o (fun x => hc (by simp [x])) (fun x => hc (by simp [x])) (fun x => hc (by simp [x])) e
    · obtain ⟨gTI, g1, g2, gl1, gl2, gz⟩ := st
      have hend : xs[min xs.size ys.size]? = none ∨ ys[min xs.size ys.size]? = none := by
        rcases Nat.le_total xs.size ys.size with h | h
        · left; exact Array.getElem?_eq_none (by rw [Nat.min_eq_left h]; exact Nat.le_refl _)
        · right; exact Array.getElem?_eq_none (by rw [Nat.min_eq_right h]; exact Nat.le_refl _)
      rcases gz with ⟨gz, a, b, gTO⟩ | ⟨T, f, oT, gz, gT, r1, r2, r3, r4⟩
      · exact RZ.pyNext_zipT_end hA D gz gTI gTO g1 g2 gl1 gl2 hend fun h' hk => hQ h' s1.toks fun c o hc e => hk c o (fun x => hc (by simp [x])) (fun x => hc (by simp [x])) (fun x => hc (by simp [x])) (fun x => hc (by simp [x])) e
      · exact zipT_end_held hA D gz gT gTI g1 g2 gl1 gl2 hend fun h' hk => hQ h' s1.toks fun c o hc e => hk c o (fun x => hc (by simp [x])) (fun x => hc (by simp [x])) (fun x => hc (by simp [x])) e
end PL
set_option maxHeartbeats 1000000
/-! PLs12: objects that are written; tables. -/
namespace PL
open PySem PySem.Spec PyProof.Rows L2
theorem mem_ne {a b : Addr} {l : List Addr} (ha : a ∈ l) (hb : b ∉ l) : a ≠ b := fun z => hb (z ▸ ha)
/-- no table, no code object -/
structure Pl (o : HO) : Prop where
  t : ∀ ps, o ≠ .tbl ps
  c : ∀ c q, o ≠ LamX.CodeO c q
theorem pl_lst (xs : List V) : Pl (.lst xs) := ⟨fun _ z => (by cases z), fun c q z => (by unfold LamX.CodeO at z; cases z)⟩
theorem pl_dK (xs : List (Key × V)) : Pl (.dK xs) := ⟨fun _ z => (by cases z), fun c q z => (by unfold LamX.CodeO at z; cases z)⟩
theorem pl_dX (P : Program) (w : World) (a : Addr) (kas : List (List Key × Addr × V)) : Pl (DX P w a kas) := by
  refine ⟨fun _ z => (by unfold DX at z; cases z), fun c q z => ?_⟩
  unfold DX LamX.CodeO at z
  injection z with z
  let ob : Obj := { cls := .none, data := .fields #[.none, .str q 0] }
  let h : Heap := { objs := Array.replicate (c + a + 1) ob }
  have hg : ∀ b, b < c + a + 1 → h.get? b = some ob := fun b hb => by
    simp [Heap.get?, h, hb, ob]
  have e := congrFun z h
  have r : ∃ (oc : Obj) (vs : Array Value) (t : Tok), h.get? c = some oc ∧ oc.data = .fields vs ∧ vs[1]? = some (.str q t) := ⟨ob, _, 0, hg c (Nat.lt_succ_of_le (Nat.le_add_right c a)), rfl, rfl⟩
  rw [← e] at r
  obtain ⟨_, _, xs, _, o, es, ep, h1, _, h3, _⟩ := r
  rw [hg a (Nat.lt_succ_of_le (Nat.le_add_left a c))] at h1
  cases h1
  cases h3
section
variable {K : PySem.W.Frag} {C : Gx} {F F' F3 H H' H3 : Hp} {ρ ρ' : PL.Env} {σ σ' : L2.St} {fps fps3 : Fps} {D : Addr} {o o0 : HO}
theorem tab_poke {T : List (Addr × Str)} (p0 : Pl o0) (e : H D = some o0) (t : ∀ q ∈ T, TabF F H q.1 q.2 ∧ F q.1 = none) : ∀ q ∈ T, TabF F (upd H D o) q.1 q.2 ∧ F q.1 = none := fun q hq =>
  ⟨(t q hq).1.mono (FSub.refl _) fun ps h1 => by
    rw [upd_ne fun z => ?_]
    · exact h1
    · rw [z, e] at h1; exact p0.t _ (Option.some.inj h1), (t q hq).2⟩
theorem tab_no {T : List (Addr × Str)} (p0 : Pl o0) (e : H D = some o0) (t : ∀ q ∈ T, TabF F H q.1 q.2 ∧ F q.1 = none) : ∀ q ∈ T, q.1 ≠ D := fun q hq z => by
  obtain ⟨⟨ps, h1, _⟩, _⟩ := t q hq
  rw [z, e] at h1; exact p0.t _ (Option.some.inj h1)
/-- an object that nobody owns is written -/
theorem Rel.poke (R : Rel K C F H ρ σ fps) (p0 : Pl o0) (e : H D = some o0) (fD : F D = none) (oD : ∀ i, D ∉ fps i) : Rel K C F (upd H D o) ρ σ fps where
  sub := R.sub.upd_right fD
  len := R.len
  at_ := fun i => (R.at_ i).grow (FSub.refl _) (fun a ha => ((R.at_ i).free a ha).1) fun a ha x g => by
    rw [upd_ne (mem_ne ha (oD i))]; exact g
  dis := R.dis
  tab := tab_poke p0 e R.tab
/-- .. and frozen -/
theorem Rel.seal (R : Rel K C F H ρ σ fps) (p0 : Pl o0) (e : H D = some o0) (fD : F D = none) (oD : ∀ i, D ∉ fps i) : Rel K C (upd F D o) (upd H D o) ρ σ fps where
  sub := FSub.upd_both R.sub
  len := R.len
  at_ := fun i => (R.at_ i).grow (FSub.upd_new fD) (fun a ha => by rw [upd_ne (mem_ne ha (oD i))]; exact ((R.at_ i).free a ha).1) fun a ha x g => by
    rw [upd_ne (mem_ne ha (oD i))]; exact g
  dis := R.dis
  tab := fun q hq => ⟨(tab_poke p0 e R.tab q hq).1.mono (FSub.upd_new fD) fun _ e => e, by rw [upd_ne (tab_no p0 e R.tab q hq)]; exact (R.tab q hq).2⟩
theorem Post.poke (P : Post K C F H fps ρ' σ' F3 H3 fps3) (hD : H D = none) (p0 : Pl o0) (e : H3 D = some o0) (fD : F3 D = none) (oD : ∀ i, D ∉ fps3 i) : Post K C F H fps ρ' σ' F3 (upd H3 D o) fps3 where
  rel := P.rel.poke p0 e fD oD
  ext := P.ext
  keep := fun a u h n t => by rw [upd_ne (ne_of_none h hD)]; exact P.keep a u h n t
  tbs := P.tbs.off hD
  new := P.new
  own := P.own
theorem Post.seal (P : Post K C F H fps ρ' σ' F3 H3 fps3) (hD : H D = none) (p0 : Pl o0) (e : H3 D = some o0) (fD : F3 D = none) (oD : ∀ i, D ∉ fps3 i) : Post K C F H fps ρ' σ' (upd F3 D o) (upd H3 D o) fps3 where
  rel := P.rel.seal p0 e fD oD
  ext := P.ext.trans (FSub.upd_new fD)
  keep := fun a u h n t => by rw [upd_ne (ne_of_none h hD)]; exact P.keep a u h n t
  tbs := P.tbs.off hD
  new := fun a u h => by
    by_cases hb : a = D
    · rw [hb]; exact .inr (.inl hD)
    · rw [upd_ne hb] at h; exact P.new a u h
  own := P.own
/-- a new object stands beside all that is frozen and owned, whatever comes -/
theorem Post.beside (R : Rel K C F H ρ σ fps) (hD : H D = none) (P : Post K C F (upd H D o) fps ρ' σ' F3 H3 fps3) (p0 : Pl o) : H3 D = some o ∧ F3 D = none ∧ (∀ i, D ∉ fps3 i) ∧ Post K C F H fps ρ' σ' F3 H3 fps3 := by
  have nf : ∀ i, D ∉ fps i := fun i hi => by
    obtain ⟨_, x, g⟩ := (R.at_ i).free D hi
    rw [hD] at g; cases g
  have no : ∀ i, D ∉ fps3 i := fun i hi => by
    rcases P.own i D hi with ⟨j, hj⟩ | hn
    · exact nf j hj
    · rw [upd_same] at hn; cases hn
  refine ⟨P.keep D o upd_same nf p0.t, ?_, no, P.rel, P.ext, fun a u h n t => P.keep a u (by rw [upd_ne (ne_of_none h hD)]; exact h) n t, P.tbs.back hD, fun a u h => ?_, fun i a h => ?_⟩
  · cases z : F3 D with
    | none => rfl
    | some u =>
      rcases P.new D u z with q | q | ⟨i, q⟩
      · rw [R.sub.none hD] at q; cases q
      · rw [upd_same] at q; cases q
      · exact (nf i q).elim
  · rcases P.new a u h with q | q | q
    · exact .inl q
    · refine .inr (.inl ?_)
      unfold upd at q
      split at q
      · cases q
      · exact q
    · exact .inr (.inr q)
  · rcases P.own i a h with q | q
    · exact .inl q
    · refine .inr ?_
      unfold upd at q
      split at q
      · cases q
      · exact q
/-- an owned object is written: it stays its slot's -/
theorem Post.wr {i : Nat} {s : Slot} {p : Addr} (R : Rel K C F H ρ σ fps) (hi : i < ρ.length) (hp : p ∈ fps i) (p0 : Pl o0) (e : H p = some o0) (tb : ∀ ps, o ≠ .tbl ps) (h : SlotAt K C F (upd H p o) σ[i]? s (fps i)) : Post K C F H fps (ss ρ i s) σ F (upd H p o) fps where
  rel := by
    have fp : F p = none := ((R.at_ i).free p hp).1
    refine ⟨R.sub.upd_right fp, by rw [ss_length]; exact R.len, fun j => ?_, R.dis, tab_poke p0 e R.tab⟩
    by_cases hj : j = i
    · subst hj; rw [gs_ss_same hi]; exact h
    · rw [gs_ss_ne hj]
      exact (R.at_ j).grow (FSub.refl _) (fun a ha => ((R.at_ j).free a ha).1) fun a ha x g => by
        rw [upd_ne (mem_ne ha fun z => hj (R.dis j i p z hp))]; exact g
  ext := FSub.refl _
  keep := fun a u h n t => by rw [upd_ne (fun z => n i (by rw [z]; exact hp))]; exact h
  tbs := Tbs.wr p0.t e
  new := fun a u h => .inl h
  own := fun i a h => .inl ⟨i, h⟩
/-! ### tables and their writing -/
theorem dhas_cons (p : Val × Val) (r : List (Val × Val)) (x : Val) : dhas (p :: r) x = (PyData.eqv p.1 x || dhas r x) := rfl
theorem RKs.any (k : Key) : ∀ {vs : List (Key × V)} {kvs : List (Val × Val)}, RKs K C F vs kvs → (vs.any fun kv => decide (kv.1 = k)) = dhas kvs (keyD k)
  | _, _, .nil => rfl
  | _, _, .cons (k := j) r t => by rw [List.any_cons, RKs.any k t, dhas_cons, eqv_key]
theorem RKs.repl {v : V} {d : Val} (rv : RD K C F v d) (k : Key) : ∀ {vs : List (Key × V)} {kvs : List (Val × Val)}, RKs K C F vs kvs → RKs K C F (vs.map fun kv => if kv.1 = k then (kv.1, v) else kv) (kvs.map fun kv => if PyData.eqv kv.1 (keyD k) then (kv.1, d) else kv)
  | _, _, .nil => .nil
  | _, _, .cons (k := j) r t => by
    rw [List.map_cons, List.map_cons]
    simp only [eqv_key, decide_eq_true_eq]
    by_cases h : j = k
    · rw [if_pos h, if_pos h]; exact .cons rv (RKs.repl rv k t)
    · rw [if_neg h, if_neg h]; exact .cons r (RKs.repl rv k t)
theorem RKs.app : ∀ {vs ws : List (Key × V)} {kvs es : List (Val × Val)}, RKs K C F vs kvs → RKs K C F ws es → RKs K C F (vs ++ ws) (kvs ++ es)
  | _, _, _, _, .nil, s => s
  | _, _, _, _, .cons r t, s => .cons r (RKs.app t s)
theorem RKs.put {v : V} {d : Val} (rv : RD K C F v d) (k : Key) {vs : List (Key × V)} {kvs : List (Val × Val)} (r : RKs K C F vs kvs) : RKs K C F (putK vs k v) (dput kvs (keyD k) d) := by
  unfold putK dput
  rw [r.any k]
  split
  · exact r.repl rv k
  · exact r.app (.cons rv .nil)
theorem RKs.merge : ∀ {more : List (Key × V)} {es : List (Val × Val)} {vs : List (Key × V)} {kvs : List (Val × Val)}, RKs K C F more es → RKs K C F vs kvs → RKs K C F (mergeK vs more) (dputs kvs es)
  | _, _, _, _, .nil, s => s
  | _, _, _, _, .cons (k := k) r t, s => by
    have := RKs.merge t (s.put r k)
    exact this
theorem RTs.any (k : List Key) : ∀ {vs : List (List Key × Addr × V)} {kvs : List (Val × Val)}, RTs K C F vs kvs → (vs.any fun kv => decide (kv.1 = k)) = dhas kvs (.tuple (k.map keyD))
  | _, _, .nil => rfl
  | _, _, .cons (k := j) _ _ r t => by rw [List.any_cons, RTs.any k t, dhas_cons]; simp only [PyData.eqv, eqv_keys]
theorem RTs.repl {v : V} {d : Val} (rv : RD K C F v d) (k : List Key) : ∀ {vs : List (List Key × Addr × V)} {kvs : List (Val × Val)}, RTs K C F vs kvs → RTs K C F (vs.map fun e => if e.1 = k then (e.1, e.2.1, v) else e) (kvs.map fun kv => if PyData.eqv kv.1 (.tuple (k.map keyD)) then (kv.1, d) else kv)
  | _, _, .nil => .nil
  | _, _, .cons (k := j) e hd r t => by
    rw [List.map_cons, List.map_cons]
    simp only [PyData.eqv, eqv_keys, decide_eq_true_eq]
    by_cases h : j = k
    · rw [if_pos h, if_pos h]; exact .cons e hd rv (RTs.repl rv k t)
    · rw [if_neg h, if_neg h]; exact .cons e hd r (RTs.repl rv k t)
theorem RTs.app : ∀ {vs ws : List (List Key × Addr × V)} {kvs es : List (Val × Val)}, RTs K C F vs kvs → RTs K C F ws es → RTs K C F (vs ++ ws) (kvs ++ es)
  | _, _, _, _, .nil, s => s
  | _, _, _, _, .cons e d r t, s => .cons e d r (RTs.app t s)
theorem RTs.put {v : V} {d : Val} {b : Addr} {ob : Obj} (rv : RD K C F v d) (k : List Key) (eb : F b = some (.frz ob (.tup (k.map kV)))) (hd : ob.dict = none) {vs : List (List Key × Addr × V)} {kvs : List (Val × Val)} (r : RTs K C F vs kvs) : RTs K C F (putX vs k b v) (dput kvs (.tuple (k.map keyD)) d) := by
  unfold putX dput
  rw [r.any k]
  split
  · exact r.repl rv k
  · exact r.app (.cons eb hd rv .nil)
end
end PL
set_option maxHeartbeats 1000000
/-! PLs13: dicts made: displays, of pairs, of a zip. -/
namespace PL
open PySem PySem.Spec PyProof.Rows L2
/-! ### pairs -/
theorem pairsOf_cons {x : Val} {r : List Val} {kvs : List (Val × Val)} (h : pairsOf (x :: r) = some kvs) : ∃ a b k2, x = .tuple [a, b] ∧ pairsOf r = some k2 ∧ kvs = (a, b) :: k2 := by
  unfold pairsOf at h
  split at h
  · cases ‹_ :: _ = []›
  · rename_i a b r' e
    cases e
    obtain ⟨k2, h1, rfl⟩ := Option.map_eq_some_iff.mp h
    exact ⟨a, b, k2, rfl, h1, rfl⟩
  · cases h
section
variable {X : Cx} {C : Gx}
/-- pairs of expressions, from the left -/
def tPr (K : PySem.W.Frag) (C : Gx) (m : M (List Val)) (σ : L2.St) (H : Hp) (Q : List (V × V) → Hp → Prop) : Prop := ∃ F ρ fps xs ρ', Rel K C F H ρ σ fps ∧ m ρ = some (xs, ρ') ∧
  ∀ ps F' H' fps', Post K C F H fps ρ' σ F' H' fps' → Paired (fun (p : V × V) x => ∃ d e, x = PyData.tuple [d, e] ∧ RD K C F' p.1 d ∧ RD K C F' p.2 e) ps xs → Q ps H'
def SPr (X : Cx) (C : Gx) (pos : Pos) (ks : List (Option Expr)) (vs : List Expr) (m : M (List Val)) : Prop := ∃ trs, PPs X pos ks vs trs ∧ ∀ σ H Q, tPr X.K C m σ H Q → tPairs trs σ H Q
theorem spr_nil {pos : Pos} : SPr X C pos [] [] (argsM (ret (.tuple []))) := ⟨[], pps_nil, fun σ H Q ⟨F, ρ, fps, xs, ρ', R, h, k⟩ => by
  cases h
  exact k _ _ _ _ (Post.refl R) .nil⟩
theorem Paired.impP {α β : Type} {G G' : α → β → Prop} {l : List α} {m : List β} (h : Paired G l m) (k : ∀ a b, G a b → G' a b) : Paired G' l m := Paired.mapP h k
theorem spr_cons {pos : Pos} {e f : Expr} {ks : List (Option Expr)} {vs : List Expr} {mk mv : M Val} {mr : M (List Val)} (hk : SE X C e mk) (hv : SE X C f mv) (hr : SPr X C pos ks vs mr) :
    SPr X C pos (some e :: ks) (f :: vs) (argsM (bnd (bnd (argsM (bnd mk fun x => bnd (argsM (bnd mv fun x => bnd (argsM (ret (.tuple []))) fun xs => ret (.tuple (x :: xs)))) fun xs => ret (.tuple (x :: xs)))) fun xs => if xs.length ≤ line then ret (.tuple xs) else fail) fun x => bnd mr fun xs => ret (.tuple (x :: xs)))) := by
  obtain ⟨trs, hp, hi⟩ := hr
  refine ⟨_, pps_cons hk hv hp, ?_⟩
  rintro σ H Q ⟨F, ρ, fps, zs, ρ', R, h, k⟩
  obtain ⟨x, ρ1, r, h1, h2, rfl⟩ := argsM_cons h
  obtain ⟨ys, ρ2, h3, h4⟩ := bnd_some h1
  obtain ⟨a, ρ3, r3, h5, h6, rfl⟩ := argsM_cons h3
  obtain ⟨b, ρ4, r4, h7, h8, rfl⟩ := argsM_cons h6
  cases h8
  split at h4
  · obtain ⟨rfl, rfl⟩ := ret_some h4
    refine ⟨F, ρ, fps, a, ρ3, R, h5, fun v F1 H1 fps1 P1 rv => ⟨F1, ρ3, fps1, b, _, P1.rel, h7, fun u F2 H2 fps2 P2 ru => hi _ _ _ ⟨F2, _, fps2, r, ρ', P2.rel, h2, fun ps F3 H3 fps3 P3 rp => ?_⟩⟩⟩
    exact k _ _ _ _ ((P1.trans P2).trans P3) (.cons ⟨a, b, rfl, (rv.sub P2.ext).sub P3.ext, ru.sub P3.ext⟩ rp)
  · exact (fail_some h4).elim
theorem pairs_keys {K : PySem.W.Frag} {F : Hp} : ∀ {ps : List (V × V)} {xs : List Val} {kvs : List (Val × Val)}, Paired (fun (p : V × V) x => ∃ d e, x = PyData.tuple [d, e] ∧ RD K C F p.1 d ∧ RD K C F p.2 e) ps xs → pairsOf xs = some kvs → (kvs.all fun kv => keyS kv.1) = true →
    ∃ ws : List (Key × V), ps = ws.map (fun kv => (kV kv.1, kv.2)) ∧ RKs K C F ws kvs
  | _, _, kvs, .nil, h, _ => by cases h; exact ⟨[], rfl, .nil⟩
  | p :: ps, _, kvs, .cons ⟨d, e, hx, rd, re⟩ t, h, hk => by
    obtain ⟨a, b, k2, ex, h2, rfl⟩ := pairsOf_cons h
    rw [hx] at ex; cases ex
    rw [List.all_cons, Bool.and_eq_true] at hk
    obtain ⟨ws, rfl, rk⟩ := pairs_keys t h2 hk.2
    obtain ⟨k, rfl⟩ := keyS_key hk.1
    have e1 := rd.key
    refine ⟨(k, p.2) :: ws, ?_, .cons re rk⟩
    rw [List.map_cons, ← e1]
theorem snd_dlitK {pos : Pos} {ks : List (Option Expr)} {vs : List Expr} {m : M (List Val)} (h : SPr X C pos ks vs m) (hall : ks.all (·.isSome) = true) (hl : ks.length = vs.length) (h0 : ks ≠ []) (h15 : ks.length ≤ 15) :
    SE X C (.Dict ks vs pos) (bnd m fun xs => match pairsOf xs with
      | some kvs => if kvs.all (fun kv => keyOk false kv.1) && decide (kvs.length ≤ 15) then ret (.dict (dputs [] kvs)) else fail
      | none => fail) := by
  obtain ⟨trs, hp, hi⟩ := h
  refine PE.imp (pe_disp hp hall hl h0 h15) ?_
  rintro σ H Q ⟨F, ρ, fps, z, ρ', R, h, k⟩ p hp0
  obtain ⟨xs, ρ1, h1, h2⟩ := bnd_some h
  refine hi _ _ _ ⟨F, ρ, fps, xs, ρ1, (Post.laidU R hp0).rel, h1, fun ps F2 H2 fps2 P2 rp => ?_⟩
  obtain ⟨e2, f2, n2, P⟩ := Post.beside R hp0 P2 (pl_dK [])
  cases hk : pairsOf xs with
  | none => rw [hk] at h2; exact (fail_some h2).elim
  | some kvs =>
    rw [hk] at h2
    simp only at h2
    split at h2
    · rename_i hs
      rw [Bool.and_eq_true] at hs
      obtain ⟨rfl, rfl⟩ := ret_some h2
      obtain ⟨ws, rfl, rk⟩ := pairs_keys rp hk hs.1
      have hlen := rk.length
      have h15 := of_decide_eq_true hs.2
      exact ⟨e2, ws, rfl, by omega, k _ _ _ _ (P.seal hp0 (pl_dK []) e2 f2 n2) (.dK upd_same ((rk.sub (FSub.upd_new f2)).merge .nil))⟩
    · exact (fail_some h2).elim
/-- {} -/
theorem snd_dnewK {pos : Pos} : SE X C (.Dict [] [] pos) (bnd (argsM (ret (.tuple []))) fun xs => match pairsOf xs with
      | some kvs => if kvs.all (fun kv => keyOk false kv.1) && decide (kvs.length ≤ 15) then ret (.dict (dputs [] kvs)) else fail
      | none => fail) :=
  PE.imp pe_dnewK fun σ H Q ⟨F, ρ, fps, z, ρ', R, h, k⟩ p hp => by
    cases h
    exact k _ _ _ _ (Post.laid R hp) (.dK upd_same .nil)
theorem pe_dnewX {pos : Pos} : PE X (.Dict [] [] pos) (fun _ H Q => ∀ p, H p = none → Q (.ref p) (upd H p (DX X.prog X.w p []))) := ⟨fun pins s σ H Q I h =>
  wpAny_Dict_empty ⟨.ref s.heap.objs.size, _, I.laid (a := s.heap.objs.size) (o := DX X.prog X.w s.heap.objs.size []) (t' := s.toks) (fun _ _ q => Heap.get?_push_of_some _ q) (Nat.le_refl _) (dx_empty s.heap I.big), rfl, h _ (I.hok.fresh (Nat.le_refl _))⟩⟩
theorem snd_dnewT {pos : Pos} (hG : OnX X C) : SE X C (.Dict [] [] pos) (bnd (argsM (ret (.tuple []))) fun xs => match pairsOf xs with
      | some kvs => if kvs.all (fun kv => keyOk true kv.1) && decide (kvs.length ≤ 15) then ret (.dict (dputs [] kvs)) else fail
      | none => fail) :=
  PE.imp pe_dnewX fun σ H Q ⟨F, ρ, fps, z, ρ', R, h, k⟩ p hp => by
    cases h
    exact k _ _ _ _ (Post.laid R hp) (.dT (by rw [upd_same, hG.1, hG.2]) .nil)
/-- {k: v}, k a tuple -/
theorem pe_disp1 {pos : Pos} {a b : Expr} {ta tb : TE} (hu : X.A.units + 1 < cLine) (ha : PE X a ta) (hb : PE X b tb) : PE X (.Dict [some a] [b] pos) (fun σ H Q => ∀ p, H p = none → ta σ (upd H p (DX X.prog X.w p [])) fun x H1 => tb σ H1 fun y H2 =>
    H2 p = some (DX X.prog X.w p []) ∧ ∃ q ks ob, x = .ref q ∧ H2 q = some (.frz ob (.tup (ks.map kV))) ∧ Q (.ref p) (upd H2 p (DX X.prog X.w p [(ks, q, y)]))) := by
  refine ⟨fun pins s σ H Q I h => ?_⟩
  have hn := I.hok.fresh (Nat.le_refl s.heap.objs.size)
  have I1 := I.laid (a := s.heap.objs.size) (o := DX X.prog X.w s.heap.objs.size []) (h' := s.heap.push { cls := .type "dict", data := .dict #[] }) (t' := s.toks) (fun _ _ q => Heap.get?_push_of_some _ q) (Nat.le_refl _) (dx_empty s.heap I.big)
  rw [arm_eval_Dict, zip_pairTrees [some a] [b] X.env pos rfl rfl, dictDisplay_pairs (pairTrees [some a] [b] X.env pos) (by unfold pairTrees; simp) (by unfold pairTrees pairTrees; simp)]
  refine wpAny_bind (wpAny_standAt (wpAny_bind (wpAny_subDictH (knd := tupleKind (mixKind X.prog X.w)) (Q := fun d s' => wpAny (model X.prog X.w) X.A (pure (Value.ref d)) (EP X pins σ Q) X.xe s') (show X.A.units < cLine by omega) (by unfold pairTrees pairTrees; simp) ?_)))
  refine pairTrees_cons_walk (thn (ha.run pins _ σ _ _ I1 (h _ hn)) fun u s1 ⟨x, H1, J1, r1, q1⟩ => thn (hb.run pins s1 σ H1 _ J1 q1) fun v s2 ⟨y, H2, J2, r2, e2, q, ks, ob, ex, eq, q2⟩ => ?_)
  subst ex
  obtain rfl : u = Value.ref q := r1
  refine wpAny_pure ⟨[(ks, q, v)], ⟨rfl, rfl, key_ofF J2.hok eq, trivial⟩, ?_, fun h' tk hd hs => wpAny_pure ⟨.ref s.heap.objs.size, _, ?_, rfl, q2⟩⟩
  · obtain ⟨z, hd, xs, rel, dd⟩ := dx_of J2.hok e2 (fun e he => nomatch he)
    cases rel
    exact dd
  · obtain ⟨z, hd0, xs, rel, dd⟩ := dx_of J2.hok e2 (fun e he => nomatch he)
    have he : ∃ q, h'.get? s.heap.objs.size = some q := let ⟨q, _, _, hq, _⟩ := hd; ⟨q, hq⟩
    exact d_write J2 (by rw [e2]; exact True.intro) hs he (dx_to (by rw [sizeLine_eq]; simp) hd0 (.cons ⟨rfl, rfl, r2⟩ .nil) hd)
theorem snd_dlitT {pos : Pos} {a b : Expr} {mk mv : M Val} (hG : OnX X C) (hu : X.A.units + 1 < cLine) (ha : SE X C a mk) (hb : SE X C b mv) :
    SE X C (.Dict [some a] [b] pos) (bnd (argsM (bnd (bnd (argsM (bnd mk fun x => bnd (argsM (bnd mv fun x => bnd (argsM (ret (.tuple []))) fun xs => ret (.tuple (x :: xs)))) fun xs => ret (.tuple (x :: xs)))) fun xs => if xs.length ≤ line then ret (.tuple xs) else fail)
      fun x => bnd (argsM (ret (.tuple []))) fun xs => ret (.tuple (x :: xs)))) fun xs => match pairsOf xs with
      | some kvs => if kvs.all (fun kv => keyOk true kv.1) && decide (kvs.length ≤ 15) then ret (.dict (dputs [] kvs)) else fail
      | none => fail) := by
  refine PE.imp (pe_disp1 hu ha hb) ?_
  rintro σ H Q ⟨F, ρ, fps, z, ρ', R, h, k⟩ p hp0
  obtain ⟨xs, ρ1, h1, h2⟩ := bnd_some h
  obtain ⟨x, ρ2, r, h3, h4, rfl⟩ := argsM_cons h1
  cases h4
  obtain ⟨ys, ρ3, h5, h6⟩ := bnd_some h3
  obtain ⟨d, ρ4, r3, h7, h8, rfl⟩ := argsM_cons h5
  obtain ⟨e, ρ5, r4, h9, h10, rfl⟩ := argsM_cons h8
  cases h10
  split at h6
  · obtain ⟨rfl, rfl⟩ := ret_some h6
    refine ⟨F, ρ, fps, d, ρ4, (Post.laidU R hp0).rel, h7, fun v F1 H1 fps1 P1 rv => ⟨F1, ρ4, fps1, e, _, P1.rel, h9, fun u F2 H2 fps2 P2 ru => ?_⟩⟩
    obtain ⟨e2, f2, n2, P⟩ := Post.beside R hp0 (P1.trans P2) (pl_dX _ _ _ _)
    have h2' : (if keyOk true d && true then ret (PyData.dict (dputs [] [(d, e)])) else fail) ρ1 = some (z, ρ') := by
      have : (decide (([(d, e)] : List (Val × Val)).length ≤ 15)) = true := rfl
      simpa [pairsOf, this] using h2
    split at h2'
    · rename_i hs
      obtain ⟨rfl, rfl⟩ := ret_some h2'
      have hd : keyT d = true := by simpa [keyOk] using hs
      obtain ⟨ks, rfl, hc⟩ := keyT_key hd
      obtain ⟨b, ob, ws, rfl, eb, ho, rb⟩ := (rv.sub P2.ext).tup_key hc
      obtain rfl := rb.keys
      refine ⟨e2, b, ks, ob, rfl, P2.rel.sub _ _ eb, k _ _ _ _ (P.seal hp0 (pl_dX _ _ _ _) e2 f2 n2) (.dT (by rw [upd_same, hG.1, hG.2]) (.cons ?_ ho ?_ .nil))⟩
      · exact (FSub.upd_new f2) _ _ eb
      · exact ru.sub (FSub.upd_new f2)
    · exact (fail_some h2').elim
  · exact (fail_some h6).elim
end
end PL
set_option maxHeartbeats 1000000
/-! PLs14: dict(..) of pairs, of a zip; owned things looked into. -/
namespace PL
open PySem PySem.Spec PyProof.Rows L2
section
variable {X : Cx} {C : Gx}
/-! ### dict(zip(t, u)) -/
theorem vals_keys : ∀ {ks : List Key} {us : List Value}, Vals (ks.map kV) us → us.length = ks.length ∧ ∀ (i : Nat) (u : Value), us[i]? = some u → ∃ k, ks[i]? = some k ∧ keyIs k u = true
  | [], us, h => by cases h; exact ⟨rfl, fun i u e => by simp at e⟩
  | k :: ks, _, .cons r t => by
    obtain ⟨h1, h2⟩ := vals_keys t
    refine ⟨by rw [List.length_cons, List.length_cons, h1], fun i u e => ?_⟩
    cases i with
    | zero =>
      simp at e; subst e
      exact ⟨k, rfl, by cases k with
        | inl i => obtain ⟨t, rfl⟩ := r; exact keyIs_int i t
        | inr x => obtain ⟨t, rfl⟩ := r; exact keyIs_str x t⟩
    | succ i => simpa using h2 i u (by simpa using e)
theorem kv_zip : ∀ {ks : List Key} {vs : List V} {us : List Value}, Vals vs us → ks.length = us.length → KV (ks.zip vs) (ks.zip us)
  | [], _, _, _, _ => by rw [List.zip_nil_left, List.zip_nil_left]; exact .nil
  | k :: ks, _, _, .nil, h => by simp at h
  | k :: ks, _, _, .cons r t, h => by
    rw [List.zip_cons_cons, List.zip_cons_cons]
    exact .cons ⟨rfl, r⟩ (kv_zip t (by simpa using h))
def rDZip (K : PySem.W.Frag) : List V → Hp → VK → Prop := fun vs H Q => ∃ (a b : Addr) (ks : List Key) (ws : List V), vs = [.ref a, .ref b] ∧ SqT K H a (ks.map kV) ∧ SqT K H b ws ∧ ks.length = ws.length ∧ ∀ p, H p = none → Q (.ref p) (upd H p (.dK (mergeK [] (ks.zip ws))))
theorem pe_dzip {a b : Expr} {p p2 q pos : Pos} {t : TA} (hc : X.calm = true) (hg : Gl X "dict") (hm : X.mg "dict" = none) (hg2 : Gl X "zip") (hm2 : X.mg "zip" = none) (ha : PA X [a, b] t)
    (na : starEach [a, b] X.env = (false, eval a X.env) :: starEach [b] X.env) (npl : (backTo q (starEach [b] X.env)).any (·.1) = false) :
    PE X (.Call (.Name "dict" p) [.Call (.Name "zip" p2) [a, b] [] q] [] pos) (fun σ H Q => t σ H fun vs H1 => rDZip X.K vs H1 Q) := by
  refine ⟨fun pins s σ H Q I h => ?_⟩
  refine Call_ (ld_blt I hg hm rfl ?_ (by decide) (by decide))
  refine PyProof.Rows.callWith_type1 (PyProof.Rows.args_cons ?_ rfl) rfl rfl
  refine wpAny_Call_Name_kw (ld_blt I hg2 hm2 rfl ?_ (by decide) (by decide))
  refine PyProof.Rows.callWith_type1 (thn (ha.run q pins s σ H _ I h) fun us s1 ⟨vs, H1, I1, r1, aa, bb, ks, ws, ev, hqx, hqy, hl, qq⟩ => ?_) na npl
  subst ev
  cases r1 with
  | cons r rr =>
    cases rr with
    | cons r' rr =>
      cases rr; cases r; cases r'
      obtain ⟨its, rv, p1, z1⟩ := I1.tuple hqx
      obtain ⟨its2, rv2, p2', z2⟩ := I1.tuple hqy
      obtain ⟨o1, ho1, _⟩ := id p1
      obtain ⟨o2, ho2, _⟩ := id p2'
      refine RZ.call_zipT (show s1.heap.IsTuple aa its.toArray from p1) (show s1.heap.IsTuple bb its2.toArray from p2') fun h' hz hTI hTO h1 h2 hsz hk => PyProof.Rows.args_nil ?_
      have D := PySem.W.ktu_apart s1.heap.objs.size aa bb (Heap.lt_size ho1) (Heap.lt_size ho2)
      obtain ⟨kl, kat⟩ := vals_keys rv
      have l2 : its2.length = ws.length := rv2.length.symm
      have hn : min its.toArray.size its2.toArray.size = ks.length := by rw [List.size_toArray, List.size_toArray, kl, l2, hl, Nat.min_self]
      refine call_dict_pairs (s := { s1 with heap := h' }) (kvs := ks.zip its2) (knd := mixKind X.prog X.w) (zipT_arg _ _ _ _ _ _ _ D its.toArray its2.toArray) (I1.ok.hd hc) ⟨hz, hTI, ⟨_, _, hTO⟩, h1, h2, PySem.Heap.IsTuple.at (show s1.heap.IsTuple aa its.toArray from p1) (fun o e => hk _ o e), PySem.Heap.IsTuple.at (show s1.heap.IsTuple bb its2.toArray from p2') (fun o e => hk _ o e)⟩
        ⟨by rw [List.length_zip, hn, l2, hl, Nat.min_self], fun i key v hr => ?_⟩ (by rw [hn]; rw [List.length_map] at z1; exact z1) fun h'' tk hd hk2 => ?_
      · obtain ⟨e1, e2⟩ := hr
        obtain ⟨k, ek, hk'⟩ := kat i key (by simpa using e1)
        refine ⟨k, ?_, hk'⟩
        have e2' : its2[i]? = some v := by simpa using e2
        rw [List.zip, List.getElem?_zipWith, ek, e2']
      · have keep : ∀ c o, s1.heap.get? c = some o → h''.get? c = some o := fun c o e => by
          have lt := Heap.lt_size e
          refine hk2 c o (fun hm => ?_) (hk c o e)
          simp only [List.mem_cons, List.not_mem_nil, or_false] at hm
          rcases hm with z | z | z | z <;> (rw [z] at lt; exact absurd lt (by simp [Nat.not_lt]; try omega))
        have hz0 : s1.heap.objs.size ≤ h'.objs.size := by rw [hsz]; exact Nat.le_add_right _ _
        have big : sysModules < h'.objs.size := Nat.lt_of_lt_of_le I1.big hz0
        have hlen : (mergeK [] (ks.zip ws)).length ≤ sizeLine := by
          refine Nat.le_trans (length_mergeK _ []) ?_
          rw [List.length_nil, Nat.zero_add, List.length_zip, ← hl, Nat.min_self]
          rw [List.length_map] at z1; exact z1
        exact ⟨.ref h'.objs.size, _, I1.laid (t' := tk) keep hz0 (show ObjOk X.prog X.w _ _ _ (.dK (mergeK [] (ks.zip ws))) from ⟨hlen, beq_eq_false_iff_ne.mpr (Nat.ne_of_gt big), _, KV.merge (kv_zip rv2 (by rw [l2, hl])) .nil, hd⟩), rfl, qq _ (I1.hok.fresh hz0)⟩
theorem RD.tups {K : PySem.W.Frag} {F : Hp} {v : V} {x : Val} {ys : List Val} (r : RD K C F v x) (h : tupsV x = some ys) : ∃ p vs, v = .ref p ∧ SqT K F p vs ∧ RDs K C F vs ys := by
  unfold tupsV at h
  split at h
  · cases h; exact r.tup_inv
  · cases h; exact RD.ct_inv (show RD K C F v (ctV _) from r)
  · cases h
theorem RKs.ofZip {K : PySem.W.Frag} {F : Hp} : ∀ {ks : List Key} {ws : List V} {ys : List Val}, RDs K C F ws ys → ks.length = ys.length → RKs K C F (ks.zip ws) ((ks.map keyD).zip ys)
  | [], _, _, _, _ => by rw [List.zip_nil_left, List.map_nil, List.zip_nil_left]; exact .nil
  | k :: ks, _, _, .nil, h => by simp at h
  | k :: ks, _, _, .cons r t, h => by
    rw [List.map_cons, List.zip_cons_cons, List.zip_cons_cons]
    exact .cons r (RKs.ofZip t (by simpa using h))
/-- dict(zip(a, b)) -/
theorem snd_dzip {a b : Expr} {p p2 q pos : Pos} {ma mb : M Val} (hc : X.calm = true) (hg : Gl X "dict") (hm : X.mg "dict" = none) (hg2 : Gl X "zip") (hm2 : X.mg "zip" = none) (ha : SE X C a ma) (hb : SE X C b mb)
    (na : starEach [a, b] X.env = (false, eval a X.env) :: starEach [b] X.env) (nb : starEach [b] X.env = (false, eval b X.env) :: starEach [] X.env) (npl : (backTo q (starEach [b] X.env)).any (·.1) = false) :
    SE X C (.Call (.Name "dict" p) [.Call (.Name "zip" p2) [a, b] [] q] [] pos) (bnd ma fun x => bnd mb fun y => bnd (lft (tupsV x)) fun xs => bnd (lft (tupsV y)) fun ys =>
      if xs.all keyS && decide (xs.length = ys.length) then ret (.dict (dputs [] (xs.zip ys))) else fail) := by
  refine PE.imp (pe_dzip hc hg hm hg2 hm2 (pa_cons ha (pa_cons hb pa_nil nb) na) na npl) ?_
  rintro σ H Q ⟨F, ρ, fps, z, ρ', R, h, k⟩
  obtain ⟨x, ρ1, h1, h2⟩ := bnd_some h
  obtain ⟨y, ρ2, h3, h4⟩ := bnd_some h2
  obtain ⟨xs, ρ3, h5, h6⟩ := bnd_some h4
  obtain ⟨g5, rfl⟩ := lft_some h5
  obtain ⟨ys, ρ4, h7, h8⟩ := bnd_some h6
  obtain ⟨g7, rfl⟩ := lft_some h7
  split at h8
  · rename_i hs
    rw [Bool.and_eq_true] at hs
    obtain ⟨rfl, rfl⟩ := ret_some h8
    refine ⟨F, ρ, fps, x, ρ1, R, h1, fun v F1 H1 fps1 P1 rv => ⟨F1, ρ1, fps1, y, _, P1.rel, h3, fun u F2 H2 fps2 P2 ru => ?_⟩⟩
    obtain ⟨pa, vs, rfl, ea, ra⟩ := (rv.sub P2.ext).tups g5
    obtain ⟨pb, ws, rfl, eb, rb⟩ := ru.tups g7
    obtain ⟨ks, rfl⟩ := keysD hs.1
    obtain rfl := ra.keys
    have hl : ks.length = ys.length := by simpa using of_decide_eq_true hs.2
    refine ⟨pa, pb, ks, ws, rfl, SqT.sub P2.rel.sub ea, SqT.sub P2.rel.sub eb, by rw [hl, rb.length], fun p hp => k _ _ _ _ ((P1.trans P2).trans (Post.laid P2.rel hp)) (.dK upd_same ?_)⟩
    exact ((RKs.ofZip rb hl).sub (FSub.upd_new (P2.rel.sub.none hp))).merge .nil
  · exact (fail_some h8).elim
/-! ### dict(pairs) -/
theorem pair_list {K : PySem.W.Frag} {F H : Hp} (sub : FSub F H) : ∀ {vs : List V} {xs : List Val} {kvs : List (Val × Val)}, RDs K C F vs xs → pairsOf xs = some kvs → (kvs.all fun kv => keyS kv.1) = true →
    ∃ (ps : List Addr) (ws : List (Key × V)), vs = ps.map V.ref ∧ Paired (fun p kv => SqT K H p [kV kv.1, kv.2]) ps ws ∧ RKs K C F ws kvs
  | _, _, kvs, .nil, h, _ => by cases h; exact ⟨[], [], rfl, .nil, .nil⟩
  | v :: vs, x :: xs, kvs, .cons r t, h, hk => by
    obtain ⟨a, b, k2, rfl, h2, rfl⟩ := pairsOf_cons h
    rw [List.all_cons, Bool.and_eq_true] at hk
    obtain ⟨ps, ws, rfl, pp, rk⟩ := pair_list sub t h2 hk.2
    obtain ⟨p, us, rfl, ep, rp⟩ := r.tup_inv
    obtain ⟨u1, u2, rfl, r1, r2⟩ := rp.two
    obtain ⟨k, rfl⟩ := keyS_key hk.1
    obtain rfl := r1.key
    exact ⟨p :: ps, (k, u2) :: ws, rfl, .cons (SqT.sub sub ep) pp, .cons r2 rk⟩
theorem bi_dict (hc : X.calm = true) : BiOk X C (.type "dict") (biV .dict) := by
  refine BiOk.of1 (call_dictP hc) fun F H v x z Q sub rv e q1 q2 => ?_
  unfold dictV at e
  split at e
  · rename_i xs
    split at e
    · rename_i kvs hk
      split at e
      · rename_i hs; cases e
        obtain ⟨p, vs, rfl, ep, rp⟩ := rv.lst_inv
        obtain ⟨ps, ws, rfl, pp, rk⟩ := pair_list sub rp hk hs
        exact ⟨p, ps, ws, rfl, SqL.of (sub _ _ ep), pp, fun p hp => q2 p _ _ hp (.dK upd_same ((rk.sub (FSub.upd_new (sub.none hp))).merge .nil))⟩
      · cases e
    · cases e
  · cases e
end
end PL
set_option maxHeartbeats 1000000
/-! PLs15: owned things looked into, popped, lent. -/
namespace PL
open PySem PySem.Spec PyProof.Rows L2
section
variable {K : PySem.W.Frag} {C : Gx} {F F' H H' : Hp} {ρ ρ' : PL.Env} {σ : L2.St} {fps fps' : Fps}
theorem SlotAt.val {o : Option (Option V)} : ∀ {s : Slot} {fp : List Addr}, SlotAt K C F H o s fp → s ≠ .u → ∃ v, o = some (some v)
  | .u, _, _, h => absurd rfl h
  | .v _, _, ⟨_, v, e, _⟩, _ => ⟨v, e⟩
  | .L _, _, ⟨p, _, _, e, _⟩, _ => ⟨.ref p, e⟩
  | .D false _, _, ⟨p, _, _, e, _⟩, _ => ⟨.ref p, e⟩
  | .D true _, _, ⟨p, _, _, e, _⟩, _ => ⟨.ref p, e⟩
  | .LL _, _, ⟨p, _, _, e, _⟩, _ => ⟨.ref p, e⟩
  | .f z, _, h, _ => ⟨.ref z.a, h.2.1⟩
theorem chkS_some {s : Nat} {u : Unit} (h : chkS s ρ = some (u, ρ')) : gs ρ s ≠ .u ∧ ρ' = ρ := by
  unfold chkS at h
  split at h
  · cases h
  · rename_i hn; cases h; exact ⟨hn, rfl⟩
theorem Rel.atL (R : Rel K C F H ρ σ fps) {i : Nat} {xs : List Val} (h : gs ρ i = .L xs) : ∃ p vs, fps i = [p] ∧ σ[i]? = some (some (.ref p)) ∧ F p = none ∧ H p = some (.lst vs) ∧ RDs K C F vs xs := by
  have := R.at_ i
  rw [h] at this
  exact this
theorem Rel.atK (R : Rel K C F H ρ σ fps) {i : Nat} {kvs : List (Val × Val)} (h : gs ρ i = .D false kvs) : ∃ p vs, fps i = [p] ∧ σ[i]? = some (some (.ref p)) ∧ F p = none ∧ H p = some (.dK vs) ∧ RKs K C F vs kvs := by
  have := R.at_ i
  rw [h] at this
  exact this
theorem Rel.atT (R : Rel K C F H ρ σ fps) {i : Nat} {kvs : List (Val × Val)} (h : gs ρ i = .D true kvs) : ∃ p vs, fps i = [p] ∧ σ[i]? = some (some (.ref p)) ∧ F p = none ∧ H p = some (DX C.P C.w p vs) ∧ RTs K C F vs kvs := by
  have := R.at_ i
  rw [h] at this
  exact this
/-- a look-up in an owned dict -/
theorem Rel.lookD (R : Rel K C F H ρ σ fps) {i : Nat} {t : Bool} {kvs : List (Val × Val)} (h : gs ρ i = .D t kvs) {y : V} {k : Val} (rk : RD K C F y k) (ok : keyOk t k = true) :
    ∃ p o, σ[i]? = some (some (.ref p)) ∧ DG C.P C.w H p y o ∧ GetR K C F o (dget kvs k) := by
  cases t with
  | false =>
    obtain ⟨p, vs, _, e1, _, e2, r⟩ := R.atK h
    obtain ⟨k, rfl⟩ := keyS_key (show keyS k = true from ok)
    obtain rfl := rk.key
    exact ⟨p, _, e1, .inl (DGet.k e2), r.get k⟩
  | true =>
    obtain ⟨p, vs, _, e1, _, e2, r⟩ := R.atT h
    obtain ⟨ks, rfl, hc⟩ := keyT_key (show keyT k = true from ok)
    obtain ⟨b, ob, ws, rfl, eb, _, rb⟩ := rk.tup_key hc
    obtain rfl := rb.keys
    exact ⟨p, _, e1, .inr ⟨vs, ks, b, ob, e2, r.keysAt R.sub, rfl, R.sub _ _ eb, rfl⟩, r.get ks⟩
end
section
variable {X : Cx} {C : Gx}
theorem snd_idxO {s : Nat} {x : Str} {b : Expr} {px pos : Pos} {mb : M Val} (hG : OnX X C) (hu : X.A.units + 1 < cLine) (hN : X.N[s]? = some x) (hv : Vis X.env.scope x) (hd : (x == ("__debug__" : Str)) = false) (hcd : (x == ("__classdict__" : Str)) = false) (hb : SE X C b mb) (hs : isSlice b = false) :
    SE X C (.Subscript (.Name x px) b pos) (bnd (chkS s) fun _ => bnd mb fun y => fun ρ => match gs ρ s, y with
      | .L xs, .int j => lft (atP xs j) ρ
      | .D t kvs, k => if keyOk t k then lft (dget kvs k) ρ else none
      | _, _ => none) := by
  refine PE.imp (pe_ix (ix_all hu) (pe_var hN hv hd hcd) hb (plainIx_of hs)) ?_
  rintro σ H Q ⟨F, ρ, fps, z, ρ', R, h, k⟩
  obtain ⟨_, ρ0, h0, h1⟩ := bnd_some h
  obtain ⟨hne, rfl⟩ := chkS_some h0
  obtain ⟨y, ρ1, h2, h3⟩ := bnd_some h1
  obtain ⟨v, ev⟩ := (R.at_ s).val hne
  refine ⟨v, ev, F, ρ0, fps, y, ρ1, R, h2, fun u F1 H1 fps1 P1 ru => ?_⟩
  split at h3
  · rename_i xs j hsl
    obtain ⟨p, vs, _, e1, _, e2, rr⟩ := P1.rel.atL hsl
    rw [ev] at e1; cases e1
    obtain ⟨e3, rfl⟩ := lft_some h3
    obtain rfl := ru.int_inv
    rw [atP_eq] at e3
    obtain ⟨w, hw, rw'⟩ := atI_RDs rr e3
    exact .inl (.inl ⟨p, vs, _, w, rfl, rfl, SqL.of e2, hw, k _ _ _ _ P1 rw'⟩)
  · rename_i t kvs kk hsl
    split at h3
    · rename_i hk
      obtain ⟨e3, rfl⟩ := lft_some h3
      obtain ⟨p, o, e1, g, gr⟩ := P1.rel.lookD hsl ru hk
      rw [ev] at e1; cases e1
      rw [e3] at gr
      cases o with
      | none => exact gr.elim
      | some w => exact .inr ⟨p, w, rfl, hG.1 ▸ hG.2 ▸ g, k _ _ _ _ P1 gr⟩
    · cases h3
  · cases h3
/-- x in an owned dict -/
def rInX (X : Cx) (neg : Bool) : R2 := fun x y H Q => ∃ a o, y = .ref a ∧ DG X.prog X.w H a x o ∧ Q (.bl (if neg then !o.isSome else o.isSome)) H
theorem op_inX (hu : X.A.units + 1 < cLine) (neg : Bool) : OpR X (compareOp (copPy (if neg then .notin else .isin))) (rInX X neg) := by
  rintro pins s σ H x y v u Q I rx ry ⟨a, o, rfl, g, q⟩
  obtain rfl : u = Value.ref a := ry
  cases neg with
  | false => exact g_in hu I g rx fun s' I' => ⟨.bl _, H, I', rfl, q⟩
  | true => exact g_notIn hu I g rx fun s' I' => ⟨.bl _, H, I', rfl, q⟩
theorem inO_pt {neg : Bool} {s : Nat} {m : M Val} {σ : L2.St} {H : Hp} {Q : VK} (hG : OnX X C)
    (h : tE X.K C (bnd m fun x => fun ρ => match gs ρ s with
      | .D t kvs => if keyOk t x then some (.bool (if neg then !dhas kvs x else dhas kvs x), ρ) else none
      | .v (.dict kvs) => match inV x (.dict kvs) with
        | some r => some (.bool (if neg then !r else r), ρ)
        | none => none
      | _ => none) σ H Q) : tOp (fun x y H Q => rInX X neg x y H Q ∨ rCmp X.K C (if neg then .notin else .isin) x y H Q) (tE X.K C m) (tVar s) σ H Q := by
  obtain ⟨F, ρ, fps, z, ρ', R, h, k⟩ := h
  obtain ⟨x, ρ1, h1, h2⟩ := bnd_some h
  refine ⟨F, ρ, fps, x, ρ1, R, h1, fun v F1 H1 fps1 P1 rv => ?_⟩
  split at h2
  · rename_i t kvs hs
    split at h2
    · rename_i hk
      cases h2
      obtain ⟨p, o, e1, g, gr⟩ := P1.rel.lookD hs rv hk
      refine ⟨.ref p, e1, .inl ⟨p, o, rfl, hG.1 ▸ hG.2 ▸ g, ?_⟩⟩
      rw [gr.isSome, ← dhas_get]
      exact k _ _ _ _ P1 (.bl _)
    · cases h2
  · rename_i kvs hs
    split at h2
    · rename_i r hr
      cases h2
      have hat := P1.rel.at_ s
      rw [hs] at hat
      obtain ⟨_, u, eu, ru⟩ := hat
      refine ⟨u, eu, .inr ⟨F1, x, _, _, P1.rel.sub, rv, ru, ?_, k _ _ _ _ P1 (.bl _)⟩⟩
      cases neg with
      | false => exact hr
      | true => show (inV x (.dict kvs)).map not = _; rw [hr]; rfl
    · cases h2
  · cases h2
theorem snd_inO {neg : Bool} {s : Nat} {x : Str} {e : Expr} {px pos : Pos} {m : M Val} (hG : OnX X C) (hu : X.A.units + 70 < cLine) (hN : X.N[s]? = some x) (hv : Vis X.env.scope x) (hd : (x == ("__debug__" : Str)) = false) (hcd : (x == ("__classdict__" : Str)) = false) (he : SE X C e m)
    (hm : behindInMarks (copPy (if neg then .notin else .isin)) (.Name x px) = false) : SE X C (.Compare e [copPy (if neg then .notin else .isin)] [.Name x px] pos) (bnd m fun x => fun ρ => match gs ρ s with
      | .D t kvs => if keyOk t x then some (.bool (if neg then !dhas kvs x else dhas kvs x), ρ) else none
      | .v (.dict kvs) => match inV x (.dict kvs) with
        | some r => some (.bool (if neg then !r else r), ρ)
        | none => none
      | _ => none) :=
  PE.imp (pe_cmpR (OpR.or (op_inX (by omega) neg) (opc (C := C) (if neg then .notin else .isin) hG hu)) he (pe_var hN hv hd hcd) hm) fun σ H Q h => inO_pt hG h
theorem sb_inO {neg : Bool} {s : Nat} {x : Str} {e : Expr} {px pos : Pos} {m : M Val} (hG : OnX X C) (hu : X.A.units + 70 < cLine) (hN : X.N[s]? = some x) (hv : Vis X.env.scope x) (hd : (x == ("__debug__" : Str)) = false) (hcd : (x == ("__classdict__" : Str)) = false) (he : SE X C e m)
    (hm : behindInMarks (copPy (if neg then .notin else .isin)) (.Name x px) = false) : SB X C (.Compare e [copPy (if neg then .notin else .isin)] [.Name x px] pos) (boolM (bnd m fun x => fun ρ => match gs ρ s with
      | .D t kvs => if keyOk t x then some (.bool (if neg then !dhas kvs x else dhas kvs x), ρ) else none
      | .v (.dict kvs) => match inV x (.dict kvs) with
        | some r => some (.bool (if neg then !r else r), ρ)
        | none => none
      | _ => none)) :=
  PT.imp (pt_cmpR (OpR.or (op_inX (by omega) neg) (opc (C := C) (if neg then .notin else .isin) hG hu)) he (pe_var hN hv hd hcd) hm) fun σ H Q ⟨F, ρ, fps, b, ρ', R, h, k⟩ => by
    refine inO_pt hG ⟨F, ρ, fps, .bool b, ρ', R, boolM_some h, fun v F1 H1 fps1 P1 rv => ?_⟩
    obtain rfl := rv.bool_inv
    exact ⟨b, rfl, k _ _ _ P1⟩
/-! ### pop -/
theorem getL_some {s : Nat} {ρ ρ' : PL.Env} {xs : List Val} (h : getL s ρ = some (xs, ρ')) : gs ρ s = .L xs ∧ ρ' = ρ := by
  unfold getL at h
  split at h
  · rename_i hs; cases h; exact ⟨hs, rfl⟩
  · cases h
theorem getLast_RDs {K : PySem.W.Frag} {F : Hp} {vs : List V} {ds : List Val} {d : Val} (r : RDs K C F vs ds) (h : ds.getLast? = some d) : ∃ v, vs[vs.length - 1]? = some v ∧ RD K C F v d := by
  rw [List.getLast?_eq_getElem?] at h
  rw [r.length]
  exact r.get h
theorem lt_of_L {K : PySem.W.Frag} {F H : Hp} {ρ : PL.Env} {σ : L2.St} {fps : Fps} {s : Nat} {xs : List Val} (R : Rel K C F H ρ σ fps) (h : gs ρ s = .L xs) : s < ρ.length := gs_lt (by rw [h]; intro z; cases z)
theorem snd_popO {s : Nat} {x : Str} {px apos pos : Pos} (hN : X.N[s]? = some x) (hv : Vis X.env.scope x) (hd : (x == ("__debug__" : Str)) = false) (hcd : (x == ("__classdict__" : Str)) = false) (hbase : attributeBase (.Name x px) "pop" X.env (eval (.Name x px) X.env) = eval (.Name x px) X.env) (hline : (apos.endLine == pos.line) = true) :
    SE X C (.Call (.Attribute (.Name x px) "pop" apos) [] [] pos) (bnd (getL s) fun xs => match xs.getLast? with
      | some y => bnd (setL s xs.dropLast) fun _ => ret y
      | none => fail) := by
  refine PE.imp (pe_bm0 F.plainAttrs_list F.slot_list_pop F.type_list_pop (r := rPop) mt_pop (pe_var hN hv hd hcd) hbase hline) ?_
  rintro σ H Q ⟨F, ρ, fps, z, ρ', R, h, k⟩
  obtain ⟨xs, ρ1, h1, h2⟩ := bnd_some h
  obtain ⟨hs, rfl⟩ := getL_some h1
  obtain ⟨p, vs, ef, e1, e2, e3, rr⟩ := R.atL hs
  cases hl : xs.getLast? with
  | none => rw [hl] at h2; exact (fail_some h2).elim
  | some y =>
    rw [hl] at h2
    cases h2
    obtain ⟨v, hv', rv⟩ := getLast_RDs rr hl
    refine ⟨.ref p, e1, .inl ⟨rfl, _, SqL.of e3⟩, p, vs, v, rfl, rfl, e3, hv', k _ _ _ _ (Post.wr R (lt_of_L R hs) (by rw [ef]; exact List.mem_singleton_self p) (pl_lst _) e3 (fun _ z => by cases z) ?_) rv⟩
    exact ⟨p, _, ef, e1, e2, upd_same, rr.dropLast⟩
theorem snd_popAt {s : Nat} {x : Str} {e : Expr} {m : M Val} {px apos pos : Pos} (hN : X.N[s]? = some x) (hv : Vis X.env.scope x) (hd : (x == ("__debug__" : Str)) = false) (hcd : (x == ("__classdict__" : Str)) = false) (he : SE X C e m) (hbase : attributeBase (.Name x px) "pop" X.env (eval (.Name x px) X.env) = eval (.Name x px) X.env) (hline : (apos.endLine == pos.line) = true)
    (hst : starEach [e] X.env = (false, eval e X.env) :: starEach [] X.env)
    (hfew : ((backTo pos (starEach [e] X.env)).all (fun x => !x.1) && (backToKw pos (keywordEach [] X.env)).all (fun x => x.1.isSome) && decide (([e] : List Expr).length + ([] : List Keyword).length + (if ([] : List Keyword).isEmpty then 0 else 1) < 30)) = true) :
    SE X C (.Call (.Attribute (.Name x px) "pop" apos) [e] [] pos) (bnd (getL s) fun _ => bnd m fun y => bnd (getL s) fun xs => match y with
      | .int j => match (if 0 ≤ j ∧ j < xs.length ∧ j < 1000000 then xs[j.toNat]? else none) with
        | some z => bnd (setL s (xs.eraseIdx j.toNat)) fun _ => ret z
        | none => fail
      | _ => fail) := by
  refine PE.imp (pe_bm F.plainAttrs_list F.slot_list_pop F.type_list_pop (r := rPopAt) mt_popAt (pe_var hN hv hd hcd) (pa_cons he pa_nil hst) hbase hfew hline hst rfl) ?_
  rintro σ H Q ⟨F, ρ, fps, z, ρ', R, h, k⟩
  obtain ⟨xs0, ρ0, h0, h1⟩ := bnd_some h
  obtain ⟨hs0, rfl⟩ := getL_some h0
  obtain ⟨y, ρ1, h2, h3⟩ := bnd_some h1
  obtain ⟨xs, ρ2, h4, h5⟩ := bnd_some h3
  obtain ⟨hs, rfl⟩ := getL_some h4
  obtain ⟨p, vs0, _, e0, _, e3, _⟩ := R.atL hs0
  refine ⟨.ref p, e0, .inl ⟨rfl, _, SqL.of e3⟩, F, ρ0, fps, y, _, R, h2, fun u F1 H1 fps1 P1 ru => ?_⟩
  obtain ⟨p', vs, ef, e1, e2, e4, rr⟩ := P1.rel.atL hs
  rw [e0] at e1; cases e1
  cases y with
  | int j =>
    obtain rfl := ru.int_inv
    by_cases hj : 0 ≤ j ∧ j < xs.length ∧ j < 1000000
    · have h6 : (match xs[j.toNat]? with
        | some z => bnd (setL s (xs.eraseIdx j.toNat)) fun _ => ret z
        | none => fail) ρ2 = some (z, ρ') := by
        have h6 := h5
        simp only [if_pos hj] at h6
        exact h6
      cases hz : xs[j.toNat]? with
      | none => rw [hz] at h6; exact (fail_some h6).elim
      | some y =>
        rw [hz] at h6
        cases h6
        obtain ⟨w, hw, rw'⟩ := rr.get hz
        have hlen := rr.length
        refine ⟨p, vs, j, j.toNat, w, rfl, rfl, e4, by omega, by omega, ?_, hw, k _ _ _ _ (P1.trans (Post.wr P1.rel (lt_of_L P1.rel hs) (by rw [ef]; exact List.mem_singleton_self p) (pl_lst _) e4 (fun _ z => by cases z) ?_)) rw'⟩
        · unfold seqIndex?
          have hn : ¬ j < 0 := by omega
          have hl2 : j < vs.length := by omega
          simp [hn, hl2, hj.1]
        · exact ⟨p, _, ef, e0, e2, upd_same, rr.eraseIdx _⟩
    · simp only [if_neg hj] at h5
      exact (fail_some h5).elim
  | _ => exact (fail_some h5).elim
end
end PL
set_option maxHeartbeats 1000000
/-! PLs16: a thing that is lent. -/
namespace PL
open PySem PySem.Spec PyProof.Rows L2
section
variable {K : PySem.W.Frag} {C : Gx} {F F' F2 H H' H2 : Hp} {ρ ρ' ρ2 : PL.Env} {σ : L2.St} {fps fps2 : Fps}
theorem scalar_RD {v : V} {x : Val} (h : RD K C F v x) (s : scalar x = true) : RD K C F' v x := by
  cases h with
  | non => exact .non
  | bl b => exact .bl b
  | int i => exact .int i
  | str z => exact .str z
  | _ => cases s
theorem scalar_RDs : ∀ {vs : List V} {xs : List Val}, RDs K C F vs xs → xs.all scalar = true → RDs K C F' vs xs
  | _, _, .nil, _ => .nil
  | _, _, .cons r t, h => by
    rw [List.all_cons, Bool.and_eq_true] at h
    exact .cons (scalar_RD r h.1) (scalar_RDs t h.2)
theorem scalar_RKs : ∀ {vs : List (Key × V)} {xs : List (Val × Val)}, RKs K C F vs xs → (xs.all fun kv => scalar kv.2) = true → RKs K C F' vs xs
  | _, _, .nil, _ => .nil
  | _, _, .cons r t, h => by
    rw [List.all_cons, Bool.and_eq_true] at h
    exact .cons (scalar_RD r h.1) (scalar_RKs t h.2)
theorem backE_at : ∀ {a b c : PL.Env}, backE a b = some c → c.length = a.length ∧ ∀ i, i < a.length → back1 (gs a i) (gs b i) = some (gs c i)
  | [], [], c, h => by cases h; exact ⟨rfl, fun i hi => by simp at hi⟩
  | [], _ :: _, c, h => by cases h
  | _ :: _, [], c, h => by cases h
  | x :: r, y :: t, c, h => by
    unfold backE at h
    split at h
    · rename_i z hz
      split at h
      · rename_i q hq
        cases h
        obtain ⟨h1, h2⟩ := backE_at hq
        refine ⟨by rw [List.length_cons, List.length_cons, h1], fun i hi => ?_⟩
        cases i with
        | zero => exact hz
        | succ i => exact h2 i (by simpa using hi)
      · cases h
    · cases h
theorem gs_ge : ∀ {ρ : PL.Env} {i : Nat}, ρ.length ≤ i → gs ρ i = .u
  | [], _, _ => rfl
  | _ :: _, 0, h => by simp at h
  | _ :: r, i + 1, h => gs_ge (ρ := r) (by simpa using h)
/-- what a slot owns -/
def ownsL (s : Slot) (fp : List Addr) : List Addr := match s with
  | .L _ => fp
  | .D _ _ => fp
  | _ => []
theorem back1_at {F3 : Hp} {o : Option (Option V)} {s s' t : Slot} {fp fp' : List Addr} (h : back1 s s' = some t) (A : SlotAt K C F H o s fp) (B : SlotAt K C F2 H2 o s' fp') (up : FSub F F3) (sub : FSub F3 F2) : SlotAt K C F3 H2 o t (ownsL t fp') := by
  unfold back1 at h
  split at h
  · cases h; rfl
  · cases h
    obtain ⟨_, v, e, r⟩ := A
    exact ⟨rfl, v, e, r.sub up⟩
  · split at h
    · rename_i l hl
      cases h
      obtain ⟨p, vs, rfl, e, f, g, r⟩ := B
      exact ⟨p, vs, rfl, e, sub.none f, g, scalar_RDs r hl⟩
    · cases h
  · split at h
    · rename_i kvs hl
      cases h
      obtain ⟨p, vs, rfl, e, f, g, r⟩ := B
      exact ⟨p, vs, rfl, e, sub.none f, g, scalar_RKs r hl⟩
    · cases h
  · cases h
    obtain ⟨p, vs, rfl, e, f, g, r⟩ := B
    cases r
    exact ⟨p, [], rfl, e, sub.none f, g, .nil⟩
  · cases h
    exact ⟨rfl, A.2.1, up _ _ A.2.2.1, A.2.2.2.trans up⟩
  · cases h
theorem pl_owned_LL : ∀ {qs : List Addr} {xss : List (List Val)}, Paired (fun q xs => F q = none ∧ ∃ vs, H q = some (.lst vs) ∧ RDs K C F vs xs) qs xss → ∀ a ∈ qs, ∃ x, H a = some x ∧ Pl x
  | _, _, .nil, a, ha => by cases ha
  | _, _, .cons r t, a, ha => by
    rcases List.mem_cons.mp ha with e | hb
    · subst e; obtain ⟨_, vs, hv, _⟩ := r; exact ⟨_, hv, pl_lst _⟩
    · exact pl_owned_LL t a hb
theorem SlotAt.pl {o : Option (Option V)} : ∀ {s : Slot} {fp : List Addr}, SlotAt K C F H o s fp → ∀ a ∈ fp, ∃ x, H a = some x ∧ Pl x
  | .u, _, h, a, ha => by rw [show _ = [] from h] at ha; cases ha
  | .v _, _, h, a, ha => by rw [h.1] at ha; cases ha
  | .L _, _, ⟨p, vs, e, _, f, g, _⟩, a, ha => by
    subst e; obtain rfl := List.mem_singleton.mp ha; exact ⟨_, g, pl_lst _⟩
  | .D false _, _, ⟨p, vs, e, _, f, g, _⟩, a, ha => by
    subst e; obtain rfl := List.mem_singleton.mp ha; exact ⟨_, g, pl_dK _⟩
  | .D true _, _, ⟨p, vs, e, _, f, g, _⟩, a, ha => by
    subst e; obtain rfl := List.mem_singleton.mp ha; exact ⟨_, g, pl_dX _ _ _ _⟩
  | .LL xss, _, ⟨p, qs, e, _, f, g, nd, pr⟩, a, ha => by
    subst e
    rcases List.mem_cons.mp ha with e | hb
    · subst e; exact ⟨_, g, pl_lst _⟩
    · exact pl_owned_LL pr a hb
  | .f _, _, h, a, ha => by rw [h.1] at ha; cases ha
open Classical in
/-- the code objects that F2 knows are kept -/
noncomputable def codesOf (F F2 : Hp) : Hp := fun a => if ∃ q, F2 a = some (LamX.CodeO a q) then F2 a else F a
theorem codes_up (h : FSub F F2) : FSub F (codesOf F F2) := fun a o e => by
  unfold codesOf
  split
  · exact h a o e
  · exact e
theorem codes_le (h : FSub F F2) : FSub (codesOf F F2) F2 := fun a o e => by
  unfold codesOf at e
  split at e
  · exact e
  · exact h a o e
theorem codes_in {a : Addr} {q : Str} (h : F2 a = some (LamX.CodeO a q)) : codesOf F F2 a = some (LamX.CodeO a q) := by
  unfold codesOf
  rw [if_pos ⟨q, h⟩]; exact h
theorem codes_no {a : Addr} {x : HO} (h : F2 a = some x) (p : Pl x) : codesOf F F2 a = F a := by
  unfold codesOf
  rw [if_neg]
  rintro ⟨q, e⟩
  rw [h] at e
  exact p.c a q (Option.some.inj e)
theorem FSub.none' {F G : Hp} (h : FSub F G) {a : Addr} (e : G a = Option.none) : F a = Option.none := h.none e
theorem Post.back {s : Nat} {y : Val} {q : PL.Env} (R : Rel K C F H ρ σ fps) (he : frz1 (gs ρ s) = .v y) (P : Post K C (over F H (fps s)) H (fpsW fps s []) ρ' σ F2 H2 fps2) (hb : backE (ss ρ s .u) ρ' = some q) :
    ∃ F3 fps3, Post K C F H fps (ss q s (gs ρ s)) σ F3 H2 fps3 := by
  obtain ⟨hl, hat⟩ := backE_at hb
  rw [ss_length] at hl hat
  have hs : s < ρ.length := gs_lt fun z => by rw [z] at he; cases he
  have hf : ∀ a ∈ fps s, F a = none := fun a ha => ((R.at_ s).free a ha).1
  have s1 : FSub F (over F H (fps s)) := over_sub hf
  have s2 : FSub F F2 := s1.trans P.ext
  have stay : ∀ a ∈ fps s, ∀ x, H a = some x → H2 a = some x := fun a ha x g => P.rel.sub a x (P.ext a x (by rw [over_in ha]; exact g))
  have disj : ∀ j a, j ≠ s → a ∈ fps2 j → a ∉ fps s := fun j a hj ha hs' => by
    obtain ⟨_, x, g⟩ := (R.at_ s).free a hs'
    rcases P.own j a ha with ⟨k, hk⟩ | hn
    · by_cases hks : k = s
      · subst hks; rw [fpsW_same] at hk; cases hk
      · rw [fpsW_ne hks] at hk
        exact hks (R.dis k s a hk hs')
    · rw [g] at hn; cases hn
  have c1 : FSub F (codesOf F F2) := codes_up s2
  have c2 : FSub (codesOf F F2) F2 := codes_le s2
  have hf3 : ∀ a ∈ fps s, codesOf F F2 a = none := fun a ha => by
    obtain ⟨x, g, px⟩ := (R.at_ s).pl a ha
    rw [codes_no (P.ext a x (by rw [over_in ha]; exact g)) px]; exact hf a ha
  refine ⟨codesOf F F2, fun j => if j = s then fps s else ownsL (gs q j) (fps2 j), ⟨c2.trans P.rel.sub, by rw [ss_length, hl]; exact R.len, fun j => ?_, fun i j a hi hj => ?_, fun p hp => ⟨?_, ?_⟩⟩, c1, fun a o h n t => ?_, P.tbs, fun a o h => ?_, fun i a hi => ?_⟩
  · by_cases hj : j = s
    · subst hj
      rw [gs_ss_same (by rw [hl]; exact hs), if_pos rfl]
      exact (R.at_ j).grow c1 hf3 stay
    · rw [gs_ss_ne hj, if_neg hj]
      by_cases hjl : j < ρ.length
      · have hb1 := hat j hjl
        rw [gs_ss_ne hj] at hb1
        exact back1_at hb1 (R.at_ j) (P.rel.at_ j) c1 c2
      · rw [gs_ge (by rw [hl]; omega)]
        rfl
  · have sub : ∀ {i : Nat}, i ≠ s → a ∈ ownsL (gs q i) (fps2 i) → a ∈ fps2 i := fun {i} _ h => by
      unfold ownsL at h
      split at h <;> first | exact h | cases h
    by_cases ei : i = s
    · by_cases ej : j = s
      · rw [ei, ej]
      · rw [if_pos ei] at hi; rw [if_neg ej] at hj
        exact (disj j a ej (sub ej hj) hi).elim
    · by_cases ej : j = s
      · rw [if_neg ei] at hi; rw [if_pos ej] at hj
        exact (disj i a ei (sub ei hi) hj).elim
      · rw [if_neg ei] at hi; rw [if_neg ej] at hj
        exact P.rel.dis i j a (sub ei hi) (sub ej hj)
  · obtain ⟨⟨ps, h1, h2, h3⟩, _⟩ := P.rel.tab p hp
    exact ⟨ps, h1, h2, fun pos cv hc => by obtain ⟨c, e1, e2⟩ := h3 pos cv hc; exact ⟨c, e1, codes_in e2⟩⟩
  · exact c2.none (P.rel.tab p hp).2
  · refine P.keep a o h (fun i => ?_) t
    by_cases hi : i = s
    · subst hi; rw [fpsW_same]; exact List.not_mem_nil
    · rw [fpsW_ne hi]; exact n i
  · rcases P.new a o (c2 a o h) with e | e | ⟨i, e⟩
    · by_cases hs2 : a ∈ fps s
      · exact .inr (.inr ⟨s, hs2⟩)
      · unfold over at e; rw [if_neg hs2] at e; exact .inl e
    · exact .inr (.inl e)
    · by_cases hi : i = s
      · subst hi; rw [fpsW_same] at e; cases e
      · rw [fpsW_ne hi] at e; exact .inr (.inr ⟨i, e⟩)
  · by_cases ei : i = s
    · rw [if_pos ei] at hi; exact .inl ⟨s, hi⟩
    · rw [if_neg ei] at hi
      have hi2 : a ∈ fps2 i := by
        unfold ownsL at hi
        split at hi <;> first | exact hi | cases hi
      rcases P.own i a hi2 with ⟨k, hk⟩ | hn
      · by_cases hks : k = s
        · subst hks; rw [fpsW_same] at hk; cases hk
        · rw [fpsW_ne hks] at hk; exact .inl ⟨k, hk⟩
      · exact .inr hn
end
theorem borrow_some {K : PySem.W.Frag} {C : Gx} {F H : Hp} {ρ ρ' : PL.Env} {σ : L2.St} {fps : Fps} {s : Nat} {m : M Val} {x : Val} (R : Rel K C F H ρ σ fps) (h : borrowM s m ρ = some (x, ρ')) :
    ∃ F1 ρ1 fps1 ρ2, Rel K C F1 H ρ1 σ fps1 ∧ m ρ1 = some (x, ρ2) ∧ scalar x = true ∧ ∀ F2 H2 fps2, Post K C F1 H fps1 ρ2 σ F2 H2 fps2 → ∃ F3 fps3, Post K C F H fps ρ' σ F3 H2 fps3 := by
  unfold borrowM at h
  split at h
  · rename_i y hy
    split at h
    · rename_i x ρ1 hx
      split at h
      · rename_i hsc
        split at h
        · rename_i q hq
          cases h
          obtain ⟨v, ev, rv, P0⟩ := Post.frozen R hy
          exact ⟨_, _, _, ρ1, P0.rel, hx, hsc, fun F2 H2 fps2 P2 => Post.back R hy P2 hq⟩
        · cases h
      · cases h
    · cases h
  · cases h
section
variable {X : Cx} {C : Gx}
theorem snd_borrow {s : Nat} {e : Expr} {m : M Val} (h : SE X C e m) : SE X C e (borrowM s m) := PE.imp h fun σ H Q ⟨F, ρ, fps, z, ρ', R, h, k⟩ => by
  obtain ⟨F1, ρ1, fps1, ρ2, R1, h1, hs, kk⟩ := borrow_some R h
  refine ⟨F1, ρ1, fps1, z, ρ2, R1, h1, fun w F2 H2 fps2 P2 rw' => ?_⟩
  obtain ⟨F3, fps3, P3⟩ := kk F2 H2 fps2 P2
  exact k w F3 H2 fps3 P3 (scalar_RD rw' hs)
theorem sb_borrow {s : Nat} {e : Expr} {m : M Val} (h : SB X C e (boolM m)) : SB X C e (boolM (borrowM s m)) := PT.imp h fun σ H Q ⟨F, ρ, fps, b, ρ', R, h, k⟩ => by
  obtain ⟨F1, ρ1, fps1, ρ2, R1, h1, hs, kk⟩ := borrow_some R (boolM_some h)
  refine ⟨F1, ρ1, fps1, b, ρ2, R1, by unfold boolM bnd; rw [h1]; rfl, fun F2 H2 fps2 P2 => ?_⟩
  obtain ⟨F3, fps3, P3⟩ := kk F2 H2 fps2 P2
  exact k F3 H2 fps3 P3
end
end PL
set_option maxHeartbeats 1000000
/-! PLe: enumerate of lists, tuples and texts. -/
namespace PL
open PySem PySem.Spec PyProof.Rows L2
theorem enum_newB {v : Value} {o : Obj} {G : Heap → Prop} (B : Begins v o G) :
    Meets (Builtin.«enumerate.__new__» ⟨[.type "enumerate", v], []⟩) (fun _ R s => G s.heap ∧
      R (.ok (.ret (.ref (s.heap.push o).objs.size))) { s with heap := (s.heap.push o).push { cls := .type "enumerate", data := .fields #[.none, .bool false, .ref s.heap.objs.size, rawInt 0, .none, .none] } }) :=
  .of_wp fun prog w A R s h => by
    obtain ⟨hp, g, d, tk, os⟩ := s; obtain ⟨h1, h⟩ := h
    have hsub := sub_enumerate
    have q1 : ∀ {A' : Around} {E : Value → Shared → Prop} {Q : Value → Shared → Prop}, Q (.ref hp.objs.size) ⟨hp.push o, g, d, tk, os⟩ → wpAny (model prog w) A' (pyIter v) Q E ⟨hp, g, d, tk, os⟩ := fun q => B.iter prog w _ _ ⟨hp, g, d, tk, os⟩ _ h1 q
    wp_walk using q1
    refine wpAny_stack_any fun st => wpAny_pure ?_
    split
    · rename_i c _ _ _ _ _
      cases (c == Value.type "enumerate") <;> (wp_walk using q1; exact ⟨_, rfl, h⟩)
    · wp_walk using q1
      exact ⟨_, rfl, h⟩
theorem enum_call {prog : Program} {w : World} {A : Around} {E : Value → Shared → Prop} {s : Shared} {v : Value} {o : Obj} {G : Heap → Prop} {Q : Value → Shared → Prop} (B : Begins v o G) (h1 : G s.heap)
    (h : ∀ h', IsEnum h' (s.heap.objs.size + 1) s.heap.objs.size 0 .none → h'.get? s.heap.objs.size = some o → h'.objs.size = s.heap.objs.size + 2 → (∀ b o, s.heap.get? b = some o → h'.get? b = some o) → Q (.ref (s.heap.objs.size + 1)) { s with heap := h' }) :
    wpAny (model prog w) A (call (.type "enumerate") [v]) Q E s := by
  refine callType_new F.called_enumerate (by decide) (F.typeCall_enumerate_1 _) (F.newCall_enumerate_1 _) (fun obj => F.args_object_init_2 obj _) F.entry_enumerate_new (enum_newB B) ⟨h1, ?_⟩
  have hz : (s.heap.push o).objs.size = s.heap.objs.size + 1 := Heap.size_push ..
  show _ ∧ _
  rw [hz]
  have he : IsEnum ((s.heap.push o).push { cls := .type "enumerate", data := .fields #[.none, .bool false, .ref s.heap.objs.size, rawInt 0, .none, .none] }) (s.heap.objs.size + 1) s.heap.objs.size 0 .none := by
    have := Heap.get?_push_size (s.heap.push o) (o := { cls := .type "enumerate", data := .fields #[.none, .bool false, .ref s.heap.objs.size, rawInt 0, .none, .none] }) rfl
    rw [hz] at this; exact this
  exact ⟨⟨_, he, rfl⟩, h _ he (Heap.get?_push_of_some _ (Heap.get?_push_size _ B.free)) (by rw [Heap.size_push, hz]) fun b o x => Heap.get?_push_of_some _ (Heap.get?_push_of_some _ x)⟩
/-- pairs of a number and what stands there -/
def EnIt (Sq : Hp → List V → Prop) : It :=
  ⟨fun i H => ∃ (xs : List V) (x : V), Sq H xs ∧ xs[i]? = some x, fun i H v H' => ∃ T x, v = .ref T ∧ H T = none ∧ H' = upd H T (.tup [.int (i : Nat), x]) ∧ ∀ xs, Sq H xs → xs[i]? = some x, fun i H => ∃ xs : List V, Sq H xs ∧ xs.length = i⟩
/-- a source that is drawn from: what stands in the heap for it -/
structure Src (K : PySem.W.Frag) (Sq : Hp → List V → Prop) (Ti : Addr → Nat → Heap → Prop) : Prop where
  obj : ∀ it i h, Ti it i h → ∃ o, h.get? it = some o ∧ ∀ v, o.data ≠ .cell v
  keep : ∀ it i h h', Ti it i h → (∀ o, h.get? it = some o → h'.get? it = some o) → Ti it i h'
  inj : ∀ (X : Cx), X.K = K → ∀ pins σ H s, Inv X pins σ H s → ∀ xs ys, Sq H xs → Sq H ys → xs = ys
  dr : ∀ (X : Cx), X.K = K → ∀ pins σ H s, Inv X pins σ H s → ∀ xs it, Sq H xs → H it = none → X.A.handled = none → ∀ i, Ti it i s.heap →
    ∃ fp n P St, Draws X.prog X.w X.A.in1 it fp n P St ∧ n = xs.length ∧ St i s.heap ∧ (∀ j v, P j v → ∃ x, xs[j]? = some x ∧ RelV x v) ∧ (∀ j h', St j h' → Ti it j h') ∧ ∀ e o, s.heap.get? e = some o → o.cls = .type "enumerate" → e ∉ fp
theorem turn_en {P : Program} {w : World} {K : PySem.W.Frag} {elts : List Expr} {kk : Nat} {tpos : Pos} {Sq : Hp → List V → Prop} {Ti : Addr → Nat → Heap → Prop} (S : Src K Sq Ti) (e it : Addr) :
    Turn P w K (.Tuple elts kk tpos) (EnIt Sq) [e, it] e (fun i h => (∃ old, IsEnum h e it ((i : Nat) : Int) old) ∧ Ti it i h ∧ e ≠ it) where
  mem := by simp
  obj := fun i h ⟨⟨old, he⟩, hi, _⟩ b hb => by
    have e' : b = e ∨ b = it := by simpa using hb
    rcases e' with rfl | rfl
    · exact ⟨_, he, fun v q => nomatch q⟩
    · exact S.obj _ _ _ hi
  keep := fun i h h' ⟨⟨old, he⟩, hi, hne⟩ k => ⟨⟨old, k e (by simp) _ he⟩, S.keep _ _ _ _ hi fun o q => k it (by simp) o q, hne⟩
  item := by
    intro X hP hw hK hc i pins s σ H E I hf ⟨⟨old, he⟩, hit, hne⟩ ⟨xs, x, hq, hx⟩
    subst hP hw
    obtain ⟨fp, n, PP, St, D, rfl, st, hPP, hTi, hef⟩ := S.dr X hK pins σ H s I xs it hq (hf it (by simp)).1 (I.ok.hd hc) i hit
    have hlt : i < xs.length := (List.getElem?_eq_some_iff.mp hx).1
    have hel : e < s.heap.objs.size := Heap.lt_size he
    have hil : it < s.heap.objs.size := let ⟨_, q, _⟩ := S.obj _ _ _ hit; Heap.lt_size q
    refine wpAny_pyNext_enum_itemD D he st hlt hne (hef e _ he rfl) fun u h' tk hu ho st' hT hsz hk => ?_
    obtain ⟨x', hx', ru⟩ := hPP i u hu
    rw [hx] at hx'; cases hx'
    refine ⟨_, rfl, wpAny_letOwnedTupleGo_enum (s := { s with heap := h', toks := tk + 1 }) ho fun h'' he' sb => ?_⟩
    have hT2 : h''.get? s.heap.objs.size = some { cls := .type "tuple", data := .seq #[.int i tk, u] } := (sb.2 _ (Nat.ne_of_gt hel)).trans hT
    have new : ObjOk X.prog X.w (upd H s.heap.objs.size (.tup [.int (i : Nat), x])) h'' s.heap.objs.size (.tup [.int (i : Nat), x]) := ⟨by show 2 ≤ sizeLine; decide, [.int i tk, u], .cons ⟨_, rfl⟩ (.cons ru .nil), ⟨_, hT2, rfl, _, rfl⟩⟩
    have I1 : Inv X pins σ (upd H s.heap.objs.size (.tup [.int (i : Nat), x])) { s with heap := h'', toks := tk + 1 } :=
      I.turnedNew (ch := [e, it]) (fun b ob hb q => (sb.2 b (fun z => hb (by simp [z]))).trans (hk b ob (fun z => hb (by simp [z])) (fun z => hb (by simp [z])) q)) hf (Nat.le_refl _) new
    refine ⟨.ref s.heap.objs.size, _, I1, rfl, ⟨_, x, rfl, I.hok.fresh (Nat.le_refl _), rfl, fun ys hy => by rw [S.inj X hK pins σ H s I ys xs hy hq]; exact hx⟩, ⟨⟨u, ?_⟩, S.keep _ _ _ _ (hTi _ _ st') fun o q => (sb.2 it (Ne.symm hne)).trans q, hne⟩, fun b hb => ?_⟩
    · have e1 : ((i + 1 : Nat) : Int) = (i : Int) + 1 := by omega
      rw [e1]; exact he'
    · have hb' : b < s.heap.objs.size := by
        have e' : b = e ∨ b = it := by simpa using hb
        rcases e' with rfl | rfl
        · exact hel
        · exact hil
      rw [upd_ne (Nat.ne_of_lt hb')]
      exact (hf b hb).1
  done := by
    intro X hP hw hK hc i pins s σ H E I hf ⟨⟨old, he⟩, hit, hne⟩ ⟨xs, hq, hx⟩
    subst hP hw
    obtain ⟨fp, n, PP, St, D, rfl, st, hPP, hTi, hef⟩ := S.dr X hK pins σ H s I xs it hq (hf it (by simp)).1 (I.ok.hd hc) i hit
    obtain ⟨f0, f1, f2, f3, f4, f5⟩ := hf it (by simp)
    subst hx
    exact wpAny_pyNext_enum_endD D he st fun h' eb => ⟨rfl, I.turned (t' := s.toks) (fun b o hb q => eb b o hb q) f0 f1 f3 f4 f5⟩
  self := fun A i s Q E ⟨⟨_, he⟩, _⟩ h => wpAny_pyIter_enum he h
theorem heap_ne {h : Heap} {a b : Addr} {o o' : Obj} (e : h.get? a = some o) (e' : h.get? b = some o') (n : o.cls ≠ o'.cls) : a ≠ b := fun z => by
  rw [z, e'] at e; cases e; exact n rfl
theorem src_list (K : PySem.W.Frag) (a : Addr) : Src K (fun H xs => SqL K H a xs) (fun it i h => h.IsListIter it a i) where
  obj := fun it i h ⟨o, ho, hc, hd⟩ => ⟨o, ho, fun v q => by rw [hd] at q; cases q⟩
  keep := fun it i h h' st k => st.at k
  inj := fun X hK pins σ H s I xs ys h1 h2 => by subst hK; exact I.list_inj h1 h2
  dr := fun X hK pins σ H s I xs it hq hn hh i st => by
    subst hK
    obtain ⟨its, rv, pl, hz⟩ := I.list hq
    have hl := pl.isList
    obtain ⟨oi, hoi, hci, _⟩ := id st
    obtain ⟨ol, hol, hcl, _⟩ := id hl
    refine ⟨_, _, _, _, Draws.list (A := X.A.in1) hh it a (heap_ne hol hoi (by rw [hcl, hci]; decide)) its.toArray, by rw [List.size_toArray]; exact rv.length.symm, ⟨st, hl⟩, fun j v hv => ?_, fun j h' hs => hs.1, fun e o he hc hm => ?_⟩
    · have hv' : its[j]? = some v := by simpa using hv
      have hlt : j < xs.length := by rw [rv.length]; exact (List.getElem?_eq_some_iff.mp hv').1
      obtain ⟨u, hu, ru⟩ := rv.get (List.getElem?_eq_getElem hlt)
      rw [hv'] at hu; cases hu
      exact ⟨_, List.getElem?_eq_getElem hlt, ru⟩
    · simp only [List.mem_cons, List.not_mem_nil, or_false] at hm
      rcases hm with rfl | rfl
      · exact heap_ne he hoi (by rw [hc, hci]; decide) rfl
      · exact heap_ne he hol (by rw [hc, hcl]; decide) rfl
theorem src_tup (K : PySem.W.Frag) (a : Addr) : Src K (fun H xs => SqT K H a xs) (fun it i h => h.IsTupleIter it a i) where
  obj := fun it i h ⟨o, ho, hc, hd⟩ => ⟨o, ho, fun v q => by rw [hd] at q; cases q⟩
  keep := fun it i h h' st k => st.at k
  inj := fun X hK pins σ H s I xs ys h1 h2 => by subst hK; exact I.tuple_inj h1 h2
  dr := fun X hK pins σ H s I xs it hq hn hh i st => by
    subst hK
    obtain ⟨its, rv, hl, hz⟩ := I.tuple hq
    obtain ⟨oi, hoi, hci, _⟩ := id st
    obtain ⟨ol, hol, hcl, _⟩ := id hl
    refine ⟨_, _, _, _, Draws.tuple (A := X.A.in1) hh it a (heap_ne hol hoi (by rw [hcl, hci]; decide)) its.toArray, by rw [List.size_toArray]; exact rv.length.symm, ⟨st, hl⟩, fun j v hv => ?_, fun j h' hs => hs.1, fun e o he hc hm => ?_⟩
    · have hv' : its[j]? = some v := by simpa using hv
      have hlt : j < xs.length := by rw [rv.length]; exact (List.getElem?_eq_some_iff.mp hv').1
      obtain ⟨u, hu, ru⟩ := rv.get (List.getElem?_eq_getElem hlt)
      rw [hv'] at hu; cases hu
      exact ⟨_, List.getElem?_eq_getElem hlt, ru⟩
    · simp only [List.mem_cons, List.not_mem_nil, or_false] at hm
      rcases hm with rfl | rfl
      · exact heap_ne he hoi (by rw [hc, hci]; decide) rfl
      · exact heap_ne he hol (by rw [hc, hcl]; decide) rfl
/-- a text's signs -/
def signsV (x : Str) : List V := x.cps.toList.map fun c => V.str (S [c])
theorem src_str (K : PySem.W.Frag) (x : Str) (t : Tok) : Src K (fun _ xs => xs = signsV x) (fun it i h => h.IsStrIter it (strIterType x) x t i) where
  obj := fun it i h ⟨o, ho, hc, hd⟩ => ⟨o, ho, fun v q => by rw [hd] at q; cases q⟩
  keep := fun it i h h' ⟨o, ho, r⟩ k => ⟨o, k o ho, r⟩
  inj := fun X hK pins σ H s I xs ys h1 h2 => h1.trans h2.symm
  dr := fun X hK pins σ H s I xs it hq hn hh i st => by
    subst hq
    obtain ⟨oi, hoi, hci, _⟩ := id st
    refine ⟨_, _, _, _, Draws.text (A := X.A.in1) hh it x t, by simp [signsV], st, fun j v ⟨c, u, hc, hv⟩ => ⟨.str (S [c]), ?_, u, ?_⟩, fun j h' hs => hs, fun e o he hc hm => ?_⟩
    · simp only [signsV, List.getElem?_map]
      rw [Array.getElem?_toList, hc]; rfl
    · rw [hv]; rfl
    · simp only [List.mem_cons, List.not_mem_nil, or_false] at hm
      subst hm
      refine heap_ne he hoi ?_ rfl
      rw [hc, hci]
      unfold strIterType
      split <;> decide
/-- enumerate(e) -/
def iEn (K : PySem.W.Frag) (ta : TA) : TI := fun σ H R => ta σ H fun vs H1 => (∃ a xs, vs = [.ref a] ∧ SqL K H1 a xs ∧ R (EnIt fun H xs => SqL K H a xs) H1) ∨ (∃ a xs, vs = [.ref a] ∧ SqT K H1 a xs ∧ R (EnIt fun H xs => SqT K H a xs) H1) ∨ ∃ x, vs = [.str x] ∧ R (EnIt fun _ xs => xs = signsV x) H1
theorem en_fin {X : Cx} {pins : List (Addr × Obj)} {σ : L2.St} {H : Hp} {s : Shared} {elts : List Expr} {kk : Nat} {tpos : Pos} {R : It → Hp → Prop} {E : Value → Shared → Prop} {Sq : Hp → List V → Prop} {Ti : Addr → Nat → Heap → Prop} {v : Value} {o : Obj} {G : Heap → Prop} (I : Inv X pins σ H s) (Sr : Src X.K Sq Ti) (B : Begins v o G) (h1 : G s.heap)
    (hT : ∀ h' : Heap, h'.get? s.heap.objs.size = some o → Ti s.heap.objs.size 0 h') (q : R (EnIt Sq) H) : wpAny (model X.prog X.w) X.A (call (.type "enumerate") [v]) (fun v s1 => wpAny (model X.prog X.w) X.A (pyIter v) (PIE X pins σ (.Tuple elts kk tpos) R) E s1) E s := by
  refine enum_call B h1 fun h' he ho hsz hk => wpAny_pyIter_enum he ?_
  have I2 : Inv X pins σ H { s with heap := h' } := I.kept (t' := s.toks) hk
  refine ⟨s.heap.objs.size + 1, [s.heap.objs.size + 1, s.heap.objs.size], _, _, H, rfl, I2, turn_en Sr (s.heap.objs.size + 1) s.heap.objs.size, ⟨⟨.none, he⟩, hT h' ho, Nat.succ_ne_self _⟩, fun b hb => ?_, q⟩
  have e' : b = s.heap.objs.size + 1 ∨ b = s.heap.objs.size := by simpa using hb
  have hle : s.heap.objs.size ≤ b := by
    rcases e' with z | z
    · rw [z]; exact Nat.le_add_right _ _
    · rw [z]; exact Nat.le_refl _
  exact I.fpOk hle (I.hok.fresh hle)
theorem pi_en {X : Cx} {e : Expr} {ta : TA} {p pos tpos : Pos} {elts : List Expr} {kk : Nat} (hg : Gl X "enumerate") (hm : X.mg "enumerate" = none) (ha : PA X [e] ta) (hs : starEach [e] X.env = [(false, eval e X.env)]) :
    PI X (.Tuple elts kk tpos) (.Call (.Name "enumerate" p) [e] [] pos) (iEn X.K ta) := by
  refine ⟨fun pins s σ H R I h => ?_⟩
  refine Call_ (ld_blt I hg hm rfl (PyProof.Rows.callWith_type1 (thn (ha.run pos pins s σ H _ I h) fun us s1 ⟨vs, H1, I1, r1, q1⟩ => ?_) hs rfl) (by decide) (by decide))
  rcases q1 with ⟨a, xs, rfl, hq, q⟩ | ⟨a, xs, rfl, hq, q⟩ | ⟨x, rfl, q⟩
  · obtain ⟨u, rfl, ru⟩ := vals1 r1
    cases ru
    obtain ⟨its, rv, pl, hz⟩ := I1.list hq
    exact en_fin I1 (src_list X.K a) (begins_list a its.toArray) pl.isList (fun h' ho => ⟨_, ho, rfl, rfl⟩) q
  · obtain ⟨u, rfl, ru⟩ := vals1 r1
    cases ru
    obtain ⟨its, rv, ht, hz⟩ := I1.tuple hq
    exact en_fin I1 (src_tup X.K a) (begins_tuple a its.toArray) ht (fun h' ho => ⟨_, ho, rfl, rfl⟩) q
  · obtain ⟨u, rfl, ru⟩ := vals1 r1
    obtain ⟨t, rfl⟩ := ru
    exact en_fin I1 (src_str X.K x t) (begins_text x t) trivial (fun h' ho => ⟨_, ho, rfl, rfl⟩) q
end PL
set_option maxHeartbeats 1000000
/-! PLs17: names stored, things unpacked; what is walked. -/
namespace PL
open PySem PySem.Spec PyProof.Rows L2
section
variable {K : PySem.W.Frag} {C : Gx} {F F' H H' : Hp} {ρ ρ' : PL.Env} {σ σ' : L2.St} {fps fps' : Fps}
theorem Post.set {i : Nat} {v : V} {x : Val} (R : Rel K C F H ρ σ fps) (hi : i < σ.length) (r : RD K C F v x) : Post K C F H fps (ss ρ i (.v x)) (σ.set i (some v)) F H (fpsW fps i []) where
  rel := by
    have hi' : i < ρ.length := by rw [R.len]; exact hi
    refine ⟨R.sub, by rw [ss_length, List.length_set]; exact R.len, fun j => ?_, fun j k a hj hk => ?_, R.tab⟩
    · by_cases hj : j = i
      · subst hj
        rw [gs_ss_same hi', fpsW_same, List.getElem?_set_self hi]
        exact ⟨rfl, v, rfl, r⟩
      · rw [gs_ss_ne hj, fpsW_ne hj, List.getElem?_set_ne (Ne.symm hj)]
        exact R.at_ j
    · by_cases ej : j = i
      · subst ej; rw [fpsW_same] at hj; cases hj
      · by_cases ek : k = i
        · subst ek; rw [fpsW_same] at hk; cases hk
        · rw [fpsW_ne ej] at hj; rw [fpsW_ne ek] at hk; exact R.dis j k a hj hk
  ext := FSub.refl _
  keep := fun a o h _ _ => h
  tbs := Tbs.refl _
  new := fun a o h => .inl h
  own := fun j a h => by
    by_cases ej : j = i
    · subst ej; rw [fpsW_same] at h; cases h
    · rw [fpsW_ne ej] at h; exact .inl ⟨j, h⟩
/-- a pair that a walk hands out, or data -/
def Itm (K : PySem.W.Frag) (C : Gx) (F H : Hp) (v : V) (x : Val) : Prop := RD K C F v x ∨ ∃ a vs ds, v = .ref a ∧ H a = some (.tup vs) ∧ x = .tuple ds ∧ RDs K C F vs ds
theorem Itm.unp {v : V} {x : Val} {ds : List Val} (sub : FSub F H) (h : Itm K C F H v x) (e : unpV x = some ds) : ∃ a vs, v = .ref a ∧ (SqT K H a vs ∨ SqL K H a vs) ∧ RDs K C F vs ds := by
  rcases h with h | ⟨a, vs, ds', rfl, ha, rfl, r⟩
  · unfold unpV at e
    split at e
    · cases e
      obtain ⟨a, vs, rfl, ea, ra⟩ := h.tup_inv
      exact ⟨a, vs, rfl, .inl (SqT.sub sub ea), ra⟩
    · cases e
      obtain ⟨a, vs, rfl, ea, ra⟩ := h.lst_inv
      exact ⟨a, vs, rfl, .inr (SqL.of (sub _ _ ea)), ra⟩
    · cases e
  · cases e
    exact ⟨a, vs, rfl, .inl (SqT.of ha), r⟩
/-- outside of what a target names nothing is changed -/
def Off (l : List Nat) (σ σ' : L2.St) : Prop := ∀ j, j ∉ l → σ'[j]? = σ[j]?
theorem Off.refl (l : List Nat) (σ : L2.St) : Off l σ σ := fun _ _ => rfl
theorem Off.trans {l m : List Nat} {σ1 : L2.St} (h : Off l σ σ1) (k : Off m σ1 σ') : Off (l ++ m) σ σ' := fun j hj => by
  rw [List.mem_append, not_or] at hj
  rw [k j hj.2, h j hj.1]
end
section
variable {X : Cx} {C : Gx}
/-- a target -/
def tG (K : PySem.W.Frag) (C : Gx) (t : Tg) : TG := fun v σ H Q => ∃ F ρ fps x ρ', Rel K C F H ρ σ fps ∧ Itm K C F H v x ∧ asgT t x ρ = some ρ' ∧
  ((∃ i, t = .n i) → RD K C F v x) ∧ ∀ σ' fps', Post K C F H fps ρ' σ' F H fps' → Off (tgIdx t) σ σ' → Q σ' H
def tGs (K : PySem.W.Frag) (C : Gx) (t : Tg) : TGs := fun vs σ H Q => ∃ F ρ fps xs ρ', Rel K C F H ρ σ fps ∧ RDs K C F vs xs ∧ asgTs t xs ρ = some ρ' ∧
  ∀ σ' fps', Post K C F H fps ρ' σ' F H fps' → Off (tgIdx t) σ σ' → Q σ' H
theorem PG.imp {e : Expr} {t t' : TG} (h : PG X e t) (k : ∀ v σ H Q, t' v σ H Q → t v σ H Q) : PG X e t' := ⟨fun pins s σ H v u Q I r q => h.run pins s σ H v u Q I r (k v σ H Q q)⟩
theorem PGs.imp {e : List Expr} {t t' : TGs} (h : PGs X e t) (k : ∀ v σ H Q, t' v σ H Q → t v σ H Q) : PGs X e t' := ⟨fun pins s σ H v u Q I r q => h.run pins s σ H v u Q I r (k v σ H Q q)⟩
theorem PG.or {e : Expr} {t t' : TG} (h : PG X e t) (h' : PG X e t') : PG X e (fun v σ H Q => t v σ H Q ∨ t' v σ H Q) :=
  ⟨fun pins s σ H v u Q I r q => q.elim (h.run pins s σ H v u Q I r) (h'.run pins s σ H v u Q I r)⟩
theorem tg_name {i : Nat} {x : Str} {pos : Pos} (hN : X.N.Nodup) (hi : X.N[i]? = some x) (hx : Loc X.env.scope x) (hf : X.fn x = true ∨ X.env.scope.names.lookup x = some .local) (hl : i < X.N.length) : PG X (.Name x pos) (tG X.K C (.n i)) :=
  ⟨fun pins s σ H v u Q I r ⟨F, ρ, fps, y, ρ', R, it, e, hn, k⟩ => by
    have rd := hn ⟨i, rfl⟩
    refine (pg_name hN hi hx hf).run pins s σ H v u Q I r ?_
    cases e
    refine k _ _ (Post.set R (by rw [I.len]; exact hl) rd) fun j hj => ?_
    have hne : i ≠ j := fun z => hj (by rw [z]; exact List.mem_singleton_self j)
    rw [List.getElem?_set_ne hne]⟩
theorem tgs_nil : PGs X [] (tGs X.K C .nil) := PGs.imp pgs_nil fun vs σ H Q ⟨F, ρ, fps, xs, ρ', R, rd, e, k⟩ => by
  cases xs with
  | nil => cases rd; cases e; exact ⟨rfl, k _ _ (Post.refl R) (Off.refl _ _)⟩
  | cons _ _ => cases e
theorem tgs_cons {e : Expr} {es : List Expr} {t ts : Tg} (h1 : PG X e (tG X.K C t)) (h2 : PGs X es (tGs X.K C ts)) (hs : (assignEach (e :: es) X.env).map (·.2) = assign e X.env :: (assignEach es X.env).map (·.2)) : PGs X (e :: es) (tGs X.K C (.cons t ts)) :=
  PGs.imp (pgs_cons h1 h2 hs) fun vs σ H Q ⟨F, ρ, fps, xs, ρ', R, rd, e, k⟩ => by
    cases xs with
    | nil => cases e
    | cons y ys =>
      cases rd with
      | cons r1 r2 =>
        unfold asgTs at e
        split at e
        · rename_i ρ1 h3
          refine ⟨_, _, rfl, F, ρ, fps, y, ρ1, R, .inl r1, h3, fun _ => r1, fun σ1 fps1 P1 o1 => ⟨F, ρ1, fps1, ys, ρ', P1.rel, r2, e, fun σ2 fps2 P2 o2 => ?_⟩⟩
          exact k σ2 fps2 (P1.trans P2) (o1.trans o2)
        · cases e
theorem asgTs_len : ∀ {t : Tg} {xs : List Val} {ρ ρ' : PL.Env} {es : List Expr}, asgTs t xs ρ = some ρ' → PGs X es (tGs X.K C t) → True := fun _ _ => trivial
/-- how many targets -/
def tgLen : Tg → Nat
  | .cons _ ts => tgLen ts + 1
  | _ => 0
theorem asgTs_length : ∀ {t : Tg} {xs : List Val} {ρ ρ' : PL.Env}, asgTs t xs ρ = some ρ' → xs.length = tgLen t
  | .n _, xs, _, _, h => by unfold asgTs at h; cases h
  | .nil, [], _, _, _ => rfl
  | .nil, _ :: _, _, _, h => by unfold asgTs at h; cases h
  | .cons t ts, [], _, _, h => by unfold asgTs at h; cases h
  | .cons t ts, y :: ys, _, _, h => by
    unfold asgTs at h
    split at h
    · rw [List.length_cons, asgTs_length h, tgLen]
    · cases h
theorem tg_tup {es : List Expr} {k : Nat} {pos : Pos} {t ts : Tg} (hc : X.calm = true) (h : PGs X es (tGs X.K C (.cons t ts))) (hn : (assignEach es X.env).length = tgLen (.cons t ts)) (hst : (assignEach es X.env).findIdx? (·.1) = none) :
    PG X (.Tuple es k pos) (tG X.K C (.cons t ts)) :=
  PG.imp (PG.or (pg_tup hc h hn hst) (pg_unl hc h hn hst)) fun v σ H Q ⟨F, ρ, fps, x, ρ', R, it, e, _, kk⟩ => by
    have e2 : ∃ ds, unpV x = some ds ∧ asgTs (.cons t ts) ds ρ = some ρ' := by
      unfold asgT at e
      split at e
      · rename_i y ys hu
        exact ⟨_, hu, e⟩
      · cases e
    obtain ⟨ds, hu, e2⟩ := e2
    obtain ⟨a, vs, rfl, hs, rd⟩ := it.unp R.sub hu
    have hlen : vs.length = tgLen (.cons t ts) := by rw [rd.length]; exact asgTs_length e2
    rcases hs with hs | hs
    · exact .inl ⟨a, vs, rfl, hs, hlen, F, ρ, fps, ds, ρ', R, rd, e2, kk⟩
    · exact .inr ⟨a, vs, rfl, hs, hlen, F, ρ, fps, ds, ρ', R, rd, e2, kk⟩
end
end PL
set_option maxHeartbeats 1000000
/-! PLs18: what is walked. -/
namespace PL
open PySem PySem.Spec PyProof.Rows L2
/-- the walk J is over the data xs -/
structure SeqIt (K : PySem.W.Frag) (C : Gx) (pr : Bool) (F : Hp) (J : It) (xs : List Val) : Prop where
  go : ∀ i H, FSub F H → i < xs.length → J.go i H
  stop : ∀ H, FSub F H → J.stop xs.length H
  yld : ∀ (i : Nat) H v H' x, FSub F H → xs[i]? = some x → J.yld i H v H' → (H' = H ∧ RD K C F v x) ∨ pr = true ∧ ∃ T vs ds, v = .ref T ∧ H T = none ∧ H' = upd H T (.tup vs) ∧ x = .tuple ds ∧ RDs K C F vs ds
def tSeq (K : PySem.W.Frag) (C : Gx) (pr : Bool) (m : M (List Val)) : TI := fun σ H R => ∃ F ρ fps xs ρ', Rel K C F H ρ σ fps ∧ m ρ = some (xs, ρ') ∧ ∀ J F' H' fps', Post K C F H fps ρ' σ F' H' fps' → SeqIt K C pr F' J xs → R J H'
abbrev SI (X : Cx) (C : Gx) (pr : Bool) (tg it : Expr) (m : M (List Val)) : Prop := PI X tg it (tSeq X.K C pr m)
theorem PI.or {X : Cx} {tg e : Expr} {t t' : TI} (h : PI X tg e t) (h' : PI X tg e t') : PI X tg e (fun σ H R => t σ H R ∨ t' σ H R) :=
  ⟨fun pins s σ H R I q => q.elim (h.run pins s σ H R I) (h'.run pins s σ H R I)⟩
theorem itemsM_some {m : M Val} {ρ ρ' : PL.Env} {xs : List Val} (h : itemsM m ρ = some (xs, ρ')) : m ρ = some (.list xs, ρ') := by
  obtain ⟨x, ρ1, h1, h2⟩ := bnd_some h
  split at h2
  · obtain ⟨rfl, rfl⟩ := ret_some h2; exact h1
  · exact (fail_some h2).elim
section
variable {K : PySem.W.Frag} {C : Gx} {F H : Hp}
theorem seq_list {a : Addr} {vs : List V} {xs : List Val} (e : F a = some (.lst vs)) (r : RDs K C F vs xs) : SeqIt K C false F (Itl K a) xs where
  go := fun i H sub hi => by
    have hv : i < vs.length := by rw [r.length]; exact hi
    exact ⟨vs, _, SqL.of (sub _ _ e), List.getElem?_eq_getElem hv⟩
  stop := fun H sub => ⟨vs, SqL.of (sub _ _ e), by rw [r.length]; exact Nat.le_refl _⟩
  yld := fun i H v H' x sub hx ⟨h1, h2⟩ => .inl ⟨h1, by
    obtain ⟨u, hu, ru⟩ := r.get hx
    have := h2 vs (SqL.of (sub _ _ e))
    rw [hu] at this; cases this; exact ru⟩
theorem seq_tup {a : Addr} {vs : List V} {xs : List Val} (e : SqT K F a vs) (r : RDs K C F vs xs) : SeqIt K C false F (Itt K a) xs where
  go := fun i H sub hi => by
    have hv : i < vs.length := by rw [r.length]; exact hi
    exact ⟨vs, _, SqT.sub sub e, List.getElem?_eq_getElem hv⟩
  stop := fun H sub => ⟨vs, SqT.sub sub e, by rw [r.length]; exact Nat.le_refl _⟩
  yld := fun i H v H' x sub hx ⟨h1, h2⟩ => .inl ⟨h1, by
    obtain ⟨u, hu, ru⟩ := r.get hx
    have := h2 vs (SqT.sub sub e)
    rw [hu] at this; cases this; exact ru⟩
theorem seq_str {z : Str} : SeqIt K C false F (Its z) (z.cps.toList.map fun c => .str (S [c])) where
  go := fun i H sub hi => by simpa [Its] using hi
  stop := fun H sub => by simp [Its]
  yld := fun i H v H' x sub hx ⟨h1, c, hc, hv⟩ => .inl ⟨h1, by
    subst hv
    rw [List.getElem?_map, Array.getElem?_toList, hc] at hx
    cases hx
    exact .str _⟩
theorem seq_range {lo : Int} {n : Nat} : SeqIt K C false F (Itr lo n) (rangeV lo n) where
  go := fun i H sub hi => by simpa [Itr, rangeV] using hi
  stop := fun H sub => by simp [Itr, rangeV]
  yld := fun i H v H' x sub hx ⟨h1, hv⟩ => .inl ⟨h1, by
    subst hv
    unfold rangeV at hx
    rw [List.getElem?_map] at hx
    cases z : (List.range n)[i]? with
    | none => rw [z] at hx; cases hx
    | some j =>
      rw [z] at hx
      obtain ⟨hj, e⟩ := List.getElem?_eq_some_iff.mp z
      rw [List.getElem_range] at e
      subst e
      cases hx
      exact .int _⟩
theorem enumV_get : ∀ {xs : List Val} {n : Int} {i : Nat} {y : Val}, (enumV n xs)[i]? = some y → ∃ x, xs[i]? = some x ∧ y = .tuple [.int (n + i), x]
  | [], _, _, _, h => by simp [enumV] at h
  | x :: r, n, 0, y, h => by
    simp [enumV] at h
    exact ⟨x, rfl, by rw [← h]; simp⟩
  | x :: r, n, i + 1, y, h => by
    obtain ⟨z, h1, h2⟩ := enumV_get (xs := r) (n := n + 1) (i := i) (y := y) (by simpa [enumV] using h)
    refine ⟨z, by simpa using h1, ?_⟩
    rw [h2]
    have : n + 1 + (i : Int) = n + ((i + 1 : Nat) : Int) := by omega
    rw [this]
theorem enumV_length : ∀ (xs : List Val) (n : Int), (enumV n xs).length = xs.length
  | [], _ => rfl
  | _ :: r, n => by rw [enumV, List.length_cons, List.length_cons, enumV_length r]
theorem seq_en {Sq : Hp → List V → Prop} {vs : List V} {xs : List Val} (e : ∀ H, FSub F H → Sq H vs) (r : RDs K C F vs xs) : SeqIt K C true F (EnIt Sq) (enumV 0 xs) where
  go := fun i H sub hi => by
    rw [enumV_length] at hi
    have hv : i < vs.length := by rw [r.length]; exact hi
    exact ⟨vs, _, e H sub, List.getElem?_eq_getElem hv⟩
  stop := fun H sub => ⟨vs, e H sub, by rw [enumV_length, r.length]⟩
  yld := fun i H v H' x sub hx ⟨T, u, hv, hT, hH, h2⟩ => .inr ⟨rfl, by
    obtain ⟨y, hy, rfl⟩ := enumV_get hx
    obtain ⟨w, hw, rw'⟩ := r.get hy
    have := h2 vs (e H sub)
    rw [hw] at this; cases this
    refine ⟨T, _, _, hv, hT, hH, rfl, .cons ?_ (.cons rw' .nil)⟩
    rw [Int.zero_add]; exact .int _⟩
theorem zipV_get : ∀ {xs ys : List Val} {i : Nat} {z : Val}, (zipV xs ys)[i]? = some z → ∃ x y, xs[i]? = some x ∧ ys[i]? = some y ∧ z = .tuple [x, y]
  | [], ys, i, z, h => by simp [zipV] at h
  | _ :: _, [], i, z, h => by simp [zipV] at h
  | x :: r, y :: t, 0, z, h => by simp [zipV] at h; exact ⟨x, y, rfl, rfl, h.symm⟩
  | x :: r, y :: t, i + 1, z, h => by
    obtain ⟨a, b, h1, h2, h3⟩ := zipV_get (xs := r) (ys := t) (i := i) (z := z) (by simpa [zipV] using h)
    exact ⟨a, b, by simpa using h1, by simpa using h2, h3⟩
theorem zipV_length : ∀ (xs ys : List Val), (zipV xs ys).length = min xs.length ys.length
  | [], ys => by simp [zipV]
  | _ :: _, [] => by simp [zipV]
  | x :: r, y :: t => by rw [zipV, List.length_cons, zipV_length r t, List.length_cons, List.length_cons]; omega
theorem seq_zipT {a b : Addr} {vs ws : List V} {xs ys : List Val} (e : SqT K F a vs) (e' : SqT K F b ws) (r : RDs K C F vs xs) (r' : RDs K C F ws ys) : SeqIt K C true F (RZ.ItzT K a b) (zipV xs ys) where
  go := fun i H sub hi => by
    rw [zipV_length] at hi
    have h1 : i < vs.length := by rw [r.length]; omega
    have h2 : i < ws.length := by rw [r'.length]; omega
    exact ⟨vs, ws, _, _, SqT.sub sub e, SqT.sub sub e', List.getElem?_eq_getElem h1, List.getElem?_eq_getElem h2⟩
  stop := fun H sub => ⟨vs, ws, SqT.sub sub e, SqT.sub sub e', by rw [zipV_length, r.length, r'.length]; omega⟩
  yld := fun i H v H' x sub hx ⟨T, u1, u2, hv, hT, hH, h1, h2⟩ => .inr ⟨rfl, by
    obtain ⟨y, z, hy, hz, rfl⟩ := zipV_get hx
    obtain ⟨w1, hw1, rw1⟩ := r.get hy
    obtain ⟨w2, hw2, rw2⟩ := r'.get hz
    have e1 := h1 vs (SqT.sub sub e)
    have e2 := h2 ws (SqT.sub sub e')
    rw [hw1] at e1; cases e1
    rw [hw2] at e2; cases e2
    exact ⟨T, _, _, hv, hT, hH, rfl, .cons rw1 (.cons rw2 .nil)⟩⟩
theorem seq_zipL {a b : Addr} {vs ws : List V} {xs ys : List Val} (e : F a = some (.lst vs)) (e' : F b = some (.lst ws)) (r : RDs K C F vs xs) (r' : RDs K C F ws ys) : SeqIt K C true F (Itz K a b) (zipV xs ys) where
  go := fun i H sub hi => by
    rw [zipV_length] at hi
    have h1 : i < vs.length := by rw [r.length]; omega
    have h2 : i < ws.length := by rw [r'.length]; omega
    exact ⟨vs, ws, _, _, SqL.of (sub _ _ e), SqL.of (sub _ _ e'), List.getElem?_eq_getElem h1, List.getElem?_eq_getElem h2⟩
  stop := fun H sub => ⟨vs, ws, SqL.of (sub _ _ e), SqL.of (sub _ _ e'), by rw [zipV_length, r.length, r'.length]; omega⟩
  yld := fun i H v H' x sub hx ⟨T, u1, u2, hv, hT, hH, h1, h2⟩ => .inr ⟨rfl, by
    obtain ⟨y, z, hy, hz, rfl⟩ := zipV_get hx
    obtain ⟨w1, hw1, rw1⟩ := r.get hy
    obtain ⟨w2, hw2, rw2⟩ := r'.get hz
    have e1 := h1 vs (SqL.of (sub _ _ e))
    have e2 := h2 ws (SqL.of (sub _ _ e'))
    rw [hw1] at e1; cases e1
    rw [hw2] at e2; cases e2
    exact ⟨T, _, _, hv, hT, hH, rfl, .cons rw1 (.cons rw2 .nil)⟩⟩
end
section
variable {X : Cx} {C : Gx} {tg : Expr}
theorem si_seq {e : Expr} {m : M Val} (h : SE X C e m) : SI X C false tg e (itemsM (bnd m fun x => bnd (lft (seqV x)) fun ys => ret (.list ys))) := by
  refine PI.imp (PI.or (PI.or (pi_list h) (pi_tup h)) (pi_str h)) ?_
  rintro σ H R ⟨F, ρ, fps, xs, ρ', Rl, e, k⟩
  obtain ⟨x, ρ1, h1, h2⟩ := bnd_some (itemsM_some e)
  obtain ⟨ys, ρ2, h3, h4⟩ := bnd_some h2
  obtain ⟨g3, rfl⟩ := lft_some h3
  cases h4
  have key : (∃ zs, x = .list zs) ∨ (∃ zs, x = .tuple zs ∨ x = ctV zs) ∨ ∃ z, x = .str z := by
    unfold seqV at g3
    split at g3
    · exact .inl ⟨_, rfl⟩
    · exact .inr (.inl ⟨_, .inl rfl⟩)
    · exact .inr (.inl ⟨_, .inr rfl⟩)
    · exact .inr (.inr ⟨_, rfl⟩)
    · cases g3
  rcases key with ⟨zs, rfl⟩ | ⟨zs, hz⟩ | ⟨z, rfl⟩
  · cases g3
    refine .inl (.inl ⟨F, ρ, fps, _, _, Rl, h1, fun v F1 H1 fps1 P1 rv => ?_⟩)
    obtain ⟨a, vs, rfl, ea, ra⟩ := rv.lst_inv
    exact ⟨a, rfl, ⟨vs, SqL.of (P1.rel.sub _ _ ea)⟩, k _ _ _ _ P1 (seq_list ea ra)⟩
  · refine .inl (.inr ⟨F, ρ, fps, _, _, Rl, h1, fun v F1 H1 fps1 P1 rv => ?_⟩)
    have : ∃ a vs, v = .ref a ∧ SqT X.K F1 a vs ∧ RDs X.K C F1 vs xs := by
      rcases hz with rfl | rfl
      · cases g3; exact rv.tup_inv
      · cases g3; exact rv.ct_inv
    obtain ⟨a, vs, rfl, ea, ra⟩ := this
    exact ⟨a, rfl, ⟨vs, SqT.sub P1.rel.sub ea⟩, k _ _ _ _ P1 (seq_tup ea ra)⟩
  · cases g3
    refine .inr ⟨F, ρ, fps, _, _, Rl, h1, fun v F1 H1 fps1 P1 rv => ?_⟩
    obtain rfl := rv.str_inv
    exact ⟨z, rfl, k _ _ _ _ P1 seq_str⟩
theorem si_range1 {a : Expr} {p pos : Pos} {m : M Val} (hg : Gl X "range") (hm : X.mg "range" = none) (ha : SE X C a m) (hs : starEach [a] X.env = [(false, eval a X.env)]) :
    SI X C false tg (.Call (.Name "range" p) [a] [] pos) (itemsM (bnd (argsM (bnd m fun x => bnd (argsM (ret (.tuple []))) fun xs => ret (.tuple (x :: xs)))) fun xs => bnd (lft (ranges xs)) fun ys => ret (.list ys))) := by
  refine PI.imp (pi_range1 hg hm (sa_cons ha sa_nil hs) hs) ?_
  rintro σ H R ⟨F, ρ, fps, xs, ρ', Rl, e, k⟩
  obtain ⟨zs, ρ1, h1, h2⟩ := bnd_some (itemsM_some e)
  obtain ⟨ys, ρ2, h3, h4⟩ := bnd_some h2
  obtain ⟨g3, rfl⟩ := lft_some h3
  cases h4
  refine ⟨F, ρ, fps, zs, _, Rl, h1, fun vs F1 H1 fps1 P1 rv => ?_⟩
  obtain ⟨x, ρ3, r, h5, h6, rfl⟩ := argsM_cons h1
  cases h6
  unfold ranges at g3
  split at g3
  · rename_i j hz
    cases hz
    split at g3
    · rename_i hj
      cases g3
      obtain ⟨v, rfl, r1⟩ := rv.one
      obtain rfl := r1.int_inv
      exact ⟨j, rfl, by omega, by omega, k _ _ _ _ P1 seq_range⟩
    · cases g3
  · rename_i hz; cases hz
  · cases g3
theorem si_range2 {a b : Expr} {p pos : Pos} {m m' : M Val} (hg : Gl X "range") (hm : X.mg "range" = none) (ha : SE X C a m) (hb : SE X C b m') (hs : starEach [a, b] X.env = [(false, eval a X.env), (false, eval b X.env)]) (hs2 : starEach [b] X.env = [(false, eval b X.env)]) :
    SI X C false tg (.Call (.Name "range" p) [a, b] [] pos) (itemsM (bnd (argsM (bnd m fun x => bnd (argsM (bnd m' fun x => bnd (argsM (ret (.tuple []))) fun xs => ret (.tuple (x :: xs)))) fun xs => ret (.tuple (x :: xs)))) fun xs => bnd (lft (ranges xs)) fun ys => ret (.list ys))) := by
  refine PI.imp (pi_range2 hg hm (sa_cons ha (sa_cons hb sa_nil hs2) (by rw [hs, hs2])) hs hs2) ?_
  rintro σ H R ⟨F, ρ, fps, xs, ρ', Rl, e, k⟩
  obtain ⟨zs, ρ1, h1, h2⟩ := bnd_some (itemsM_some e)
  obtain ⟨ys, ρ2, h3, h4⟩ := bnd_some h2
  obtain ⟨g3, rfl⟩ := lft_some h3
  cases h4
  refine ⟨F, ρ, fps, zs, _, Rl, h1, fun vs F1 H1 fps1 P1 rv => ?_⟩
  obtain ⟨x, ρ3, r, h5, h6, rfl⟩ := argsM_cons h1
  obtain ⟨y, ρ4, r', h7, h8, rfl⟩ := argsM_cons h6
  cases h8
  unfold ranges at g3
  split at g3
  · rename_i hz; cases hz
  · rename_i i j hz
    cases hz
    split at g3
    · rename_i hj
      cases g3
      obtain ⟨v, u, rfl, r1, r2⟩ := rv.two
      obtain rfl := r1.int_inv
      obtain rfl := r2.int_inv
      exact ⟨i, j, rfl, by omega, k _ _ _ _ P1 seq_range⟩
    · cases g3
  · cases g3
theorem seqV_inv {x : Val} {ys : List Val} (h : seqV x = some ys) : x = .list ys ∨ x = .tuple ys ∨ x = ctV ys ∨ ∃ z, x = .str z ∧ ys = z.cps.toList.map fun c => .str (S [c]) := by
  unfold seqV at h
  split at h
  · cases h; exact .inl rfl
  · cases h; exact .inr (.inl rfl)
  · cases h; exact .inr (.inr (.inl rfl))
  · cases h; exact .inr (.inr (.inr ⟨_, rfl, rfl⟩))
  · cases h
theorem signs_RD {K : PySem.W.Frag} {F : Hp} (z : Str) : RDs K C F (signsV z) (z.cps.toList.map fun c => .str (S [c])) := by
  unfold signsV
  generalize z.cps.toList = l
  induction l with
  | nil => exact .nil
  | cons c r ih => exact .cons (.str _) ih
theorem si_en {e : Expr} {p pos tpos : Pos} {elts : List Expr} {kk : Nat} {m : M Val} (hg : Gl X "enumerate") (hm : X.mg "enumerate" = none) (he : SE X C e m) (hs : starEach [e] X.env = [(false, eval e X.env)]) :
    SI X C true (.Tuple elts kk tpos) (.Call (.Name "enumerate" p) [e] [] pos) (itemsM (bnd m fun x => bnd (lft (seqV x)) fun ys => ret (.list (enumV 0 ys)))) := by
  refine PI.imp (pi_en hg hm (pa_cons he pa_nil hs) hs) ?_
  rintro σ H R ⟨F, ρ, fps, xs, ρ', Rl, e, k⟩
  obtain ⟨x, ρ1, h1, h2⟩ := bnd_some (itemsM_some e)
  obtain ⟨ys, ρ2, h3, h4⟩ := bnd_some h2
  obtain ⟨g3, rfl⟩ := lft_some h3
  cases h4
  refine ⟨F, ρ, fps, x, _, Rl, h1, fun v F1 H1 fps1 P1 rv => ?_⟩
  rcases seqV_inv g3 with rfl | rfl | rfl | ⟨z, rfl, rfl⟩
  · obtain ⟨a, vs, rfl, ea, ra⟩ := rv.lst_inv
    exact .inl ⟨a, vs, rfl, SqL.of (P1.rel.sub _ _ ea), k _ _ _ _ P1 (seq_en (fun H sub => SqL.of (sub _ _ ea)) ra)⟩
  · obtain ⟨a, vs, rfl, ea, ra⟩ := rv.tup_inv
    exact .inr (.inl ⟨a, vs, rfl, SqT.sub P1.rel.sub ea, k _ _ _ _ P1 (seq_en (fun H sub => SqT.sub sub ea) ra)⟩)
  · obtain ⟨a, vs, rfl, ea, ra⟩ := rv.ct_inv
    exact .inr (.inl ⟨a, vs, rfl, SqT.sub P1.rel.sub ea, k _ _ _ _ P1 (seq_en (fun H sub => SqT.sub sub ea) ra)⟩)
  · obtain rfl := rv.str_inv
    exact .inr (.inr ⟨z, rfl, k _ _ _ _ P1 (seq_en (fun H sub => rfl) (signs_RD z))⟩)
theorem si_zip {a b : Expr} {p pos tpos : Pos} {elts : List Expr} {kk : Nat} {ma mb : M Val} (hg : Gl X "zip") (hm : X.mg "zip" = none) (ha : SE X C a ma) (hb : SE X C b mb)
    (hs : starEach [a, b] X.env = (false, eval a X.env) :: starEach [b] X.env) (hs2 : starEach [b] X.env = (false, eval b X.env) :: starEach [] X.env) (hpl : (backTo pos (starEach [b] X.env)).any (·.1) = false) :
    SI X C true (.Tuple elts kk tpos) (.Call (.Name "zip" p) [a, b] [] pos) (itemsM (bnd ma fun x => bnd mb fun y => bnd (lft (tupsV x)) fun xs => bnd (lft (tupsV y)) fun ys => ret (.list (zipV xs ys)))) := by
  refine PI.imp (RZ.pi_zipA hg hm (pa_cons ha (pa_cons hb pa_nil hs2) hs) hs hpl) ?_
  rintro σ H R ⟨F, ρ, fps, xs, ρ', Rl, e, k⟩
  obtain ⟨x, ρ1, h1, h2⟩ := bnd_some (itemsM_some e)
  obtain ⟨y, ρ2, h3, h4⟩ := bnd_some h2
  obtain ⟨xs', ρ3, h5, h6⟩ := bnd_some h4
  obtain ⟨g5, rfl⟩ := lft_some h5
  obtain ⟨ys', ρ4, h7, h8⟩ := bnd_some h6
  obtain ⟨g7, rfl⟩ := lft_some h7
  cases h8
  refine ⟨F, ρ, fps, x, ρ1, Rl, h1, fun v F1 H1 fps1 P1 rv => ⟨F1, ρ1, fps1, y, _, P1.rel, h3, fun u F2 H2 fps2 P2 ru => ?_⟩⟩
  obtain ⟨pa, vs, rfl, ea, ra⟩ := (rv.sub P2.ext).tups g5
  obtain ⟨pb, ws, rfl, eb, rb⟩ := ru.tups g7
  exact ⟨pa, pb, vs, ws, rfl, .inr ⟨SqT.sub P2.rel.sub ea, SqT.sub P2.rel.sub eb, k _ _ _ _ (P1.trans P2) (seq_zipT ea eb ra rb)⟩⟩
end
end PL
set_option maxHeartbeats 1000000
/-! PLs19: list comprehensions. -/
namespace PL
open PySem PySem.Spec PyProof.Rows L2
section
variable {K : PySem.W.Frag} {C : Gx} {F F1 F2 H H1 H2 : Hp} {ρ ρ' ρ1 : PL.Env} {σ σ' : L2.St} {fps fps1 fps2 : Fps} {D : Addr} {o : HO}
theorem upd_id (h : H D = some o) : upd H D o = H := funext fun a => by
  unfold upd
  split
  · rename_i e; rw [e, h]
  · rfl
theorem Post.still (P : Post K C F H fps ρ' σ' F2 H2 fps2) (e : H D = some o) (t : Pl o) (fD : F D = none) (oD : ∀ i, D ∉ fps i) : H2 D = some o ∧ F2 D = none ∧ ∀ i, D ∉ fps2 i := by
  refine ⟨P.keep D o e oD t.t, ?_, fun i hi => ?_⟩
  · cases z : F2 D with
    | none => rfl
    | some u =>
      rcases P.new D u z with q | q | ⟨i, q⟩
      · rw [fD] at q; cases q
      · rw [e] at q; cases q
      · exact (oD i q).elim
  · rcases P.own i D hi with ⟨j, hj⟩ | hn
    · exact oD j hj
    · rw [e] at hn; cases hn
theorem wipeE_length : ∀ (vs : List Nat) (ρ : PL.Env), (wipeE ρ vs).length = ρ.length
  | [], _ => rfl
  | v :: vs, ρ => by rw [wipeE, wipeE_length vs, ss_length]
theorem wipeE_out : ∀ {vs : List Nat} {ρ : PL.Env} {i : Nat}, i ∉ vs → gs (wipeE ρ vs) i = gs ρ i
  | [], _, _, _ => rfl
  | v :: vs, ρ, i, h => by
    rw [List.mem_cons, not_or] at h
    rw [wipeE, wipeE_out h.2, gs_ss_ne h.1]
theorem wipeE_in : ∀ {vs : List Nat} {ρ : PL.Env} {i : Nat}, i ∈ vs → gs (wipeE ρ vs) i = .u
  | [], _, _, h => by cases h
  | v :: vs, ρ, i, h => by
    rw [wipeE]
    by_cases hi : i ∈ vs
    · exact wipeE_in hi
    · rw [wipeE_out hi]
      rcases List.mem_cons.mp h with rfl | h
      · by_cases hl : i < ρ.length
        · exact gs_ss_same hl
        · exact gs_ge (by rw [ss_length]; omega)
      · exact (hi h).elim
theorem wipe_in : ∀ {vs : List Nat} {σ : L2.St} {i : Nat}, i ∈ vs → i < σ.length → (wipe σ vs)[i]? = some none
  | [], _, _, h, _ => by cases h
  | v :: vs, σ, i, h, hl => by
    unfold wipe
    have hw : (wipe σ vs).length = σ.length := wipe_length σ vs
    by_cases e : v = i
    · subst e; rw [List.getElem?_set_self (by rw [hw]; exact hl)]
    · rw [List.getElem?_set_ne e]
      rcases List.mem_cons.mp h with h | h
      · exact absurd h.symm e
      · exact wipe_in h hl
/-- names wiped -/
theorem Post.wipe (R : Rel K C F H ρ σ fps) (vs : List Nat) : Post K C F H fps (wipeE ρ vs) (L2.wipe σ vs) F H (fun i => if i ∈ vs then [] else fps i) where
  rel := by
    refine ⟨R.sub, by rw [wipeE_length, wipe_length]; exact R.len, fun i => ?_, fun i j a hi hj => ?_, R.tab⟩
    · by_cases h : i ∈ vs
      · rw [if_pos h, wipeE_in h]; rfl
      · rw [if_neg h, wipeE_out h, wipe_out h]; exact R.at_ i
    · by_cases h : i ∈ vs
      · rw [if_pos h] at hi; cases hi
      · by_cases h' : j ∈ vs
        · rw [if_pos h'] at hj; cases hj
        · rw [if_neg h] at hi; rw [if_neg h'] at hj; exact R.dis i j a hi hj
  ext := FSub.refl _
  keep := fun a o h _ _ => h
  tbs := Tbs.refl _
  new := fun a o h => .inl h
  own := fun i a h => by
    by_cases h' : i ∈ vs
    · rw [if_pos h'] at h; cases h
    · rw [if_neg h'] at h; exact .inl ⟨i, h⟩
/-- .. that were not told -/
theorem Rel.unwipe {vs : List Nat} (u : ∀ j ∈ vs, gs ρ j = .u) (R : Rel K C F H ρ (wipe σ vs) fps) : Rel K C F H ρ σ fps where
  sub := R.sub
  len := by rw [R.len, wipe_length]
  at_ := fun i => by
    by_cases h : i ∈ vs
    · have := R.at_ i
      rw [u i h] at this ⊢
      exact this
    · have := R.at_ i
      rw [wipe_out h] at this
      exact this
  dis := R.dis
  tab := R.tab
theorem Post.unwipe {vs : List Nat} (u : ∀ j ∈ vs, gs ρ' j = .u) (P : Post K C F H fps ρ' (L2.wipe σ vs) F2 H2 fps2) : Post K C F H fps ρ' σ F2 H2 fps2 := ⟨P.rel.unwipe u, P.ext, P.keep, P.tbs, P.new, P.own⟩
theorem wipe_off {vs : List Nat} {σ2 : L2.St} (o : Off vs (wipe σ vs) σ2) (hl : σ2.length = σ.length) : wipe σ2 vs = wipe σ vs := by
  apply List.ext_getElem?
  intro i
  by_cases h : i ∈ vs
  · by_cases hi : i < σ.length
    · rw [wipe_in h (by rw [hl]; exact hi), wipe_in h hi]
    · rw [List.getElem?_eq_none (by rw [wipe_length]; omega), List.getElem?_eq_none (by rw [wipe_length]; omega)]
  · rw [wipe_out h, o i h]
/-- a comprehension at turn i -/
structure Lst (K : PySem.W.Frag) (C : Gx) (F1 H1 : Hp) (fps1 : Fps) (Fs : Hp) (σw : L2.St) (vs : List Nat) (D : Addr) (xs : List Val) (step : Val → M (Option Val)) (ys : List Val) (ρ' : PL.Env) (i : Nat) (H : Hp) : Prop where
  ex : ∃ F' fps' ρi acc ws, i ≤ xs.length ∧ Post K C F1 H1 fps1 ρi σw F' H fps' ∧ FSub Fs F' ∧ (∀ j ∈ vs, gs ρi j = .u) ∧ H D = some (.lst ws) ∧ F' D = none ∧ (∀ k, D ∉ fps' k) ∧ RDs K C F' ws acc ∧ lcLoop step (xs.drop i) acc ρi = some (ys, ρ')
theorem asgM_some {t : Tg} {x : Val} {u : Unit} (h : asgM t x ρ = some (u, ρ')) : asgT t x ρ = some ρ' := by
  unfold asgM at h
  split at h
  · rename_i h1; cases h; exact h1
  · cases h
theorem wipeM_some {l : List Nat} {u : Unit} (h : wipeM l ρ = some (u, ρ')) : ρ' = wipeE ρ l := by
  cases h; rfl
mutual
theorem asgT_len : ∀ {t : Tg} {x : Val} {ρ ρ' : PL.Env}, asgT t x ρ = some ρ' → ρ'.length = ρ.length
  | .n i, x, ρ, ρ', h => by cases h; exact ss_length
  | .nil, x, ρ, ρ', h => by unfold asgT at h; cases h
  | .cons t ts, x, ρ, ρ', h => by
    unfold asgT at h
    split at h
    · split at h
      · rename_i ρ1 h1
        rw [asgTs_len' h, asgT_len h1]
      · cases h
    · cases h
theorem asgTs_len' : ∀ {t : Tg} {xs : List Val} {ρ ρ' : PL.Env}, asgTs t xs ρ = some ρ' → ρ'.length = ρ.length
  | .n _, xs, _, _, h => by unfold asgTs at h; cases h
  | .nil, [], _, _, h => by cases h; rfl
  | .nil, _ :: _, _, _, h => by unfold asgTs at h; cases h
  | .cons t ts, [], _, _, h => by unfold asgTs at h; cases h
  | .cons t ts, y :: ys, _, _, h => by
    unfold asgTs at h
    split at h
    · rename_i ρ1 h1
      rw [asgTs_len' h, asgT_len h1]
    · cases h
end
theorem lc_turn {Fs : Hp} {σ0 : L2.St} {xs ys : List Val} {i : Nat} {J : It} {v : V} {Hc H' : Hp} {t : Tg} {mc : M Bool} {me : M Val} {pr : Bool} (L : Lst K C F1 H1 fps1 Fs (wipe σ0 (tgIdx t)) (tgIdx t) D xs (lcStep t mc me) ys ρ' i Hc) (hD : H1 D = none)
    (S : SeqIt K C pr Fs J xs) (hi : i < xs.length) (y : J.yld i Hc v H') (hn : (∃ k, t = .n k) → pr = false) :
    tG K C t v (wipe σ0 (tgIdx t)) H' (fun σ2 H2 => wipe σ2 (tgIdx t) = wipe σ0 (tgIdx t) ∧ tBo K C mc σ2 H2 fun b H3 => if b = true then tE K C me σ2 H3 fun y H4 => ∃ acc, H4 D = some (.lst acc) ∧ acc.length < sizeLine ∧
      Lst K C F1 H1 fps1 Fs (wipe σ0 (tgIdx t)) (tgIdx t) D xs (lcStep t mc me) ys ρ' (i + 1) (upd H4 D (.lst (acc ++ [y]))) else Lst K C F1 H1 fps1 Fs (wipe σ0 (tgIdx t)) (tgIdx t) D xs (lcStep t mc me) ys ρ' (i + 1) H3) := by
  obtain ⟨F', fps', ρi, acc, ws, hle, P, sF, wi, hd, fD, oD, rd, hl⟩ := L.ex
  have ex : xs[i]? = some xs[i] := List.getElem?_eq_getElem hi
  rw [List.drop_eq_getElem_cons hi] at hl
  have hsub : FSub Fs Hc := sF.trans P.rel.sub
  -- the item stands
  have key : ∃ Pn : Post K C F1 H1 fps1 ρi (wipe σ0 (tgIdx t)) F' H' fps', Itm K C F' H' v xs[i] ∧ ((∃ k, t = .n k) → RD K C F' v xs[i]) ∧ H' D = some (.lst ws) := by
    rcases S.yld i Hc v H' _ hsub ex y with ⟨rfl, r⟩ | ⟨hpr, T, us, ds, rfl, hT, rfl, e1, r⟩
    · exact ⟨P, .inl (r.sub sF), fun _ => r.sub sF, hd⟩
    · refine ⟨P.trans (Post.laidU P.rel hT), .inr ⟨T, us, ds, rfl, upd_same, e1, r.sub sF⟩, fun hk => ?_, by rw [upd_ne (ne_of_none hd hT)]; exact hd⟩
      rw [hn hk] at hpr; cases hpr
  obtain ⟨Pn, it, hrd, hd'⟩ := key
  unfold lcLoop at hl
  obtain ⟨o, ρs, hs, hl2⟩ := bnd_some hl
  unfold lcStep at hs
  obtain ⟨_, ρa, h1, h2⟩ := bnd_some hs
  have h1 := asgM_some h1
  obtain ⟨b, ρb, h3, h4⟩ := bnd_some h2
  refine ⟨F', ρi, fps', xs[i], ρa, Pn.rel, it, h1, hrd, fun σ2 fps2 P2 o2 => ?_⟩
  have Pa := Pn.trans P2
  have hlen : σ2.length = σ0.length := by rw [← P2.rel.len, asgT_len h1, Pn.rel.len, wipe_length]
  have ew : wipe σ2 (tgIdx t) = wipe σ0 (tgIdx t) := wipe_off o2 hlen
  obtain ⟨hdA, fDA, oDA⟩ := P2.still hd' (pl_lst _) fD oD
  refine ⟨ew, F', ρa, fps2, b, ρb, P2.rel, h3, fun F3 H3 fps3 P3 => ?_⟩
  obtain ⟨hd3, fD3, oD3⟩ := P3.still hdA (pl_lst _) fDA oDA
  have Pb := Pa.trans P3
  have wipeP : ∀ {ρz : PL.Env} {F4 H4 : Hp} {fps4 : Fps}, Post K C F1 H1 fps1 ρz σ2 F4 H4 fps4 → (∀ k, D ∉ fps4 k) → ∃ fps5, Post K C F1 H1 fps1 (wipeE ρz (tgIdx t)) (wipe σ0 (tgIdx t)) F4 H4 fps5 ∧ (∀ k, D ∉ fps5 k) := fun P4 n4 => by
    have P5 := Post.wipe P4.rel (tgIdx t)
    rw [ew] at P5
    refine ⟨_, P4.trans P5, fun k hk => ?_⟩
    by_cases h : k ∈ tgIdx t
    · rw [if_pos h] at hk; cases hk
    · rw [if_neg h] at hk; exact n4 k hk
  cases b with
  | false =>
    obtain ⟨_, ρc, h5, h6⟩ := bnd_some (show (bnd (wipeM (tgIdx t)) fun _ => ret none) ρb = some (o, ρs) from h4)
    obtain rfl := wipeM_some h5
    obtain ⟨rfl, rfl⟩ := ret_some h6
    obtain ⟨fps5, P5, n5⟩ := wipeP Pb oD3
    exact ⟨F3, fps5, _, acc, ws, hi, P5, sF.trans P3.ext, fun j hj => wipeE_in hj, hd3, fD3, n5, rd.sub P3.ext, hl2⟩
  | true =>
    obtain ⟨y', ρc, h5, h6⟩ := bnd_some (show (bnd me fun y => bnd (wipeM (tgIdx t)) fun _ => ret (some y)) ρb = some (o, ρs) from h4)
    obtain ⟨_, ρd, h7, h8⟩ := bnd_some h6
    obtain rfl := wipeM_some h7
    obtain ⟨rfl, rfl⟩ := ret_some h8
    refine ⟨F3, ρb, fps3, y', ρc, P3.rel, h5, fun u F4 H4 fps4 P4 ru => ?_⟩
    obtain ⟨hd4, fD4, oD4⟩ := P4.still hd3 (pl_lst _) fD3 oD3
    obtain ⟨fps5, P5, n5⟩ := wipeP (Pb.trans P4) oD4
    have hw : ws.length = acc.length := rd.length
    simp only at hl2
    split at hl2
    · rename_i hlt
      refine ⟨ws, hd4, by rw [hw]; exact hlt, F4, fps5, _, acc ++ [y'], ws ++ [u], hi, P5.poke hD (pl_lst _) hd4 fD4 n5, sF.trans (P3.ext.trans P4.ext), fun j hj => wipeE_in hj, upd_same, fD4, n5, ?_, hl2⟩
      exact (rd.sub (P3.ext.trans P4.ext)).snoc ru
    · exact (fail_some hl2).elim
end
section
variable {X : Cx} {C : Gx}
/-- [elt for t in it if c] -/
theorem lc_read {pr : Bool} {t : Tg} {mi : M (List Val)} {mc : M Bool} {me : M Val} (hn : (∃ k, t = .n k) → pr = false) {σ : L2.St} {H : Hp} {Q : VK}
    (h : tE X.K C (bnd mi fun xs => bnd (wipeM (tgIdx t)) fun _ => bnd (lcLoop (lcStep t mc me) xs []) fun ys => ret (.list ys)) σ H Q) : tLc (tSeq X.K C pr mi) (tG X.K C t) (tBo X.K C mc) (tE X.K C me) (tgIdx t) σ H Q := by
  obtain ⟨F, ρ, fps, z, ρ', R, h, k⟩ := h
  obtain ⟨xs, ρ1, h1, h2⟩ := bnd_some h
  obtain ⟨_, ρ2, h3, h4⟩ := bnd_some h2
  obtain rfl := wipeM_some h3
  obtain ⟨ys, ρ3, h5, h6⟩ := bnd_some h4
  obtain ⟨rfl, rfl⟩ := ret_some h6
  refine ⟨F, ρ, fps, xs, ρ1, R, h1, fun J F1 H1 fps1 P1 S D hD => ?_⟩
  have P2 := (Post.laidU P1.rel (o := .lst []) hD)
  have P3 := Post.wipe P2.rel (tgIdx t)
  have nf : ∀ k, D ∉ fps1 k := fun k hk => by
    obtain ⟨_, x, g⟩ := (P1.rel.at_ k).free D hk
    rw [hD] at g; cases g
  have L0 : Lst X.K C F1 H1 fps1 F1 (wipe σ (tgIdx t)) (tgIdx t) D xs (lcStep t mc me) ys ρ' 0 (upd H1 D (.lst [])) :=
    ⟨F1, _, _, [], [], Nat.zero_le _, P2.trans P3, FSub.refl _, fun j hj => wipeE_in hj, upd_same, P1.rel.sub.none hD, fun k hk => by
      by_cases h : k ∈ tgIdx t
      · rw [if_pos h] at hk; cases hk
      · rw [if_neg h] at hk; exact nf k hk, .nil, by rw [List.drop_zero]; exact h5⟩
  refine ⟨fun i m H => m = xs.length - i ∧ Lst X.K C F1 H1 fps1 F1 (wipe σ (tgIdx t)) (tgIdx t) D xs (lcStep t mc me) ys ρ' i H, ⟨_, rfl, L0⟩, ?_⟩
  rintro i m Hc ⟨rfl, L⟩
  obtain ⟨F', fps', ρi, acc, ws, hle, P, sF, wi, hd, fD, oD, rd, hl⟩ := L.ex
  by_cases hi : i < xs.length
  · refine .inr ⟨S.go i Hc (sF.trans P.rel.sub) hi, fun H' => Lst X.K C F1 H1 fps1 F1 (wipe σ (tgIdx t)) (tgIdx t) D xs (lcStep t mc me) ys ρ' (i + 1) H', fun H' hL => ⟨xs.length - (i + 1), by omega, rfl, hL⟩, fun x H' hy => ?_⟩
    exact lc_turn L hD S hi hy hn
  · have e : i = xs.length := by omega
    subst e
    rw [List.drop_length] at hl
    obtain ⟨rfl, rfl⟩ := ret_some hl
    refine .inl ⟨S.stop Hc (sF.trans P.rel.sub), ?_⟩
    have Pu := Post.unwipe (σ := σ) wi P
    have Ps := Pu.seal (o := .lst ws) hD (pl_lst _) hd fD oD
    rw [upd_id hd] at Ps
    exact k _ _ _ _ (P1.trans Ps) (.lst upd_same (rd.sub (FSub.upd_new fD)))
theorem snd_lc {pr : Bool} {elt tg iter : Expr} {ifs : List Expr} {scope : Scope} {own : List (Str × Nat)} {pos : Pos} {t : Tg} {mi : M (List Val)} {mc : M Bool} {me : M Val} (hc : X.calm = true) (hN : X.N.Nodup) (hi : SI X C pr tg iter mi) (hn : (∃ k, t = .n k) → pr = false) (ok : BlkOk X.N X.env.scope scope own) (ho : own.map (·.2) = tgIdx t)
    (hg : ∀ (s : Shared) (H : Hp) (Ca : Addr) (cl : List (Str × Addr)) (fp : List Addr), PG (X.blk s H scope (compEnvC scope cl Ca X.env) fp) tg (tG X.K C t)) (ht : ∀ (s : Shared) (H : Hp) (Ca : Addr) (cl : List (Str × Addr)) (fp : List Addr), PTs (X.blk s H scope (compEnvC scope cl Ca X.env) fp) ifs (tBo X.K C mc))
    (he : ∀ (s : Shared) (H : Hp) (Ca : Addr) (cl : List (Str × Addr)) (fp : List Addr), PE (X.blk s H scope (compEnvC scope cl Ca X.env) fp) elt (tE X.K C me)) (hs : ∀ x, foldedSetIterable iter X.env x = pure x) :
    SE X C (.ListComp elt [⟨tg, iter, ifs, 0⟩] scope pos) (bnd mi fun xs => bnd (wipeM (tgIdx t)) fun _ => bnd (lcLoop (lcStep t mc me) xs []) fun ys => ret (.list ys)) :=
  PE.imp (pe_lc hc hN hi ok hg ht he hs) fun σ H Q h => by rw [ho]; exact lc_read hn h
end
end PL
set_option maxHeartbeats 1000000
/-! PLs20: new things that a name is to own. -/
namespace PL
open PySem PySem.Spec PyProof.Rows L2
/-- a value that goes into a slot: data, or a new thing -/
def tO (K : PySem.W.Frag) (C : Gx) (m : M Slot) : TE := fun σ H Q => ∃ F ρ fps s ρ', Rel K C F H ρ σ fps ∧ m ρ = some (s, ρ') ∧
  ∀ v F' H' fps' fp, Post K C F H fps ρ' σ F' H' fps' → SlotAt K C F' H' (some (some v)) s fp → (∀ a ∈ fp, H a = none ∧ ∀ i, a ∉ fps' i) → Q v H'
abbrev SO (X : Cx) (C : Gx) (e : Expr) (m : M Slot) : Prop := PE X e (tO X.K C m)
section
variable {X : Cx} {C : Gx}
theorem so_val {e : Expr} {m : M Val} (h : SE X C e m) : SO X C e (bnd m fun x => ret (.v x)) := PE.imp h fun σ H Q ⟨F, ρ, fps, s, ρ', R, h, k⟩ => by
  obtain ⟨x, ρ1, h1, h2⟩ := bnd_some h
  obtain ⟨rfl, rfl⟩ := ret_some h2
  exact ⟨F, ρ, fps, x, _, R, h1, fun v F1 H1 fps1 P rv => k v F1 H1 fps1 [] P ⟨rfl, v, rfl, rv⟩ (fun a ha => by cases ha)⟩
/-- a new object stands beside -/
theorem fresh_no {K : PySem.W.Frag} {F H F1 H1 : Hp} {ρ ρ1 : PL.Env} {σ : L2.St} {fps fps1 : Fps} {p : Addr} (R : Rel K C F H ρ σ fps) (P : Post K C F H fps ρ1 σ F1 H1 fps1) (hp : H1 p = none) : ∀ i, p ∉ fps1 i := fun i hi => by
  obtain ⟨_, x, g⟩ := (P.rel.at_ i).free p hi
  rw [hp] at g; cases g
/-- a list that is written down -/
theorem so_lst {es : List Expr} {pos : Pos} {mas : M (List Val)} (h : SA X C es mas) : SO X C (.List es pos) (bnd (bnd mas fun xs => if xs.length ≤ line then ret (.list xs) else fail) fun x => lft (lstS x)) := PE.imp (pe_lst h) fun σ H Q ⟨F, ρ, fps, s, ρ', R, e, k⟩ => by
  obtain ⟨x, ρ0, e1, e2⟩ := bnd_some e
  obtain ⟨xs, ρ1, h1, h2⟩ := bnd_some e1
  obtain ⟨e3, rfl⟩ := lft_some e2
  refine ⟨F, ρ, fps, xs, ρ1, R, h1, fun vs F1 H1 fps1 P1 rv => ?_⟩
  split at h2
  · rename_i hl
    obtain ⟨rfl, rfl⟩ := ret_some h2
    cases e3
    refine ⟨by rw [rv.length]; exact hl, fun p hp => k _ F1 _ fps1 [p] (P1.trans (Post.laidU P1.rel hp)) ⟨p, vs, rfl, rfl, P1.rel.sub.none hp, upd_same, rv⟩ fun a ha => ?_⟩
    obtain rfl := List.mem_singleton.mp ha
    exact ⟨P1.gone hp, fresh_no R P1 hp⟩
  · exact (fail_some h2).elim
theorem so_lc {pr : Bool} {t : Tg} {mi : M (List Val)} {mc : M Bool} {me : M Val} (hn : (∃ k, t = .n k) → pr = false) {σ : L2.St} {H : Hp} {Q : VK}
    (h : tO X.K C (bnd (bnd mi fun xs => bnd (wipeM (tgIdx t)) fun _ => bnd (lcLoop (lcStep t mc me) xs []) fun ys => ret (.list ys)) fun x => lft (lstS x)) σ H Q) : tLc (tSeq X.K C pr mi) (tG X.K C t) (tBo X.K C mc) (tE X.K C me) (tgIdx t) σ H Q := by
  obtain ⟨F, ρ, fps, s, ρ', R, h, k⟩ := h
  obtain ⟨z, ρ0, h, h0⟩ := bnd_some h
  obtain ⟨e0, rfl⟩ := lft_some h0
  obtain ⟨xs, ρ1, h1, h2⟩ := bnd_some h
  obtain ⟨_, ρ2, h3, h4⟩ := bnd_some h2
  obtain rfl := wipeM_some h3
  obtain ⟨ys, ρ3, h5, h6⟩ := bnd_some h4
  obtain ⟨rfl, rfl⟩ := ret_some h6
  cases e0
  refine ⟨F, ρ, fps, xs, ρ1, R, h1, fun J F1 H1 fps1 P1 S D hD => ?_⟩
  have P2 := (Post.laidU P1.rel (o := .lst []) hD)
  have P3 := Post.wipe P2.rel (tgIdx t)
  have nf := fresh_no R P1 hD
  have L0 : Lst X.K C F1 H1 fps1 F1 (wipe σ (tgIdx t)) (tgIdx t) D xs (lcStep t mc me) ys ρ' 0 (upd H1 D (.lst [])) :=
    ⟨F1, _, _, [], [], Nat.zero_le _, P2.trans P3, FSub.refl _, fun j hj => wipeE_in hj, upd_same, P1.rel.sub.none hD, fun k hk => by
      by_cases h : k ∈ tgIdx t
      · rw [if_pos h] at hk; cases hk
      · rw [if_neg h] at hk; exact nf k hk, .nil, by rw [List.drop_zero]; exact h5⟩
  refine ⟨fun i m H => m = xs.length - i ∧ Lst X.K C F1 H1 fps1 F1 (wipe σ (tgIdx t)) (tgIdx t) D xs (lcStep t mc me) ys ρ' i H, ⟨_, rfl, L0⟩, ?_⟩
  rintro i m Hc ⟨rfl, L⟩
  obtain ⟨F', fps', ρi, acc, ws, hle, P, sF, wi, hd, fD, oD, rd, hl⟩ := L.ex
  by_cases hi : i < xs.length
  · exact .inr ⟨S.go i Hc (sF.trans P.rel.sub) hi, fun H' => Lst X.K C F1 H1 fps1 F1 (wipe σ (tgIdx t)) (tgIdx t) D xs (lcStep t mc me) ys ρ' (i + 1) H', fun H' hL => ⟨xs.length - (i + 1), by omega, rfl, hL⟩, fun x H' hy => lc_turn L hD S hi hy hn⟩
  · have e : i = xs.length := by omega
    subst e
    rw [List.drop_length] at hl
    obtain ⟨rfl, rfl⟩ := ret_some hl
    refine .inl ⟨S.stop Hc (sF.trans P.rel.sub), ?_⟩
    refine k _ F' Hc fps' [D] (P1.trans (Post.unwipe (σ := σ) wi P)) ⟨D, ws, rfl, rfl, fD, hd, rd⟩ fun a ha => ?_
    obtain rfl := List.mem_singleton.mp ha
    exact ⟨P1.gone hD, oD⟩
/-- list(x) -/
theorem so_list {e : Expr} {p pos : Pos} {m : M Val} (hg : Gl X "list") (hm : X.mg "list" = none) (he : SE X C e m) (hs : starEach [e] X.env = (false, eval e X.env) :: starEach [] X.env) :
    SO X C (.Call (.Name "list" p) [e] [] pos) (bnd (bnd (argsM (bnd m fun x => bnd (argsM (ret (.tuple []))) fun xs => ret (.tuple (x :: xs)))) fun xs => lft (biV .list xs)) fun x => lft (lstS x)) := by
  refine PE.imp (pe_callTy call_list_of hg hm rfl (pa_cons he pa_nil hs) (by decide) (by decide) hs rfl) ?_
  rintro σ H Q ⟨F, ρ, fps, s, ρ', R, h, k⟩
  obtain ⟨z, ρ0, h1, h2⟩ := bnd_some h
  obtain ⟨e2, rfl⟩ := lft_some h2
  obtain ⟨xs, ρ1, h3, h4⟩ := bnd_some h1
  obtain ⟨e4, rfl⟩ := lft_some h4
  obtain ⟨x, ρ2, r, h5, h6, rfl⟩ := argsM_cons h3
  cases h6
  refine ⟨F, ρ, fps, x, _, R, h5, fun v F1 H1 fps1 P1 rv => ?_⟩
  have e5 : listV x = some z := e4
  have fin : ∀ (l : Addr) (vs : List V) (ds : List Val), H1 l = none → RDs X.K C F1 vs ds → s = .L ds → Q (.ref l) (upd H1 l (.lst vs)) := fun l vs ds hl rds es => by
    subst es
    refine k _ F1 _ fps1 [l] (P1.trans (Post.laidU P1.rel hl)) ⟨l, vs, rfl, rfl, P1.rel.sub.none hl, upd_same, rds⟩ fun a ha => ?_
    obtain rfl := List.mem_singleton.mp ha
    exact ⟨P1.gone hl, fresh_no R P1 hl⟩
  unfold listV at e5
  split at e5
  · cases e5; cases e2
    obtain ⟨q, vs, rfl, eq, rq⟩ := rv.lst_inv
    exact ⟨q, vs, rfl, .inl (SqL.of (P1.rel.sub _ _ eq)), fun l hl => fin l vs _ hl rq rfl⟩
  · cases e5; cases e2
    obtain ⟨q, vs, rfl, eq, rq⟩ := rv.tup_inv
    exact ⟨q, vs, rfl, .inr (SqT.sub P1.rel.sub eq), fun l hl => fin l vs _ hl rq rfl⟩
  · cases e5
/-- {} -/
theorem so_dnewK {pos : Pos} : SO X C (.Dict [] [] pos) (ret (.D false [])) := PE.imp pe_dnewK fun σ H Q ⟨F, ρ, fps, s, ρ', R, h, k⟩ p hp => by
  cases h
  refine k _ F _ fps [p] (Post.laidU R hp) ⟨p, [], rfl, rfl, R.sub.none hp, upd_same, .nil⟩ fun a ha => ?_
  obtain rfl := List.mem_singleton.mp ha
  exact ⟨hp, fresh_no R (Post.refl R) hp⟩
theorem so_dnewT {pos : Pos} (hG : OnX X C) : SO X C (.Dict [] [] pos) (ret (.D true [])) := PE.imp pe_dnewX fun σ H Q ⟨F, ρ, fps, s, ρ', R, h, k⟩ p hp => by
  cases h
  refine k _ F _ fps [p] (Post.laidU R hp) ⟨p, [], rfl, rfl, R.sub.none hp, by rw [upd_same, hG.1, hG.2], .nil⟩ fun a ha => ?_
  obtain rfl := List.mem_singleton.mp ha
  exact ⟨hp, fresh_no R (Post.refl R) hp⟩
/-- {k: v} -/
theorem so_disp1K {pos : Pos} {a b : Expr} {mk mv : M Val} (ha : SE X C a mk) (hb : SE X C b mv) : SO X C (.Dict [some a] [b] pos) (bnd mk fun x => bnd mv fun y => if keyOk false x = true then ret (.D false [(x, y)]) else fail) := by
  refine PE.imp (pe_disp (pps_cons ha hb pps_nil) rfl rfl (by simp) (by simp)) ?_
  rintro σ H Q ⟨F, ρ, fps, s, ρ', R, h, k⟩ p hp
  obtain ⟨x, ρ1, h1, h2⟩ := bnd_some h
  obtain ⟨y, ρ2, h3, h4⟩ := bnd_some h2
  refine ⟨F, ρ, fps, x, ρ1, (Post.laidU R hp).rel, h1, fun v F1 H1 fps1 P1 rv => ⟨F1, ρ1, fps1, y, ρ2, P1.rel, h3, fun u F2 H2 fps2 P2 ru => ?_⟩⟩
  obtain ⟨e2, f2, n2, P⟩ := Post.beside R hp (P1.trans P2) (pl_dK [])
  split at h4
  · rename_i hk
    obtain ⟨rfl, rfl⟩ := ret_some h4
    obtain ⟨kk, rfl⟩ := keyS_key hk
    have rv' := rv.key
    subst rv'
    refine ⟨e2, [(kk, u)], rfl, by simp, ?_⟩
    refine k _ F2 _ fps2 [p] (P.poke hp (pl_dK []) e2 f2 n2) ⟨p, _, rfl, rfl, f2, upd_same, .cons ru .nil⟩ fun a ha => ?_
    obtain rfl := List.mem_singleton.mp ha
    exact ⟨hp, n2⟩
  · exact (fail_some h4).elim
theorem so_disp1T {pos : Pos} {a b : Expr} {mk mv : M Val} (hG : OnX X C) (hu : X.A.units + 1 < cLine) (ha : SE X C a mk) (hb : SE X C b mv) : SO X C (.Dict [some a] [b] pos) (bnd mk fun x => bnd mv fun y => if keyOk true x = true then ret (.D true [(x, y)]) else fail) := by
  refine PE.imp (pe_disp1 hu ha hb) ?_
  rintro σ H Q ⟨F, ρ, fps, s, ρ', R, h, k⟩ p hp
  obtain ⟨x, ρ1, h1, h2⟩ := bnd_some h
  obtain ⟨y, ρ2, h3, h4⟩ := bnd_some h2
  refine ⟨F, ρ, fps, x, ρ1, (Post.laidU R hp).rel, h1, fun v F1 H1 fps1 P1 rv => ⟨F1, ρ1, fps1, y, ρ2, P1.rel, h3, fun u F2 H2 fps2 P2 ru => ?_⟩⟩
  obtain ⟨e2, f2, n2, P⟩ := Post.beside R hp (P1.trans P2) (pl_dX _ _ _ _)
  split at h4
  · rename_i hk
    obtain ⟨rfl, rfl⟩ := ret_some h4
    obtain ⟨ks, rfl, hc⟩ := keyT_key hk
    obtain ⟨b, ob, ws, rfl, eb, ho, rb⟩ := (rv.sub P2.ext).tup_key hc
    obtain rfl := rb.keys
    refine ⟨e2, b, ks, ob, rfl, P2.rel.sub _ _ eb, ?_⟩
    refine k _ F2 _ fps2 [p] (P.poke hp (pl_dX _ _ _ _) e2 f2 n2) ⟨p, _, rfl, rfl, f2, by rw [upd_same, hG.1, hG.2], .cons eb ho ru .nil⟩ fun a ha => ?_
    obtain rfl := List.mem_singleton.mp ha
    exact ⟨hp, n2⟩
  · exact (fail_some h4).elim
end
end PL
set_option maxHeartbeats 1000000
/-! PLs21: statements. -/
namespace PL
open PySem PySem.Spec PyProof.Rows L2
/-- the first names are not changed -/
def Keep (z : Nat) (σ σ' : L2.St) : Prop := ∀ i, i < z → σ'[i]? = σ[i]?
theorem Keep.refl (z : Nat) (σ : L2.St) : Keep z σ σ := fun _ _ => rfl
theorem Keep.trans {z : Nat} {σ σ1 σ2 : L2.St} (h : Keep z σ σ1) (k : Keep z σ1 σ2) : Keep z σ σ2 := fun i hi => (k i hi).trans (h i hi)
theorem Keep.off {z : Nat} {σ σ' : L2.St} {l : List Nat} (o : Off l σ σ') (h : ∀ i ∈ l, z ≤ i) : Keep z σ σ' := fun i hi => o i fun hm => absurd (h i hm) (by omega)
theorem Keep.set {z i : Nat} {σ : L2.St} {x : Option V} (h : z ≤ i) : Keep z σ (σ.set i x) := fun j hj => by rw [List.getElem?_set_ne (by omega)]
/-- what a statement comes to -/
def OutOk (K : PySem.W.Frag) (C : Gx) (z : Nat) (F H : Hp) (fps : Fps) (σ : L2.St) (ρ' : PL.Env) (D : Ends) : Out → Prop
  | .nx => ∀ σ' F' H' fps', Post K C F H fps ρ' σ' F' H' fps' → Keep z σ σ' → D.nx σ' H'
  | .rt x => ∀ v σ' F' H' fps', Post K C F H fps ρ' σ' F' H' fps' → Keep z σ σ' → RD K C F' v x → D.rt v H'
def tS (K : PySem.W.Frag) (C : Gx) (z : Nat) (m : M Out) : TS := fun D σ H => ∃ F ρ fps o ρ', Rel K C F H ρ σ fps ∧ m ρ = some (o, ρ') ∧ OutOk K C z F H fps σ ρ' D o
abbrev SS (X : Cx) (C : Gx) (z : Nat) (st : Stmt) (m : M Out) : Prop := PS X st (tS X.K C z m)
abbrev SSs (X : Cx) (C : Gx) (z : Nat) (st : List Stmt) (m : M Out) : Prop := PSs X st (tS X.K C z m)
theorem OutOk.after {K : PySem.W.Frag} {C : Gx} {z : Nat} {F H F1 H1 : Hp} {fps fps1 : Fps} {σ σ1 : L2.St} {ρ1 ρ' : PL.Env} {D : Ends} {o : Out} (P : Post K C F H fps ρ1 σ1 F1 H1 fps1) (k : Keep z σ σ1) (h : OutOk K C z F H fps σ ρ' D o) : OutOk K C z F1 H1 fps1 σ1 ρ' D o := by
  cases o with
  | nx => exact fun σ' F' H' fps' P' k' => h σ' F' H' fps' (P.trans P') (k.trans k')
  | rt x => exact fun v σ' F' H' fps' P' k' => h v σ' F' H' fps' (P.trans P') (k.trans k')
section
variable {X : Cx} {C : Gx} {z : Nat}
theorem ss_nil : SSs X C z [] (ret .nx) := PSs.imp pss_nil fun D σ H ⟨F, ρ, fps, o, ρ', R, h, k⟩ => by
  obtain ⟨rfl, rfl⟩ := ret_some h
  exact k σ F H fps (Post.refl R) (Keep.refl _ _)
def seqM (a b : M Out) : M Out := bnd a fun o => match o with
  | .nx => b
  | .rt y => ret (.rt y)
theorem ss_cons {st : Stmt} {sts : List Stmt} {a b : M Out} (h1 : SS X C z st a) (h2 : SSs X C z sts b) : SSs X C z (st :: sts) (seqM a b) := PSs.imp (pss_cons h1 h2) fun D σ H ⟨F, ρ, fps, o, ρ', R, h, k⟩ => by
  obtain ⟨o1, ρ1, e1, e2⟩ := bnd_some h
  refine ⟨F, ρ, fps, o1, ρ1, R, e1, ?_⟩
  cases o1 with
  | nx => exact fun σ1 F1 H1 fps1 P1 k1 => ⟨F1, ρ1, fps1, o, ρ', P1.rel, e2, OutOk.after P1 k1 k⟩
  | rt y =>
    obtain ⟨rfl, rfl⟩ := ret_some e2
    exact k
theorem ss_never {st : Stmt} : SS X C z st fail := PS.imp ps_never fun D σ H ⟨F, ρ, fps, o, ρ', R, h, k⟩ => fail_some h
theorem ss_rt {e : Expr} {pos : Pos} {m : M Val} (he : SE X C e m) : SS X C z (.Return (some e) pos) (bnd m fun x => ret (.rt x)) := PS.imp (ps_ret he) fun D σ H ⟨F, ρ, fps, o, ρ', R, h, k⟩ => by
  obtain ⟨x, ρ1, h1, h2⟩ := bnd_some h
  obtain ⟨rfl, rfl⟩ := ret_some h2
  exact ⟨F, ρ, fps, x, _, R, h1, fun v F1 H1 fps1 P r => k v σ F1 H1 fps1 P (Keep.refl _ _) r⟩
theorem ss_ex {e : Expr} {pos : Pos} {m : M Val} (he : SE X C e m) (hs : swapsWith e none pos.line X.env = pure false) : SS X C z (.Expr e pos) (bnd m fun _ => ret .nx) := PS.imp (ps_expr he hs) fun D σ H ⟨F, ρ, fps, o, ρ', R, h, k⟩ => by
  obtain ⟨x, ρ1, h1, h2⟩ := bnd_some h
  obtain ⟨rfl, rfl⟩ := ret_some h2
  exact ⟨F, ρ, fps, x, _, R, h1, fun v F1 H1 fps1 P r => k σ F1 H1 fps1 P (Keep.refl _ _)⟩
theorem ss_if {c : Expr} {a b : List Stmt} {pos : Pos} {mc : M Bool} {ma mb : M Out} (hc : SB X C c mc) (ha : SSs X C z a ma) (hb : SSs X C z b mb) : SS X C z (.If c a b pos) (bnd mc fun r => if r = true then ma else mb) := PS.imp (ps_if hc ha hb) fun D σ H ⟨F, ρ, fps, o, ρ', R, h, k⟩ => by
  obtain ⟨r, ρ1, h1, h2⟩ := bnd_some h
  refine ⟨F, ρ, fps, r, ρ1, R, h1, fun F1 H1 fps1 P => ?_⟩
  split at h2
  · rename_i hr; rw [if_pos hr]; exact ⟨F1, ρ1, fps1, o, ρ', P.rel, h2, OutOk.after P (Keep.refl _ _) k⟩
  · rename_i hr; rw [if_neg hr]; exact ⟨F1, ρ1, fps1, o, ρ', P.rel, h2, OutOk.after P (Keep.refl _ _) k⟩
/-! ### stores -/
/-- a target of an assignment -/
def tA (K : PySem.W.Frag) (C : Gx) (z : Nat) (m : Val → M Unit) : TG := fun v σ H Q => ∃ F ρ fps x ρ', Rel K C F H ρ σ fps ∧ RD K C F v x ∧ m x ρ = some ((), ρ') ∧ ∀ σ' F' H' fps', Post K C F H fps ρ' σ' F' H' fps' → Keep z σ σ' → Q σ' H'
def tAs' (K : PySem.W.Frag) (C : Gx) (z : Nat) (m : List Val → M Unit) : TGs := fun vs σ H Q => ∃ F ρ fps xs ρ', Rel K C F H ρ σ fps ∧ RDs K C F vs xs ∧ m xs ρ = some ((), ρ') ∧ ∀ σ' F' H' fps', Post K C F H fps ρ' σ' F' H' fps' → Keep z σ σ' → Q σ' H'
theorem ta_name {i : Nat} {x : Str} {pos : Pos} (hN : X.N.Nodup) (hi : X.N[i]? = some x) (hx : Loc X.env.scope x) (hf : X.fn x = true ∨ X.env.scope.names.lookup x = some .local) (hl : i < X.N.length) (hz : z ≤ i) : PG X (.Name x pos) (tA X.K C z fun x ρ => some ((), ss ρ i (.v x))) :=
  ⟨fun pins s σ H v u Q I r ⟨F, ρ, fps, y, ρ', R, rd, e, k⟩ => by
    refine (pg_name hN hi hx hf).run pins s σ H v u Q I r ?_
    cases e
    exact k _ _ _ _ (Post.set R (by rw [I.len]; exact hl) rd) (Keep.set hz)⟩
theorem tas_nil : PGs X [] (tAs' X.K C z fun xs => match xs with
    | [] => ret ()
    | _ :: _ => fail) := PGs.imp pgs_nil fun vs σ H Q ⟨F, ρ, fps, xs, ρ', R, rd, e, k⟩ => by
  cases xs with
  | nil =>
    cases rd
    obtain ⟨_, rfl⟩ := ret_some e
    exact ⟨rfl, k _ _ _ _ (Post.refl R) (Keep.refl _ _)⟩
  | cons _ _ => exact (fail_some e).elim
def consA (m : Val → M Unit) (ms : List Val → M Unit) : List Val → M Unit := fun xs => match xs with
  | y :: ys => bnd (m y) fun _ => ms ys
  | [] => fail
theorem tas_cons {e : Expr} {es : List Expr} {m : Val → M Unit} {ms : List Val → M Unit} (h1 : PG X e (tA X.K C z m)) (h2 : PGs X es (tAs' X.K C z ms)) (hs : (assignEach (e :: es) X.env).map (·.2) = assign e X.env :: (assignEach es X.env).map (·.2)) : PGs X (e :: es) (tAs' X.K C z (consA m ms)) :=
  PGs.imp (pgs_cons h1 h2 hs) fun vs σ H Q ⟨F, ρ, fps, xs, ρ', R, rd, e, k⟩ => by
    cases xs with
    | nil => exact (fail_some (ρ := ρ) e).elim
    | cons y ys =>
      cases rd with
      | cons r1 r2 =>
        obtain ⟨_, ρ1, h3, h4⟩ := bnd_some e
        refine ⟨_, _, rfl, F, ρ, fps, y, ρ1, R, r1, h3, fun σ1 F1 H1 fps1 P1 k1 => ⟨F1, ρ1, fps1, ys, ρ', P1.rel, r2.sub P1.ext, h4, fun σ2 F2 H2 fps2 P2 k2 => ?_⟩⟩
        exact k σ2 F2 H2 fps2 (P1.trans P2) (k1.trans k2)
/-- unpacked, of n -/
def unpA (n : Nat) (ms : List Val → M Unit) : Val → M Unit := fun x => match unpV x with
  | some ys => if ys.length = n then ms ys else fail
  | none => fail
theorem ta_tup {es : List Expr} {k n : Nat} {pos : Pos} {ms : List Val → M Unit} (hc : X.calm = true) (h : PGs X es (tAs' X.K C z ms)) (hn : (assignEach es X.env).length = n) (hst : (assignEach es X.env).findIdx? (·.1) = none) :
    PG X (.Tuple es k pos) (tA X.K C z (unpA n ms)) :=
  PG.imp (PG.or (pg_tup hc h hn hst) (pg_unl hc h hn hst)) fun v σ H Q ⟨F, ρ, fps, x, ρ', R, rd, e, kk⟩ => by
    unfold unpA at e
    cases hu : unpV x with
    | none => rw [hu] at e; exact (fail_some e).elim
    | some ds =>
      rw [hu] at e
      simp only at e
      split at e
      · rename_i hl
        obtain ⟨a, vs, rfl, hs, rds⟩ := Itm.unp R.sub (.inl rd) hu
        have hlen : vs.length = n := by rw [rds.length]; exact hl
        rcases hs with hs | hs
        · exact .inl ⟨a, vs, rfl, hs, hlen, F, ρ, fps, ds, ρ', R, rds, e, kk⟩
        · exact .inr ⟨a, vs, rfl, hs, hlen, F, ρ, fps, ds, ρ', R, rds, e, kk⟩
      · exact (fail_some e).elim
/-- o[i] = v, o owned -/
def rSetX (X : Cx) : TSet := fun o i v H Q => rSetL o i v H Q ∨ rSetD o i v H Q ∨ ∃ a kas k b ob, o = .ref a ∧ i = .ref b ∧ H a = some (DX X.prog X.w a kas) ∧ KeysAt H kas ∧ H b = some (.frz ob (.tup (k.map kV))) ∧ kas.length < sizeLine ∧ Q (upd H a (DX X.prog X.w a (putX kas k b v)))
theorem set_X (hu : X.A.units + 1 < cLine) : PSet X (rSetX X) := by
  intro pins s σ H o i v ov iv u Q I ro ri rv h
  rcases h with h | h | ⟨a, kas, k, b, ob, rfl, rfl, e, ka, eb, hl, q⟩
  · exact set_list pins s σ H o i v ov iv u Q I ro ri rv h
  · exact set_dict hu pins s σ H o i v ov iv u Q I ro ri rv h
  · cases (show ov = Value.ref a from ro)
    cases (show iv = Value.ref b from ri)
    exact dx_setItem hu I e ka eb hl rv fun s' I' => ⟨_, I', q⟩
theorem ta_sub {i : Nat} {x : Str} {ke : Expr} {px pos : Pos} {mk : M Val} (hG : OnX X C) (hu : X.A.units + 1 < cLine) (hN : X.N[i]? = some x) (hv : Vis X.env.scope x) (hd : (x == ("__debug__" : Str)) = false) (hcd : (x == ("__classdict__" : Str)) = false) (hk : SE X C ke mk)
    (ha : ∀ v, assign (.Subscript (.Name x px) ke pos) X.env v = (do
      let ov ← holding [v] (eval (.Name x px) X.env)
      let iv ← holding [v, ov] (eval ke X.env)
      standAt pos
      holding [v, ov, iv] (setItem ov iv v)
      release [v, ov, iv] [])) : PG X (.Subscript (.Name x px) ke pos) (tA X.K C z fun x => bnd (chkS i) fun _ => bnd mk fun kx => subM i kx x) :=
  PG.imp (pg_sub (pe_var hN hv hd hcd) hk (set_X hu) ha) fun v σ H Q ⟨F, ρ, fps, y, ρ', R, rd, e, k⟩ => by
    obtain ⟨_, ρ0, h0, h1⟩ := bnd_some e
    obtain ⟨hne, rfl⟩ := chkS_some h0
    obtain ⟨kx, ρ1, h2, h3⟩ := bnd_some h1
    obtain ⟨w, ew⟩ := (R.at_ i).val hne
    refine ⟨w, ew, F, ρ0, fps, kx, ρ1, R, h2, fun u F1 H1 fps1 P1 ru => ?_⟩
    have rd1 := rd.sub P1.ext
    unfold subM at h3
    split at h3
    · rename_i xs hs
      split at h3
      · rename_i j
        split at h3
        · rename_i p hp
          cases h3
          obtain ⟨q, vs, ef, e1, e2, e3, rr⟩ := P1.rel.atL hs
          rw [ew] at e1; cases e1
          obtain rfl := ru.int_inv
          refine .inl ⟨q, vs, j, p, rfl, rfl, e3, by rw [rr.length]; exact hp, ?_⟩
          refine k σ F1 _ fps1 (P1.trans (Post.wr P1.rel (lt_of_L P1.rel hs) (by rw [ef]; exact List.mem_singleton_self q) (pl_lst _) e3 (fun _ z => by cases z) ?_)) (Keep.refl _ _)
          exact ⟨q, _, ef, ew, e2, upd_same, rr.set rd1 p⟩
        · cases h3
      · cases h3
    · rename_i t kvs hs
      split at h3
      · rename_i hh
        rw [Bool.and_eq_true] at hh
        cases h3
        have hlt : i < ρ1.length := gs_lt (by rw [hs]; intro z; cases z)
        have hlen := of_decide_eq_true hh.2
        cases t with
        | false =>
          obtain ⟨q, vs, ef, e1, e2, e3, rr⟩ := P1.rel.atK hs
          rw [ew] at e1; cases e1
          obtain ⟨kk, rfl⟩ := keyS_key (show keyS kx = true from hh.1)
          obtain rfl := ru.key
          refine .inr (.inl ⟨q, _, rfl, DPut.k e3 (by rw [rr.length]; exact hlen), ?_⟩)
          refine k σ F1 _ fps1 (P1.trans (Post.wr P1.rel hlt (by rw [ef]; exact List.mem_singleton_self q) (pl_dK _) e3 (fun _ z => by cases z) ?_)) (Keep.refl _ _)
          exact ⟨q, _, ef, ew, e2, upd_same, rr.put rd1 kk⟩
        | true =>
          obtain ⟨q, vs, ef, e1, e2, e3, rr⟩ := P1.rel.atT hs
          rw [ew] at e1; cases e1
          obtain ⟨ks, rfl, hc⟩ := keyT_key (show keyT kx = true from hh.1)
          obtain ⟨b, ob, ws, rfl, eb, ho, rb⟩ := ru.tup_key hc
          obtain rfl := rb.keys
          refine .inr (.inr ⟨q, vs, ks, b, ob, rfl, rfl, by rw [← hG.1, ← hG.2]; exact e3, rr.keysAt P1.rel.sub, P1.rel.sub _ _ eb, by rw [rr.length]; exact hlen, ?_⟩)
          refine k σ F1 _ fps1 (P1.trans (Post.wr P1.rel hlt (by rw [ef]; exact List.mem_singleton_self q) (pl_dX _ _ _ _) e3 (pl_dX _ _ _ _).t ?_)) (Keep.refl _ _)
          exact ⟨q, _, ef, ew, e2, by rw [upd_same, hG.1, hG.2], rr.put rd1 ks eb ho⟩
      · cases h3
    · cases h3
/-- name = value -/
theorem ss_set {i : Nat} {x : Str} {e : Expr} {pos pos' : Pos} {m : M Val} (hN : X.N.Nodup) (hi : X.N[i]? = some x) (hx : Loc X.env.scope x) (he : SE X C e m) (hs : swapsWith e (some (.Name x pos')) pos.line X.env = pure false) (hf : X.fn x = true ∨ X.env.scope.names.lookup x = some .local) (hz : z ≤ i) :
    SS X C z (.Assign [.Name x pos'] e pos) (bnd m fun x => bnd (fun ρ => some ((), ss ρ i (.v x))) fun _ => ret .nx) :=
  ⟨fun pins s σ H D I ⟨F, ρ, fps, o, ρ', R, h, k⟩ => by
    refine (ps_set hN hi hx he hs hf).run pins s σ H D I ?_
    obtain ⟨y, ρ1, h1, h2⟩ := bnd_some h
    cases h2
    refine ⟨F, ρ, fps, y, ρ1, R, h1, fun v F1 H1 fps1 P r => ?_⟩
    have hl : i < σ.length := by rw [I.len]; exact (List.getElem?_eq_some_iff.mp hi).1
    exact k _ F1 H1 _ (P.trans (Post.set P.rel hl r)) (Keep.set hz)⟩
/-- name = [..] on one line -/
theorem ss_setLc {i : Nat} {y : Str} {py : Pos} {pr : Bool} {elt tg iter : Expr} {ifs : List Expr} {scope : Scope} {own : List (Str × Nat)} {pos spos : Pos} {t : Tg} {mi : M (List Val)} {mc : M Bool} {me : M Val} (hc : X.calm = true) (hN : X.N.Nodup) (hy : X.N[i]? = some y) (hyl : X.env.scope.names.lookup y = some .local)
    (hsw : swapsWith (.ListComp elt [⟨tg, iter, ifs, 0⟩] scope pos) (some (.Name y py)) spos.line X.env = pure true) (hi : SI X C pr tg iter mi) (hn : (∃ k, t = .n k) → pr = false) (ok : BlkOk X.N X.env.scope scope own) (ho : own.map (·.2) = tgIdx t)
    (hg : ∀ (s : Shared) (H : Hp) (Ca : Addr) (cl : List (Str × Addr)) (fp : List Addr), PG (X.blk s H scope (compEnvC scope cl Ca X.env) fp) tg (tG X.K C t)) (ht : ∀ (s : Shared) (H : Hp) (Ca : Addr) (cl : List (Str × Addr)) (fp : List Addr), PTs (X.blk s H scope (compEnvC scope cl Ca X.env) fp) ifs (tBo X.K C mc))
    (he : ∀ (s : Shared) (H : Hp) (Ca : Addr) (cl : List (Str × Addr)) (fp : List Addr), PE (X.blk s H scope (compEnvC scope cl Ca X.env) fp) elt (tE X.K C me)) (hs : ∀ x, foldedSetIterable iter X.env x = pure x) (hz : z ≤ i) :
    SS X C z (.Assign [.Name y py] (.ListComp elt [⟨tg, iter, ifs, 0⟩] scope pos) spos) (bnd (bnd mi fun xs => bnd (wipeM (tgIdx t)) fun _ => bnd (lcLoop (lcStep t mc me) xs []) fun ys => ret (.list ys)) fun x => bnd (fun ρ => some ((), ss ρ i (.v x))) fun _ => ret .nx) :=
  ⟨fun pins s σ H D I ⟨F, ρ, fps, o, ρ', R, h, k⟩ => by
    refine (ps_setLc hc hN hy hyl hsw hi ok hg ht he hs).run pins s σ H D I ?_
    obtain ⟨y', ρ1, h1, h2⟩ := bnd_some h
    cases h2
    rw [ho]
    refine lc_read hn ⟨F, ρ, fps, y', ρ1, R, h1, fun v F1 H1 fps1 P r => ?_⟩
    have hl : i < σ.length := by rw [I.len]; exact (List.getElem?_eq_some_iff.mp hy).1
    exact k _ F1 H1 _ (P.trans (Post.set P.rel hl r)) (Keep.set hz)⟩
theorem ss_asg {tg e : Expr} {pos : Pos} {m : M Val} {ma : Val → M Unit} (he : SE X C e m) (hg : PG X tg (tA X.K C z ma)) (hs : swapsWithSole [tg] e pos.line X.env = pure false) (hw : swappedStores [tg] e X.env = pure none) (h1 : (assignEach [tg] X.env).map (·.2) = [assign tg X.env]) :
    SS X C z (.Assign [tg] e pos) (bnd m fun x => bnd (ma x) fun _ => ret .nx) := PS.imp (ps_asg he hg hs hw h1) fun D σ H ⟨F, ρ, fps, o, ρ', R, h, k⟩ => by
  obtain ⟨y, ρ1, h1, h2⟩ := bnd_some h
  obtain ⟨_, ρ2, h3, h4⟩ := bnd_some h2
  obtain ⟨rfl, rfl⟩ := ret_some h4
  exact ⟨F, ρ, fps, y, ρ1, R, h1, fun v F1 H1 fps1 P r => ⟨F1, ρ1, fps1, y, _, P.rel, r, h3, fun σ2 F2 H2 fps2 P2 k2 => k σ2 F2 H2 fps2 (P.trans P2) k2⟩⟩
end
end PL
set_option maxHeartbeats 1000000
/-! PLs22: what is owned, in parallel, appended; loops. -/
namespace PL
open PySem PySem.Spec PyProof.Rows L2
section
variable {K : PySem.W.Frag} {C : Gx} {F F1 H H1 : Hp} {ρ ρ1 : PL.Env} {σ : L2.St} {fps fps1 : Fps}
/-- a slot is given a new thing -/
theorem Post.setO {i : Nat} {v : V} {s : Slot} {fp : List Addr} (P : Post K C F H fps ρ1 σ F1 H1 fps1) (hi : i < σ.length) (h : SlotAt K C F1 H1 (some (some v)) s fp) (hf : ∀ a ∈ fp, H a = none ∧ ∀ i, a ∉ fps1 i) : Post K C F H fps (ss ρ1 i s) (σ.set i (some v)) F1 H1 (fpsW fps1 i fp) where
  rel := by
    have R := P.rel
    have hi' : i < ρ1.length := by rw [R.len]; exact hi
    refine ⟨R.sub, by rw [ss_length, List.length_set]; exact R.len, fun j => ?_, fun j k a hj hk => ?_, R.tab⟩
    · by_cases hj : j = i
      · subst hj
        rw [gs_ss_same hi', fpsW_same, List.getElem?_set_self hi]
        exact h
      · rw [gs_ss_ne hj, fpsW_ne hj, List.getElem?_set_ne (Ne.symm hj)]
        exact R.at_ j
    · by_cases ej : j = i
      · subst ej; rw [fpsW_same] at hj
        by_cases ek : k = j
        · exact ek.symm
        · rw [fpsW_ne ek] at hk; exact ((hf a hj).2 k hk).elim
      · by_cases ek : k = i
        · subst ek; rw [fpsW_same] at hk; rw [fpsW_ne ej] at hj; exact ((hf a hk).2 j hj).elim
        · rw [fpsW_ne ej] at hj; rw [fpsW_ne ek] at hk; exact R.dis j k a hj hk
  ext := P.ext
  keep := P.keep
  tbs := P.tbs
  new := P.new
  own := fun j a h => by
    by_cases ej : j = i
    · subst ej; rw [fpsW_same] at h; exact .inr (hf a h).1
    · rw [fpsW_ne ej] at h; exact P.own j a h
end
section
variable {X : Cx} {C : Gx} {z : Nat}
theorem ss_own {i : Nat} {x : Str} {e : Expr} {pos pos' : Pos} {m : M Slot} (hN : X.N.Nodup) (hi : X.N[i]? = some x) (hx : Loc X.env.scope x) (he : SO X C e m) (hs : swapsWith e (some (.Name x pos')) pos.line X.env = pure false) (hf : X.fn x = true ∨ X.env.scope.names.lookup x = some .local) (hz : z ≤ i) :
    SS X C z (.Assign [.Name x pos'] e pos) (bnd m fun s ρ => some (.nx, ss ρ i s)) :=
  ⟨fun pins s σ H D I ⟨F, ρ, fps, o, ρ', R, h, k⟩ => by
    refine (ps_set hN hi hx he hs hf).run pins s σ H D I ?_
    obtain ⟨y, ρ1, h1, h2⟩ := bnd_some h
    cases h2
    refine ⟨F, ρ, fps, y, ρ1, R, h1, fun v F1 H1 fps1 fp P r hfp => ?_⟩
    have hl : i < σ.length := by rw [I.len]; exact (List.getElem?_eq_some_iff.mp hi).1
    exact k _ F1 H1 _ (P.setO hl r hfp) (Keep.set hz)⟩
theorem ss_ownLc {i : Nat} {y : Str} {py : Pos} {pr : Bool} {elt tg iter : Expr} {ifs : List Expr} {scope : Scope} {own : List (Str × Nat)} {pos spos : Pos} {t : Tg} {mi : M (List Val)} {mc : M Bool} {me : M Val} (hc : X.calm = true) (hN : X.N.Nodup) (hy : X.N[i]? = some y) (hyl : X.env.scope.names.lookup y = some .local)
    (hsw : swapsWith (.ListComp elt [⟨tg, iter, ifs, 0⟩] scope pos) (some (.Name y py)) spos.line X.env = pure true) (hi : SI X C pr tg iter mi) (hn : (∃ k, t = .n k) → pr = false) (ok : BlkOk X.N X.env.scope scope own) (ho : own.map (·.2) = tgIdx t)
    (hg : ∀ (s : Shared) (H : Hp) (Ca : Addr) (cl : List (Str × Addr)) (fp : List Addr), PG (X.blk s H scope (compEnvC scope cl Ca X.env) fp) tg (tG X.K C t)) (ht : ∀ (s : Shared) (H : Hp) (Ca : Addr) (cl : List (Str × Addr)) (fp : List Addr), PTs (X.blk s H scope (compEnvC scope cl Ca X.env) fp) ifs (tBo X.K C mc))
    (he : ∀ (s : Shared) (H : Hp) (Ca : Addr) (cl : List (Str × Addr)) (fp : List Addr), PE (X.blk s H scope (compEnvC scope cl Ca X.env) fp) elt (tE X.K C me)) (hs : ∀ x, foldedSetIterable iter X.env x = pure x) (hz : z ≤ i) :
    SS X C z (.Assign [.Name y py] (.ListComp elt [⟨tg, iter, ifs, 0⟩] scope pos) spos) (bnd (bnd (bnd mi fun xs => bnd (wipeM (tgIdx t)) fun _ => bnd (lcLoop (lcStep t mc me) xs []) fun ys => ret (.list ys)) fun x => lft (lstS x)) fun s ρ => some (.nx, ss ρ i s)) :=
  ⟨fun pins s σ H D I ⟨F, ρ, fps, o, ρ', R, h, k⟩ => by
    refine (ps_setLc hc hN hy hyl hsw hi ok hg ht he hs).run pins s σ H D I ?_
    obtain ⟨y', ρ1, h1, h2⟩ := bnd_some h
    cases h2
    rw [ho]
    refine so_lc hn ⟨F, ρ, fps, y', ρ1, R, h1, fun v F1 H1 fps1 fp P r hfp => ?_⟩
    have hl : i < σ.length := by rw [I.len]; exact (List.getElem?_eq_some_iff.mp hy).1
    exact k _ F1 H1 _ (P.setO hl r hfp) (Keep.set hz)⟩
/-! ### in parallel -/
/-- values for slots, from the left -/
inductive SlotsAt (K : PySem.W.Frag) (C : Gx) (F H : Hp) : List V → List Slot → List (List Addr) → Prop
  | nil : SlotsAt K C F H [] [] []
  | cons {v : V} {vs : List V} {s : Slot} {ss : List Slot} {fp : List Addr} {fq : List (List Addr)} : SlotAt K C F H (some (some v)) s fp → (∀ a ∈ fp, ∀ l ∈ fq, a ∉ l) → SlotsAt K C F H vs ss fq → SlotsAt K C F H (v :: vs) (s :: ss) (fp :: fq)
def tOs (K : PySem.W.Frag) (C : Gx) (m : M (List Slot)) : TA := fun σ H Q => ∃ F ρ fps ss ρ', Rel K C F H ρ σ fps ∧ m ρ = some (ss, ρ') ∧
  ∀ vs F' H' fps' fq, Post K C F H fps ρ' σ F' H' fps' → SlotsAt K C F' H' vs ss fq → (∀ fp ∈ fq, ∀ a ∈ fp, H a = none ∧ ∀ i, a ∉ fps' i) → Q vs H'
theorem sos_nil : PA X [] (tOs X.K C (ret [])) := PA.imp pa_nil fun σ H Q ⟨F, ρ, fps, s, ρ', R, h, k⟩ => by
  obtain ⟨rfl, rfl⟩ := ret_some h
  exact k [] F H fps [] (Post.refl R) .nil fun fp hfp => by cases hfp
theorem slot_stays {K : PySem.W.Frag} {C : Gx} {F H F1 H1 : Hp} {ρ1 : PL.Env} {σ : L2.St} {fps fps1 : Fps} {o : Option (Option V)} {s : Slot} {fp : List Addr} (P : Post K C F H fps ρ1 σ F1 H1 fps1) (h : SlotAt K C F H o s fp) (hf : ∀ a ∈ fp, ∀ i, a ∉ fps i) : SlotAt K C F1 H1 o s fp ∧ ∀ a ∈ fp, ∀ i, a ∉ fps1 i := by
  have st : ∀ a ∈ fp, F1 a = none ∧ ∀ i, a ∉ fps1 i := fun a ha => by
    obtain ⟨f, x, g⟩ := h.free a ha
    refine ⟨?_, fun i hi => ?_⟩
    · cases q : F1 a with
      | none => rfl
      | some u =>
        rcases P.new a u q with r | r | ⟨i, r⟩
        · rw [f] at r; cases r
        · rw [g] at r; cases r
        · exact (hf a ha i r).elim
    · rcases P.own i a hi with ⟨j, hj⟩ | hn
      · exact hf a ha j hj
      · rw [g] at hn; cases hn
  exact ⟨h.grow P.ext (fun a ha => (st a ha).1) fun a ha x g => P.keep a x g (hf a ha) fun ps e => h.no_tbl a ha ps (by rw [g, e]), fun a ha => (st a ha).2⟩
theorem sos_cons {e : Expr} {es : List Expr} {m : M Slot} {ms : M (List Slot)} (he : SO X C e m) (hr : PA X es (tOs X.K C ms)) (hs : starEach (e :: es) X.env = (false, eval e X.env) :: starEach es X.env) : PA X (e :: es) (tOs X.K C (bnd m fun s => bnd ms fun r => ret (s :: r))) :=
  PA.imp (pa_cons he hr hs) fun σ H Q ⟨F, ρ, fps, l, ρ', R, h, k⟩ => by
    obtain ⟨s, ρ1, h1, h2⟩ := bnd_some h
    obtain ⟨r, ρ2, h3, h4⟩ := bnd_some h2
    obtain ⟨rfl, rfl⟩ := ret_some h4
    refine ⟨F, ρ, fps, s, ρ1, R, h1, fun v F1 H1 fps1 fp P1 sa hf => ⟨F1, ρ1, fps1, r, _, P1.rel, h3, fun vs F2 H2 fps2 fq P2 sas hfq => ?_⟩⟩
    obtain ⟨sa2, n2⟩ := slot_stays P2 sa fun a ha => (hf a ha).2
    refine k (v :: vs) F2 H2 fps2 (fp :: fq) (P1.trans P2) (.cons sa2 (fun a ha l hl hal => ?_) sas) fun l hl a ha => ?_
    · obtain ⟨_, x, g⟩ := sa.free a ha
      rw [(hfq l hl a hal).1] at g; cases g
    · rcases List.mem_cons.mp hl with rfl | hl
      · exact ⟨(hf a ha).1, n2 a ha⟩
      · exact ⟨P1.gone (hfq l hl a ha).1, (hfq l hl a ha).2⟩
theorem fresh_w {fps1 : Fps} {i : Nat} {fp l : List Addr} {H : Hp} (h : ∀ a ∈ l, H a = none ∧ ∀ k, a ∉ fps1 k) (d : ∀ a ∈ fp, a ∉ l) : ∀ a ∈ l, H a = none ∧ ∀ k, a ∉ fpsW fps1 i fp k := fun a ha => ⟨(h a ha).1, fun k hk => by
  by_cases e : k = i
  · subst e; rw [fpsW_same] at hk; exact d a hk ha
  · rw [fpsW_ne e] at hk; exact (h a ha).2 k hk⟩
theorem ss_par2 {i j : Nat} {x y : Str} {a b : Expr} {px py pt pos : Pos} {kt k2 : Nat} {pt2 : Pos} {fi fj : Bool} {m : M (List Slot)} (hc : X.calm = true) (hN : X.N.Nodup) (hi : X.N[i]? = some x) (hj : X.N[j]? = some y) (hij : i ≠ j)
    (hx : X.env.scope.names.lookup x = some .local) (hy : X.env.scope.names.lookup y = some .local) (ha : PA X [a, b] (tOs X.K C m)) (hw : swappedStores [.Tuple [.Name x px, .Name y py] kt pt] (.Tuple [a, b] k2 pt2) X.env = pure (some [x, y]))
    (hs : swapsWithSole [.Tuple [.Name x px, .Name y py] kt pt] (.Tuple [a, b] k2 pt2) pos.line X.env = pure false) (hzi : z ≤ i) (hzj : z ≤ j) (h2 : ∀ ρ l ρ', m ρ = some (l, ρ') → l.length = 2) :
    SS X C z (.Assign [.Tuple [.Name x px, .Name y py] kt pt] (.Tuple [a, b] k2 pt2) pos) (bnd m fun r => fun ρ => some (.nx, setAll [(i, fi), (j, fj)] r ρ)) :=
  ⟨fun pins s σ H D I ⟨F, ρ, fps, o, ρ', R, h, k⟩ => by
    refine (ps_par hc hN hi hj hij hx hy ha hw hs).run pins s σ H D I ?_
    obtain ⟨l, ρ1, h1, h3⟩ := bnd_some h
    have hl := h2 _ _ _ h1
    cases h3
    have li : i < σ.length := by rw [I.len]; exact (List.getElem?_eq_some_iff.mp hi).1
    have lj : j < σ.length := by rw [I.len]; exact (List.getElem?_eq_some_iff.mp hj).1
    refine ⟨F, ρ, fps, l, ρ1, R, h1, fun vs F1 H1 fps1 fq P sas hfq => ?_⟩
    cases sas with
    | nil => simp at hl
    | cons sa d1 sas =>
      cases sas with
      | nil => simp at hl
      | cons sb d2 sas =>
        cases sas with
        | cons _ _ _ => simp at hl
        | nil =>
          refine ⟨_, _, rfl, ?_⟩
          have P1 := P.setO li sa (hfq _ List.mem_cons_self)
          have P2 := P1.setO (i := j) (σ := σ.set i _) (by rw [List.length_set]; exact lj) sb (fresh_w (hfq _ (List.mem_cons_of_mem _ List.mem_cons_self)) fun a ha => d1 a ha _ List.mem_cons_self)
          exact k _ F1 H1 _ P2 ((Keep.set hzi).trans (Keep.set hzj))⟩
theorem ss_par3 {i j l : Nat} {x y w : Str} {a b c : Expr} {px py pw pt pos : Pos} {kt k2 : Nat} {pt2 : Pos} {fi fj fl : Bool} {m : M (List Slot)} (hc : X.calm = true) (hN : X.N.Nodup) (hi : X.N[i]? = some x) (hj : X.N[j]? = some y) (hl : X.N[l]? = some w) (hij : i ≠ j) (hil : i ≠ l) (hjl : j ≠ l)
    (hx : X.env.scope.names.lookup x = some .local) (hy : X.env.scope.names.lookup y = some .local) (hw' : X.env.scope.names.lookup w = some .local) (ha : PA X [a, b, c] (tOs X.K C m)) (hw : swappedStores [.Tuple [.Name x px, .Name y py, .Name w pw] kt pt] (.Tuple [a, b, c] k2 pt2) X.env = pure (some [x, y, w]))
    (hs : swapsWithSole [.Tuple [.Name x px, .Name y py, .Name w pw] kt pt] (.Tuple [a, b, c] k2 pt2) pos.line X.env = pure false) (hzi : z ≤ i) (hzj : z ≤ j) (hzl : z ≤ l) (h2 : ∀ ρ l ρ', m ρ = some (l, ρ') → l.length = 3) :
    SS X C z (.Assign [.Tuple [.Name x px, .Name y py, .Name w pw] kt pt] (.Tuple [a, b, c] k2 pt2) pos) (bnd m fun r => fun ρ => some (.nx, setAll [(i, fi), (j, fj), (l, fl)] r ρ)) :=
  ⟨fun pins s σ H D I ⟨F, ρ, fps, o, ρ', R, h, k⟩ => by
    refine (ps_par3 hc hN hi hj hl hij hil hjl hx hy hw' ha hw hs).run pins s σ H D I ?_
    obtain ⟨r, ρ1, h1, h3⟩ := bnd_some h
    have hlen := h2 _ _ _ h1
    cases h3
    have li : i < σ.length := by rw [I.len]; exact (List.getElem?_eq_some_iff.mp hi).1
    have lj : j < σ.length := by rw [I.len]; exact (List.getElem?_eq_some_iff.mp hj).1
    have ll : l < σ.length := by rw [I.len]; exact (List.getElem?_eq_some_iff.mp hl).1
    refine ⟨F, ρ, fps, r, ρ1, R, h1, fun vs F1 H1 fps1 fq P sas hfq => ?_⟩
    cases sas with
    | nil => simp at hlen
    | cons sa d1 sas =>
      cases sas with
      | nil => simp at hlen
      | cons sb d2 sas =>
        cases sas with
        | nil => simp at hlen
        | cons sc d3 sas =>
          cases sas with
          | cons _ _ _ => simp at hlen
          | nil =>
            refine ⟨_, _, _, rfl, ?_⟩
            have f1 := hfq _ List.mem_cons_self
            have f2 := hfq _ (List.mem_cons_of_mem _ List.mem_cons_self)
            have f3 := hfq _ (List.mem_cons_of_mem _ (List.mem_cons_of_mem _ List.mem_cons_self))
            have P1 := P.setO li sa f1
            have P2 := P1.setO (i := j) (σ := σ.set i _) (by rw [List.length_set]; exact lj) sb (fresh_w f2 fun a ha => d1 a ha _ List.mem_cons_self)
            have P3 := P2.setO (i := l) (σ := (σ.set i _).set j _) (by rw [List.length_set, List.length_set]; exact ll) sc (fresh_w (fresh_w f3 fun a ha => d1 a ha _ (List.mem_cons_of_mem _ List.mem_cons_self)) fun a ha => d2 a ha _ List.mem_cons_self)
            exact k _ F1 H1 _ P3 (((Keep.set hzi).trans (Keep.set hzj)).trans (Keep.set hzl))⟩
/-! ### append -/
theorem ss_append {i : Nat} {x : Str} {e : Expr} {px apos pos spos : Pos} {m : M Val} (hN : X.N[i]? = some x) (hv : Vis X.env.scope x) (hd : (x == ("__debug__" : Str)) = false) (hcd : (x == ("__classdict__" : Str)) = false) (he : SE X C e m) (hbase : attributeBase (.Name x px) "append" X.env (eval (.Name x px) X.env) = eval (.Name x px) X.env) (hline : (apos.endLine == pos.line) = true)
    (hst : starEach [e] X.env = (false, eval e X.env) :: starEach [] X.env)
    (hfew : ((backTo pos (starEach [e] X.env)).all (fun x => !x.1) && (backToKw pos (keywordEach [] X.env)).all (fun x => x.1.isSome) && decide (([e] : List Expr).length + ([] : List Keyword).length + (if ([] : List Keyword).isEmpty then 0 else 1) < 30)) = true)
    (hs : swapsWith (.Call (.Attribute (.Name x px) "append" apos) [e] [] pos) none spos.line X.env = pure false) :
    SS X C z (.Expr (.Call (.Attribute (.Name x px) "append" apos) [e] [] pos) spos) (bnd (getL i) fun _ => bnd m fun x => bnd (getL i) fun xs => if xs.length < line then bnd (setL i (xs ++ [x])) fun _ => ret .nx else fail) := by
  refine PS.imp (ps_expr (pe_bm F.plainAttrs_list F.slot_list_append F.type_list_append (r := rAppend) mt_append (pe_var hN hv hd hcd) (pa_cons he pa_nil hst) hbase hfew hline hst rfl) hs) ?_
  rintro D σ H ⟨F, ρ, fps, o, ρ', R, h, k⟩
  obtain ⟨xs0, ρ0, h0, h1⟩ := bnd_some h
  obtain ⟨hs0, rfl⟩ := getL_some h0
  obtain ⟨y, ρ1, h2, h3⟩ := bnd_some h1
  obtain ⟨xs, ρ2, h4, h5⟩ := bnd_some h3
  obtain ⟨hs, rfl⟩ := getL_some h4
  obtain ⟨p, vs0, _, e0, _, e3, _⟩ := R.atL hs0
  refine ⟨.ref p, e0, .inl ⟨rfl, _, SqL.of e3⟩, F, ρ0, fps, y, _, R, h2, fun u F1 H1 fps1 P1 ru => ?_⟩
  obtain ⟨p', vs, ef, e1, e2, e4, rr⟩ := P1.rel.atL hs
  rw [e0] at e1; cases e1
  split at h5
  · rename_i hl
    cases h5
    refine ⟨p, vs, u, rfl, rfl, e4, by rw [rr.length]; exact hl, ?_⟩
    refine k σ F1 _ fps1 (P1.trans (Post.wr P1.rel (lt_of_L P1.rel hs) (by rw [ef]; exact List.mem_singleton_self p) (pl_lst _) e4 (fun _ z => by cases z) ?_)) (Keep.refl _ _)
    exact ⟨p, _, ef, e0, e2, upd_same, rr.snoc ru⟩
  · exact (fail_some h5).elim
/-! ### loops -/
theorem forLoop_cons {step : Val → M Out} {x : Val} {r : List Val} {ρ ρ' : PL.Env} {o : Out} (h : forLoop step (x :: r) ρ = some (o, ρ')) : ∃ o1 ρ1, step x ρ = some (o1, ρ1) ∧ ((o1 = .nx ∧ forLoop step r ρ1 = some (o, ρ')) ∨ ∃ y, o1 = .rt y ∧ o = .rt y ∧ ρ' = ρ1) := by
  unfold forLoop at h
  obtain ⟨o1, ρ1, h1, h2⟩ := bnd_some h
  refine ⟨o1, ρ1, h1, ?_⟩
  cases o1 with
  | nx => exact .inl ⟨rfl, h2⟩
  | rt y => obtain ⟨rfl, rfl⟩ := ret_some h2; exact .inr ⟨y, rfl, rfl, rfl⟩
theorem ss_for {pr : Bool} {tg iter : Expr} {body : List Stmt} {pos : Pos} {t : Tg} {mi : M (List Val)} {mb : M Out} (hp : PassesOwn (model X.prog X.w) X.A X.env X.xe) (hc : X.calm = true) (hi : SI X C pr tg iter mi) (hn : (∃ k, t = .n k) → pr = false) (hg : PG X tg (tG X.K C t)) (hb : SSs X C z body mb)
    (hs : ∀ x, foldedSetIterable iter X.env x = pure x) (hz : ∀ i ∈ tgIdx t, z ≤ i) : SS X C z (.For tg iter body [] pos) (bnd mi fun xs => forLoop (fun x => bnd (asgM t x) fun _ => mb) xs) := by
  refine PS.imp (ps_for hp hc hi hg hb hs) ?_
  rintro D σ H ⟨F, ρ, fps, o, ρ', R, h, k⟩
  obtain ⟨xs, ρ1, h1, h2⟩ := bnd_some h
  refine ⟨F, ρ, fps, xs, ρ1, R, h1, fun J F1 H1 fps1 P1 S => ?_⟩
  refine ⟨fun i m σi Hi => m = xs.length - i ∧ i ≤ xs.length ∧ ∃ F' fps' ρi, Post X.K C F1 H1 fps1 ρi σi F' Hi fps' ∧ Keep z σ σi ∧ forLoop (fun x => bnd (asgM t x) fun _ => mb) (xs.drop i) ρi = some (o, ρ'), ⟨_, rfl, Nat.zero_le _, F1, fps1, ρ1, Post.refl P1.rel, Keep.refl _ _, by rw [List.drop_zero]; exact h2⟩, ?_⟩
  rintro i m σi Hi ⟨rfl, hle, F', fps', ρi, P, ke, hl⟩
  have hsub : FSub F1 Hi := P.ext.trans P.rel.sub
  by_cases hlt : i < xs.length
  · refine .inr ⟨S.go i Hi hsub hlt, fun σ' H' => xs.length - (i + 1) < xs.length - i ∧ i + 1 ≤ xs.length ∧ ∃ F' fps' ρi, Post X.K C F1 H1 fps1 ρi σ' F' H' fps' ∧ Keep z σ σ' ∧ forLoop (fun x => bnd (asgM t x) fun _ => mb) (xs.drop (i + 1)) ρi = some (o, ρ'), fun σ' H' ⟨q1, q2, q3⟩ => ⟨_, q1, rfl, q2, q3⟩, fun v H' hy => ?_⟩
    rw [List.drop_eq_getElem_cons hlt] at hl
    obtain ⟨o1, ρs, e1, e2⟩ := forLoop_cons hl
    obtain ⟨_, ρa, e3, e4⟩ := bnd_some e1
    have e3 := asgM_some e3
    have ex : xs[i]? = some xs[i] := List.getElem?_eq_getElem hlt
    have key : ∃ Pn : Post X.K C F1 H1 fps1 ρi σi F' H' fps', Itm X.K C F' H' v xs[i] ∧ ((∃ k, t = .n k) → RD X.K C F' v xs[i]) := by
      rcases S.yld i Hi v H' _ hsub ex hy with ⟨rfl, r⟩ | ⟨hpr, T, us, ds, rfl, hT, rfl, ed, r⟩
      · exact ⟨P, .inl (r.sub P.ext), fun _ => r.sub P.ext⟩
      · refine ⟨P.trans (Post.laidU P.rel hT), .inr ⟨T, us, ds, rfl, upd_same, ed, r.sub P.ext⟩, fun hk => ?_⟩
        rw [hn hk] at hpr; cases hpr
    obtain ⟨Pn, it, hrd⟩ := key
    refine ⟨F', ρi, fps', xs[i], ρa, Pn.rel, it, e3, hrd, fun σ2 fps2 P2 o2 => ?_⟩
    have Pa := Pn.trans P2
    have k2 : Keep z σ σ2 := ke.trans (Keep.off o2 hz)
    refine ⟨F', ρa, fps2, o1, ρs, P2.rel, e4, ?_⟩
    cases o1 with
    | nx =>
      rcases e2 with ⟨_, e2⟩ | ⟨y, ey, _⟩
      · exact fun σ3 F3 H3 fps3 P3 k3 => ⟨by omega, hlt, F3, fps3, ρs, Pa.trans P3, k2.trans k3, e2⟩
      · cases ey
    | rt y =>
      rcases e2 with ⟨ey, _⟩ | ⟨y', ey, rfl, rfl⟩
      · cases ey
      · cases ey
        exact fun w σ3 F3 H3 fps3 P3 k3 r => k w σ3 F3 H3 fps3 ((P1.trans Pa).trans P3) (k2.trans k3) r
  · have e : i = xs.length := by omega
    subst e
    rw [List.drop_length] at hl
    obtain ⟨rfl, rfl⟩ := ret_some hl
    exact .inl ⟨S.stop Hi hsub, k σi F' Hi fps' (P1.trans P) ke⟩
theorem ss_while {c : Expr} {body : List Stmt} {pos : Pos} {mc : M Bool} {mb : M Out} {n : Nat} (hp : PassesOwn (model X.prog X.w) X.A X.env X.xe) (hc : SB X C c mc) (hb : SSs X C z body mb) : SS X C z (.While c body [] pos) (whileLoop mc mb n) := by
  refine PS.imp (ps_while hp hc hb) ?_
  rintro D σ H ⟨F, ρ, fps, o, ρ', R, h, k⟩
  refine ⟨fun m σi Hi => ∃ F' fps' ρi, Post X.K C F H fps ρi σi F' Hi fps' ∧ Keep z σ σi ∧ whileLoop mc mb m ρi = some (o, ρ'), ⟨n, F, fps, ρ, Post.refl R, Keep.refl _ _, h⟩, ?_⟩
  rintro m σi Hi ⟨F', fps', ρi, P, ke, hl⟩
  cases m with
  | zero => exact (fail_some hl).elim
  | succ m =>
    unfold whileLoop at hl
    obtain ⟨r, ρ1, h1, h2⟩ := bnd_some hl
    refine ⟨F', ρi, fps', r, ρ1, P.rel, h1, fun F1 H1 fps1 P1 => ?_⟩
    split at h2
    · rename_i hr
      rw [if_pos hr]
      obtain ⟨o1, ρ2, h3, h4⟩ := bnd_some h2
      refine ⟨fun σ' H' => ∃ F' fps' ρi, Post X.K C F H fps ρi σ' F' H' fps' ∧ Keep z σ σ' ∧ whileLoop mc mb m ρi = some (o, ρ'), fun σ' H' q => ⟨m, Nat.lt_succ_self m, q⟩, F1, ρ1, fps1, o1, ρ2, P1.rel, h3, ?_⟩
      cases o1 with
      | nx => exact fun σ3 F3 H3 fps3 P3 k3 => ⟨F3, fps3, ρ2, (P.trans P1).trans P3, ke.trans k3, h4⟩
      | rt y =>
        obtain ⟨rfl, rfl⟩ := ret_some h4
        exact fun w σ3 F3 H3 fps3 P3 k3 r => k w σ3 F3 H3 fps3 ((P.trans P1).trans P3) (ke.trans k3) r
    · rename_i hr
      rw [if_neg hr]
      obtain ⟨rfl, rfl⟩ := ret_some h2
      exact k σi F1 H1 fps1 (P.trans P1) ke
end
end PL
set_option maxHeartbeats 1000000
/-! PLs23: calls of the text's own defs. -/
namespace PL
open PySem PySem.Spec PyProof.Rows L2
/-- what a call leaves; pa: what it may write -/
structure CPost (K : PySem.W.Frag) (C : Gx) (F H F' H' : Hp) (pa : List Addr) : Prop where
  ext : FSub F F'
  sub : FSub F' H'
  keep : ∀ a o, H a = some o → a ∉ pa → (∀ ps, o ≠ .tbl ps) → H' a = some o
  tbs : Tbs H H'
  new : ∀ a o, F' a = some o → F a = some o ∨ H a = none
  tab : ∀ p ∈ C.T, TabF F' H' p.1 p.2
section
variable {K : PySem.W.Frag} {C : Gx} {F F1 F2 H H1 H2 : Hp} {ρ ρ1 : PL.Env} {σ : L2.St} {fps fps1 : Fps}
theorem CPost.no (P : CPost K C F H F1 H1 pa) {a : Addr} {o : HO} (f : F a = none) (e : H a = some o) : F1 a = none := by
  cases z : F1 a with
  | none => rfl
  | some u =>
    rcases P.new a u z with q | q
    · rw [f] at q; cases q
    · rw [e] at q; cases q
/-- behind a call that writes what is new -/
theorem Post.call {pa : List Addr} (P : Post K C F H fps ρ1 σ F1 H1 fps1) (Q : CPost K C F1 H1 F2 H2 pa) (hp : ∀ a ∈ pa, H a = none ∧ ∀ i, a ∉ fps1 i) : Post K C F H fps ρ1 σ F2 H2 fps1 where
  rel := by
    refine ⟨Q.sub, P.rel.len, fun i => (P.rel.at_ i).grow Q.ext (fun a ha => ?_) fun a ha x g => ?_, P.rel.dis, fun p hp' => ⟨Q.tab p hp', ?_⟩⟩
    · obtain ⟨f, x, g⟩ := (P.rel.at_ i).free a ha
      exact Q.no f g
    · exact Q.keep a x g (fun hm => (hp a hm).2 i ha) fun ps e => (P.rel.at_ i).no_tbl a ha ps (by rw [g, e])
    · obtain ⟨⟨ps, e, _⟩, f⟩ := P.rel.tab p hp'
      exact Q.no f e
  ext := P.ext.trans Q.ext
  keep := fun a o e n t => Q.keep a o (P.keep a o e n t) (fun hm => by rw [(hp a hm).1] at e; cases e) t
  tbs := P.tbs.trans Q.tbs
  new := fun a o e => by
    rcases Q.new a o e with q | q
    · exact P.new a o q
    · exact .inr (.inl (P.gone q))
  own := P.own
/-- .. that writes the list of slot s -/
theorem Post.callP {s : Nat} {p : Addr} {l : List Val} {ws : List V} (R : Rel K C F H ρ σ fps) (hs : s < ρ.length) (ef : fps s = [p]) (es : σ[s]? = some (some (.ref p))) (Q : CPost K C F H F2 H2 [p]) (f2 : F2 p = none) (e2 : H2 p = some (.lst ws)) (r : RDs K C F2 ws l) : Post K C F H fps (ss ρ s (.L l)) σ F2 H2 fps where
  rel := by
    refine ⟨Q.sub, by rw [ss_length]; exact R.len, fun i => ?_, R.dis, fun q hq => ⟨Q.tab q hq, ?_⟩⟩
    · by_cases hi : i = s
      · subst hi
        rw [gs_ss_same hs]
        exact ⟨p, ws, ef, es, f2, e2, r⟩
      · rw [gs_ss_ne hi]
        refine (R.at_ i).grow Q.ext (fun a ha => ?_) fun a ha x g => ?_
        · obtain ⟨f, x, g⟩ := (R.at_ i).free a ha
          exact Q.no f g
        · refine Q.keep a x g (fun hm => ?_) fun ps e => (R.at_ i).no_tbl a ha ps (by rw [g, e])
          obtain rfl := List.mem_singleton.mp hm
          exact hi (R.dis i s a ha (by rw [ef]; exact hm))
    · obtain ⟨⟨ps, e, _⟩, f⟩ := R.tab q hq
      exact Q.no f e
  ext := Q.ext
  keep := fun a o e n t => Q.keep a o e (fun hm => n s (by rw [ef]; exact hm)) t
  tbs := Q.tbs
  new := fun a o e => (Q.new a o e).imp id .inl
  own := fun i a h => .inl ⟨i, h⟩
end
/-- the promise of the table's f; pl: it has a pool, its first argument -/
def spC (K : PySem.W.Frag) (C : Gx) (S : Sem) (f : Nat) : Bool → Sp
  | false => fun vs H Q _ => ∃ F args r, FSub F H ∧ (∀ p ∈ C.T, TabF F H p.1 p.2 ∧ F p.1 = none) ∧ S f none args = some r ∧ RDs K C F vs args ∧ ∀ v F' H', CPost K C F H F' H' [] → RD K C F' v r.1 → Q v H'
  | true => fun vs H Q _ => ∃ F args r l p ws vs', FSub F H ∧ (∀ p ∈ C.T, TabF F H p.1 p.2 ∧ F p.1 = none) ∧ S f (some l) args = some r ∧ vs = .ref p :: vs' ∧ F p = none ∧ H p = some (.lst ws) ∧ RDs K C F ws l ∧ RDs K C F vs' args ∧
      ∀ v F' H' ws', CPost K C F H F' H' [p] → RD K C F' v r.1 → F' p = none → H' p = some (.lst ws') → RDs K C F' ws' r.2 → Q v H'
/-- what is at hand of the table's f, in a context -/
structure Kn (X : Cx) (C : Gx) (S : Sem) (f : Nat) (x : Str) (ps : List Str) (pl : Bool) : Prop where
  ex : ∃ k fa fd, FnOk X.prog X.w X.K X.mg X.base CX0 k fa fd ps (spC X.K C S f pl) ∧ Room k X.A ∧ X.mg x = some (.ref fa) ∧ PySem.W.keepIn X.K (.ref fa) = true ∧ Binds X.K fd ps []
  dbg : (x == ("__debug__" : Str)) = false
section
variable {X : Cx} {C : Gx} {S : Sem}
theorem snd_call {f : Nat} {x : Str} {ps : List Str} {p pos : Pos} {e : Expr} {es : List Expr} {mas : M (List Val)} (kn : Kn X C S f x ps false) (hg : Gl X x) (ha : SA X C (e :: es) mas) (he : starEach (e :: es) X.env = (false, eval e X.env) :: starEach es X.env) (hpl : (backTo pos (starEach es X.env)).any (·.1) = false) :
    SE X C (.Call (.Name x p) (e :: es) [] pos) (bnd mas fun xs => bnd (lft (S f none xs)) fun r => ret r.1) := by
  obtain ⟨k, fa, fd, F0, hr, hm, hk, hb⟩ := kn.ex
  refine PE.imp (pe_call (dvs := []) (E := E0) F0 hr hg hm hk hb .nil pass0 ha kn.dbg he hpl) ?_
  rintro σ H Q ⟨F, ρ, fps, z, ρ', R, h, kk⟩
  obtain ⟨xs, ρ1, h1, h2⟩ := bnd_some h
  obtain ⟨r, ρ2, h3, h4⟩ := bnd_some h2
  obtain ⟨g3, rfl⟩ := lft_some h3
  obtain ⟨rfl, rfl⟩ := ret_some h4
  refine ⟨F, ρ, fps, xs, _, R, h1, fun vs F1 H1 fps1 P1 rv => ?_⟩
  simp only [List.append_nil]
  exact ⟨F1, xs, r, P1.rel.sub, P1.rel.tab, g3, rv, fun v F' H' cp rd => kk _ _ _ _ (P1.call cp fun a ha => by cases ha) rd⟩
theorem snd_call0 {f : Nat} {x : Str} {ps : List Str} {p pos : Pos} (kn : Kn X C S f x ps false) (hg : Gl X x) :
    SE X C (.Call (.Name x p) [] [] pos) (bnd (argsM (ret (.tuple []))) fun xs => bnd (lft (S f none xs)) fun r => ret r.1) := by
  obtain ⟨k, fa, fd, F0, hr, hm, hk, hb⟩ := kn.ex
  refine PE.imp (pe_call0 (dvs := []) (E := E0) F0 hr hg hm hk hb .nil pass0 kn.dbg) ?_
  rintro σ H Q ⟨F, ρ, fps, z, ρ', R, h, kk⟩
  obtain ⟨xs, ρ1, h1, h2⟩ := bnd_some h
  cases h1
  obtain ⟨r, ρ2, h3, h4⟩ := bnd_some h2
  obtain ⟨g3, rfl⟩ := lft_some h3
  obtain ⟨rfl, rfl⟩ := ret_some h4
  exact ⟨F, [], r, R.sub, R.tab, g3, .nil, fun v F' H' cp rd => kk _ _ _ _ ((Post.refl R).call cp fun a ha => by cases ha) rd⟩
/-- f(pool, ..) -/
theorem snd_callP {f s : Nat} {x y : Str} {ps : List Str} {p py pos : Pos} {es : List Expr} {mas : M (List Val)} (kn : Kn X C S f x ps true) (hg : Gl X x) (hN : X.N[s]? = some y) (hv : Vis X.env.scope y) (hd : (y == ("__debug__" : Str)) = false) (hcd : (y == ("__classdict__" : Str)) = false)
    (ha : SA X C es mas) (he : starEach (.Name y py :: es) X.env = (false, eval (.Name y py) X.env) :: starEach es X.env) (hpl : (backTo pos (starEach es X.env)).any (·.1) = false) :
    SE X C (.Call (.Name x p) (.Name y py :: es) [] pos) (bnd (getL s) fun _ => bnd mas fun xs => bnd (getL s) fun pl => bnd (lft (S f (some pl) xs)) fun r => bnd (setL s r.2) fun _ => ret r.1) := by
  obtain ⟨k, fa, fd, F0, hr, hm, hk, hb⟩ := kn.ex
  refine PE.imp (pe_call (dvs := []) (E := E0) F0 hr hg hm hk hb .nil pass0 (pa_cons (pe_var hN hv hd hcd) ha he) kn.dbg he hpl) ?_
  rintro σ H Q ⟨F, ρ, fps, z, ρ', R, h, kk⟩
  obtain ⟨l0, ρ0, h0, h'⟩ := bnd_some h
  obtain ⟨hs0, rfl⟩ := getL_some h0
  obtain ⟨xs, ρ1, h1, h2⟩ := bnd_some h'
  obtain ⟨l, ρ2, h3, h4⟩ := bnd_some h2
  obtain ⟨hs, rfl⟩ := getL_some h3
  obtain ⟨r, ρ3, h5, h6⟩ := bnd_some h4
  obtain ⟨g5, rfl⟩ := lft_some h5
  cases h6
  obtain ⟨q, vs0, _, e0, _, _, _⟩ := R.atL hs0
  refine ⟨.ref q, e0, F, ρ0, fps, xs, _, R, h1, fun vs F1 H1 fps1 P1 rv => ?_⟩
  obtain ⟨q', ws, ef, e1, f1, e2, rr⟩ := P1.rel.atL hs
  rw [e0] at e1; cases e1
  simp only [List.append_nil]
  refine ⟨F1, xs, r, l, q, ws, vs, P1.rel.sub, P1.rel.tab, g5, rfl, f1, e2, rr, rv, fun v F' H' ws' cp rd f2 e3 rs => ?_⟩
  exact kk _ _ _ _ (P1.trans (Post.callP P1.rel (lt_of_L P1.rel hs) ef e0 cp f2 e3 rs)) rd
/-! ### keywords -/
/-- how keywords alone bind -/
def BindsK (K : PySem.W.Frag) (fd : FuncData) (ps ks : List Str) (perm : List Nat) : Prop := ∀ (s : Shared) (ws : List Value), K.In s.heap → ws.length = ks.length → BindsTo s fd ⟨[], ks.zip ws⟩ (ps.zip (perm.filterMap fun i => ws[i]?))
def tKs (K : PySem.W.Frag) (C : Gx) (m : M (List Val)) : TA := tAs K C m
theorem perm_vals {vs : List V} {us : List Value} (r : Vals vs us) : ∀ perm : List Nat, Vals (perm.filterMap fun i => vs[i]?) (perm.filterMap fun i => us[i]?)
  | [] => .nil
  | i :: perm => by
    rw [List.filterMap_cons, List.filterMap_cons]
    cases h : vs[i]? with
    | none => rw [r.none_of h]; exact perm_vals r perm
    | some v =>
      obtain ⟨u, hu, ru⟩ := r.get h
      rw [hu]
      exact .cons ru (perm_vals r perm)
theorem perm_RDs {K : PySem.W.Frag} {F : Hp} {vs : List V} {xs : List Val} (r : RDs K C F vs xs) : ∀ perm : List Nat, RDs K C F (perm.filterMap fun i => vs[i]?) (permute perm xs)
  | [] => .nil
  | i :: perm => by
    unfold permute
    rw [List.filterMap_cons, List.filterMap_cons]
    cases h : vs[i]? with
    | none =>
      have : xs[i]? = none := by
        rw [List.getElem?_eq_none_iff] at h ⊢
        rw [← r.length]; exact h
      rw [this]; exact perm_RDs r perm
    | some v =>
      obtain ⟨u, hu, ru⟩ := r.get' h
      rw [hu]
      exact .cons ru (perm_RDs r perm)
/-- f(k = v, ..) -/
theorem snd_callK {f : Nat} {x : Str} {ps ks : List Str} {perm : List Nat} {p pos : Pos} {kws : List Keyword} {mas : M (List Val)} {k : Nat} {fa : Addr} {fd : FuncData} (F0 : FnOk X.prog X.w X.K X.mg X.base CX0 k fa fd ps (spC X.K C S f false)) (hr : Room k X.A) (hm : X.mg x = some (.ref fa)) (hk : PySem.W.keepIn X.K (.ref fa) = true) (hb : BindsK X.K fd ps ks perm)
    (hdb : (x == ("__debug__" : Str)) = false) (hg : Gl X x) (hkw : PK X kws (tAs X.K C mas)) (hall : (backToKw pos (keywordEach kws X.env)).all (·.1.isSome) = true) (hks : (backToKw pos (keywordEach kws X.env)).filterMap (·.1) = ks)
    (hpl : ((backTo pos (starEach [] X.env)).any (·.1) || (backToKw pos (keywordEach kws X.env)).any (·.1.isNone)) = false) (hl : ∀ ρ l ρ', mas ρ = some (l, ρ') → l.length = ks.length) :
    SE X C (.Call (.Name x p) [] kws pos) (bnd mas fun xs => bnd (lft (S f none (permute perm xs))) fun r => ret r.1) := by
  refine ⟨fun pins s σ H Q I ⟨F, ρ, fps, z, ρ', R, h, kk⟩ => ?_⟩
  obtain ⟨xs, ρ1, h1, h2⟩ := bnd_some h
  obtain ⟨r, ρ2, h3, h4⟩ := bnd_some h2
  obtain ⟨g3, rfl⟩ := lft_some h3
  obtain ⟨rfl, rfl⟩ := ret_some h4
  refine wpAny_Call_Name_kw (ld_glob I hg hm ?_ hdb)
  refine PySem.W.callWith_KW0 (h₀ := X.base) I.ok.mod.kin hk hall ?_ hpl
  refine thn (hkw.run pos pins s σ H (fun vs H1 => ∃ F1 fps1, Post X.K C F H fps ρ' σ F1 H1 fps1 ∧ RDs X.K C F1 vs xs) I ⟨F, ρ, fps, xs, ρ', R, h1, fun vs F1 H1 fps1 P1 rv => ⟨F1, fps1, P1, rv⟩⟩) fun ws s2 ⟨vs, H1, I1, rz, F1, fps1, P1, rv⟩ => ⟨I1.kIn, ?_⟩
  rw [hks]
  have hlen : ws.length = ks.length := by rw [← rz.length, rv.length]; exact hl _ _ _ h1
  have hsp : spC X.K C S f false (perm.filterMap fun i => vs[i]?) H1 Q E0 := ⟨F1, permute perm xs, r, P1.rel.sub, P1.rel.tab, g3, perm_RDs rv perm, fun v F' H' cp rd => kk _ _ _ _ (P1.call cp fun a ha => by cases ha) rd⟩
  refine wpAny_call (codeAny_mono (F0.run X.A X.stack s2 H1 ⟨[], ks.zip ws⟩ (perm.filterMap fun i => ws[i]?) (perm.filterMap fun i => vs[i]?) Q E0 hr I1.env0 (hb s2 ws I1.kIn hlen) (perm_vals rz perm) hsp) fun r s' hq => ?_)
  cases r with
  | error e => exact (show False from hq).elim
  | ok fl =>
    cases fl with
    | ret u => exact I1.after hq
    | next => exact False.elim hq
    | brk => exact False.elim hq
    | cont => exact False.elim hq
end
end PL
set_option maxHeartbeats 1000000
/-! PLs24: a street is made. -/
namespace PL
open PySem PySem.Spec PyProof.Rows L2
/-- the maker's promise -/
def spI (K : PySem.W.Frag) (C : Gx) (S : Sem) : Sp := fun vs H Q _ => ∃ F args r x dx vs', FSub F H ∧ (∀ p ∈ C.T, TabF F H p.1 p.2 ∧ F p.1 = none) ∧ S 0 none args = some r ∧ vs = .ref x :: vs' ∧ F x = none ∧ H x = some (.ins C.cls dx []) ∧ RDs K C F vs' args ∧
  ∀ v F' H', CPost K C F H F' H' [] → F' x = none → H' x = some (.ins C.cls dx []) → RD K C F' v r.1 → Q .non (upd H' x (.ins C.cls dx [("all_told", v)]))
theorem snd_mk {X : Cx} {C : Gx} {S : Sem} {k : Nat} {fa : Addr} {fd : FuncData} {ps : List Str} {p pos : Pos} {e : Expr} {es : List Expr} {mas : M (List Val)} (mk : Mk X.K C.cls fa) (F0 : FnOk X.prog X.w X.K X.mg X.base CX0 k fa fd ps (spI X.K C S)) (hr : Room (k + 1) X.A)
    (hg : Gl X "Street") (hm : X.mg "Street" = some (.ref C.cls)) (hb : Binds X.K fd ps []) (ha : SA X C (e :: es) mas) (he : starEach (e :: es) X.env = (false, eval e X.env) :: starEach es X.env) (hpl : (backTo pos (starEach es X.env)).any (·.1) = false) :
    SE X C (.Call (.Name "Street" p) (e :: es) [] pos) (bnd mas fun xs => bnd (lft (S 0 none xs)) fun r => ret (stV r.1)) := by
  refine PE.imp (pe_make (dvs := []) (E := E0) mk F0 hr hg hm hb .nil pass0 ha (by decide) he hpl) ?_
  rintro σ H Q ⟨F, ρ, fps, z, ρ', R, h, kk⟩
  obtain ⟨xs, ρ1, h1, h2⟩ := bnd_some h
  obtain ⟨r, ρ2, h3, h4⟩ := bnd_some h2
  obtain ⟨g3, rfl⟩ := lft_some h3
  obtain ⟨rfl, rfl⟩ := ret_some h4
  refine ⟨F, ρ, fps, xs, _, R, h1, fun vs F1 H1 fps1 P1 rv x dx hx hdx ne => ?_⟩
  have A := Post.laidU P1.rel hdx (o := .own x)
  have hx' : upd H1 dx (.own x) x = none := by rw [upd_ne (fun e => ne e.symm)]; exact hx
  have B := Post.laidU A.rel hx' (o := .ins C.cls dx [])
  have P3 := P1.trans (A.trans B)
  have fx : F1 x = none := P1.rel.sub.none hx
  have nx : ∀ i, x ∉ fps1 i := fun i hi => by
    obtain ⟨_, o, g⟩ := (P1.rel.at_ i).free x hi
    rw [hx] at g; cases g
  simp only [List.append_nil]
  refine ⟨F1, xs, r, x, dx, vs, P3.rel.sub, P3.rel.tab, g3, rfl, fx, upd_same, rv, fun v F' H' cp f' h' rd => ⟨rfl, ?_⟩⟩
  have P4 := P3.call cp fun a ha => by cases ha
  have P5 := P4.seal (o := .ins C.cls dx [("all_told", v)]) (P1.gone hx) ⟨fun _ z => (by cases z), fun c q z => (by unfold LamX.CodeO at z; cases z)⟩ h' f' nx
  exact kk (.ref x) _ _ _ P5 (.st upd_same (rd.sub fun a o e => by
    by_cases q : a = x
    · subst q; rw [f'] at e; cases e
    · rw [upd_ne q]; exact e))
end PL
set_option maxHeartbeats 1000000
/-! PLs25: defs as values, lambdas handed to a def. -/
namespace PL
open PySem PySem.Spec PyProof.Rows L2
theorem CPost.of {K : PySem.W.Frag} {C : Gx} {F H F' H' : Hp} {fps fps' : Fps} {ρ' : PL.Env} {σ' : L2.St} {pa : List Addr} (Q : Post K C F H fps ρ' σ' F' H' fps') (hp : ∀ i a, a ∈ fps i → a ∈ pa) (hf : ∀ a ∈ pa, F' a = none) : CPost K C F H F' H' pa where
  ext := Q.ext
  sub := Q.rel.sub
  keep := fun a o e n t => Q.keep a o e (fun i hi => n (hp i a hi)) t
  tbs := Q.tbs
  new := fun a o e => by
    rcases Q.new a o e with q | q | ⟨i, hi⟩
    · exact .inl q
    · exact .inr q
    · rw [hf a (hp i a hi)] at e; cases e
  tab := fun p h => (Q.rel.tab p h).1
section
variable {X : Cx} {C : Gx} {S : Sem}
/-- a call of a def that a slot holds -/
theorem snd_actG {j i : Nat} {x : Str} {e : Expr} {es : List Expr} {p pos : Pos} {mas : M (List Val)} (gf : ∀ k a, C.gf k = some a → C8.CalAt X.prog X.w X.K X.mg X.base j a (spC X.K C S k false)) (hr : Room j X.A) (hN : X.N[i]? = some x) (hv : Vis X.env.scope x)
    (hd : (x == ("__debug__" : Str)) = false) (hcd : (x == ("__classdict__" : Str)) = false) (ha : SA X C (e :: es) mas) (he : starEach (e :: es) X.env = (false, eval e X.env) :: starEach es X.env) (hpl : (backTo pos (starEach es X.env)).any (·.1) = false) :
    SE X C (.Call (.Name x p) (e :: es) [] pos) (fun ρ => match gs ρ i with
      | .v (.dict [(.bool false, .int k)]) => bnd mas (fun xs => bnd (lft (S k.toNat none xs)) fun r => ret r.1) ρ
      | _ => none) := by
  refine ⟨fun pins s σ H Q I ⟨F, ρ, fps, z, ρ', R, h, kk⟩ => ?_⟩
  have hat := R.at_ i
  simp only at h
  split at h
  · rename_i k hk
    rw [hk] at hat
    obtain ⟨_, v, ev, rv⟩ := hat
    obtain ⟨a, rfl, ga⟩ := rv.gf_inv
    obtain ⟨xs, ρ1, h1, h2⟩ := bnd_some h
    obtain ⟨r, ρ2, h3, h4⟩ := bnd_some h2
    obtain ⟨g3, rfl⟩ := lft_some h3
    obtain ⟨rfl, rfl⟩ := ret_some h4
    refine (C8.pe_cv (gf _ _ ga) (gf _ _ ga) hr (Nat.le_refl _) (Nat.le_refl _) hN hv ha hd hcd he hpl).run pins s σ H Q I (.inl ⟨ev, F, ρ, fps, xs, _, R, h1, fun vs F1 H1 fps1 P1 rv => ?_⟩)
    exact ⟨F1, xs, r, P1.rel.sub, P1.rel.tab, g3, rv, fun v F' H' cp rd => kk _ _ _ _ (P1.call cp fun a ha => by cases ha) rd⟩
  · cases h
/-! ### parts with something behind them -/
def SAL (X : Cx) (C : Gx) (es : List Expr) (m : M (List Val)) : Prop := ∀ (tail : List (Bool × PySem.Sem Value)) (pos : Pos) (pins : List (Addr × Obj)) (s : Shared) (σ : L2.St) (H : Hp) (QQ : List Value → Shared → Prop), Inv X pins σ H s →
  (∃ F ρ fps xs ρ', Rel X.K C F H ρ σ fps ∧ m ρ = some (xs, ρ') ∧ ∀ us vs s' F' H' fps', Inv X pins σ H' s' → Post X.K C F H fps ρ' σ F' H' fps' → RDs X.K C F' vs xs → Vals vs us → wpAny (model X.prog X.w) X.A (spliced tail) (fun ws s2 => QQ (us ++ ws) s2) X.xe s') →
  wpAny (model X.prog X.w) X.A (spliced (backTo pos (starEach es X.env) ++ tail)) QQ X.xe s
theorem sal_nil : SAL X C [] (argsM (ret (.tuple []))) := by
  rintro tail pos pins s σ H QQ I ⟨F, ρ, fps, xs, ρ', R, h, k⟩
  cases h
  exact k [] [] s F H fps I (Post.refl R) .nil .nil
theorem sal_cons {e : Expr} {es : List Expr} {ma : M Val} {mas : M (List Val)} (ha : SE X C e ma) (hr : SAL X C es mas) (hs : starEach (e :: es) X.env = (false, eval e X.env) :: starEach es X.env) :
    SAL X C (e :: es) (argsM (bnd ma fun x => bnd mas fun xs => ret (.tuple (x :: xs)))) := by
  rintro tail pos pins s σ H QQ I ⟨F, ρ, fps, xs, ρ', R, h, k⟩
  obtain ⟨x, ρ1, r, h1, h2, rfl⟩ := argsM_cons h
  rw [hs]
  show wpAny _ _ (spliced ((false, eval e X.env) :: (backTo pos (starEach es X.env) ++ tail))) _ _ s
  refine Calls.spliced_cons (thn (ha.run pins s σ H (fun v H1 => ∃ F1 fps1, Post X.K C F H fps ρ1 σ F1 H1 fps1 ∧ RD X.K C F1 v x) I ⟨F, ρ, fps, x, ρ1, R, h1, fun v F1 H1 fps1 P1 rv => ⟨F1, fps1, P1, rv⟩⟩) fun u s1 ⟨v, H1, I1, r1, F1, fps1, P1, rv⟩ => ?_)
  refine hr tail pos pins s1 σ H1 _ I1 ⟨F1, ρ1, fps1, r, ρ', P1.rel, h2, fun us vs s' F' H' fps' I' P' rvs vl => ?_⟩
  exact k (u :: us) (v :: vs) s' F' H' fps' I' (P1.trans P') (.cons (rv.sub P'.ext) rvs) (.cons r1 vl)
end
/-! ### a lambda with parameters -/
/-- its names: the parameters, captured ones, globals -/
structure LamP (sc scope : Scope) (ps : List Str) : Prop where
  kind : scope.kind = .function
  co : scope.isCoroutine = false
  gen : scope.isGenerator = false
  cell : ∀ y ∈ scope.names, y.2 ≠ .cell
  loc : ∀ y ∈ scope.names, y.2 = .local → y.1 ∈ ps
  par : ∀ x ∈ ps, scope.names.lookup x = some .local
  nd : ps.Nodup
  free : ∀ y ∈ scope.names, y.2 = .free → sc.names.lookup y.1 = some .cell ∨ sc.names.lookup y.1 = some .free
theorem LamP.has {X : Cx} {scope : Scope} {ps : List Str} (L : LamP X.env.scope scope ps) (ok : X.Ok) : ∀ y ∈ scope.names, y.2 = .free → ∃ c, X.env.cells.lookup y.1 = some c := fun y hy e => by
  rcases L.free y hy e with k | k
  · exact ok.has _ (.inl k)
  · exact ok.has _ (.inr k)
/-- the context of its body -/
def lamCx (X : Cx) (A : Around) (outer : List PySem.Env) (s : Shared) (H : Hp) (scope : Scope) (f c' : Addr) : Cx where
  prog := X.prog
  w := X.w
  K := X.K
  mg := X.mg
  base := X.base
  A := A.deeper (LamX.lamEnv X scope s.heap.objs.size f c')
  N := X.N
  s_0 := s
  H_0 := H
  env := LamX.lamEnv X scope s.heap.objs.size f c'
  outer := outer
  stack := LamX.lamEnv X scope s.heap.objs.size f c' :: outer
  ex := []
  fn := fun _ => false
  calm := true
  pn := []
  xe := fun e s' => wpAny (model X.prog X.w) (A.deeper (LamX.lamEnv X scope s.heap.objs.size f c')) (leaving (LamX.lamEnv X scope s.heap.objs.size f c') e) (fun _ s'' => False) (fun e' s'' => False) s'
def setS : List Nat → List V → L2.St → L2.St
  | i :: is, v :: vs, σ => setS is vs (σ.set i (some v))
  | _, _, σ => σ
theorem setS_length : ∀ {is : List Nat} {vs : List V} {σ : L2.St}, (setS is vs σ).length = σ.length
  | [], _, _ => rfl
  | _ :: _, [], _ => rfl
  | i :: is, v :: vs, σ => (setS_length (is := is) (vs := vs)).trans (List.length_set ..)
theorem setS_out : ∀ {is : List Nat} {vs : List V} {σ : L2.St} {i : Nat}, i ∉ is → (setS is vs σ)[i]? = σ[i]?
  | [], _, _, _, _ => rfl
  | _ :: _, [], _, _, _ => rfl
  | j :: is, v :: vs, σ, i, h => by
    have h1 : i ≠ j := fun q => h (q ▸ List.mem_cons_self)
    have h2 : i ∉ is := fun q => h (List.mem_cons_of_mem _ q)
    refine (setS_out (is := is) (vs := vs) h2).trans ?_
    rw [List.getElem?_set_ne (Ne.symm h1)]
theorem setS_in : ∀ {is : List Nat} {vs : List V} {σ : L2.St} {i : Nat} {v : V}, is.Nodup → i ∈ is → is.length = vs.length → (setS is vs σ)[i]? = some (some v) → ∃ j : Nat, is[j]? = some i ∧ vs[j]? = some v
  | [], _, _, _, _, _, h, _, _ => by cases h
  | _ :: _, [], _, _, _, _, _, h, _ => by simp at h
  | j :: is, u :: vs, σ, i, v, nd, h, hl, e => by
    have nd' := List.nodup_cons.mp nd
    by_cases hi : i ∈ is
    · obtain ⟨k, h1, h2⟩ := setS_in nd'.2 hi (by simpa using hl) e
      exact ⟨k + 1, by simpa using h1, by simpa using h2⟩
    · rcases List.mem_cons.mp h with rfl | h
      · have e' : (setS is vs (σ.set i (some u)))[i]? = some (some v) := e
        rw [setS_out hi] at e'
        rw [List.getElem?_set] at e'
        simp only [if_true] at e'
        split at e'
        · cases e'; exact ⟨0, rfl, rfl⟩
        · cases e'
      · exact absurd h hi
/-- how the lambda's parameters lie among the maker's slots -/
structure ParAt (N : List Str) (is : List Nat) (ps : List Str) : Prop where
  nd : is.Nodup
  at_ : is.map (fun i => N[i]?) = ps.map some
theorem ParAt.len {N : List Str} {is : List Nat} {ps : List Str} (h : ParAt N is ps) : is.length = ps.length := by
  have := congrArg List.length h.at_
  simpa using this
theorem ParAt.get {N : List Str} {is : List Nat} {ps : List Str} (h : ParAt N is ps) {j i : Nat} (e : is[j]? = some i) : ∃ x, ps[j]? = some x ∧ N[i]? = some x := by
  have q : (is.map fun i => N[i]?)[j]? = (ps.map some)[j]? := by rw [h.at_]
  rw [List.getElem?_map, List.getElem?_map, e] at q
  cases z : ps[j]? with
  | none => rw [z] at q; cases q
  | some x => rw [z] at q; exact ⟨x, rfl, Option.some.inj q⟩
section
variable {X : Cx} {pins : List (Addr × Obj)} {σ : L2.St} {H HZ : Hp} {s s1 : Shared}
theorem lam_start {A : Around} {outer : List PySem.Env} {scope : Scope} {ps : List Str} {is : List Nat} {us : List Value} {vs : List V} {f c' : Addr} {h₁ : Heap} {tk : Nat} (I : Inv X pins σ H s) (L : LamP X.env.scope scope ps) (hp : ParAt X.N is ps) (hN : X.N.Nodup) (hl : vs.length = ps.length) (r : Vals vs us)
    (e0 : Env0 X.prog X.w X.K X.mg X.base A outer s1 HZ) (hd : A.handled = none)
    (un : Un (frs X.stack) [] H HZ s.heap s1.heap) (hns : h₁.Ns s1.heap.objs.size fun y => (ps.zip us).reverse.lookup y) (kp : ∀ b o, s1.heap.get? b = some o → h₁.get? b = some o) :
    Inv (lamCx X A outer s1 HZ scope f c') [] (setS is vs σ) HZ { s1 with heap := h₁, toks := tk } := by
  have hfree := L.has I.ok
  have cm : ∀ {y c}, (cloFrom X.env.cells scope.names []).lookup y = some c → X.env.cells.lookup y = some c := fun {y c} e => NdefX.clo_cm hfree e
  have look : ∀ {y}, scope.names.lookup y = some .free → ∃ c, (cloFrom X.env.cells scope.names []).lookup y = some c := fun {y} hl => by
    have hy : (y, NameKind.free) ∈ scope.names := PySem.mem_of_lookup hl
    exact mem_lookup (cloFrom_has (cells := X.env.cells) (acc := []) hy)
  have cellK : ∀ {c : Addr} {v : Option Value}, H c = none → s.heap.IsCell c v → h₁.IsCell c v := fun {c v} n ⟨o, ho, hd⟩ => by
    obtain ⟨sl, q⟩ := un.any ho n (by simp)
    exact ⟨_, kp _ _ q, hd⟩
  have noA : ∀ b : Addr, b ∉ (lamCx X A outer s1 HZ scope f c').ex := fun b z => absurd (show b ∈ ([] : List Addr) from z) (by simp)
  refine ⟨⟨e0.mod, L.kind, rfl, rfl, Nat.le_refl _, fun y z c e1 e2 => I.ok.inj y z c (cm e1) (cm e2), fun y hy => ?_, fun y c z _ => ?_, fun _ => hd, Around.frames_deeper e0.frames, .inr ⟨rfl, rfl⟩, fun b z => absurd z (noA b), e0.bs, e0.bsz, fun b _ _ => noA b,
      fun b z => absurd z (noA b), e0.funs, e0.frf⟩,
    rfl, e0.bare, Un.kept kp, ⟨_, hns, fun i y v e1 e2 e3 => ?_⟩, fun y c e => ?_, e0.hok.fresh (Nat.le_refl _), fun y c e => ?_, fun q hq => absurd (show q ∈ ([] : List (Addr × Obj)) ++ [] from hq) (by simp), e0.hok.kept kp, setS_length.trans I.len⟩
  · have hy : scope.names.lookup y = some .cell ∨ scope.names.lookup y = some .free := hy
    rcases hy with hy | hy
    · exact absurd rfl (L.cell _ (PySem.mem_of_lookup hy))
    · exact look hy
  · have z : false = true := z
    cases z
  · have e1 : X.N[i]? = some y := e1
    have e3 : Vis scope y := e3
    have inps : ∀ {j}, is[j]? = some i → y ∈ ps := fun {j} ej => by
      obtain ⟨x, h1, h2⟩ := hp.get ej
      rw [e1] at h2; cases h2
      exact List.mem_of_getElem? h1
    rcases e3 with k | k | k
    · have hy := L.loc _ (PySem.mem_of_lookup k) rfl
      have hi : i ∈ is := by
        obtain ⟨j, hj, ej⟩ := List.mem_iff_getElem.mp hy
        have e4 : ps[j]? = some y := by rw [List.getElem?_eq_getElem hj, ej]
        have hj' : j < is.length := by rw [hp.len]; exact hj
        obtain ⟨x, h1, h2⟩ := hp.get (j := j) (i := is[j]) (List.getElem?_eq_getElem hj')
        rw [e4] at h1; cases h1
        rw [nodup_ix hN e1 h2]
        exact List.getElem_mem hj'
      obtain ⟨j, h1, h2⟩ := setS_in hp.nd hi (by rw [hp.len, hl]) e2
      obtain ⟨x, h3, h4⟩ := hp.get h1
      rw [e1] at h4; cases h4
      obtain ⟨u, hu, ru⟩ := r.get h2
      exact ⟨u, ru, .inl ⟨k, NdefX.zip_look L.nd h3 hu⟩⟩
    · exact absurd rfl (L.cell _ (PySem.mem_of_lookup k))
    · have hi : i ∉ is := fun hm => by
        obtain ⟨j, hj, ej⟩ := List.mem_iff_getElem.mp hm
        have := inps (j := j) (by rw [List.getElem?_eq_getElem hj, ej])
        rw [L.par _ this] at k; cases k
      rw [setS_out hi] at e2
      obtain ⟨m, hn, hl⟩ := I.loc
      have hvis : Vis X.env.scope y := (L.free _ (PySem.mem_of_lookup k) rfl).elim (fun k => .inr (.inl k)) (fun k => .inr (.inr k))
      obtain ⟨w', r, q⟩ := hl i y v e1 e2 hvis
      obtain ⟨c2, h2⟩ := look k
      refine ⟨w', r, .inr ⟨.inr k, c2, h2, ?_⟩⟩
      have c1 := cm h2
      rcases q with ⟨k', _⟩ | ⟨_, c3, e', z⟩
      · have k' : X.env.scope.names.lookup y = some .local := k'
        rcases L.free _ (PySem.mem_of_lookup k) rfl with k2 | k2 <;> rw [show X.env.scope.names.lookup y = _ from k2] at k' <;> cases k'
      · rw [c1] at e'
        cases e'
        exact cellK (I.freeC y _ c1) z
  · obtain ⟨w', z⟩ := I.cell y c (cm e)
    exact ⟨w', cellK (I.freeC y c (cm e)) z⟩
  · obtain ⟨v, o, ho, hd⟩ := I.cell y c (cm e)
    exact un.free c o ho (I.freeC y c (cm e)) (by simp)
end
/-! ### the lambda called -/
/-- what a call of the function z leaves, by slot i -/
def tAct (K : PySem.W.Frag) (C : Gx) (i : Nat) (z : Fz) (mas : M (List Val)) (L : List Val → Option Val) : TE := fun σ H Q => ∃ F ρ fps xs ρ' r, Rel K C F H ρ σ fps ∧ gs ρ i = .f z ∧ mas ρ = some (xs, ρ') ∧ L xs = some r ∧
  ∀ v F' H' fps', Post K C F H fps ρ' σ F' H' fps' → RD K C F' v r → Q v H'
/-- calls of the function z, where X runs, are as L tells -/
def ActP (X : Cx) (C : Gx) (z : Fz) (L : List Val → Option Val) : Prop := ∀ {i : Nat} {x : Str} {e : Expr} {es : List Expr} {p pos : Pos} {mas : M (List Val)}, X.N[i]? = some x → Vis X.env.scope x → (x == ("__debug__" : Str)) = false → (x == ("__classdict__" : Str)) = false →
  SA X C (e :: es) mas → starEach (e :: es) X.env = (false, eval e X.env) :: starEach es X.env → (backTo pos (starEach es X.env)).any (·.1) = false → PE X (.Call (.Name x p) (e :: es) [] pos) (tAct X.K C i z mas L)
theorem ActP.none {X : Cx} {C : Gx} {z : Fz} : ActP X C z fun _ => none := fun _ _ _ _ _ _ _ => ⟨fun pins s σ H Q I h => by
  obtain ⟨_, _, _, _, _, _, _, _, _, e, _⟩ := h
  cases e⟩
theorem gs_map : ∀ {ρ : PL.Env} {i : Nat}, gs (ρ.map keepV) i = keepV (gs ρ i)
  | [], _ => rfl
  | _ :: _, 0 => rfl
  | _ :: r, i + 1 => gs_map (ρ := r) (i := i)
theorem setV_length : ∀ {is : List Nat} {xs : List Val} {ρ : PL.Env}, (setV is xs ρ).length = ρ.length
  | [], _, _ => rfl
  | _ :: _, [], _ => rfl
  | i :: is, x :: xs, ρ => (setV_length (is := is) (xs := xs)).trans ss_length
theorem set_lam {K : PySem.W.Frag} {C : Gx} {F H : Hp} : ∀ {is : List Nat} {vs : List V} {xs : List Val} {ρ : PL.Env} {σ : L2.St}, RDs K C F vs xs → ρ.length = σ.length → (∀ i, SlotAt K C F H σ[i]? (gs ρ i) []) → ∀ i, SlotAt K C F H (setS is vs σ)[i]? (gs (setV is xs ρ) i) []
  | [], _, _, _, _, _, _, h, i => h i
  | _ :: _, _, _, _, _, .nil, _, h, i => h i
  | j :: is, v :: vs, x :: xs, ρ, σ, .cons r t, hl, h, i => by
    refine set_lam (is := is) t (by rw [ss_length, List.length_set]; exact hl) (fun k => ?_) i
    by_cases hk : k = j
    · subst hk
      by_cases hlt : k < ρ.length
      · rw [gs_ss_same hlt, List.getElem?_set_self (by rw [← hl]; exact hlt)]
        exact ⟨rfl, v, rfl, r⟩
      · rw [gs_ge (by rw [ss_length]; omega)]; rfl
    · rw [gs_ss_ne hk, List.getElem?_set_ne (Ne.symm hk)]
      exact h k
section
variable {X : Cx} {C : Gx} {pins : List (Addr × Obj)} {σ : L2.St} {F1 H : Hp} {s : Shared} {ρ1 : PL.Env} {fps1 : Fps}
theorem lam_rel {K : PySem.W.Frag} {HZ F2 : Hp} {vs : List V} {xs : List Val} {is : List Nat} (R : Rel K C F1 H ρ1 σ fps1) (sub : FSub F1 F2) (sub2 : FSub F2 HZ) (tab : ∀ p ∈ C.T, TabF F2 HZ p.1 p.2 ∧ F2 p.1 = none) (r : RDs K C F2 vs xs) :
    Rel K C F2 HZ (setV is xs (ρ1.map keepV)) (setS is vs σ) fun _ => [] where
  sub := sub2
  len := by rw [setV_length, setS_length, List.length_map]; exact R.len
  at_ := set_lam r (by rw [List.length_map]; exact R.len) fun i => by
    rw [gs_map]
    have h := R.at_ i
    cases e : gs ρ1 i with
    | v x =>
      rw [e] at h
      obtain ⟨_, v, ev, rv⟩ := h
      exact ⟨rfl, v, ev, rv.sub sub⟩
    | _ => exact rfl
  dis := fun i j a h => by cases h
  tab := tab
/-- the lambda, called in the def that got it: Z is that def's context, entered at s -/
theorem act_lam {Ng : List Str} {qg : Str} {sg : Scope} {g f c' : Addr} {cdg pm ctv : Value} {params : Arguments} {body : Expr} {scope : Scope} {ps : List Str} {is : List Nat} {k : Nat} {mb : M Val}
    (I : Inv X pins σ H s) (R : Rel X.K C F1 H ρ1 σ fps1) (L : LamP X.env.scope scope ps) (hp : ParAt X.N is ps) (hN : X.N.Nodup) (hf : s.heap.get? f = some (PySem.W.kla_obj "<lambda>" (X.env.qual ++ "<lambda>") params body scope (cloFrom X.env.cells scope.names []) pm c' ctv)) (hfn : H f = none) (hfr : f ∉ frs X.stack)
    (hbind : ∀ us : List Value, us.length = ps.length → bindArgs (PySem.W.kla_fn "<lambda>" (X.env.qual ++ "<lambda>") params body scope (cloFrom X.env.cells scope.names []) pm (.ref c') ctv) ⟨us, []⟩ = pure (ps.zip us))
    (hr : Room (k + 1) (X.A.deeper (envOfC qg sg s.heap.objs.size g cdg)))
    (hbody : ∀ (A : Around) (outer : List PySem.Env) (s : Shared) (H : Hp), Room k (A.deeper (LamX.lamEnv X scope s.heap.objs.size f c')) → SE (lamCx X A outer s H scope f c') C body mb) :
    ActP (cxOf CX0 X.prog X.w X.K X.mg X.base Ng qg sg g cdg X.A X.stack s H E0) C ⟨f, c', X.env.qual ++ "<lambda>", F1⟩ (lamM is mb ρ1) := by
  intro i x e es p pos mas hNg hv hd hcd ha he hpl
  refine ⟨fun pinsZ sZ σZ HZ Q IZ h => ?_⟩
  obtain ⟨FZ, ρZ, fpsZ, xs, ρZ', r, RZ, hgi, hm, hL, kk⟩ := h
  have hat := RZ.at_ i
  rw [hgi] at hat
  obtain ⟨_, ev, hc, hG⟩ := hat
  refine wpAny_Call_Name_kw (thn ((pe_var (pos := p) (i := i) hNg hv hd hcd).run pinsZ sZ σZ HZ (fun v H1 => v = .ref f ∧ H1 = HZ) IZ ⟨.ref f, ev, rfl, rfl⟩) fun u s1 ⟨v, H1, I1, r1, q1⟩ => ?_)
  obtain ⟨ev1, eH⟩ := q1
  subst ev1
  rw [eH] at I1
  obtain rfl : u = Value.ref f := r1
  have atf : ∀ {s1 : Shared} {H1 : Hp}, Inv (cxOf CX0 X.prog X.w X.K X.mg X.base Ng qg sg g cdg X.A X.stack s H E0) pinsZ σZ H1 s1 → s1.heap.get? f = some (PySem.W.kla_obj "<lambda>" (X.env.qual ++ "<lambda>") params body scope (cloFrom X.env.cells scope.names []) pm c' ctv) :=
    fun J => J.base.keep f _ hf hfn hfr (fun z => nomatch (show f ∈ ([] : List Addr) from z))
  refine PySem.W.callWith_F (first := []) ⟨_, _, _, _, atf I1⟩ (thn (ha.run pos pinsZ s1 σZ HZ (fun vs H2 => ∃ F2 fps2, Post X.K C FZ HZ fpsZ ρZ' σZ F2 H2 fps2 ∧ RDs X.K C F2 vs xs) I1 ⟨FZ, ρZ, fpsZ, xs, ρZ', RZ, hm, fun vs F2 H2 fps2 P2 rv => ⟨F2, fps2, P2, rv⟩⟩) fun us s2 ⟨vs, H2, I2, r2, F2, fps2, P2, rv⟩ => ⟨⟨_, _, _, _, atf I2⟩, ?_⟩) he hpl
  show wpAny _ _ (call (.ref f) us) _ _ _
  unfold lamM at hL
  split at hL
  case isFalse => cases hL
  rename_i hlen
  split at hL
  case h_2 => cases hL
  rename_i y ρb hb
  cases hL
  have un : Un (frs X.stack) [] H H2 s.heap s2.heap := I2.base
  have sub : FSub F1 F2 := hG.trans P2.ext
  have hvl : vs.length = ps.length := by rw [rv.length, hlen, hp.len]
  have hul : us.length = ps.length := by rw [← r2.length]; exact hvl
  obtain ⟨⟨oc, ws, t, hoc, hdc, hvc⟩, _, _⟩ := I2.hok c' _ (P2.rel.sub _ _ (P2.ext _ _ hc))
  have RL := lam_rel (is := is) R sub P2.rel.sub P2.rel.tab rv
  have rc : codeAny (model X.prog X.w) (X.A.deeper (envOfC qg sg s.heap.objs.size g cdg)) (.call (.ref f) ⟨us, []⟩) (CR CX0 (envOfC qg sg s.heap.objs.size g cdg :: X.stack) X.prog X.w H2 s2 Q E0) s2 := by
    refine PySem.W.kla_callFunE hr.depth (atf I2) rfl L.co L.gen rfl ⟨c', oc, ws, t, rfl, hoc, hdc, hvc⟩ ?_
    rw [hbind us hul]
    refine wpAny_pure (wpAny_newFunctionEnv (fun y hy => L.cell y hy) (fun y hy => L.par _ (List.of_mem_zip hy).1) (fun h₁ hns hsb => ⟨I2.nolimit.fresh _ hsb, ?_⟩) L.kind)
    show codeAny _ _ (.expr body (LamX.lamEnv X scope s2.heap.objs.size f c')) _ _
    have kp : ∀ b o, s2.heap.get? b = some o → h₁.get? b = some o := fun b o e => hsb.extBut b o (Nat.ne_of_lt (Heap.lt_size e)) (Heap.get?_push_of_some _ e)
    have J := lam_start (A := X.A.deeper (envOfC qg sg s.heap.objs.size g cdg)) (outer := envOfC qg sg s.heap.objs.size g cdg :: X.stack) (f := f) (c' := c') (tk := s2.toks + (ps.zip us).length) I L hp hN hvl r2 I2.env0 hr.hd un hns kp
    refine PySem.W.kla_codeExpr (wpAny_mono ((hbody _ _ s2 H2 (hr.deeper _)).run [] _ _ H2 Q J ⟨F2, _, _, _, _, RL, hb, fun v F' H' fps' P' rd => ?_⟩) (fun v s' hq => ?_) fun e s' hq => hq)
    · exact kk v _ _ _ (P2.call (CPost.of (pa := []) P' (fun i a h => by cases h) fun a h => by cases h) fun a h => by cases h) rd
    · obtain ⟨w', H', J', rv, q⟩ := hq
      exact ⟨w', H', J'.os, J'.bare, J'.base, J'.hok, rv, q⟩
  refine wpAny_call (codeAny_mono rc fun r s' hq => ?_)
  cases r with
  | error e => exact (show False from hq).elim
  | ok fl =>
    cases fl with
    | ret u => exact I2.after hq
    | next => exact False.elim hq
    | brk => exact False.elim hq
    | cont => exact False.elim hq
end
end PL
set_option maxHeartbeats 1000000
/-! PLs26: a def called that is handed a lambda. -/
namespace PL
open PySem PySem.Spec PyProof.Rows L2
section
variable {X : Cx} {C : Gx} {pins : List (Addr × Obj)} {σ : L2.St} {F H : Hp} {s : Shared} {ρ : PL.Env} {fps : Fps}
/-- a code object is laid and told by its table -/
theorem Post.coded {K : PySem.W.Frag} {P c : Addr} {q : Str} {ps : Array Value} {pos : Pos} (R : Rel K C F H ρ σ fps) (hm : (P, q) ∈ C.T) (hu : ∀ p ∈ C.T, p.1 = P → p.2 = q) (hP : H P = some (.tbl ps)) (ht : TriplesOk ps.toList)
    (ha : ∀ (pos : Pos) (cv : Value), codeAmong pos ps.toList = some cv → ∃ c, cv = .ref c ∧ F c = some (LamX.CodeO c q)) (hc : H c = none) :
    Post K C F H fps ρ σ (upd F c (LamX.CodeO c q)) (upd (upd H P (.tbl (ps ++ #[rawInt pos.line, rawInt pos.col, .ref c]))) c (LamX.CodeO c q)) fps := by
  have fc : F c = none := R.sub.none hc
  have fP : F P = none := (R.tab _ hm).2
  have up : FSub F (upd F c (LamX.CodeO c q)) := FSub.upd_new fc
  have nPc : P ≠ c := ne_of_none hP hc
  have same : ∀ a o, H a = some o → a ≠ P → upd (upd H P (.tbl (ps ++ #[rawInt pos.line, rawInt pos.col, .ref c]))) c (LamX.CodeO c q) a = some o := fun a o e n => by
    rw [upd_ne (ne_of_none e hc), upd_ne n]; exact e
  have atP : upd (upd H P (.tbl (ps ++ #[rawInt pos.line, rawInt pos.col, .ref c]))) c (LamX.CodeO c q) P = some (.tbl (ps ++ #[rawInt pos.line, rawInt pos.col, .ref c])) := by rw [upd_ne nPc, upd_same]
  have eL : (ps ++ #[rawInt pos.line, rawInt pos.col, .ref c]).toList = ps.toList ++ [rawInt pos.line, rawInt pos.col, .ref c] := by simp
  refine ⟨⟨fun a o e => ?_, R.len, fun i => (R.at_ i).grow up (fun a h => ?_) fun a h x g => ?_, R.dis, fun p hp => ⟨?_, ?_⟩⟩, up, fun a o e _ t => ?_, ⟨fun a qs e => ?_, fun a o e => ?_⟩, fun a o e => ?_, fun i a h => .inl ⟨i, h⟩⟩
  · by_cases h : a = c
    · subst h; rw [upd_same] at e ⊢; exact e
    · rw [upd_ne h] at e
      exact same a o (R.sub a o e) fun z => by rw [z, fP] at e; cases e
  · obtain ⟨f, x, g⟩ := (R.at_ i).free a h
    rw [upd_ne (ne_of_none g hc)]; exact f
  · exact same a x g fun z => (R.at_ i).no_tbl a h ps (by rw [z]; exact hP)
  · by_cases h : p.1 = P
    · rw [hu p hp h, h]
      refine ⟨_, atP, by rw [eL]; exact PySem.TriplesOk_snoc _ _ _ _ ht, fun pos' cv hcv => ?_⟩
      rw [eL] at hcv
      rcases LamX.among_app _ ht hcv with z | z
      · obtain ⟨c0, e1, e2⟩ := ha pos' cv z
        exact ⟨c0, e1, up _ _ e2⟩
      · exact ⟨c, z, upd_same⟩
    · exact (R.tab p hp).1.mono up fun qs e => same _ _ e h
  · obtain ⟨⟨qs, e, _⟩, f⟩ := R.tab p hp
    rw [upd_ne (ne_of_none e hc)]; exact f
  · exact same a o e fun z => t ps (by rw [z, hP] at e; exact (Option.some.inj e).symm)
  · by_cases h : a = P
    · exact ⟨_, by rw [h]; exact atP⟩
    · exact ⟨qs, same a _ e h⟩
  · by_cases h : a = P
    · exact ⟨_, by rw [h]; exact atP⟩
    · exact ⟨o, same a o e h⟩
  · by_cases h : a = c
    · exact .inr (.inl (by rw [h]; exact hc))
    · rw [upd_ne h] at e; exact .inl e
/-- a lambda is made -/
theorem lam_made {c P : Addr} {params : Arguments} {body : Expr} {scope : Scope} {pos : Pos} {E : Value → Shared → Prop} {Q : Value → Shared → Prop} (I : Inv X pins σ H s) (R : Rel X.K C F H ρ σ fps) (TB : LamX.TabB X.base X.mg c P) (hcode : X.env.code = .ref c)
    (hm : (P, X.env.qual ++ "<lambda>") ∈ C.T) (hu : ∀ p ∈ C.T, p.1 = P → p.2 = X.env.qual ++ "<lambda>") (hdef : defaultsOf params X.env = ([], [])) (hfree : ∀ y ∈ scope.names, y.2 = .free → ∃ c, X.env.cells.lookup y.1 = some c)
    (h : ∀ (f c' : Addr) (pm ctv : Value) (F1 H1 : Hp) (s' : Shared), Inv X pins σ H1 s' → Post X.K C F H fps ρ σ F1 H1 fps → F1 c' = some (LamX.CodeO c' (X.env.qual ++ "<lambda>")) →
      s'.heap.get? f = some (PySem.W.kla_obj "<lambda>" (X.env.qual ++ "<lambda>") params body scope (cloFrom X.env.cells scope.names []) pm c' ctv) → H1 f = none → f ∉ frs X.stack → Q (.ref f) s') :
    wpAny (model X.prog X.w) X.A (eval (.Lambda params body scope pos) X.env) Q E s := by
  obtain ⟨⟨ps, hP, ht, ha⟩, _⟩ := R.tab _ hm
  refine PySem.W.kla_eval hdef ?_
  have blts : s.heap.BuiltinsAt X.mg P := TB.bm.keeps I.bk
  have tabAt : s.heap.get? P = some { cls := .none, data := .fields ps } := I.hok P _ hP
  have stackN : ∀ f, s.heap.objs.size ≤ f → f ∉ frs X.stack := fun f hf z => (List.mem_cons.mp (I.stkSub _ z)).elim (fun e => by have := I.lt; rw [← e] at this; exact absurd this (Nat.not_lt.mpr hf)) (I.nofs hf)
  cases hc : codeAmong pos ps.toList with
  | some cv =>
    obtain ⟨c', rfl, hco⟩ := ha pos cv hc
    refine PySem.W.kla_makeFunctionHit (mg := X.mg) (c := c) (P := P) (ps := ps) (closure_ok hfree) I.ok.glob (I.mod.glob.keeps I.bk) hcode (TB.code.keeps I.bk) tabAt ht hc blts fun ctv h' tk kept grown => ?_
    refine h h'.objs.size c' ((X.mg "__name__").getD .none) ctv F H _ (I.kept fun b o e => Heap.get?_push_of_some _ (kept b o e)) (Post.refl R) hco (Heap.get?_push_size _ rfl) (I.hok.fresh grown) (stackN _ grown)
  | none =>
    refine PySem.W.kla_makeFunction (mg := X.mg) (c := c) (P := P) (ps := ps) (closure_ok hfree) I.ok.glob (I.mod.glob.keeps I.bk) hcode (TB.code.keeps I.bk) tabAt ht hc TB.gP blts fun c' ctv h' tk kept ge lt rec tab => ?_
    obtain ⟨c2, oc, vs, t, e2, at2, dat, nm⟩ := rec
    cases e2
    have grown : s.heap.objs.size ≤ h'.objs.size := Nat.le_trans ge (Nat.le_of_lt lt)
    have nC : H c' = none := I.hok.fresh ge
    have I1 := LamX.inv_table (t' := tk) (more := #[rawInt pos.line, rawInt pos.col, .ref c']) (h' := h'.push (PySem.W.kla_obj "<lambda>" (X.env.qual ++ "<lambda>") params body scope (cloFrom X.env.cells scope.names []) ((X.mg "__name__").getD .none) c' ctv)) I hP
      (fun b o hb e => Heap.get?_push_of_some _ (kept b o hb e)) (Heap.get?_push_of_some _ tab) ge ⟨oc, vs, t, Heap.get?_push_of_some _ at2, dat, nm⟩
    refine h h'.objs.size c' ((X.mg "__name__").getD .none) ctv _ _ _ I1 (Post.coded R hm hu hP ht ha nC) upd_same (Heap.get?_push_size _ rfl) ?_ (stackN _ grown)
    rw [upd_ne (Nat.ne_of_gt lt), upd_ne (Nat.ne_of_gt (Nat.lt_of_lt_of_le (Heap.lt_size tabAt) grown))]
    exact I.hok.fresh grown
end
/-- the promise of the table's f that is handed a function last -/
structure HiOk (P : Program) (w : World) (K : PySem.W.Frag) (mg : Str → Option Value) (base : Heap) (C : Gx) (S : Sem) (j f : Nat) (fa : Addr) (ps : List Str) : Prop where
  run : ∀ (A : Around) (outer : List PySem.Env) (s : Shared) (H : Hp) (us : List Value) (vs : List V) (z : Fz) (xs : List Val) (L : List Val → Option Val) (r : Val) (F : Hp) (Q : VK),
    Room j A → Env0 P w K mg base A outer s H → us.length = ps.length → Vals (vs ++ [.ref z.a]) us → FSub F H → (∀ p ∈ C.T, TabF F H p.1 p.2 ∧ F p.1 = none) → RDs K C F vs xs → F z.c = some (LamX.CodeO z.c z.q) → FSub z.G F → S.hi f xs z L = some r →
    (∀ (N : List Str) (qual : Str) (scope : Scope) (cdv : Value), ActP (cxOf CX0 P w K mg base N qual scope fa cdv A outer s H E0) C z L) →
    (∀ v F' H', CPost K C F H F' H' [] → RD K C F' v r → Q v H') → codeAny (model P w) A (.call (.ref fa) ⟨us, []⟩) (CR CX0 outer P w H s Q E0) s
theorem star_two {x : Expr} {env : PySem.Env} : ∀ {es : List Expr}, (∀ e ∈ es, ∀ r, starEach (e :: r) env = (false, eval e env) :: starEach r env) → starEach (es ++ [x]) env = starEach es env ++ starEach [x] env
  | [], _ => rfl
  | e :: es, h => by
    show starEach (e :: (es ++ [x])) env = _
    rw [h e List.mem_cons_self, h e List.mem_cons_self, star_two fun a ha => h a (List.mem_cons_of_mem _ ha)]
    rfl
section
variable {X : Cx} {C : Gx} {S : Sem}
theorem snd_callL {j k f : Nat} {x : Str} {ps psL : List Str} {is : List Nat} {fa c P : Addr} {e : Expr} {es : List Expr} {params : Arguments} {body : Expr} {scope : Scope} {lpos p pos : Pos} {mas : M (List Val)} {mb : M Val}
    (hi : HiOk X.prog X.w X.K X.mg X.base C S j f fa ps) (hj : Room j X.A) (hr : Room (k + 2) X.A) (hg : Gl X x) (hm : X.mg x = some (.ref fa)) (hk : PySem.W.keepIn X.K (.ref fa) = true) (hdb : (x == ("__debug__" : Str)) = false)
    (TB : LamX.TabB X.base X.mg c P) (hcode : X.env.code = .ref c) (hT : (P, X.env.qual ++ "<lambda>") ∈ C.T) (hu : ∀ p ∈ C.T, p.1 = P → p.2 = X.env.qual ++ "<lambda>")
    (ha : SAL X C (e :: es) mas) (hl : es.length + 2 = ps.length) (hst : ∀ a ∈ e :: es, ∀ r, starEach (a :: r) X.env = (false, eval a X.env) :: starEach r X.env) (hpl : (backTo pos (starEach (es ++ [.Lambda params body scope lpos]) X.env)).any (·.1) = false)
    (hml : ∀ ρ l ρ', mas ρ = some (l, ρ') → l.length = es.length + 1)
    (L : LamP X.env.scope scope psL) (hp : ParAt X.N is psL) (hN : X.N.Nodup) (hdef : defaultsOf params X.env = ([], []))
    (hbind : ∀ (q : Str) (cl : List (Str × Addr)) (pm cv ctv : Value) (us : List Value), us.length = psL.length → bindArgs (PySem.W.kla_fn "<lambda>" q params body scope cl pm cv ctv) ⟨us, []⟩ = pure (psL.zip us))
    (hbody : ∀ (f c' : Addr) (A : Around) (outer : List PySem.Env) (s : Shared) (H : Hp), Room k (A.deeper (LamX.lamEnv X scope s.heap.objs.size f c')) → SE (lamCx X A outer s H scope f c') C body mb) :
    SE X C (.Call (.Name x p) (e :: (es ++ [.Lambda params body scope lpos])) [] pos) (bnd mas fun xs => fun ρ => match allF (fun z => S.hi f xs z (lamM is mb ρ)) with
      | some r => some (r, ρ)
      | none => none) := by
  refine ⟨fun pins s σ H Q I ⟨F, ρ, fps, y, ρ', R, h, kk⟩ => ?_⟩
  obtain ⟨xs, ρ1, h1, h2⟩ := bnd_some h
  cases hall : allF (fun z => S.hi f xs z (lamM is mb ρ1)) with
  | none => rw [hall] at h2; cases h2
  | some r =>
  rw [hall] at h2
  cases h2
  refine wpAny_Call_Name_kw (ld_glob I hg hm ?_ hdb)
  refine PySem.W.callWith_K (h₀ := X.base) I.ok.mod.kin hk ?_ (hst e List.mem_cons_self _) hpl
  have e1 : starEach (e :: (es ++ [.Lambda params body scope lpos])) X.env = starEach (e :: es) X.env ++ starEach [.Lambda params body scope lpos] X.env := star_two (es := e :: es) hst
  rw [e1]
  unfold backTo
  rw [List.map_append]
  refine ha _ pos pins s σ H _ I ⟨F, ρ, fps, xs, ρ', R, h1, fun us vs s1 F1 H1 fps1 I1 P1 rvs vl => ?_⟩
  refine Calls.spliced_cons (lam_made I1 P1.rel TB hcode hT hu hdef (L.has I.ok) fun f' c' pm ctv F2 H2 s2 I2 P2 hc hf hfn hfr => Calls.spliced_nil ⟨I2.kIn, ?_⟩)
  have hxl := hml _ _ _ h1
  show wpAny _ _ (call (.ref fa) (us ++ [Value.ref f'])) _ _ _
  refine wpAny_call (codeAny_mono (hi.run X.A X.stack s2 H2 (us ++ [Value.ref f']) vs ⟨f', c', X.env.qual ++ "<lambda>", F2⟩ xs (lamM is mb ρ') y F2 Q hj I2.env0 ?_ (vl.append (.cons (show RelV (.ref f') (.ref f') from rfl) .nil)) P2.rel.sub P2.rel.tab (rvs.sub P2.ext) hc (FSub.refl _) (allF_all hall _)
    (fun N qual scope' cdv => act_lam I2 P2.rel L hp hN hf hfn hfr (hbind _ _ _ _ _) (hr.deeper _) (hbody f' c')) fun v F' H' cp rd => kk v _ _ _ ((P1.trans P2).call cp fun a ha => by cases ha) rd) fun rs s' hq => ?_)
  · rw [List.length_append, ← vl.length, rvs.length, hxl]
    exact hl
  · cases rs with
    | error e => exact (show False from hq).elim
    | ok fl =>
      cases fl with
      | ret u => exact I2.after hq
      | next => exact False.elim hq
      | brk => exact False.elim hq
      | cont => exact False.elim hq
end
end PL
set_option maxHeartbeats 1000000
/-! PLs27: defs that give a new list, to be owned. -/
namespace PL
open PySem PySem.Spec PyProof.Rows L2
/-- the promise of the table's f, which gives a new list -/
def spO (K : PySem.W.Frag) (C : Gx) (S : Sem) (f : Nat) : Sp := fun vs H Q _ => ∃ F args xs q, FSub F H ∧ (∀ p ∈ C.T, TabF F H p.1 p.2 ∧ F p.1 = none) ∧ S.call f none args = some (.list xs, q) ∧ RDs K C F vs args ∧
  ∀ p ws F' H', CPost K C F H F' H' [] → H p = none → F' p = none → H' p = some (.lst ws) → RDs K C F' ws xs → Q (.ref p) H'
theorem so_call {X : Cx} {C : Gx} {S : Sem} {k f : Nat} {fa : Addr} {fd : FuncData} {x : Str} {ps : List Str} {p pos : Pos} {e : Expr} {es : List Expr} {mas : M (List Val)} (F0 : FnOk X.prog X.w X.K X.mg X.base CX0 k fa fd ps (spO X.K C S f)) (hr : Room k X.A) (hg : Gl X x) (hm : X.mg x = some (.ref fa)) (hk : PySem.W.keepIn X.K (.ref fa) = true) (hb : Binds X.K fd ps []) (hdb : (x == ("__debug__" : Str)) = false)
    (ha : SA X C (e :: es) mas) (he : starEach (e :: es) X.env = (false, eval e X.env) :: starEach es X.env) (hpl : (backTo pos (starEach es X.env)).any (·.1) = false) :
    SO X C (.Call (.Name x p) (e :: es) [] pos) (bnd (bnd mas fun xs => bnd (lft (S.call f none xs)) fun r => ret r.1) fun x => lft (lstS x)) := by
  refine PE.imp (pe_call (dvs := []) (E := E0) F0 hr hg hm hk hb .nil pass0 ha hdb he hpl) ?_
  rintro σ H Q ⟨F, ρ, fps, sl, ρ', R, h, kk⟩
  obtain ⟨y, ρ0, h0, h0'⟩ := bnd_some h
  obtain ⟨xs, ρ1, h1, h2⟩ := bnd_some h0
  obtain ⟨r, ρ2, h3, h4⟩ := bnd_some h2
  obtain ⟨g3, rfl⟩ := lft_some h3
  obtain ⟨rfl, rfl⟩ := ret_some h4
  obtain ⟨g5, rfl⟩ := lft_some h0'
  obtain ⟨rv1, rv2⟩ := r
  unfold lstS at g5
  split at g5
  case h_2 => cases g5
  rename_i ys hys
  have hys : rv1 = .list ys := hys
  subst hys
  cases g5
  refine ⟨F, ρ, fps, xs, _, R, h1, fun vs F1 H1 fps1 P1 rv => ?_⟩
  simp only [List.append_nil]
  refine ⟨F1, xs, ys, rv2, P1.rel.sub, P1.rel.tab, g3, rv, fun q ws F' H' cp hq fq hw rw' => kk (.ref q) F' H' fps1 [q] (P1.call cp fun a ha => by cases ha) ⟨q, ws, rfl, rfl, fq, hw, rw'⟩ fun a ha => ?_⟩
  obtain rfl := List.mem_singleton.mp ha
  exact ⟨P1.gone hq, fun i hi => by
    obtain ⟨_, o, g⟩ := (P1.rel.at_ i).free a hi
    rw [hq] at g; cases g⟩
end PL
set_option maxHeartbeats 1000000
/-! PLc1: is this tree what the small language says? Targets, expressions. -/
namespace PL
open PySem PySem.Spec PyProof.Rows L2
/-- what is fixed of a def's text: its names, the table, the module's constants -/
structure Sx where
  N : List Str
  T : Nat → Option (Str × List Str × Bool)
  G : List (Str × Val)
  gcd : Bool
  /-- what is called by keywords alone: the keywords, how they lie -/
  kw : Nat → List (List Str × List Nat)
  /-- defs that are handed a function last: how many parameters -/
  H : Nat → Option (Str × Nat)
  /-- defs that give a new list -/
  nw : Nat → Bool
  /-- a slot may hold a function that was handed in -/
  act : Bool
  /-- room kept for lambdas -/
  dp : Nat
  lv : Nat
/-- .. within a comprehension, a lambda -/
def Sx.inn (g : Sx) : Sx := { g with act := false, dp := 0 }
mutual
def veq : Val → Val → Bool
  | .none, .none => true
  | .bool a, .bool b => a == b
  | .int a, .int b => a == b
  | .str a, .str b => a == b
  | .tuple a, .tuple b => veqs a b
  | .list a, .list b => veqs a b
  | .dict a, .dict b => veqd a b
  | _, _ => false
def veqs : List Val → List Val → Bool
  | [], [] => true
  | x :: xs, y :: ys => veq x y && veqs xs ys
  | _, _ => false
def veqd : List (Val × Val) → List (Val × Val) → Bool
  | [], [] => true
  | (x, u) :: xs, (y, w) :: ys => veq x y && veq u w && veqd xs ys
  | _, _ => false
end
def conB : Const → Val → Bool
  | .none, .none => true
  | .bool a, .bool b => a == b
  | .int a, .int b => a == b
  | .str a, .str b => a == b
  | _, _ => false
def visB (sc : Scope) (x : Str) : Bool := match sc.names.lookup x with
  | some .local => true
  | some .cell => true
  | some .free => true
  | _ => false
def locB (sc : Scope) (x : Str) : Bool := match sc.names.lookup x with
  | some .local => true
  | some .cell => true
  | _ => false
def gloB (sc : Scope) (x : Str) : Bool := match sc.names.lookup x with
  | some .globalImplicit => !(x == ("__debug__" : Str))
  | _ => false
def slotB (N : List Str) (i : Nat) (x : Str) : Bool := match N[i]? with
  | some y => y == x
  | none => false
def varB (N : List Str) (sc : Scope) (i : Nat) (x : Str) : Bool := slotB N i x && visB sc x && !(x == ("__debug__" : Str)) && !(x == ("__classdict__" : Str))
def notStar : Expr → Bool
  | .Starred .. => false
  | _ => true
def okB : Expr → Bool
  | .UnaryOp .. => false
  | .BoolOp .. => false
  | .IfExp .. => false
  | .Compare .. => false
  | _ => true
def baseB : Expr → Bool
  | .Call .. => false
  | _ => true
/-- how a test may look -/
def tstB : Ex → Expr → Bool
  | .borrow _ a, e => tstB a e
  | .cmp .., _ => true
  | .cmp2 .., _ => true
  | .inO .., _ => true
  | .and .., _ => true
  | .or .., _ => true
  | .not .., _ => true
  | _, e => okB e
def copB (o : Cop) (p : CmpOp) : Bool := decide (p = copPy o)
def bopB (o : Bop) (p : Operator) : Bool := decide (p = bopPy o)
mutual
def cT (N : List Str) : Tg → Scope → Expr → Bool
  | .n i, sc, e => match e with
    | .Name x _ => slotB N i x && locB sc x
    | _ => false
  | .nil, _, _ => false
  | .cons t ts, sc, e => match e with
    | .Tuple (x :: xs) _ _ => notStar x && xs.all notStar && cT N t sc x && cTs N ts sc xs
    | _ => false
def cTs (N : List Str) : Tg → Scope → List Expr → Bool
  | .n _, _, _ => false
  | .nil, _, xs => xs.isEmpty
  | .cons t ts, sc, xs => match xs with
    | x :: xs => notStar x && cT N t sc x && cTs N ts sc xs
    | [] => false
end
def ownL (N : List Str) (l : List Nat) : List (Str × Nat) := l.map fun i => (N.getD i "", i)
def blkB (N : List Str) (sc scope : Scope) (l : List Nat) : Bool :=
  decide (scope.kind = .function) && scope.names.all (fun y => decide (scope.names.lookup y.1 = some y.2)) && l.all (fun i => (N[i]?).isSome) &&
  scope.names.all (fun y => match y.2 with
    | .free => (match sc.names.lookup y.1 with
      | some .cell => true
      | some .free => true
      | _ => false)
    | _ => true) &&
  scope.names.all (fun y => match y.2 with
    | .local => (l.any fun i => slotB N i y.1) || !(N.any fun z => z == y.1)
    | .cell => (l.any fun i => slotB N i y.1) || !(N.any fun z => z == y.1)
    | _ => true)
def biN : Bi → Str
  | .len => "len" | .int => "int" | .abs => "abs" | .gcd => "gcd" | .min => "min" | .max => "max" | .sum => "sum" | .all => "all" | .any => "any"
  | .sorted => "sorted" | .tuple => "tuple" | .list => "list" | .dict => "dict" | .divmod => "divmod"
def prOf : Ex → Bool
  | .ienum _ => true
  | .izip _ _ => true
  | _ => false
def isTup1 : Expr → Bool
  | .Tuple .. => true
  | _ => false
def isBo : Expr → Bool
  | .BoolOp .. => true
  | _ => false
def isSetE : Expr → Bool
  | .Set .. => true
  | _ => false
def isNil : Ex → Bool
  | .nil => true
  | _ => false
def isN : Tg → Bool
  | .n _ => true
  | _ => false
def kwOk (k : Keyword) : Bool := match k.arg with
  | some _ => true
  | none => false
def kwN (k : Keyword) : Str := match k.arg with
  | some x => x
  | none => ""
def kwV (k : Keyword) : Expr := k.value
/-- a lambda's parameters: ahead, each -/
def lamPs : List Str := ["ahead", "each"]
def parsB : Arguments → Bool
  | ⟨[], [⟨x, none, _⟩, ⟨y, none, _⟩], none, [], [], none, []⟩ => x == ("ahead" : Str) && y == ("each" : Str)
  | _ => false
def slotsB (N : List Str) : List Nat → Bool
  | [i, j] => slotB N i "ahead" && slotB N j "each" && !(i == j)
  | _ => false
def lamB (sc scope : Scope) : Bool := decide (scope.kind = .function) && !scope.isCoroutine && !scope.isGenerator && scope.names.all (fun y => match y.2 with
    | .cell => false
    | .local => y.1 == ("ahead" : Str) || y.1 == ("each" : Str)
    | .free => (match sc.names.lookup y.1 with
      | some .cell => true
      | some .free => true
      | _ => false)
    | _ => true) && lamPs.all fun x => decide (scope.names.lookup x = some .local)
mutual
def cE (g : Sx) : Ex → Scope → Expr → Bool
  | .var i, sc, e => match e with
    | .Name x _ => varB g.N sc i x
    | _ => false
  | .con v, _, e => match e with
    | .Constant c _ _ => conB c v
    | _ => false
  | .glob s v, sc, e => match e with
    | .Name x _ => x == s && gloB sc x && (match g.G.lookup x with
      | some w => veq v w
      | none => false)
    | _ => false
  | .tup es, sc, e => match e with
    | .Tuple xs _ _ => cA g es sc xs
    | _ => false
  | .lst es, sc, e => match e with
    | .List xs _ => cA g es sc xs
    | _ => false
  | .bop o a b, sc, e => match e with
    | .BinOp x p y _ => bopB o p && cE g a sc x && cE g b sc y
    | _ => false
  | .cmp o a b, sc, e => match e with
    | .Compare x [p] [y] _ => copB o p && cE g a sc x && cE g b sc y && !behindInMarks (copPy o) y
    | _ => false
  | .cmp2 o o' a b c, sc, e => match e with
    | .Compare x [p, p'] [y, z] _ => copB o p && copB o' p' && cE g a sc x && cE g b sc y && cE g c sc z && !lastMarks [copPy o, copPy o'] [y, z]
    | _ => false
  | .and a b, sc, e => match e with
    | .BoolOp .And (x :: y :: r) p => (tstB a x && cE g a sc x) && (match r with
      | [] => (tstB b y && cE g b sc y)
      | _ => (tstB b (.BoolOp .And (y :: r) p) && cE g b sc (.BoolOp .And (y :: r) p)))
    | _ => false
  | .or a b, sc, e => match e with
    | .BoolOp .Or (x :: y :: r) p => (tstB a x && cE g a sc x) && (match r with
      | [] => (tstB b y && cE g b sc y)
      | _ => (tstB b (.BoolOp .Or (y :: r) p) && cE g b sc (.BoolOp .Or (y :: r) p)))
    | _ => false
  | .not a, sc, e => match e with
    | .UnaryOp .Not x _ => (tstB a x && cE g a sc x)
    | _ => false
  | .ife c a b, sc, e => match e with
    | .IfExp t x y _ => (tstB c t && cE g c sc t) && cE g a sc x && cE g b sc y
    | _ => false
  | .neg a, sc, e => match e with
    | .UnaryOp .USub x _ => cE g a sc x
    | _ => false
  | .prop k a, sc, e => match e with
    | .Attribute x n _ => n == propN k && decide (k < 4) && cE g a sc x && baseB x
    | _ => false
  | .idx a i, sc, e => match e with
    | .Subscript x y _ => !isSlice y && cE g a sc x && cE g i sc y
    | _ => false
  | .slc a lo hi, sc, e => match e with
    | .Subscript x (.Slice l h none _) _ => cE g a sc x && (match l with
      | none => isNil lo
      | some l => cE g lo sc l) && (match h with
      | none => isNil hi
      | some h => cE g hi sc h)
    | _ => false
  | .idxO s i, sc, e => match e with
    | .Subscript (.Name x _) y _ => varB g.N sc s x && !isSlice y && cE g i sc y
    | _ => false
  | .inO neg a s, sc, e => match e with
    | .Compare x [p] [.Name y _] _ => copB (if neg then .notin else .isin) p && varB g.N sc s y && cE g a sc x
    | _ => false
  | .popO s, sc, e => match e with
    | .Call (.Attribute (.Name x _) n apos) [] [] pos => n == ("pop" : Str) && varB g.N sc s x && apos.endLine == pos.line
    | _ => false
  | .popAt s i, sc, e => match e with
    | .Call (.Attribute (.Name x _) n apos) [y] [] pos => n == ("pop" : Str) && varB g.N sc s x && apos.endLine == pos.line && notStar y && cE g i sc y
    | _ => false
  | .borrow _ a, sc, e => !isBo e && cE g a sc e
  | .isa t a, sc, e => match e with
    | .Call (.Name f _) [x, .Name y _] [] _ => f == ("isinstance" : Str) && gloB sc f && y == (tyS t : Str) && gloB sc y && notStar x && cE g a sc x
    | _ => false
  | .bi b es, sc, e => match e with
    | .Call (.Name f _) (x :: xs) [] _ => f == biN b && gloB sc f && (g.gcd || !(decide (b = .gcd))) && notStar x && xs.all notStar && cA g es sc (x :: xs)
    | _ => false
  | .me m a es, sc, e => match e with
    | .Call (.Attribute x n apos) (y :: ys) [] pos => n == mePy m && baseB x && apos.endLine == pos.line && notStar y && ys.all notStar && decide (ys.length < 20) && cE g a sc x && cA g es sc (y :: ys)
    | _ => false
  | .callK f perm es, sc, e => match e with
    | .Call (.Name x _) [] kws _ => !(f == 0) && (match g.T f with
      | some (y, _, false) => x == y
      | _ => false) && gloB sc x && kws.all kwOk && (g.kw f).contains (kws.map kwN, perm) && cA g es sc (kws.map kwV) && (kws.map kwV).all notStar
    | _ => false
  | .act i es, sc, e => match e with
    | .Call (.Name x _) (y :: ys) [] _ => g.act && varB g.N sc i x && notStar y && ys.all notStar && cA g es sc (y :: ys)
    | _ => false
  | .actG i es, sc, e => match e with
    | .Call (.Name x _) (y :: ys) [] _ => varB g.N sc i x && notStar y && ys.all notStar && cA g es sc (y :: ys)
    | _ => false
  | .callL f es ps b, sc, e => match e with
    | .Call (.Name x _) (y :: ys) [] _ => (match g.H f with
      | some (z, n) => x == z && decide (ys.length + 1 = n)
      | none => false) && decide (2 ≤ g.dp) && gloB sc x && notStar y && ys.all notStar && (match ys.getLast? with
      | some (.Lambda params body scope _) => cA g es sc (y :: ys.dropLast) && parsB params && lamB sc scope && slotsB g.N ps && cE g.inn b scope body
      | _ => false)
    | _ => false
  | .call f es, sc, e => match e with
    | .Call (.Name x _) xs [] _ => !(f == 0) && (match g.T f with
      | some (y, _, false) => x == y
      | _ => false) && gloB sc x && xs.all notStar && cA g es sc xs
    | _ => false
  | .callP f s es, sc, e => match e with
    | .Call (.Name x _) (.Name y _ :: xs) [] _ => !(f == 0) && (match g.T f with
      | some (z, _, true) => x == z
      | _ => false) && gloB sc x && varB g.N sc s y && xs.all notStar && cA g es sc xs
    | _ => false
  | .mk es, sc, e => match e with
    | .Call (.Name f _) (x :: xs) [] _ => f == ("Street" : Str) && gloB sc f && notStar x && xs.all notStar && cA g es sc (x :: xs)
    | _ => false
  | .lc elt t it c, sc, e => match e with
    | .ListComp x [⟨tg, iter, ifs, 0⟩] scope _ => cI g it sc tg iter && !isSetE iter && (!prOf it || !isN t) && blkB g.N sc scope (tgIdx t) && cT g.N t scope tg && (match ifs with
      | [] => isNil c
      | [z] => tstB c z && cE g.inn c scope z
      | _ => false) && cE g.inn elt scope x
    | _ => false
  | .dzip a b, sc, e => match e with
    | .Call (.Name f _) [.Call (.Name f2 _) [x, y] [] _] [] _ => f == ("dict" : Str) && gloB sc f && f2 == ("zip" : Str) && gloB sc f2 && notStar x && notStar y && cE g a sc x && cE g b sc y
    | _ => false
  | .dlit t es, sc, e => match e with
    | .Dict ks vs _ => cPr g es sc ks vs && decide (ks.length ≤ 15) && (!t || decide (ks.length ≤ 1))
    | _ => false
  | _, _, _ => false
termination_by structural a => a
def cPr (g : Sx) : Ex → Scope → List (Option Expr) → List Expr → Bool
  | .nil, _, ks, vs => ks.isEmpty && vs.isEmpty
  | .cons (.tup (.cons k (.cons v .nil))) es, sc, ks, vs => match ks, vs with
    | some a :: ks, b :: vs => cE g k sc a && cE g v sc b && cPr g es sc ks vs
    | _, _ => false
  | _, _, _, _ => false
termination_by structural a => a
def cA (g : Sx) : Ex → Scope → List Expr → Bool
  | .nil, _, xs => xs.isEmpty
  | .cons a es, sc, xs => match xs with
    | x :: xs => notStar x && cE g a sc x && cA g es sc xs
    | [] => false
  | .star a es, sc, xs => match xs with
    | .Starred x _ :: xs => cE g a sc x && cA g es sc xs
    | _ => false
  | _, _, _ => false
termination_by structural a => a
def cI (g : Sx) : Ex → Scope → Expr → Expr → Bool
  | .iseq a, sc, _, e => cE g a sc e
  | .irange1 a, sc, _, e => match e with
    | .Call (.Name f _) [x] [] _ => f == ("range" : Str) && gloB sc f && notStar x && cE g a sc x
    | _ => false
  | .irange2 a b, sc, _, e => match e with
    | .Call (.Name f _) [x, y] [] _ => f == ("range" : Str) && gloB sc f && notStar x && notStar y && cE g a sc x && cE g b sc y
    | _ => false
  | .ienum a, sc, tg, e => match e with
    | .Call (.Name f _) [x] [] _ => f == ("enumerate" : Str) && gloB sc f && isTup1 tg && notStar x && cE g a sc x
    | _ => false
  | .izip a b, sc, tg, e => match e with
    | .Call (.Name f _) [x, y] [] _ => f == ("zip" : Str) && gloB sc f && isTup1 tg && notStar x && notStar y && cE g a sc x && cE g b sc y
    | _ => false
  | _, _, _, _ => false
termination_by structural a => a
end
end PL
set_option maxHeartbeats 1000000
/-! PLc2: what the checker says of a tree holds. -/
namespace PL
open PySem PySem.Spec PyProof.Rows L2
/-- builtins that the text does not rename -/
def bltL : List Str := ["len", "int", "abs", "min", "max", "sum", "all", "any", "sorted", "tuple", "list", "dict", "divmod", "isinstance", "bool", "str", "range", "enumerate", "zip"]
/-- what is known of the table's f -/
structure Kn0 (X : Cx) (C : Gx) (S : Sem) (lv f : Nat) (x : Str) (ps : List Str) (pl : Bool) : Prop where
  ex : ∃ fa fd, FnOk X.prog X.w X.K X.mg X.base CX0 lv fa fd ps (spC X.K C S f pl) ∧ X.mg x = some (.ref fa) ∧ PySem.W.keepIn X.K (.ref fa) = true ∧ Binds X.K fd ps []
  dbg : (x == ("__debug__" : Str)) = false
theorem Kn0.kn {X : Cx} {C : Gx} {S : Sem} {lv f : Nat} {x : Str} {ps : List Str} {pl : Bool} (h : Kn0 X C S lv f x ps pl) (hr : Room lv X.A) : Kn X C S f x ps pl := by
  obtain ⟨fa, fd, a, b, c, d⟩ := h.ex
  exact ⟨⟨lv, fa, fd, a, hr, b, c, d⟩, h.dbg⟩
structure Gd (g : Sx) (X : Cx) (C : Gx) (S : Sem) (sc : Scope) : Prop where
  nm : X.N = g.N
  scp : ∀ x k, sc.names.lookup x = some k → X.env.scope.names.lookup x = some k ∨ (k = .free ∧ X.env.scope.names.lookup x = some .cell)
  calm : X.calm = true
  nd : X.N.Nodup
  on : OnX X C
  u : X.A.units + 70 < cLine
  st : StOk X.K C
  lv3 : 2 ≤ g.lv
  room : Room (g.lv + 1 + g.dp) X.A
  fnc : ∀ x, L2.Loc sc x → X.fn x = true ∨ sc.names.lookup x = some .local
  bn : ∀ x ∈ bltL, X.mg x = none
  gcd : g.gcd = true → X.mg "gcd" = some (.builtin "math.gcd")
  cls : X.mg "Street" = some (.ref C.cls)
  kn : ∀ f x ps pl, f ≠ 0 → g.T f = some (x, ps, pl) → Kn0 X C S g.lv f x ps pl
  kk : ∀ f x ps, f ≠ 0 → g.T f = some (x, ps, false) → ∀ q ∈ g.kw f, ∃ fa fd, FnOk X.prog X.w X.K X.mg X.base CX0 g.lv fa fd ps (spC X.K C S f false) ∧ X.mg x = some (.ref fa) ∧ PySem.W.keepIn X.K (.ref fa) = true ∧ BindsK X.K fd ps q.1 q.2
  nwk : ∀ f x ps, f ≠ 0 → g.T f = some (x, ps, false) → g.nw f = true → ∃ fa fd, FnOk X.prog X.w X.K X.mg X.base CX0 g.lv fa fd ps (spO X.K C S f) ∧ X.mg x = some (.ref fa) ∧ PySem.W.keepIn X.K (.ref fa) = true ∧ Binds X.K fd ps [] ∧ (x == ("__debug__" : Str)) = false
  mkr : ∃ fa fd ps, Mk X.K C.cls fa ∧ FnOk X.prog X.w X.K X.mg X.base CX0 g.lv fa fd ps (spI X.K C S) ∧ Binds X.K fd ps []
  gf : ∀ k a, C.gf k = some a → C8.CalAt X.prog X.w X.K X.mg X.base g.lv a (spC X.K C S k false)
  hi : 2 ≤ g.dp → ∀ f x n, g.H f = some (x, n) → ∃ fa ps, HiOk X.prog X.w X.K X.mg X.base C S g.lv f fa ps ∧ X.mg x = some (.ref fa) ∧ PySem.W.keepIn X.K (.ref fa) = true ∧ ps.length = n ∧ (x == ("__debug__" : Str)) = false
  lam : 2 ≤ g.dp → ∃ c P, LamX.TabB X.base X.mg c P ∧ X.env.code = .ref c ∧ (P, X.env.qual ++ "<lambda>") ∈ C.T ∧ ∀ p ∈ C.T, p.1 = P → p.2 = X.env.qual ++ "<lambda>"
  act : g.act = true → ∀ z, ActP X C z (S.act z)
  con : ∀ s w, g.G.lookup s = some w → ∃ v u, X.mg s = some u ∧ RelV v u ∧ ∀ F, RD X.K C F v w
  prop : ∀ k, k < 4 → PropFn X.prog X.w X.K X.mg X.base C k
mutual
theorem veq_eq : ∀ {x y : Val}, veq x y = true → x = y
  | .none, y, h => by cases y <;> first | rfl | (unfold veq at h; cases h)
  | .bool a, y, h => by
    cases y <;> unfold veq at h <;> first | (cases h; done) | skip
    rw [eq_of_beq h]
  | .int a, y, h => by
    cases y <;> unfold veq at h <;> first | (cases h; done) | skip
    rw [eq_of_beq h]
  | .str a, y, h => by
    cases y <;> unfold veq at h <;> first | (cases h; done) | skip
    rw [eq_of_beq h]
  | .list a, y, h => by
    cases y <;> unfold veq at h <;> first | (cases h; done) | skip
    rw [veqs_eq h]
  | .tuple a, y, h => by
    cases y <;> unfold veq at h <;> first | (cases h; done) | skip
    rw [veqs_eq h]
  | .dict a, y, h => by
    cases y <;> unfold veq at h <;> first | (cases h; done) | skip
    rw [veqd_eq h]
theorem veqs_eq : ∀ {x y : List Val}, veqs x y = true → x = y
  | [], y, h => by
    cases y with
    | nil => rfl
    | cons _ _ => unfold veqs at h; cases h
  | x :: xs, y, h => by
    cases y with
    | nil => unfold veqs at h; cases h
    | cons z zs =>
      unfold veqs at h
      simp only [Bool.and_eq_true] at h
      rw [veq_eq h.1, veqs_eq h.2]
theorem veqd_eq : ∀ {x y : List (Val × Val)}, veqd x y = true → x = y
  | [], y, h => by
    cases y with
    | nil => rfl
    | cons _ _ => unfold veqd at h; cases h
  | (x, u) :: xs, y, h => by
    cases y with
    | nil => unfold veqd at h; cases h
    | cons z zs =>
      obtain ⟨z, w⟩ := z
      unfold veqd at h
      simp only [Bool.and_eq_true] at h
      rw [veq_eq h.1.1, veq_eq h.1.2, veqd_eq h.2]
end
theorem star_ok {x : Expr} {xs : List Expr} {env : PySem.Env} (h : notStar x = true) : starEach (x :: xs) env = (false, eval x env) :: starEach xs env := by
  cases x <;> first | rfl | cases h
theorem star_any {env : PySem.Env} : ∀ {xs : List Expr}, xs.all notStar = true → (starEach xs env).any (·.1) = false
  | [], _ => rfl
  | x :: xs, h => by
    simp only [List.all_cons, Bool.and_eq_true] at h
    rw [star_ok h.1]
    simp only [List.any_cons, star_any h.2, Bool.or_self]
theorem pl_ok {env : PySem.Env} {pos : Pos} {xs : List Expr} (h : xs.all notStar = true) : (backTo pos (starEach xs env)).any (·.1) = false := by
  unfold backTo
  rw [List.any_map]
  exact star_any h
theorem base_ok {x : Expr} {n : Str} {env : PySem.Env} (h : baseB x = true) : attributeBase x n env (eval x env) = eval x env := by
  cases x <;> first | rfl | cases h
theorem isTrue_ok {e : Expr} {env : PySem.Env} (h : okB e = true) (whole : PySem.Sem Value) : isTrue e env whole = (do let v ← whole; standAt e.pos; holding [v] (truthy v)) := by
  cases e <;> first | rfl | cases h
theorem visB_is {sc : Scope} {x : Str} (h : visB sc x = true) : Vis sc x := by
  unfold visB at h
  split at h <;> first | exact .inl (by assumption) | exact .inr (.inl (by assumption)) | exact .inr (.inr (by assumption)) | cases h
theorem locB_is {sc : Scope} {x : Str} (h : locB sc x = true) : L2.Loc sc x := by
  unfold locB at h
  split at h <;> first | exact .inl (by assumption) | exact .inr (by assumption) | cases h
theorem slotB_is {N : List Str} {i : Nat} {x : Str} (h : slotB N i x = true) : N[i]? = some x := by
  unfold slotB at h
  split at h
  · rename_i e; rw [e, eq_of_beq h]
  · cases h
section
variable {g : Sx} {X : Cx} {C : Gx} {S : Sem} {sc : Scope}
theorem lookup_if {f : Str × NameKind → Str × NameKind} (hf : ∀ y, f y = y ∨ (y.2 = .free ∧ f y = (y.1, .cell))) {x : Str} {k : NameKind} : ∀ {l : List (Str × NameKind)}, l.lookup x = some k → (l.map f).lookup x = some k ∨ (k = .free ∧ (l.map f).lookup x = some .cell)
  | [], h => by cases h
  | (n, j) :: r, h => by
    have ih := fun h => lookup_if hf (x := x) (k := k) (l := r) h
    rw [List.map_cons]
    rcases hf (n, j) with c | ⟨c1, c2⟩
    · rw [c]
      rw [List.lookup_cons] at h ⊢
      cases hx : x == n with
      | true => rw [hx] at h; exact .inl h
      | false => rw [hx] at h; exact ih h
    · rw [c2]
      rw [List.lookup_cons] at h ⊢
      cases hx : x == n with
      | true =>
        rw [hx] at h
        have c1' : j = .free := c1
        cases h
        exact .inr ⟨c1', rfl⟩
      | false => rw [hx] at h; exact ih h
theorem relabel_get {scope : Scope} {env : PySem.Env} {x : Str} {k : NameKind} (h : scope.names.lookup x = some k) : (relabel scope env).names.lookup x = some k ∨ (k = .free ∧ (relabel scope env).names.lookup x = some .cell) := by
  unfold relabel
  refine lookup_if (fun y => ?_) h
  obtain ⟨n, j⟩ := y
  simp only
  split
  · rename_i c
    simp only [Bool.and_eq_true] at c
    exact .inr ⟨eq_of_beq c.1.1, rfl⟩
  · exact .inl rfl
theorem Gd.lc (G : Gd g X C S sc) {x : Str} {k : NameKind} (h : sc.names.lookup x = some k) (n : k ≠ .free) : X.env.scope.names.lookup x = some k := by
  rcases G.scp x k h with q | q
  · exact q
  · exact absurd q.1 n
theorem Gd.vis (G : Gd g X C S sc) {x : Str} (h : Vis sc x) : Vis X.env.scope x := by
  rcases h with h | h | h
  · exact .inl (G.lc h (by decide))
  · exact .inr (.inl (G.lc h (by decide)))
  · rcases G.scp _ _ h with q | q
    · exact .inr (.inr q)
    · exact .inr (.inl q.2)
theorem Gd.loc (G : Gd g X C S sc) {x : Str} (h : L2.Loc sc x) : L2.Loc X.env.scope x := by
  rcases h with h | h
  · exact .inl (G.lc h (by decide))
  · exact .inr (G.lc h (by decide))
theorem Gd.gl (G : Gd g X C S sc) {x : Str} (h : gloB sc x = true) : Gl X x ∧ (x == ("__debug__" : Str)) = false := by
  unfold gloB at h
  split at h
  · rename_i e
    refine ⟨?_, by simpa using h⟩
    show X.env.scope.names.lookup x = _
    exact G.lc e (by decide)
  · cases h
structure VarOk (X : Cx) (i : Nat) (x : Str) : Prop where
  n : X.N[i]? = some x
  v : Vis X.env.scope x
  d : (x == ("__debug__" : Str)) = false
  c : (x == ("__classdict__" : Str)) = false
theorem Gd.var (G : Gd g X C S sc) {i : Nat} {x : Str} (h : varB g.N sc i x = true) : VarOk X i x := by
  unfold varB at h
  simp only [Bool.and_eq_true, Bool.not_eq_true'] at h
  exact ⟨by rw [G.nm]; exact slotB_is h.1.1.1, G.vis (visB_is h.1.1.2), h.1.2, h.2⟩
/-- inside a comprehension -/
theorem Gd.blk (G : Gd g X C S sc) {scope : Scope} (s : Shared) (H : Hp) (Ca : Addr) (cl : List (Str × Addr)) (fp : List Addr) : Gd g.inn (X.blk s H scope (compEnvC scope cl Ca X.env) fp) C S scope where
  nm := G.nm
  scp := fun x k h => relabel_get h
  calm := G.calm
  nd := G.nd
  on := G.on
  u := G.u
  st := G.st
  lv3 := G.lv3
  room := G.room.mono (show g.lv + 1 + 0 ≤ g.lv + 1 + g.dp by omega)
  fnc := fun x h => by
    rcases h with h | h
    · exact .inr h
    · exact .inl (by show (scope.names.lookup x == some .cell) = true; rw [h]; rfl)
  bn := G.bn
  gcd := G.gcd
  cls := G.cls
  kn := fun f x ps pl h0 h => ⟨(G.kn f x ps pl h0 h).ex, (G.kn f x ps pl h0 h).dbg⟩
  kk := G.kk
  nwk := G.nwk
  mkr := G.mkr
  gf := G.gf
  hi := fun h => absurd (show 2 ≤ 0 from h) (by decide)
  lam := fun h => absurd (show 2 ≤ 0 from h) (by decide)
  act := fun h => absurd (show false = true from h) (by decide)
  con := G.con
  prop := G.prop
/-- inside a lambda -/
theorem Gd.lamb (G : Gd g X C S sc) {scope : Scope} {ps : List Str} (L : LamP X.env.scope scope ps) {A : Around} {outer : List PySem.Env} {s : Shared} {H : Hp} {f c' : Addr} (hr : Room (g.lv + 1) (A.deeper (LamX.lamEnv X scope s.heap.objs.size f c'))) : Gd g.inn (lamCx X A outer s H scope f c') C S scope where
  nm := G.nm
  scp := fun x k h => .inl h
  calm := rfl
  nd := G.nd
  on := G.on
  u := by have := hr.un; show (A.deeper (LamX.lamEnv X scope s.heap.objs.size f c')).units + 70 < cLine; omega
  st := G.st
  lv3 := G.lv3
  room := hr
  fnc := fun x h => by
    rcases h with h | h
    · exact .inr h
    · exact absurd rfl (L.cell _ (PySem.mem_of_lookup h))
  bn := G.bn
  gcd := G.gcd
  cls := G.cls
  kn := fun f x ps pl h0 h => ⟨(G.kn f x ps pl h0 h).ex, (G.kn f x ps pl h0 h).dbg⟩
  kk := G.kk
  nwk := G.nwk
  mkr := G.mkr
  gf := G.gf
  hi := fun h => absurd (show 2 ≤ 0 from h) (by decide)
  lam := fun h => absurd (show 2 ≤ 0 from h) (by decide)
  act := fun h => absurd (show false = true from h) (by decide)
  con := G.con
  prop := G.prop
theorem Gd.blkOk (G : Gd g X C S sc) {scope : Scope} {l : List Nat} (h : blkB g.N sc scope l = true) : BlkOk X.N X.env.scope scope (ownL g.N l) := by
  unfold blkB at h
  simp only [Bool.and_eq_true, List.all_eq_true, decide_eq_true_eq] at h
  obtain ⟨⟨⟨⟨h1, h2⟩, h3⟩, h4⟩, h5⟩ := h
  rw [G.nm]
  refine ⟨h1, h2, fun p hp => ?_, fun y hy e => ?_, fun y hy e => ?_⟩
  · obtain ⟨i, hi, rfl⟩ := List.mem_map.mp hp
    have q := h3 i hi
    show g.N[i]? = some (g.N.getD i "")
    rw [List.getD_eq_getElem?_getD]
    cases z : g.N[i]? with
    | none => rw [z] at q; cases q
    | some w => rfl
  · have q := h4 y hy
    rw [e] at q
    simp only at q
    split at q
    · exact .inl (G.lc (by assumption) (by decide))
    · rename_i z
      rcases G.scp _ _ z with k | k
      · exact .inr k
      · exact .inl k.2
    · cases q
  · have q := h5 y hy
    have q' : ((l.any fun i => slotB g.N i y.1) || !(g.N.any fun z => z == y.1)) = true := by
      rcases e with e | e <;> (rw [e] at q; exact q)
    rw [Bool.or_eq_true] at q'
    rcases q' with q' | q'
    · left
      obtain ⟨i, hi, hs⟩ := List.any_eq_true.mp q'
      refine List.mem_map.mpr ⟨(g.N.getD i "", i), List.mem_map.mpr ⟨i, hi, rfl⟩, ?_⟩
      show g.N.getD i "" = y.1
      rw [List.getD_eq_getElem?_getD, slotB_is hs]; rfl
    · right
      intro hm
      rw [Bool.not_eq_true', ← Bool.not_eq_true] at q'
      exact q' (List.any_eq_true.mpr ⟨_, hm, by simp⟩)
theorem ownL_snd (N : List Str) (l : List Nat) : (ownL N l).map (·.2) = l := by
  unfold ownL
  rw [List.map_map]
  exact List.map_id _
/-! ### targets -/
theorem ass_ok {x : Expr} {xs : List Expr} {env : PySem.Env} (h : notStar x = true) : assignEach (x :: xs) env = (false, assign x env) :: assignEach xs env := by
  cases x <;> first | rfl | cases h
theorem ass_none {env : PySem.Env} : ∀ {xs : List Expr}, xs.all notStar = true → (assignEach xs env).findIdx? (·.1) = none ∧ (assignEach xs env).length = xs.length
  | [], _ => ⟨rfl, rfl⟩
  | x :: xs, h => by
    simp only [List.all_cons, Bool.and_eq_true] at h
    obtain ⟨a, b⟩ := ass_none (env := env) h.2
    rw [ass_ok h.1]
    refine ⟨?_, by simp only [List.length_cons, b]⟩
    rw [List.findIdx?_cons, a]; rfl
theorem cTs_len {N : List Str} : ∀ {ts : Tg} {xs : List Expr}, cTs N ts sc xs = true → xs.length = tgLen ts
  | .n _, _, h => by unfold cTs at h; cases h
  | .nil, xs, h => by
    unfold cTs at h
    rw [List.isEmpty_iff.mp h]; rfl
  | .cons t ts, [], h => by unfold cTs at h; cases h
  | .cons t ts, x :: xs, h => by
    unfold cTs at h
    simp only [Bool.and_eq_true] at h
    show xs.length + 1 = tgLen ts + 1
    rw [cTs_len h.2]
mutual
theorem cT_ok (G : Gd g X C S sc) : ∀ {t : Tg} {e : Expr}, cT g.N t sc e = true → PG X e (tG X.K C t)
  | .n i, e, h => by
    unfold cT at h
    split at h
    · simp only [Bool.and_eq_true] at h
      have hn := slotB_is h.1
      have hl := locB_is h.2
      refine tg_name G.nd (by rw [G.nm]; exact hn) (G.loc hl) ?_ ?_
      · rcases G.fnc _ hl with q | q
        · exact .inl q
        · exact .inr (G.lc q (by decide))
      · rw [G.nm]; exact (List.getElem?_eq_some_iff.mp hn).1
    · cases h
  | .nil, e, h => by unfold cT at h; cases h
  | .cons t ts, e, h => by
    unfold cT at h
    split at h
    · rename_i x xs _ _
      simp only [Bool.and_eq_true] at h
      obtain ⟨⟨⟨h1, h2⟩, h3⟩, h4⟩ := h
      have hs : (x :: xs).all notStar = true := by simp only [List.all_cons, Bool.and_eq_true]; exact ⟨h1, h2⟩
      obtain ⟨a, b⟩ := ass_none (env := X.env) hs
      refine tg_tup G.calm (tgs_cons (cT_ok G h3) (cTs_ok G h4) (by rw [ass_ok h1]; rfl)) ?_ a
      rw [b]
      show xs.length + 1 = tgLen ts + 1
      rw [cTs_len h4]
    · cases h
theorem cTs_ok (G : Gd g X C S sc) : ∀ {t : Tg} {es : List Expr}, cTs g.N t sc es = true → PGs X es (tGs X.K C t)
  | .n _, _, h => by unfold cTs at h; cases h
  | .nil, xs, h => by
    unfold cTs at h
    rw [List.isEmpty_iff.mp h]; exact tgs_nil
  | .cons t ts, [], h => by unfold cTs at h; cases h
  | .cons t ts, x :: xs, h => by
    unfold cTs at h
    simp only [Bool.and_eq_true] at h
    exact tgs_cons (cT_ok G h.1.2) (cTs_ok G h.2) (by rw [ass_ok h.1.1]; rfl)
end
end
end PL
set_option maxHeartbeats 1000000
/-! PLc3: expressions that the checker takes. -/
namespace PL
open PySem PySem.Spec PyProof.Rows L2
structure Fine (g : Sx) (C : Gx) (S : Sem) (a : Ex) : Prop where
  pe : ∀ {X : Cx} {sc : Scope} {e : Expr}, Gd g X C S sc → cE g a sc e = true → SE X C e (ev S a)
  pb : ∀ {X : Cx} {sc : Scope} {e : Expr}, Gd g X C S sc → tstB a e = true → cE g a sc e = true → SB X C e (boolM (ev S a))
  pw : ∀ {X : Cx} {sc : Scope} {op : PySem.BoolOp} {vs : List Expr} {p : Pos}, Gd g X C S sc → cE g a sc (.BoolOp op vs p) = true → SW X C (.BoolOp op vs p) (boolM (ev S a))
  pa : ∀ {X : Cx} {sc : Scope} {es : List Expr}, Gd g X C S sc → cA g a sc es = true → SA X C es (argsM (ev S a))
  pal : ∀ {X : Cx} {sc : Scope} {es : List Expr}, Gd g X C S sc → cA g a sc es = true → es.all notStar = true → SAL X C es (argsM (ev S a))
  pkw : ∀ {X : Cx} {sc : Scope} {kws : List Keyword}, Gd g X C S sc → cA g a sc (kws.map kwV) = true → (kws.map kwV).all notStar = true → PK X kws (tAs X.K C (argsM (ev S a)))
  len : ∀ {sc : Scope} {es : List Expr}, cA g a sc es = true → es.all notStar = true → ∀ ρ l ρ', argsM (ev S a) ρ = some (l, ρ') → l.length = es.length
  pi : ∀ {X : Cx} {sc : Scope} {tg it : Expr}, Gd g X C S sc → cI g a sc tg it = true → SI X C (prOf a) tg it (itemsM (ev S a))
section
variable {g : Sx} {C : Gx} {S : Sem}
theorem Fine.mk1 {a : Ex} (he : ∀ {X : Cx} {sc : Scope} {e : Expr}, Gd g X C S sc → cE g a sc e = true → SE X C e (ev S a)) (ht : ∀ e, tstB a e = okB e)
    (hw : ∀ sc op vs p, cE g a sc (.BoolOp op vs p) = false) (ha : ∀ sc es, cA g a sc es = false) (hi : ∀ sc tg it, cI g a sc tg it = false) : Fine g C S a where
  pe := he
  pb := fun G t h => sb_val (he G h) (isTrue_ok (by rw [← ht]; exact t))
  pw := fun G h => by rw [hw] at h; cases h
  pa := fun G h => by rw [ha] at h; cases h
  pal := fun G h => by rw [ha] at h; cases h
  pkw := fun G h => by rw [ha] at h; cases h
  len := fun h => by rw [ha] at h; cases h
  pi := fun G h => by rw [hi] at h; cases h
/-- of a form that is a test of its own -/
theorem Fine.mk2 {a : Ex} (he : ∀ {X : Cx} {sc : Scope} {e : Expr}, Gd g X C S sc → cE g a sc e = true → SE X C e (ev S a)) (hb : ∀ {X : Cx} {sc : Scope} {e : Expr}, Gd g X C S sc → tstB a e = true → cE g a sc e = true → SB X C e (boolM (ev S a)))
    (hw : ∀ sc op vs p, cE g a sc (.BoolOp op vs p) = false) (ha : ∀ sc es, cA g a sc es = false) (hi : ∀ sc tg it, cI g a sc tg it = false) : Fine g C S a where
  pe := he
  pb := hb
  pw := fun G h => by rw [hw] at h; cases h
  pa := fun G h => by rw [ha] at h; cases h
  pal := fun G h => by rw [ha] at h; cases h
  pkw := fun G h => by rw [ha] at h; cases h
  len := fun h => by rw [ha] at h; cases h
  pi := fun G h => by rw [hi] at h; cases h
theorem fine_var (i : Nat) : Fine g C S (.var i) := Fine.mk1 (fun {X sc e} G h => by
    unfold cE at h
    split at h
    · obtain ⟨a, b, c, d⟩ := G.var h
      exact snd_var a b c d
    · cases h) (fun _ => rfl) (fun _ _ _ _ => rfl) (fun _ _ => rfl) (fun _ _ _ => by unfold cI; rfl)
theorem fine_con (v : Val) : Fine g C S (.con v) := Fine.mk1 (fun {X sc e} G h => by
    unfold cE at h
    split at h
    · rename_i c _ _
      unfold conB at h
      split at h
      · exact snd_tC pe_non fun F => .non
      · rw [eq_of_beq h]; exact snd_tC pe_bl fun F => .bl _
      · rw [eq_of_beq h]; exact snd_tC pe_int fun F => .int _
      · rw [eq_of_beq h]; exact snd_tC pe_str fun F => .str _
      · cases h
    · cases h) (fun _ => rfl) (fun _ _ _ _ => rfl) (fun _ _ => rfl) (fun _ _ _ => by unfold cI; rfl)
theorem fine_glob (s : Str) (v : Val) : Fine g C S (.glob s v) := Fine.mk1 (fun {X sc e} G h => by
    unfold cE at h
    split at h
    · simp only [Bool.and_eq_true] at h
      obtain ⟨⟨h1, h2⟩, h3⟩ := h
      obtain rfl := eq_of_beq h1
      split at h3
      · rename_i w hw
        obtain rfl := veq_eq h3
        obtain ⟨y, u, m, r, d⟩ := G.con _ _ hw
        exact snd_tC (pe_glob (G.gl h2).1 m r (G.gl h2).2) d
      · cases h3
    · cases h) (fun _ => rfl) (fun _ _ _ _ => rfl) (fun _ _ => rfl) (fun _ _ _ => by unfold cI; rfl)
theorem fine_tup {es : Ex} (I : Fine g C S es) : Fine g C S (.tup es) := Fine.mk1 (fun {X sc e} G h => by
    unfold cE at h
    split at h
    · exact snd_tup (I.pa G h)
    · cases h) (fun _ => rfl) (fun _ _ _ _ => rfl) (fun _ _ => rfl) (fun _ _ _ => by unfold cI; rfl)
theorem fine_lst {es : Ex} (I : Fine g C S es) : Fine g C S (.lst es) := Fine.mk1 (fun {X sc e} G h => by
    unfold cE at h
    split at h
    · exact snd_lst (I.pa G h)
    · cases h) (fun _ => rfl) (fun _ _ _ _ => rfl) (fun _ _ => rfl) (fun _ _ _ => by unfold cI; rfl)
theorem fine_bop {o : Bop} {a b : Ex} (I : Fine g C S a) (J : Fine g C S b) : Fine g C S (.bop o a b) := Fine.mk1 (fun {X sc e} G h => by
    unfold cE at h
    split at h
    · simp only [Bool.and_eq_true] at h
      obtain ⟨⟨h1, h2⟩, h3⟩ := h
      obtain rfl := of_decide_eq_true h1
      exact snd_bop (I.pe G h2) (J.pe G h3)
    · cases h) (fun _ => rfl) (fun _ _ _ _ => rfl) (fun _ _ => rfl) (fun _ _ _ => by unfold cI; rfl)
theorem fine_cmp {o : Cop} {a b : Ex} (I : Fine g C S a) (J : Fine g C S b) : Fine g C S (.cmp o a b) := Fine.mk2 (fun {X sc e} G h => by
    unfold cE at h
    split at h
    · simp only [Bool.and_eq_true, Bool.not_eq_true'] at h
      obtain ⟨⟨⟨h1, h2⟩, h3⟩, h4⟩ := h
      obtain rfl := of_decide_eq_true h1
      exact snd_cmp G.on G.u (I.pe G h2) (J.pe G h3) h4
    · cases h) (fun {X sc e} G _ h => by
    unfold cE at h
    split at h
    · simp only [Bool.and_eq_true, Bool.not_eq_true'] at h
      obtain ⟨⟨⟨h1, h2⟩, h3⟩, h4⟩ := h
      obtain rfl := of_decide_eq_true h1
      exact sb_cmp G.on G.u (I.pe G h2) (J.pe G h3) h4
    · cases h) (fun _ _ _ _ => rfl) (fun _ _ => rfl) (fun _ _ _ => by unfold cI; rfl)
theorem fine_cmp2 {o o' : Cop} {a b c : Ex} (I : Fine g C S a) (J : Fine g C S b) (L : Fine g C S c) : Fine g C S (.cmp2 o o' a b c) := Fine.mk2 (fun {X sc e} G h => by
    unfold cE at h
    split at h
    · simp only [Bool.and_eq_true, Bool.not_eq_true'] at h
      obtain ⟨⟨⟨⟨⟨h1, h0⟩, h2⟩, h3⟩, h4⟩, h5⟩ := h
      obtain rfl := of_decide_eq_true h1
      obtain rfl := of_decide_eq_true h0
      exact snd_cmp2 G.on G.u (I.pe G h2) (J.pe G h3) (L.pe G h4) h5
    · cases h) (fun {X sc e} G _ h => by
    unfold cE at h
    split at h
    · simp only [Bool.and_eq_true, Bool.not_eq_true'] at h
      obtain ⟨⟨⟨⟨⟨h1, h0⟩, h2⟩, h3⟩, h4⟩, h5⟩ := h
      obtain rfl := of_decide_eq_true h1
      obtain rfl := of_decide_eq_true h0
      exact sb_cmp2 G.on G.u (I.pe G h2) (J.pe G h3) (L.pe G h4) h5
    · cases h) (fun _ _ _ _ => rfl) (fun _ _ => rfl) (fun _ _ _ => by unfold cI; rfl)
theorem fine_and {a b : Ex} (I : Fine g C S a) (J : Fine g C S b) : Fine g C S (.and a b) := by
  have hw : ∀ {X : Cx} {sc : Scope} {op : PySem.BoolOp} {vs : List Expr} {p : Pos}, Gd g X C S sc → cE g (.and a b) sc (.BoolOp op vs p) = true → SW X C (.BoolOp op vs p) (boolM (ev S (.and a b))) := fun {X sc op vs p} G h => by
    unfold cE at h
    split at h
    · rename_i x y r p' he
      cases he
      simp only [Bool.and_eq_true] at h
      obtain ⟨⟨h1, h2⟩, h3⟩ := h
      refine sw_and (I.pb G h1 h2) ?_
      split at h3
      · simp only [Bool.and_eq_true] at h3
        exact sw_and1 (J.pb G h3.1 h3.2)
      · simp only [Bool.and_eq_true] at h3
        exact J.pw G h3.2
    · cases h
  refine ⟨fun {X sc e} G h => ?_, fun {X sc e} G _ h => ?_, hw, fun G h => (by cases h), fun G h => (by cases h), fun G h => (by cases h), fun h => (by cases h), fun G h => (by unfold cI at h; cases h)⟩
  · unfold cE at h
    split at h
    · rename_i x y r p'
      simp only [Bool.and_eq_true] at h
      obtain ⟨⟨h1, h2⟩, h3⟩ := h
      refine snd_and (I.pe G h2) ?_
      split at h3
      · simp only [Bool.and_eq_true] at h3
        exact se_one (J.pe G h3.2)
      · simp only [Bool.and_eq_true] at h3
        exact J.pe G h3.2
    · cases h
  · have h0 := h
    unfold cE at h
    split at h
    · exact (hw G h0).pt
    · cases h
theorem fine_or {a b : Ex} (I : Fine g C S a) (J : Fine g C S b) : Fine g C S (.or a b) := by
  have hw : ∀ {X : Cx} {sc : Scope} {op : PySem.BoolOp} {vs : List Expr} {p : Pos}, Gd g X C S sc → cE g (.or a b) sc (.BoolOp op vs p) = true → SW X C (.BoolOp op vs p) (boolM (ev S (.or a b))) := fun {X sc op vs p} G h => by
    unfold cE at h
    split at h
    · rename_i x y r p' he
      cases he
      simp only [Bool.and_eq_true] at h
      obtain ⟨⟨h1, h2⟩, h3⟩ := h
      refine sw_or (I.pb G h1 h2) ?_
      split at h3
      · simp only [Bool.and_eq_true] at h3
        exact sw_or1 (J.pb G h3.1 h3.2)
      · simp only [Bool.and_eq_true] at h3
        exact J.pw G h3.2
    · cases h
  refine ⟨fun {X sc e} G h => ?_, fun {X sc e} G _ h => ?_, hw, fun G h => (by cases h), fun G h => (by cases h), fun G h => (by cases h), fun h => (by cases h), fun G h => (by unfold cI at h; cases h)⟩
  · unfold cE at h
    split at h
    · rename_i x y r p'
      simp only [Bool.and_eq_true] at h
      obtain ⟨⟨h1, h2⟩, h3⟩ := h
      refine snd_or (I.pe G h2) ?_
      split at h3
      · simp only [Bool.and_eq_true] at h3
        exact se_one (J.pe G h3.2)
      · simp only [Bool.and_eq_true] at h3
        exact J.pe G h3.2
    · cases h
  · have h0 := h
    unfold cE at h
    split at h
    · exact (hw G h0).pt
    · cases h
theorem fine_not {a : Ex} (I : Fine g C S a) : Fine g C S (.not a) := Fine.mk2 (fun {X sc e} G h => by
    unfold cE at h
    split at h
    · simp only [Bool.and_eq_true] at h
      exact snd_not (I.pe G h.2)
    · cases h) (fun {X sc e} G _ h => by
    unfold cE at h
    split at h
    · simp only [Bool.and_eq_true] at h
      exact sb_not (I.pb G h.1 h.2)
    · cases h) (fun _ _ _ _ => rfl) (fun _ _ => rfl) (fun _ _ _ => by unfold cI; rfl)
theorem fine_ife {c a b : Ex} (L : Fine g C S c) (I : Fine g C S a) (J : Fine g C S b) : Fine g C S (.ife c a b) := Fine.mk1 (fun {X sc e} G h => by
    unfold cE at h
    split at h
    · simp only [Bool.and_eq_true] at h
      obtain ⟨⟨⟨h1, h2⟩, h3⟩, h4⟩ := h
      exact snd_ife (L.pb G h1 h2) (I.pe G h3) (J.pe G h4)
    · cases h) (fun _ => rfl) (fun _ _ _ _ => rfl) (fun _ _ => rfl) (fun _ _ _ => by unfold cI; rfl)
theorem fine_neg {a : Ex} (I : Fine g C S a) : Fine g C S (.neg a) := Fine.mk1 (fun {X sc e} G h => by
    unfold cE at h
    split at h
    · exact snd_neg (I.pe G h)
    · cases h) (fun _ => rfl) (fun _ _ _ _ => rfl) (fun _ _ => rfl) (fun _ _ _ => by unfold cI; rfl)
theorem fine_prop {k : Nat} {a : Ex} (I : Fine g C S a) : Fine g C S (.prop k a) := Fine.mk1 (fun {X sc e} G h => by
    unfold cE at h
    split at h
    · simp only [Bool.and_eq_true, decide_eq_true_eq] at h
      obtain ⟨⟨⟨h1, h2⟩, h3⟩, h4⟩ := h
      obtain rfl := eq_of_beq h1
      exact snd_prop G.st.cl (G.prop k h2) (G.room.mono (by have := G.lv3; omega)) (I.pe G h3) (base_ok h4)
    · cases h) (fun _ => rfl) (fun _ _ _ _ => rfl) (fun _ _ => rfl) (fun _ _ _ => by unfold cI; rfl)
theorem cLine1 {u : Nat} (h : u + 70 < cLine) : u + 1 < cLine := by omega
theorem fine_idx {a b : Ex} (I : Fine g C S a) (J : Fine g C S b) : Fine g C S (.idx a b) := Fine.mk1 (fun {X sc e} G h => by
    unfold cE at h
    split at h
    · simp only [Bool.and_eq_true, Bool.not_eq_true'] at h
      obtain ⟨⟨h1, h2⟩, h3⟩ := h
      exact snd_idx G.on (cLine1 G.u) (I.pe G h2) (J.pe G h3) h1
    · cases h) (fun _ => rfl) (fun _ _ _ _ => rfl) (fun _ _ => rfl) (fun _ _ _ => by unfold cI; rfl)
theorem Fine.po {a : Ex} (I : Fine g C S a) {X : Cx} {sc : Scope} {o : Option Expr} (G : Gd g X C S sc) (h : (match o with
      | none => isNil a
      | some l => cE g a sc l) = true) : PO X o (tP X.K C (partM a (ev S a))) := by
  cases o with
  | none =>
    cases a <;> first | exact po_ret | (cases h)
  | some e =>
    cases a <;> first | exact po_int (I.pe G h) | (cases h)
theorem fine_slc {a lo hi : Ex} (I : Fine g C S a) (J : Fine g C S lo) (L : Fine g C S hi) : Fine g C S (.slc a lo hi) := Fine.mk1 (fun {X sc e} G h => by
    unfold cE at h
    split at h
    · simp only [Bool.and_eq_true] at h
      obtain ⟨⟨h1, h2⟩, h3⟩ := h
      exact snd_slc (I.pe G h1) (J.po G h2) (L.po G h3)
    · cases h) (fun _ => rfl) (fun _ _ _ _ => rfl) (fun _ _ => rfl) (fun _ _ _ => by unfold cI; rfl)
theorem fine_idxO {s : Nat} {b : Ex} (J : Fine g C S b) : Fine g C S (.idxO s b) := Fine.mk1 (fun {X sc e} G h => by
    unfold cE at h
    split at h
    · simp only [Bool.and_eq_true, Bool.not_eq_true'] at h
      obtain ⟨⟨h1, h2⟩, h3⟩ := h
      obtain ⟨p, q, r, t⟩ := G.var h1
      exact snd_idxO G.on (cLine1 G.u) p q r t (J.pe G h3) h2
    · cases h) (fun _ => rfl) (fun _ _ _ _ => rfl) (fun _ _ => rfl) (fun _ _ _ => by unfold cI; rfl)
theorem fine_inO {neg : Bool} {s : Nat} {b : Ex} (J : Fine g C S b) : Fine g C S (.inO neg b s) := Fine.mk2 (fun {X sc e} G h => by
    unfold cE at h
    split at h
    · simp only [Bool.and_eq_true] at h
      obtain ⟨⟨h1, h2⟩, h3⟩ := h
      obtain rfl := of_decide_eq_true h1
      obtain ⟨p, q, r, t⟩ := G.var h2
      exact snd_inO G.on G.u p q r t (J.pe G h3) rfl
    · cases h) (fun {X sc e} G _ h => by
    unfold cE at h
    split at h
    · simp only [Bool.and_eq_true] at h
      obtain ⟨⟨h1, h2⟩, h3⟩ := h
      obtain rfl := of_decide_eq_true h1
      obtain ⟨p, q, r, t⟩ := G.var h2
      exact sb_inO G.on G.u p q r t (J.pe G h3) rfl
    · cases h) (fun _ _ _ _ => rfl) (fun _ _ => rfl) (fun _ _ _ => by unfold cI; rfl)
theorem fine_popO {s : Nat} : Fine g C S (.popO s) := Fine.mk1 (fun {X sc e} G h => by
    unfold cE at h
    split at h
    · simp only [Bool.and_eq_true] at h
      obtain ⟨⟨h1, h2⟩, h3⟩ := h
      obtain rfl := eq_of_beq h1
      obtain ⟨p, q, r, t⟩ := G.var h2
      exact snd_popO p q r t rfl h3
    · cases h) (fun _ => rfl) (fun _ _ _ _ => rfl) (fun _ _ => rfl) (fun _ _ _ => by unfold cI; rfl)
theorem back_all {env : PySem.Env} {pos : Pos} : ∀ {xs : List Expr}, xs.all notStar = true → (backTo pos (starEach xs env)).all (fun x => !x.1) = true
  | [], _ => rfl
  | x :: xs, h => by
    simp only [List.all_cons, Bool.and_eq_true] at h
    rw [star_ok h.1]
    show (!false && (backTo pos (starEach xs env)).all (fun x => !x.1)) = true
    rw [back_all h.2]; rfl
theorem few_ok {env : PySem.Env} {pos : Pos} {xs : List Expr} (h : xs.all notStar = true) (l : xs.length < 30) : ((backTo pos (starEach xs env)).all (fun x => !x.1) && (backToKw pos (keywordEach [] env)).all (fun x => x.1.isSome)
      && decide (xs.length + ([] : List Keyword).length + (if ([] : List Keyword).isEmpty then 0 else 1) < 30)) = true := by
  rw [back_all h]
  simp only [Bool.true_and, Bool.and_eq_true, decide_eq_true_eq]
  exact ⟨rfl, l⟩
theorem fine_popAt {s : Nat} {b : Ex} (J : Fine g C S b) : Fine g C S (.popAt s b) := Fine.mk1 (fun {X sc e} G h => by
    unfold cE at h
    split at h
    · simp only [Bool.and_eq_true] at h
      obtain ⟨⟨⟨⟨h1, h2⟩, h3⟩, h4⟩, h5⟩ := h
      obtain rfl := eq_of_beq h1
      obtain ⟨p, q, r, t⟩ := G.var h2
      exact snd_popAt p q r t (J.pe G h5) rfl h3 (star_ok h4) (few_ok (by simp only [List.all_cons, List.all_nil, Bool.and_true]; exact h4) (show 1 < 30 by decide))
    · cases h) (fun _ => rfl) (fun _ _ _ _ => rfl) (fun _ _ => rfl) (fun _ _ _ => by unfold cI; rfl)
end
end PL
set_option maxHeartbeats 1000000
/-! PLc4: calls, comprehensions, iterables; all expressions. -/
namespace PL
open PySem PySem.Spec PyProof.Rows L2
section
variable {g : Sx} {C : Gx} {S : Sem}
theorem fine_borrow {s : Nat} {a : Ex} (I : Fine g C S a) : Fine g C S (.borrow s a) := Fine.mk2 (fun {X sc e} G h => by
    unfold cE at h
    simp only [Bool.and_eq_true] at h
    exact snd_borrow (I.pe G h.2)) (fun {X sc e} G t h => by
    unfold cE at h
    simp only [Bool.and_eq_true] at h
    exact sb_borrow (I.pb G t h.2)) (fun _ _ _ _ => rfl) (fun _ _ => rfl) (fun _ _ _ => by unfold cI; rfl)
theorem ty_glob {X : Cx} {sc : Scope} (G : Gd g X C S sc) (t : Ty) {p : Pos} (h : gloB sc (tyS t : Str) = true) : PE X (.Name (tyS t : Str) p) (tC (clsK C t)) := by
  obtain ⟨gl, d⟩ := G.gl h
  cases t
  case street => exact pe_glob gl G.cls rfl d
  all_goals exact pe_bltn gl (G.bn _ (by decide)) rfl rfl (by decide) d
theorem fine_isa {t : Ty} {a : Ex} (I : Fine g C S a) : Fine g C S (.isa t a) := Fine.mk1 (fun {X sc e} G h => by
    unfold cE at h
    split at h
    · simp only [Bool.and_eq_true] at h
      obtain ⟨⟨⟨⟨⟨h1, h2⟩, h3⟩, h4⟩, h5⟩, h6⟩ := h
      obtain rfl := eq_of_beq h1
      obtain rfl := eq_of_beq h3
      exact snd_isa G.st (G.gl h2).1 (G.bn _ (by decide)) (I.pe G h6) (ty_glob G t h4) (star_ok h5) rfl rfl
    · cases h) (fun _ => rfl) (fun _ _ _ _ => rfl) (fun _ _ => rfl) (fun _ _ _ => by unfold cI; rfl)
theorem fine_bi {b : Bi} {es : Ex} (I : Fine g C S es) : Fine g C S (.bi b es) := Fine.mk1 (fun {X sc e} G h => by
    unfold cE at h
    split at h
    · simp only [Bool.and_eq_true] at h
      obtain ⟨⟨⟨⟨⟨h1, h2⟩, h0⟩, h3⟩, h4⟩, h5⟩ := h
      obtain rfl := eq_of_beq h1
      have gl := G.gl h2
      have A := I.pa G h5
      have pl := pl_ok (env := X.env) (pos := ‹Pos›) h4
      have st := star_ok (env := X.env) (xs := ‹List Expr›) h3
      cases b
      case gcd =>
        have hg : g.gcd = true := by simpa using h0
        exact snd_gcd bi_gcd gl.1 (G.gcd hg) A gl.2 st (pl_ok h4)
      case len => exact snd_bi bi_len gl.1 (G.bn _ (by decide)) rfl A (by decide) gl.2 st (pl_ok h4)
      case int => exact snd_ty bi_int gl.1 (G.bn _ (by decide)) rfl A (by decide) gl.2 st (pl_ok h4)
      case abs => exact snd_bi bi_abs gl.1 (G.bn _ (by decide)) rfl A (by decide) gl.2 st (pl_ok h4)
      case min => exact snd_bi (bi_min G.calm G.u) gl.1 (G.bn _ (by decide)) rfl A (by decide) gl.2 st (pl_ok h4)
      case max => exact snd_bi (bi_max G.calm G.u) gl.1 (G.bn _ (by decide)) rfl A (by decide) gl.2 st (pl_ok h4)
      case sum => exact snd_bi (bi_sum G.calm) gl.1 (G.bn _ (by decide)) rfl A (by decide) gl.2 st (pl_ok h4)
      case all => exact snd_bi (bi_all G.calm) gl.1 (G.bn _ (by decide)) rfl A (by decide) gl.2 st (pl_ok h4)
      case any => exact snd_bi (bi_any G.calm) gl.1 (G.bn _ (by decide)) rfl A (by decide) gl.2 st (pl_ok h4)
      case sorted => exact snd_bi (bi_sorted G.on G.calm G.u) gl.1 (G.bn _ (by decide)) rfl A (by decide) gl.2 st (pl_ok h4)
      case tuple => exact snd_ty bi_tuple gl.1 (G.bn _ (by decide)) rfl A (by decide) gl.2 st (pl_ok h4)
      case list => exact snd_ty bi_list gl.1 (G.bn _ (by decide)) rfl A (by decide) gl.2 st (pl_ok h4)
      case dict => exact snd_ty (bi_dict G.calm) gl.1 (G.bn _ (by decide)) rfl A (by decide) gl.2 st (pl_ok h4)
      case divmod => exact snd_bi bi_divmod gl.1 (G.bn _ (by decide)) rfl A (by decide) gl.2 st (pl_ok h4)
    · cases h) (fun _ => rfl) (fun _ _ _ _ => rfl) (fun _ _ => rfl) (fun _ _ _ => by unfold cI; rfl)
theorem fine_me {m : Me} {a es : Ex} (I : Fine g C S a) (J : Fine g C S es) : Fine g C S (.me m a es) := Fine.mk1 (fun {X sc e} G h => by
    unfold cE at h
    split at h
    · simp only [Bool.and_eq_true, decide_eq_true_eq] at h
      obtain ⟨⟨⟨⟨⟨⟨⟨h1, h2⟩, h3⟩, h4⟩, h5⟩, h6⟩, h7⟩, h8⟩ := h
      obtain rfl := eq_of_beq h1
      exact snd_me G.u (I.pe G h7) (J.pa G h8) (base_ok h2) (few_ok (by simp only [List.all_cons, Bool.and_eq_true]; exact ⟨h4, h5⟩) (by simp only [List.length_cons]; omega)) h3 (star_ok h4) (pl_ok h5)
    · cases h) (fun _ => rfl) (fun _ _ _ _ => rfl) (fun _ _ => rfl) (fun _ _ _ => by unfold cI; rfl)
theorem fine_call {f : Nat} {es : Ex} (J : Fine g C S es) : Fine g C S (.call f es) := Fine.mk1 (fun {X sc e} G h => by
    unfold cE at h
    split at h
    · rename_i x p xs pos
      simp only [Bool.and_eq_true] at h
      obtain ⟨⟨⟨⟨h0, h1⟩, h2⟩, h3⟩, h4⟩ := h
      have f0 : f ≠ 0 := by simpa using h0
      split at h1
      · rename_i y ps ht
        obtain rfl := eq_of_beq h1
        have kn := (G.kn _ _ _ _ f0 ht).kn (G.room.mono (by omega))
        cases xs with
        | nil =>
          have A := J.pa G h4
          cases es <;> first | exact snd_call0 kn (G.gl h2).1 | (cases h4)
        | cons z zs =>
          simp only [List.all_cons, Bool.and_eq_true] at h3
          exact snd_call kn (G.gl h2).1 (J.pa G h4) (star_ok h3.1) (pl_ok h3.2)
      · cases h1
    · cases h) (fun _ => rfl) (fun _ _ _ _ => rfl) (fun _ _ => rfl) (fun _ _ _ => by unfold cI; rfl)
theorem fine_callP {f s : Nat} {es : Ex} (J : Fine g C S es) : Fine g C S (.callP f s es) := Fine.mk1 (fun {X sc e} G h => by
    unfold cE at h
    split at h
    · rename_i x p y py xs pos
      simp only [Bool.and_eq_true] at h
      obtain ⟨⟨⟨⟨⟨h0, h1⟩, h2⟩, h3⟩, h4⟩, h5⟩ := h
      have f0 : f ≠ 0 := by simpa using h0
      split at h1
      · rename_i z ps ht
        obtain rfl := eq_of_beq h1
        obtain ⟨a, b, c, d⟩ := G.var h3
        exact snd_callP ((G.kn _ _ _ _ f0 ht).kn (G.room.mono (by omega))) (G.gl h2).1 a b c d (J.pa G h5) rfl (pl_ok h4)
      · cases h1
    · cases h) (fun _ => rfl) (fun _ _ _ _ => rfl) (fun _ _ => rfl) (fun _ _ _ => by unfold cI; rfl)
theorem fine_mk {es : Ex} (J : Fine g C S es) : Fine g C S (.mk es) := Fine.mk1 (fun {X sc e} G h => by
    unfold cE at h
    split at h
    · simp only [Bool.and_eq_true] at h
      obtain ⟨⟨⟨⟨h1, h2⟩, h3⟩, h4⟩, h5⟩ := h
      obtain rfl := eq_of_beq h1
      obtain ⟨fa, fd, ps, m, F, b⟩ := G.mkr
      exact snd_mk m F (G.room.mono (by omega)) (G.gl h2).1 G.cls b (J.pa G h5) (star_ok h3) (pl_ok h4)
    · cases h) (fun _ => rfl) (fun _ _ _ _ => rfl) (fun _ _ => rfl) (fun _ _ _ => by unfold cI; rfl)
theorem fine_dzip {a b : Ex} (I : Fine g C S a) (J : Fine g C S b) : Fine g C S (.dzip a b) := Fine.mk1 (fun {X sc e} G h => by
    unfold cE at h
    split at h
    · simp only [Bool.and_eq_true] at h
      obtain ⟨⟨⟨⟨⟨⟨⟨h1, h2⟩, h3⟩, h4⟩, h5⟩, h6⟩, h7⟩, h8⟩ := h
      obtain rfl := eq_of_beq h1
      obtain rfl := eq_of_beq h3
      exact snd_dzip G.calm (G.gl h2).1 (G.bn _ (by decide)) (G.gl h4).1 (G.bn _ (by decide)) (I.pe G h7) (J.pe G h8) (star_ok h5) (star_ok h6) (pl_ok (by simp only [List.all_cons, List.all_nil, Bool.and_true]; exact h6))
    · cases h) (fun _ => rfl) (fun _ _ _ _ => rfl) (fun _ _ => rfl) (fun _ _ _ => by unfold cI; rfl)
theorem fine_actG {i : Nat} {es : Ex} (J : Fine g C S es) : Fine g C S (.actG i es) := Fine.mk1 (fun {X sc e} G h => by
    unfold cE at h
    split at h
    · simp only [Bool.and_eq_true] at h
      obtain ⟨⟨⟨h1, h2⟩, h3⟩, h4⟩ := h
      obtain ⟨a, b, c, d⟩ := G.var h1
      exact snd_actG G.gf (G.room.mono (by omega)) a b c d (J.pa G h4) (star_ok h2) (pl_ok h3)
    · cases h) (fun _ => rfl) (fun _ _ _ _ => rfl) (fun _ _ => rfl) (fun _ _ _ => by unfold cI; rfl)
theorem fine_act {i : Nat} {es : Ex} (J : Fine g C S es) : Fine g C S (.act i es) := Fine.mk1 (fun {X sc e} G h => by
    unfold cE at h
    split at h
    · simp only [Bool.and_eq_true] at h
      obtain ⟨⟨⟨⟨h0, h1⟩, hst⟩, h3⟩, h4⟩ := h
      obtain ⟨a, b, c, d⟩ := G.var h1
      refine ⟨fun pins s σ H Q I ⟨F, ρ, fps, z, ρ', R, h, kk⟩ => ?_⟩
      have h : (match gs ρ i with
        | .f z => bnd (argsM (ev S es)) (fun xs => lft (S.act z xs)) ρ
        | _ => none) = some (z, ρ') := h
      split at h
      · rename_i y hy
        obtain ⟨xs, ρ1, h1, h2⟩ := bnd_some h
        obtain ⟨h3', rfl⟩ := lft_some h2
        exact (G.act h0 y a b c d (J.pa G h4) (star_ok hst) (pl_ok h3)).run pins s σ H Q I ⟨F, ρ, fps, xs, _, z, R, hy, h1, h3', kk⟩
      · cases h
    · cases h) (fun _ => rfl) (fun _ _ _ _ => rfl) (fun _ _ => rfl) (fun _ _ _ => by unfold cI; rfl)
theorem lamB_ok {X : Cx} {sc scope : Scope} (G : Gd g X C S sc) (h : lamB sc scope = true) : LamP X.env.scope scope lamPs := by
  unfold lamB at h
  simp only [Bool.and_eq_true, Bool.not_eq_true', decide_eq_true_eq, List.all_eq_true] at h
  obtain ⟨⟨⟨⟨h1, h2⟩, h3⟩, h4⟩, h5⟩ := h
  refine ⟨h1, h2, h3, fun y hy e => ?_, fun y hy e => ?_, h5, by decide, fun y hy e => ?_⟩
  · have q := h4 y hy
    rw [e] at q; cases q
  · have q := h4 y hy
    rw [e] at q
    have q' : (y.1 == ("ahead" : Str) || y.1 == ("each" : Str)) = true := q
    rcases Bool.or_eq_true_iff.mp q' with z | z
    · rw [eq_of_beq z]; exact .head _
    · rw [eq_of_beq z]; exact .tail _ (.head _)
  · have q := h4 y hy
    rw [e] at q
    simp only at q
    split at q
    · exact .inl (G.lc (by assumption) (by decide))
    · rename_i z
      exact (G.scp _ _ z).elim .inr fun k => .inl k.2
    · cases q
theorem slotsB_ok {N : List Str} {is : List Nat} (h : slotsB N is = true) : ParAt N is lamPs := by
  unfold slotsB at h
  split at h
  · simp only [Bool.and_eq_true, Bool.not_eq_true', beq_eq_false_iff_ne] at h
    refine ⟨?_, ?_⟩
    · simp [h.2]
    · simp only [List.map_cons, List.map_nil]
      rw [slotB_is h.1.1, slotB_is h.1.2]; rfl
  · cases h
theorem parsB_ok {params : Arguments} (h : parsB params = true) : (∀ env, defaultsOf params env = ([], [])) ∧ ∀ (body : Expr) (scope : Scope) (q : Str) (cl : List (Str × Addr)) (pm cv ctv : Value) (us : List Value), us.length = lamPs.length →
    bindArgs (PySem.W.kla_fn "<lambda>" q params body scope cl pm cv ctv) ⟨us, []⟩ = pure (lamPs.zip us) := by
  unfold parsB at h
  split at h
  · simp only [Bool.and_eq_true] at h
    obtain rfl := eq_of_beq h.1
    obtain rfl := eq_of_beq h.2
    refine ⟨fun env => rfl, fun body scope q cl pm cv ctv us hl => ?_⟩
    match us, hl with
    | [u, v], _ => rfl
  · cases h
theorem ends_split {l : List Expr} {m : Expr} (h : l.getLast? = some m) : l = l.dropLast ++ [m] := by
  have ne : l ≠ [] := by intro e; subst e; cases h
  have q := List.dropLast_concat_getLast ne
  rw [List.getLast?_eq_some_getLast ne] at h
  rw [← Option.some.inj h, q]
theorem all_drop {l : List Expr} (h : l.all notStar = true) : l.dropLast.all notStar = true := by
  rw [List.all_eq_true] at h ⊢
  exact fun x hx => h x (List.dropLast_subset _ hx)
theorem fine_callL {f : Nat} {es b : Ex} {ps : List Nat} (J : Fine g C S es) (B : Fine g.inn C S b) : Fine g C S (.callL f es ps b) := Fine.mk1 (fun {X sc e} G h => by
    unfold cE at h
    split at h
    · rename_i x p y ys pos
      simp only [Bool.and_eq_true] at h
      obtain ⟨⟨⟨⟨⟨h1, h2⟩, h3⟩, h4⟩, h5⟩, h6⟩ := h
      have dp2 : 2 ≤ g.dp := of_decide_eq_true h2
      split at h1
      case h_2 => cases h1
      rename_i z n hz
      simp only [Bool.and_eq_true, decide_eq_true_eq] at h1
      obtain ⟨h0, hn⟩ := h1
      obtain rfl := eq_of_beq h0
      split at h6
      case h_2 => cases h6
      rename_i params body scope lpos hlast
      simp only [Bool.and_eq_true] at h6
      obtain ⟨⟨⟨⟨k1, k2⟩, k3⟩, k4⟩, k5⟩ := h6
      obtain ⟨fa, psF, hi, hm, hk, hl, hdb⟩ := G.hi dp2 _ _ _ hz
      obtain ⟨c, P, TB, hc, hT, hu⟩ := G.lam dp2
      obtain ⟨df, bi⟩ := parsB_ok k2
      have hys := ends_split hlast
      have L := lamB_ok G k3
      have hd := all_drop h5
      have hall : (y :: ys.dropLast).all notStar = true := by simp only [List.all_cons, Bool.and_eq_true]; exact ⟨h4, hd⟩
      have hlen : ys.dropLast.length + 2 = psF.length := by
        have := congrArg List.length hys
        rw [List.length_append] at this
        simp only [List.length_cons, List.length_nil] at this
        omega
      have key := snd_callL (f := f) (is := ps) (lpos := lpos) (p := p) (pos := pos) (k := g.lv + 1) (mb := ev S b) hi (G.room.mono (by omega)) (G.room.mono (by omega)) (G.gl h3).1 hm hk hdb TB hc hT hu (J.pal G k1 hall) hlen (fun a ha r => star_ok (List.all_eq_true.mp hall a ha))
        (by rw [← hys]; exact pl_ok h5) (fun ρ l ρ' e => J.len k1 hall ρ l ρ' e) L (G.nm ▸ slotsB_ok k4) G.nd (df _) (fun q cl pm cv ctv us hl => bi body scope q cl pm cv ctv us hl)
        (fun f' c' A outer s H hr => B.pe (G.lamb L hr) k5)
      rw [← hys] at key
      exact key
    · cases h) (fun _ => rfl) (fun _ _ _ _ => rfl) (fun _ _ => rfl) (fun _ _ _ => by unfold cI; rfl)
theorem kw_each {env : PySem.Env} {pos : Pos} : ∀ {kws : List Keyword}, kws.all kwOk = true → (backToKw pos (keywordEach kws env)).all (·.1.isSome) = true ∧ (backToKw pos (keywordEach kws env)).filterMap (·.1) = kws.map kwN ∧ (backToKw pos (keywordEach kws env)).any (·.1.isNone) = false
  | [], _ => ⟨rfl, rfl, rfl⟩
  | ⟨a, v, p⟩ :: r, h => by
    simp only [List.all_cons, Bool.and_eq_true] at h
    obtain ⟨h1, h2, h3⟩ := kw_each (env := env) (pos := pos) h.2
    cases a with
    | none => cases h.1
    | some x =>
      refine ⟨?_, ?_, ?_⟩
      · show (true && (backToKw pos (keywordEach r env)).all (·.1.isSome)) = true
        rw [h1]; rfl
      · show x :: (backToKw pos (keywordEach r env)).filterMap (·.1) = x :: r.map kwN
        rw [h2]
      · show (false || (backToKw pos (keywordEach r env)).any (·.1.isNone)) = false
        rw [h3]; rfl
theorem fine_callK {f : Nat} {perm : List Nat} {es : Ex} (J : Fine g C S es) : Fine g C S (.callK f perm es) := Fine.mk1 (fun {X sc e} G h => by
    unfold cE at h
    split at h
    · simp only [Bool.and_eq_true] at h
      obtain ⟨⟨⟨⟨⟨⟨h0, h1⟩, h2⟩, h3⟩, h4⟩, h5⟩, h6⟩ := h
      have f0 : f ≠ 0 := by simpa using h0
      split at h1
      · rename_i y ps ht
        obtain rfl := eq_of_beq h1
        obtain ⟨fa, fd, F0, hm, hk, hb⟩ := G.kk _ _ _ f0 ht _ (List.contains_iff_mem.mp h4)
        obtain ⟨k1, k2, k3⟩ := kw_each (env := X.env) (pos := ‹Pos›) h3
        refine snd_callK F0 (G.room.mono (by omega)) hm hk hb (G.gl h2).2 (G.gl h2).1 (J.pkw G h5 h6) k1 k2 ?_ fun ρ l ρ' e => ?_
        · rw [k3]; rfl
        · rw [J.len h5 h6 ρ l ρ' e, List.length_map, List.length_map]
      · cases h1
    · cases h) (fun _ => rfl) (fun _ _ _ _ => rfl) (fun _ _ => rfl) (fun _ _ _ => by unfold cI; rfl)
/-! ### lists of parts -/
theorem fine_nil : Fine g C S .nil where
  pe := fun G h => by cases h
  pb := fun G _ h => by cases h
  pw := fun G h => by cases h
  pa := fun {X sc es} G h => by
    have h' : es.isEmpty = true := h
    rw [List.isEmpty_iff.mp h']
    exact sa_nil
  pal := fun {X sc es} G h _ => by
    have h' : es.isEmpty = true := h
    rw [List.isEmpty_iff.mp h']
    exact sal_nil
  pkw := fun {X sc kws} G h _ => by
    have h' : (kws.map kwV).isEmpty = true := h
    have e : kws = [] := by simpa using h'
    subst e
    refine ⟨fun pos pins s σ H Q I ⟨F, ρ, fps, xs, ρ', R, e, k⟩ => ?_⟩
    cases e
    exact pk_nil.run pos pins s σ H Q I (k [] _ _ _ (Post.refl R) .nil)
  len := fun {sc es} h _ ρ l ρ' e => by
    have h' : es.isEmpty = true := h
    rw [List.isEmpty_iff.mp h']
    cases e
    rfl
  pi := fun G h => by unfold cI at h; cases h
theorem fine_cons {a es : Ex} (I : Fine g C S a) (J : Fine g C S es) : Fine g C S (.cons a es) where
  pe := fun G h => by cases h
  pb := fun G _ h => by cases h
  pw := fun G h => by cases h
  pa := fun {X sc xs} G h => by
    unfold cA at h
    split at h
    · simp only [Bool.and_eq_true] at h
      exact sa_cons (I.pe G h.1.2) (J.pa G h.2) (star_ok h.1.1)
    · cases h
  pal := fun {X sc xs} G h hs => by
    unfold cA at h
    split at h
    · simp only [Bool.and_eq_true] at h
      simp only [List.all_cons, Bool.and_eq_true] at hs
      exact sal_cons (I.pe G h.1.2) (J.pal G h.2 hs.2) (star_ok h.1.1)
    · cases h
  pkw := fun {X sc kws} G h hs => by
    cases kws with
    | nil => unfold cA at h; cases h
    | cons k r =>
      obtain ⟨nm, v, kp⟩ := k
      have h' : (notStar v && cE g a sc v && cA g es sc (r.map kwV)) = true := by
        unfold cA at h; exact h
      simp only [Bool.and_eq_true] at h'
      have hs' : (notStar v && (r.map kwV).all notStar) = true := hs
      rw [Bool.and_eq_true] at hs'
      refine ⟨fun pos pins s σ H Q I0 ⟨F, ρ, fps, xs, ρ', R, e, k⟩ => ?_⟩
      obtain ⟨x, ρ1, l, h1, h2, rfl⟩ := argsM_cons e
      exact (pk_cons (I.pe G h'.1.2) (J.pkw G h'.2 hs'.2)).run pos pins s σ H Q I0 ⟨F, ρ, fps, x, ρ1, R, h1, fun v F1 H1 fps1 P1 rv => ⟨F1, ρ1, fps1, l, ρ', P1.rel, h2, fun vs F2 H2 fps2 P2 rvs => k _ _ _ _ (P1.trans P2) (.cons (rv.sub P2.ext) rvs)⟩⟩
  len := fun {sc xs} h hs ρ l ρ' e => by
    unfold cA at h
    split at h
    · simp only [Bool.and_eq_true] at h
      simp only [List.all_cons, Bool.and_eq_true] at hs
      obtain ⟨x, ρ1, r, h1, h2, rfl⟩ := argsM_cons e
      rw [List.length_cons, List.length_cons, J.len h.2 hs.2 _ _ _ h2]
    · cases h
  pi := fun G h => by unfold cI at h; cases h
theorem fine_star {a es : Ex} (I : Fine g C S a) (J : Fine g C S es) : Fine g C S (.star a es) where
  pe := fun G h => by cases h
  pb := fun G _ h => by cases h
  pw := fun G h => by cases h
  pa := fun {X sc xs} G h => by
    unfold cA at h
    split at h
    · simp only [Bool.and_eq_true] at h
      exact sa_star (I.pe G h.1) (J.pa G h.2) rfl
    · cases h
  pkw := fun {X sc kws} G h hs => by
    unfold cA at h
    split at h
    · rename_i q
      rw [q] at hs
      simp only [List.all_cons, Bool.and_eq_true] at hs
      cases hs.1
    · cases h
  pal := fun {X sc xs} G h hs => by
    unfold cA at h
    split at h
    · simp only [List.all_cons, Bool.and_eq_true] at hs
      cases hs.1
    · cases h
  len := fun {sc xs} h hs => by
    unfold cA at h
    split at h
    · simp only [List.all_cons, Bool.and_eq_true] at hs
      cases hs.1
    · cases h
  pi := fun G h => by unfold cI at h; cases h
/-! ### iterables -/
theorem Fine.mkI {a : Ex} (he : ∀ sc e, cE g a sc e = false) (ha : ∀ sc es, cA g a sc es = false) (hi : ∀ {X : Cx} {sc : Scope} {tg it : Expr}, Gd g X C S sc → cI g a sc tg it = true → SI X C (prOf a) tg it (itemsM (ev S a))) : Fine g C S a where
  pe := fun G h => by rw [he] at h; cases h
  pb := fun G _ h => by rw [he] at h; cases h
  pw := fun G h => by rw [he] at h; cases h
  pa := fun G h => by rw [ha] at h; cases h
  pal := fun G h => by rw [ha] at h; cases h
  pkw := fun G h => by rw [ha] at h; cases h
  len := fun h => by rw [ha] at h; cases h
  pi := hi
theorem fine_iseq {a : Ex} (I : Fine g C S a) : Fine g C S (.iseq a) := Fine.mkI (fun _ _ => rfl) (fun _ _ => rfl) fun {X sc tg it} G h => by
  unfold cI at h
  exact si_seq (I.pe G h)
theorem fine_ienum {a : Ex} (I : Fine g C S a) : Fine g C S (.ienum a) := Fine.mkI (fun _ _ => rfl) (fun _ _ => rfl) fun {X sc tg it} G h => by
  unfold cI at h
  split at h
  · simp only [Bool.and_eq_true] at h
    obtain ⟨⟨⟨⟨h1, h2⟩, h3⟩, h4⟩, h5⟩ := h
    obtain rfl := eq_of_beq h1
    cases tg <;> first | (cases h3; done) | skip
    exact si_en (G.gl h2).1 (G.bn _ (by decide)) (I.pe G h5) (star_ok h4)
  · cases h
theorem fine_izip {a b : Ex} (I : Fine g C S a) (J : Fine g C S b) : Fine g C S (.izip a b) := Fine.mkI (fun _ _ => rfl) (fun _ _ => rfl) fun {X sc tg it} G h => by
  unfold cI at h
  split at h
  · simp only [Bool.and_eq_true] at h
    obtain ⟨⟨⟨⟨⟨⟨h1, h2⟩, h3⟩, h4⟩, h5⟩, h6⟩, h7⟩ := h
    obtain rfl := eq_of_beq h1
    cases tg <;> first | (cases h3; done) | skip
    exact si_zip (G.gl h2).1 (G.bn _ (by decide)) (I.pe G h6) (J.pe G h7) (star_ok h4) (star_ok h5) (pl_ok (by simp only [List.all_cons, List.all_nil, Bool.and_true]; exact h5))
  · cases h
theorem fine_range1 {a : Ex} (I : Fine g C S a) : Fine g C S (.irange1 a) := Fine.mkI (fun _ _ => rfl) (fun _ _ => rfl) fun {X sc tg it} G h => by
  unfold cI at h
  split at h
  · simp only [Bool.and_eq_true] at h
    obtain ⟨⟨⟨h1, h2⟩, h3⟩, h4⟩ := h
    obtain rfl := eq_of_beq h1
    exact si_range1 (G.gl h2).1 (G.bn _ (by decide)) (I.pe G h4) (star_ok h3)
  · cases h
theorem fine_range2 {a b : Ex} (I : Fine g C S a) (J : Fine g C S b) : Fine g C S (.irange2 a b) := Fine.mkI (fun _ _ => rfl) (fun _ _ => rfl) fun {X sc tg it} G h => by
  unfold cI at h
  split at h
  · simp only [Bool.and_eq_true] at h
    obtain ⟨⟨⟨⟨⟨h1, h2⟩, h3⟩, h4⟩, h5⟩, h6⟩ := h
    obtain rfl := eq_of_beq h1
    exact si_range2 (G.gl h2).1 (G.bn _ (by decide)) (I.pe G h5) (J.pe G h6) ((star_ok h3).trans (by rw [star_ok h4]; rfl)) (star_ok h4)
  · cases h
/-- what is not taken -/
theorem fine_no {a : Ex} (he : ∀ sc e, cE g a sc e = false) (ha : ∀ sc es, cA g a sc es = false) (hi : ∀ sc tg it, cI g a sc tg it = false) : Fine g C S a :=
  Fine.mkI he ha fun G h => by rw [hi] at h; cases h
end
end PL
set_option maxHeartbeats 1000000
/-! PLc5: comprehensions; all expressions. -/
namespace PL
open PySem PySem.Spec PyProof.Rows L2
theorem set_ok {iter : Expr} {env : PySem.Env} (h : isSetE iter = false) (x : Value) : foldedSetIterable iter env x = pure x := by
  cases iter <;> first | rfl | cases h
theorem pts_none {X : Cx} {C : Gx} : PTs X [] (tBo X.K C (ret true)) :=
  ⟨fun pins s σ H Q I ⟨F, ρ, fps, b, ρ', R, h, k⟩ => by
    cases h
    exact pts_nil.run pins s σ H Q I (k _ _ _ (Post.refl R))⟩
section
variable {g : Sx} {C : Gx} {S : Sem}
theorem Fine.cond {c : Ex} (I : Fine g C S c) {X : Cx} {sc : Scope} {ifs : List Expr} (G : Gd g X C S sc) (h : (match ifs with
      | [] => isNil c
      | [z] => tstB c z && cE g c sc z
      | _ => false) = true) : PTs X ifs (tBo X.K C (condM c (ev S c))) := by
  split at h
  · cases c <;> first | exact pts_none | (cases h)
  · simp only [Bool.and_eq_true] at h
    have P := I.pb G h.1 h.2
    cases c <;> first | exact pts_one P | (cases h.2)
  · cases h
theorem pr_ok {it : Ex} {t : Tg} (h : (!prOf it || !isN t) = true) : (∃ k, t = .n k) → prOf it = false := by
  rintro ⟨k, rfl⟩
  simpa [isN] using h
theorem fine_lc {elt it c : Ex} {t : Tg} (I : Fine g.inn C S elt) (J : Fine g C S it) (L : Fine g.inn C S c) : Fine g C S (.lc elt t it c) := Fine.mk1 (fun {X sc e} G h => by
    unfold cE at h
    split at h
    · simp only [Bool.and_eq_true, Bool.not_eq_true'] at h
      obtain ⟨⟨⟨⟨⟨⟨h1, h0⟩, h2⟩, h3⟩, h4⟩, h5⟩, h6⟩ := h
      refine snd_lc G.calm G.nd (J.pi G h1) (pr_ok h2) (G.blkOk h3) (ownL_snd _ _) (fun s H Ca cl fp => ?_) (fun s H Ca cl fp => ?_) (fun s H Ca cl fp => ?_) (set_ok h0)
      · exact cT_ok (G.blk s H Ca cl fp) h4
      · exact L.cond (G.blk s H Ca cl fp) h5
      · exact I.pe (G.blk s H Ca cl fp) h6
    · cases h) (fun _ => rfl) (fun _ _ _ _ => rfl) (fun _ _ => rfl) (fun _ _ _ => by unfold cI; rfl)
/-- pairs of a dict display -/
def PrOk (g : Sx) (C : Gx) (S : Sem) (a : Ex) : Prop := ∀ {X : Cx} {sc : Scope} {ks : List (Option Expr)} {vs : List Expr} {pos : Pos}, Gd g X C S sc → cPr g a sc ks vs = true → SPr X C pos ks vs (argsM (ev S a)) ∧ ks.all (·.isSome) = true ∧ ks.length = vs.length
theorem pr_nil : PrOk g C S .nil := fun {X sc ks vs pos} G h => by
  unfold cPr at h
  simp only [Bool.and_eq_true, List.isEmpty_iff] at h
  obtain ⟨rfl, rfl⟩ := h
  exact ⟨spr_nil, rfl, rfl⟩
theorem pr_cons {k v es : Ex} (I : Fine g C S k) (J : Fine g C S v) (L : PrOk g C S es) : PrOk g C S (.cons (.tup (.cons k (.cons v .nil))) es) := fun {X sc ks vs pos} G h => by
  unfold cPr at h
  split at h
  · simp only [Bool.and_eq_true] at h
    obtain ⟨l1, l2, l3⟩ := L (pos := pos) G h.2
    exact ⟨spr_cons (I.pe G h.1.1) (J.pe G h.1.2) l1, by simpa using l2, by simpa using l3⟩
  · cases h
theorem fine_dlit {t : Bool} {es : Ex} (L : PrOk g C S es) (L1 : ∀ {X : Cx} {sc : Scope} {ks : List (Option Expr)} {vs : List Expr} {pos : Pos}, Gd g X C S sc → cPr g es sc ks vs = true → ks.length ≤ 1 → SE X C (.Dict ks vs pos) (ev S (.dlit true es))) : Fine g C S (.dlit t es) := Fine.mk1 (fun {X sc e} G h => by
    unfold cE at h
    split at h
    · rename_i ks vs pos
      simp only [Bool.and_eq_true, decide_eq_true_eq] at h
      obtain ⟨⟨h1, h2⟩, h3⟩ := h
      obtain ⟨l1, l2, l3⟩ := L (pos := pos) G h1
      cases t with
      | true => exact L1 G h1 (by simpa using h3)
      | false =>
        by_cases h0 : ks = []
        · subst h0
          cases vs with
          | cons _ _ => simp at l3
          | nil =>
            have e0 : es = .nil := by
              unfold cPr at h1
              split at h1
              · rfl
              · simp at h1
              · cases h1
            subst e0
            exact snd_dnewK
        · exact snd_dlitK l1 l2 l3 h0 h2
    · cases h) (fun _ => rfl) (fun _ _ _ _ => rfl) (fun _ _ => rfl) (fun _ _ _ => by unfold cI; rfl)
theorem dlit_nil {X : Cx} {sc : Scope} {ks : List (Option Expr)} {vs : List Expr} {pos : Pos} (G : Gd g X C S sc) (h : cPr g .nil sc ks vs = true) : SE X C (.Dict ks vs pos) (ev S (.dlit true .nil)) := by
  unfold cPr at h
  simp only [Bool.and_eq_true, List.isEmpty_iff] at h
  obtain ⟨rfl, rfl⟩ := h
  exact snd_dnewT G.on
theorem dlit_one {k v es : Ex} (I : Fine g C S k) (J : Fine g C S v) {X : Cx} {sc : Scope} {ks : List (Option Expr)} {vs : List Expr} {pos : Pos} (G : Gd g X C S sc) (h : cPr g (.cons (.tup (.cons k (.cons v .nil))) es) sc ks vs = true) (hl : ks.length ≤ 1) : SE X C (.Dict ks vs pos) (ev S (.dlit true (.cons (.tup (.cons k (.cons v .nil))) es))) := by
  unfold cPr at h
  split at h
  · rename_i a ks b vs
    simp only [Bool.and_eq_true] at h
    have e0 : ks = [] := List.length_eq_zero_iff.mp (by simpa using hl)
    subst e0
    have e1 : es = .nil ∧ vs = [] := by
      have q := h.2
      unfold cPr at q
      split at q
      · simp only [Bool.and_eq_true, List.isEmpty_iff] at q
        exact ⟨rfl, q.2⟩
      · cases q
      · cases q
    obtain ⟨rfl, rfl⟩ := e1
    exact snd_dlitT G.on (cLine1 G.u) (I.pe G h.1.1) (J.pe G h.1.2)
  · cases h
theorem pr_no {a : Ex} (h : ∀ sc ks vs, cPr g a sc ks vs = false) : PrOk g C S a := fun G h' => by rw [h] at h'; cases h'
mutual
theorem finePr : ∀ (a : Ex) {g : Sx}, PrOk g C S a ∧ ∀ {X : Cx} {sc : Scope} {ks : List (Option Expr)} {vs : List Expr} {pos : Pos}, Gd g X C S sc → cPr g a sc ks vs = true → ks.length ≤ 1 → SE X C (.Dict ks vs pos) (ev S (.dlit true a))
  | .nil, _ => ⟨pr_nil, fun G h _ => dlit_nil G h⟩
  | .cons (.tup (.cons k (.cons v .nil))) es, _ => ⟨pr_cons (fine k) (fine v) (finePr es).1, fun G h hl => dlit_one (fine k) (fine v) G h hl⟩
  | a, g => by
    have no : ∀ sc ks vs, cPr g a sc ks vs = true → PrOk g C S a ∧ ∀ {X : Cx} {sc : Scope} {ks : List (Option Expr)} {vs : List Expr} {pos : Pos}, Gd g X C S sc → cPr g a sc ks vs = true → ks.length ≤ 1 → SE X C (.Dict ks vs pos) (ev S (.dlit true a)) := fun sc ks vs h => by
      unfold cPr at h
      split at h
      · exact ⟨pr_nil, fun G h _ => dlit_nil G h⟩
      · rename_i k v es
        exact ⟨pr_cons (fine k) (fine v) (finePr es).1, fun G h hl => dlit_one (fine k) (fine v) G h hl⟩
      · cases h
    exact ⟨fun G h => (no _ _ _ h).1 G h, fun G h hl => (no _ _ _ h).2 G h hl⟩
theorem fine : ∀ (a : Ex) {g : Sx}, Fine g C S a
  | .nil, _ => fine_nil
  | .cons a es, _ => fine_cons (fine a) (fine es)
  | .star a es, _ => fine_star (fine a) (fine es)
  | .var i, _ => fine_var i
  | .con v, _ => fine_con v
  | .glob s v, _ => fine_glob s v
  | .tup es, _ => fine_tup (fine es)
  | .lst es, _ => fine_lst (fine es)
  | .bop o a b, _ => fine_bop (fine a) (fine b)
  | .cmp o a b, _ => fine_cmp (fine a) (fine b)
  | .cmp2 o o' a b c, _ => fine_cmp2 (fine a) (fine b) (fine c)
  | .and a b, _ => fine_and (fine a) (fine b)
  | .or a b, _ => fine_or (fine a) (fine b)
  | .not a, _ => fine_not (fine a)
  | .ife c a b, _ => fine_ife (fine c) (fine a) (fine b)
  | .neg a, _ => fine_neg (fine a)
  | .prop k a, _ => fine_prop (fine a)
  | .idx a i, _ => fine_idx (fine a) (fine i)
  | .slc a lo hi, _ => fine_slc (fine a) (fine lo) (fine hi)
  | .idxO s i, _ => fine_idxO (fine i)
  | .inO neg e s, _ => fine_inO (fine e)
  | .popO s, _ => fine_popO
  | .popAt s i, _ => fine_popAt (fine i)
  | .borrow s e, _ => fine_borrow (fine e)
  | .isa t a, _ => fine_isa (fine a)
  | .bi b es, _ => fine_bi (fine es)
  | .me m a es, _ => fine_me (fine a) (fine es)
  | .call f es, _ => fine_call (fine es)
  | .callP f s es, _ => fine_callP (fine es)
  | .lc elt t it c, _ => fine_lc (fine elt) (fine it) (fine c)
  | .iseq e, _ => fine_iseq (fine e)
  | .irange1 a, _ => fine_range1 (fine a)
  | .irange2 a b, _ => fine_range2 (fine a) (fine b)
  | .ienum e, _ => fine_ienum (fine e)
  | .izip a b, _ => fine_izip (fine a) (fine b)
  | .dzip a b, _ => fine_dzip (fine a) (fine b)
  | .callK f perm es, _ => fine_callK (fine es)
  | .act i es, _ => fine_act (fine es)
  | .actG i es, _ => fine_actG (fine es)
  | .callL f es ps b, _ => fine_callL (fine es) (fine b)
  | .mk es, _ => fine_mk (fine es)
  | .lrange _, _ => fine_no (fun _ _ => rfl) (fun _ _ => rfl) (fun _ _ _ => by unfold cI; rfl)
  | .lc2 .., _ => fine_no (fun _ _ => rfl) (fun _ _ => rfl) (fun _ _ _ => by unfold cI; rfl)
  | .ikeys _, _ => fine_no (fun _ _ => rfl) (fun _ _ => rfl) (fun _ _ _ => by unfold cI; rfl)
  | .dlit t es, _ => fine_dlit (finePr es).1 (finePr es).2
end
end
end PL
set_option maxHeartbeats 1000000
/-! PLc6: statements that the checker takes. -/
namespace PL
open PySem PySem.Spec PyProof.Rows L2
def notComp : Expr → Bool
  | .ListComp .. => false
  | .SetComp .. => false
  | .DictComp .. => false
  | _ => true
def isTupE : Expr → Bool
  | .Tuple .. => true
  | .List .. => true
  | _ => false
/-- a target that is no local name of the frame -/
def farB (sc : Scope) : Expr → Bool
  | .Name x _ => !decide (sc.names.lookup x = some .local)
  | _ => true
/-- targets one of which is a cell: their stores are not swapped -/
def cellB (sc : Scope) : Expr → Bool
  | .Tuple ts _ _ => ts.any (farB sc)
  | _ => false
def isLc : Ex → Bool
  | .lc .. => true
  | _ => false
def leB (z i : Nat) : Bool := decide (z ≤ i)
/-- a new thing -/
def cO (g : Sx) : Ex → Scope → Expr → Bool
  | .dlit _ .nil, _, e => match e with
    | .Dict [] [] _ => true
    | _ => false
  | .dlit _ (.cons (.tup (.cons k (.cons v .nil))) .nil), sc, e => match e with
    | .Dict [some a] [b] _ => cE g k sc a && cE g v sc b
    | _ => false
  | .lst es, sc, e => match e with
    | .List xs _ => cA g es sc xs
    | _ => false
  | .bi .list (.cons a .nil), sc, e => match e with
    | .Call (.Name f _) [x] [] _ => f == ("list" : Str) && gloB sc f && notStar x && cE g a sc x
    | _ => false
  | .call f es, sc, e => match e with
    | .Call (.Name x _) (y :: ys) [] _ => !(f == 0) && (match g.T f with
      | some (z, _, false) => x == z
      | _ => false) && g.nw f && gloB sc x && notStar y && ys.all notStar && cA g es sc (y :: ys)
    | _ => false
  | _, _, _ => false
/-- the store comes with the comprehension -/
def swB (sc scope : Scope) (y : Str) (py pos : Pos) : Bool := decide (sc.names.lookup y = some .local) && py.line == pos.line && !(scope.names.any fun (n, k) => n == y && (k == .local || k == .cell))
mutual
def cTa (g : Sx) (z : Nat) : Ta → Scope → Expr → Bool
  | .n i, sc, e => match e with
    | .Name x _ => slotB g.N i x && locB sc x && leB z i
    | _ => false
  | .sub i k, sc, e => match e with
    | .Subscript (.Name x _) y _ => varB g.N sc i x && !isSlice y && cE g k sc y
    | _ => false
  | .nil, _, _ => false
  | .cons t ts, sc, e => match e with
    | .Tuple (x :: xs) _ _ => notStar x && xs.all notStar && cTa g z t sc x && cTas g z ts sc xs
    | _ => false
termination_by structural t => t
def cTas (g : Sx) (z : Nat) : Ta → Scope → List Expr → Bool
  | .n _, _, _ => false
  | .sub _ _, _, _ => false
  | .nil, _, xs => xs.isEmpty
  | .cons t ts, sc, xs => match xs with
    | x :: xs => notStar x && cTa g z t sc x && cTas g z ts sc xs
    | [] => false
termination_by structural t => t
end
/-- one slot's value -/
def cV (g : Sx) (fr : Bool) (e : Ex) (sc : Scope) (v : Expr) : Bool := if fr then cO g e sc v else cE g e sc v
def parB (sc : Scope) (xs : List (Str × Pos)) (vs : List Expr) : Bool :=
  xs.all (fun p => decide (sc.names.lookup p.1 = some .local)) && decide ((xs.map (·.1)).Nodup) && xs.all (fun p => p.2.line == (match xs with
    | q :: _ => q.2.line
    | [] => 0)) && vs.all notStar && !vs.all (foldedForSure 8) && !vs.all (constantsAlone 8)
mutual
def cS (g : Sx) (z : Nat) : St → Scope → Stmt → Bool
  | .never, _, _ => true
  | .asg t e, sc, s => match s with
    | .Assign [tg] v pos => (match t, tg, v with
      | .n i, .Name x px, .ListComp a b scope p => isLc e && slotB g.N i x && locB sc x && leB z i && cE g e sc v
      | _, _, _ => cTa g z t sc tg && cE g e sc v && notComp v && (!(isTupE tg && isTupE v) || cellB sc tg))
    | _ => false
  | .own i e, sc, s => match s with
    | .Assign [.Name x px] v pos => slotB g.N i x && locB sc x && leB z i && (match e, v with
      | .lc elt t it c, .ListComp a [⟨tg, iter, ifs, 0⟩] scope p => swB sc scope x px p && cE g e sc v
      | _, _ => cO g e sc v)
    | _ => false
  | .par [(i, fi), (j, fj)] (.cons a (.cons b .nil)), sc, s => match s with
    | .Assign [.Tuple [.Name x px, .Name y py] _ pt] (.Tuple [v, w] _ _) _ => slotB g.N i x && slotB g.N j y && leB z i && leB z j && parB sc [(x, px), (y, py)] [v, w] && cV g fi a sc v && cV g fj b sc w
    | _ => false
  | .par [(i, fi), (j, fj), (k, fk)] (.cons a (.cons b (.cons c .nil))), sc, s => match s with
    | .Assign [.Tuple [.Name x px, .Name y py, .Name q pq] _ pt] (.Tuple [v, w, u] _ _) _ => slotB g.N i x && slotB g.N j y && slotB g.N k q && leB z i && leB z j && leB z k && parB sc [(x, px), (y, py), (q, pq)] [v, w, u] && cV g fi a sc v && cV g fj b sc w && cV g fk c sc u
    | _ => false
  | .append i e, sc, s => match s with
    | .Expr (.Call (.Attribute (.Name x _) n apos) [v] [] pos) _ => n == ("append" : Str) && varB g.N sc i x && apos.endLine == pos.line && notStar v && cE g e sc v
    | _ => false
  | .ite c a b, sc, s => match s with
    | .If t x y _ => tstB c t && cE g c sc t && cSs g z a sc x && cSs g z b sc y
    | _ => false
  | .for_ t it b, sc, s => match s with
    | .For tg iter body [] _ => cI g it sc tg iter && !isSetE iter && (!prOf it || !isN t) && cT g.N t sc tg && (tgIdx t).all (leB z) && cSs g z b sc body
    | _ => false
  | .while_ c b, sc, s => match s with
    | .While t body [] _ => tstB c t && cE g c sc t && cSs g z b sc body
    | _ => false
  | .rt e, sc, s => match s with
    | .Return (some v) _ => cE g e sc v
    | _ => false
  | .ex e, sc, s => match s with
    | .Expr v _ => cE g e sc v && notComp v
    | _ => false
  | _, _, _ => false
termination_by structural s => s
def cSs (g : Sx) (z : Nat) : St → Scope → List Stmt → Bool
  | .skip, _, l => l.isEmpty
  | .never, _, _ => true
  | .seq a b, sc, l => match l with
    | s :: r => cS g z a sc s && cSs g z b sc r
    | [] => false
  | _, _, _ => false
termination_by structural s => s
end
/-- what is at hand of a def's own frame -/
structure Gs (g : Sx) (X : Cx) (C : Gx) (S : Sem) (sc : Scope) : Prop extends Gd g X C S sc where
  eq : X.env.scope = sc
  kind : sc.kind = .function
  pass : PassesOwn (model X.prog X.w) X.A X.env X.xe
theorem swap_ok {v : Expr} {t : Option Expr} {n : Nat} {env : PySem.Env} (h : notComp v = true) : swapsWith v t n env = pure false := by
  cases v <;> first | rfl | cases h
section
variable {g : Sx} {X : Cx} {C : Gx} {S : Sem} {sc : Scope} {z : Nat}
theorem cO_ok (G : Gd g X C S sc) {a : Ex} {e : Expr} (h : cO g a sc e = true) : SO X C e (evO S a) := by
  unfold cO at h
  split at h
  · split at h
    · rename_i t e' pos'
      cases t
      · exact so_dnewK
      · exact so_dnewT G.on
    · cases h
  · split at h
    · rename_i t k v e1 a b p
      simp only [Bool.and_eq_true] at h
      cases t
      · exact so_disp1K ((fine k).pe G h.1) ((fine v).pe G h.2)
      · exact so_disp1T G.on (cLine1 G.u) ((fine k).pe G h.1) ((fine v).pe G h.2)
    · cases h
  · rename_i es
    split at h
    · exact so_lst ((fine es).pa G h)
    · cases h
  · rename_i a
    split at h
    · simp only [Bool.and_eq_true] at h
      obtain ⟨⟨⟨h1, h2⟩, h3⟩, h4⟩ := h
      obtain rfl := eq_of_beq h1
      exact so_list (G.gl h2).1 (G.bn _ (by decide)) ((fine a).pe G h4) (star_ok h3)
    · cases h
  · rename_i f es
    split at h
    · simp only [Bool.and_eq_true] at h
      obtain ⟨⟨⟨⟨⟨⟨h0, h1⟩, h2⟩, h3⟩, h4⟩, h5⟩, h6⟩ := h
      have f0 : f ≠ 0 := by simpa using h0
      split at h1
      · rename_i z ps ht
        obtain rfl := eq_of_beq h1
        obtain ⟨fa, fd, F, hm, hk, hb, hd⟩ := G.nwk _ _ _ f0 ht h2
        exact so_call F (G.room.mono (by omega)) (G.gl h3).1 hm hk hb hd ((fine es).pa G h6) (star_ok h4) (pl_ok h5)
      · cases h1
    · cases h
  · cases h
theorem cTas_len : ∀ {ts : Ta} {xs : List Expr}, cTas g z ts sc xs = true → xs.length = taLen ts
  | .n _, _, h => by unfold cTas at h; cases h
  | .sub _ _, _, h => by unfold cTas at h; cases h
  | .nil, xs, h => by
    unfold cTas at h
    rw [List.isEmpty_iff.mp h]; rfl
  | .cons t ts, [], h => by unfold cTas at h; cases h
  | .cons t ts, x :: xs, h => by
    unfold cTas at h
    simp only [Bool.and_eq_true] at h
    show xs.length + 1 = taLen ts + 1
    rw [cTas_len h.2]
theorem asgAs_eq (C : Sem) (t ts : Ta) : asgAs C (.cons t ts) = consA (asgA C t) (asgAs C ts) := by
  funext xs
  cases xs <;> rfl
theorem asgA_eq (C : Sem) (t ts : Ta) : asgA C (.cons t ts) = unpA (taLen ts + 1) (asgAs C (.cons t ts)) := by
  funext x
  unfold asgA unpA
  cases unpV x with
  | none => rfl
  | some l =>
    cases l with
    | nil => rfl
    | cons y ys =>
      simp only [List.length_cons, Nat.add_right_cancel_iff]
      rfl
mutual
theorem cTa_ok (G : Gs g X C S sc) : ∀ {t : Ta} {e : Expr}, cTa g z t sc e = true → PG X e (tA X.K C z (asgA S t))
  | .n i, e, h => by
    unfold cTa at h
    split at h
    · simp only [Bool.and_eq_true] at h
      obtain ⟨⟨h1, h2⟩, h3⟩ := h
      have hn := slotB_is h1
      have hl := locB_is h2
      refine ta_name G.nd (by rw [G.nm]; exact hn) (G.loc hl) ?_ (by rw [G.nm]; exact (List.getElem?_eq_some_iff.mp hn).1) (of_decide_eq_true h3)
      rcases G.fnc _ hl with q | q
      · exact .inl q
      · exact .inr (G.lc q (by decide))
    · cases h
  | .sub i k, e, h => by
    unfold cTa at h
    split at h
    · simp only [Bool.and_eq_true, Bool.not_eq_true'] at h
      obtain ⟨⟨h1, h2⟩, h3⟩ := h
      obtain ⟨a, b, c, d⟩ := G.var h1
      refine ta_sub G.on (cLine1 G.u) a b c d ((fine k).pe G.toGd h3) fun v => ?_
      rename_i y _
      cases y <;> first | rfl | cases h2
    · cases h
  | .nil, e, h => by unfold cTa at h; cases h
  | .cons t ts, e, h => by
    unfold cTa at h
    split at h
    · rename_i x xs _ _
      simp only [Bool.and_eq_true] at h
      obtain ⟨⟨⟨h1, h2⟩, h3⟩, h4⟩ := h
      have hs : (x :: xs).all notStar = true := by simp only [List.all_cons, Bool.and_eq_true]; exact ⟨h1, h2⟩
      obtain ⟨a, b⟩ := ass_none (env := X.env) hs
      rw [asgA_eq]
      refine ta_tup G.calm ?_ (by rw [b]; show xs.length + 1 = _; rw [cTas_len h4]) a
      rw [asgAs_eq]
      exact tas_cons (cTa_ok G h3) (cTas_ok G h4) (by rw [ass_ok h1]; rfl)
    · cases h
theorem cTas_ok (G : Gs g X C S sc) : ∀ {t : Ta} {es : List Expr}, cTas g z t sc es = true → PGs X es (tAs' X.K C z (asgAs S t))
  | .n _, _, h => by unfold cTas at h; cases h
  | .sub _ _, _, h => by unfold cTas at h; cases h
  | .nil, xs, h => by
    unfold cTas at h
    rw [List.isEmpty_iff.mp h]
    have e : (asgAs S .nil) = fun xs => match xs with
      | [] => ret ()
      | _ :: _ => fail := by
      funext xs
      cases xs <;> rfl
    rw [e]
    exact tas_nil
  | .cons t ts, [], h => by unfold cTas at h; cases h
  | .cons t ts, x :: xs, h => by
    unfold cTas at h
    simp only [Bool.and_eq_true] at h
    rw [asgAs_eq]
    exact tas_cons (cTa_ok G h.1.2) (cTas_ok G h.2) (by rw [ass_ok h.1.1]; rfl)
end
end
end PL
set_option maxHeartbeats 1000000
/-! PLc7: the statements hold. -/
namespace PL
open PySem PySem.Spec PyProof.Rows L2
section
variable {g : Sx} {X : Cx} {C : Gx} {S : Sem} {sc : Scope} {z : Nat}
theorem less_map {f : Expr → Option Str} : ∀ {ts : List Expr}, (ts.any fun t => (f t).isNone) = true → (ts.filterMap f).length ≠ ts.length
  | [], h => by cases h
  | t :: ts, h => by
    have hl : (ts.filterMap f).length ≤ ts.length := List.length_filterMap_le _ _
    rw [List.any_cons, Bool.or_eq_true] at h
    cases e : f t with
    | none =>
      rw [List.filterMap_cons, e, List.length_cons]
      simp only
      omega
    | some y =>
      rw [e] at h
      have := less_map (h.resolve_left (by simp))
      rw [List.filterMap_cons, e, List.length_cons]
      simp only [List.length_cons]
      omega
theorem far_swap {sc : Scope} {tg v : Expr} {env : PySem.Env} (he : env.scope = sc) (h : cellB sc tg = true) : swappedStores [tg] v env = pure none := by
  cases tg <;> try cases h
  rename_i ts k p
  unfold swappedStores
  cases v <;> try rfl
  rename_i vs k2 p2
  simp only
  split
  · rfl
  · split
    · rfl
    · refine if_pos ?_
      rw [Bool.or_eq_true]
      left
      rw [bne_iff_ne]
      refine less_map ?_
      obtain ⟨t, mt, ht⟩ := List.any_eq_true.mp h
      refine List.any_eq_true.mpr ⟨t, mt, ?_⟩
      cases t <;> try rfl
      rename_i x px
      have hx : ¬ env.scope.names.lookup x = some .local := by
        rw [he]
        simpa [farB] using ht
      have hk : (env.kindOf x == some NameKind.local) = false := by
        show (env.scope.names.lookup x == some NameKind.local) = false
        exact beq_false_of_ne hx
      simp only [hk, Bool.false_and, Bool.false_eq_true, if_false, Option.isNone_none]
theorem no_swap {tg v : Expr} {env : PySem.Env} (h : (isTupE tg && isTupE v) = false) : swappedStores [tg] v env = pure none := by
  cases tg <;> first | rfl | (cases v <;> first | rfl | cases h)
theorem sole_ok {tg v : Expr} {n : Nat} {env : PySem.Env} (h : notComp v = true) : swapsWithSole [tg] v n env = pure false := swap_ok h
theorem ass_one {tg : Expr} {env : PySem.Env} (h : notStar tg = true) : (assignEach [tg] env).map (·.2) = [assign tg env] := by
  rw [ass_ok h]; rfl
theorem cTa_star {t : Ta} {e : Expr} (h : cTa g z t sc e = true) : notStar e = true := by
  cases t <;> (unfold cTa at h; first | (split at h <;> first | rfl | cases h) | cases h)
theorem Gs.bk (G : Gs g X C S sc) : X.env.blockKind = .function := by
  unfold PySem.Env.blockKind
  rw [G.eq, G.kind]; rfl
theorem sw_eq (G : Gs g X C S sc) {a : Expr} {b : List Comprehension} {scope : Scope} {p px : Pos} {x : Str} {n : Nat} : swapsWith (.ListComp a b scope p) (some (.Name x px)) n X.env = pure (swB sc scope x px p) := by
  show (pure _ : PySem.Sem Bool) = _
  unfold swB
  rw [G.bk]
  have e : (X.env.kindOf x == some NameKind.local) = decide (sc.names.lookup x = some .local) := by
    show (X.env.scope.names.lookup x == some NameKind.local) = _
    rw [G.eq]
    by_cases q : List.lookup x sc.names = some .local
    · rw [q]; rfl
    · rw [decide_eq_false q]
      exact beq_false_of_ne q
  rw [e]; rfl
theorem Gs.slot (G : Gs g X C S sc) {i : Nat} {x : Str} (h1 : slotB g.N i x = true) (h2 : locB sc x = true) : X.N[i]? = some x ∧ L2.Loc X.env.scope x ∧ (X.fn x = true ∨ X.env.scope.names.lookup x = some .local) := by
  have hl := locB_is h2
  refine ⟨by rw [G.nm]; exact slotB_is h1, G.loc hl, ?_⟩
  rcases G.fnc _ hl with q | q
  · exact .inl q
  · exact .inr (G.lc q (by decide))
theorem ok_never {s : Stmt} {S : Sem} : SS X C z s (exec S .never) := ss_never
theorem ok_nevers {l : List Stmt} {S : Sem} : SSs X C z l (exec S .never) := ⟨fun pins s σ H D I ⟨F, ρ, fps, o, ρ', R, h, k⟩ => by cases h⟩
theorem ok_asg (G : Gs g X C S sc) {t : Ta} {e : Ex} {s : Stmt} (h : cS g z (.asg t e) sc s = true) : SS X C z s (exec S (.asg t e)) := by
  unfold cS at h
  split at h
  · split at h
    · rename_i i x px a b scope p
      simp only [Bool.and_eq_true] at h
      obtain ⟨⟨⟨⟨h0, h1⟩, h2⟩, h3⟩, h4⟩ := h
      obtain ⟨q1, q2, q3⟩ := G.slot h1 h2
      cases hw : swB sc scope x px p with
      | false => exact ss_set G.nd q1 q2 ((fine e).pe G.toGd h4) (by rw [sw_eq G, hw]) q3 (of_decide_eq_true h3)
      | true =>
        cases e <;> first | (cases h0; done) | skip
        rename_i elt t it c
        have h5 := h4
        unfold cE at h5
        split at h5
        · rename_i he
          cases he
          simp only [Bool.and_eq_true, Bool.not_eq_true'] at h5
          obtain ⟨⟨⟨⟨⟨⟨k1, k0⟩, k2⟩, k3⟩, k4⟩, k5⟩, k6⟩ := h5
          have hx : X.env.scope.names.lookup x = some .local := by
            unfold swB at hw
            simp only [Bool.and_eq_true, decide_eq_true_eq] at hw
            rw [G.eq]; exact hw.1.1
          refine ss_setLc G.calm G.nd q1 hx (by rw [sw_eq G, hw]) ((fine it).pi G.toGd k1) (pr_ok k2) (G.toGd.blkOk k3) (ownL_snd _ _) (fun s H Ca cl fp => ?_) (fun s H Ca cl fp => ?_) (fun s H Ca cl fp => ?_) (set_ok k0) (of_decide_eq_true h3)
          · exact cT_ok (G.toGd.blk s H Ca cl fp) k4
          · exact (fine c).cond (G.toGd.blk s H Ca cl fp) k5
          · exact (fine elt).pe (G.toGd.blk s H Ca cl fp) k6
        · cases h5
    · simp only [Bool.and_eq_true, Bool.not_eq_true'] at h
      obtain ⟨⟨⟨h1, h2⟩, h3⟩, h4⟩ := h
      exact ss_asg ((fine e).pe G.toGd h2) (cTa_ok G h1) (sole_ok h3) (by
        rcases Bool.or_eq_true_iff.mp h4 with h4 | h4
        · exact no_swap ((Bool.not_eq_true' _).mp h4)
        · exact far_swap G.eq h4) (ass_one (cTa_star h1))
  · cases h
theorem cO_nc {a : Ex} {v : Expr} (h : cO g a sc v = true) : notComp v = true := by
  unfold cO at h
  split at h
  all_goals first | (cases h; done) | (split at h <;> first | rfl | (cases h; done))
theorem ok_own (G : Gs g X C S sc) {i : Nat} {e : Ex} {s : Stmt} (h : cS g z (.own i e) sc s = true) : SS X C z s (exec S (.own i e)) := by
  unfold cS at h
  split at h
  · rename_i x px v pos
    simp only [Bool.and_eq_true] at h
    obtain ⟨⟨⟨h1, h2⟩, h3⟩, h4⟩ := h
    obtain ⟨q1, q2, q3⟩ := G.slot h1 h2
    split at h4
    · simp only [Bool.and_eq_true] at h4
      obtain ⟨hw, h5⟩ := h4
      unfold cE at h5
      split at h5
      · rename_i he
        cases he
        simp only [Bool.and_eq_true, Bool.not_eq_true'] at h5
        obtain ⟨⟨⟨⟨⟨⟨k1, k0⟩, k2⟩, k3⟩, k4⟩, k5⟩, k6⟩ := h5
        have hx : X.env.scope.names.lookup x = some .local := by
          have hw' := hw
          unfold swB at hw'
          simp only [Bool.and_eq_true, decide_eq_true_eq] at hw'
          rw [G.eq]; exact hw'.1.1
        refine ss_ownLc G.calm G.nd q1 hx (by rw [sw_eq G, hw]) ((fine _).pi G.toGd k1) (pr_ok k2) (G.toGd.blkOk k3) (ownL_snd _ _) (fun s H Ca cl fp => ?_) (fun s H Ca cl fp => ?_) (fun s H Ca cl fp => ?_) (set_ok k0) (of_decide_eq_true h3)
        · exact cT_ok (G.toGd.blk s H Ca cl fp) k4
        · exact (fine _).cond (G.toGd.blk s H Ca cl fp) k5
        · exact (fine _).pe (G.toGd.blk s H Ca cl fp) k6
      · cases h5
    · have nc := cO_nc h4
      exact ss_own G.nd q1 q2 (cO_ok G.toGd h4) (swap_ok nc) q3 (of_decide_eq_true h3)
  · cases h
theorem ok_append (G : Gs g X C S sc) {i : Nat} {e : Ex} {s : Stmt} (h : cS g z (.append i e) sc s = true) : SS X C z s (exec S (.append i e)) := by
  unfold cS at h
  split at h
  · simp only [Bool.and_eq_true] at h
    obtain ⟨⟨⟨⟨h1, h2⟩, h3⟩, h4⟩, h5⟩ := h
    obtain rfl := eq_of_beq h1
    obtain ⟨p, q, r, t⟩ := G.var h2
    exact ss_append p q r t ((fine e).pe G.toGd h5) rfl h3 (star_ok h4) (few_ok (by simp only [List.all_cons, List.all_nil, Bool.and_true]; exact h4) (show 1 < 30 by decide)) rfl
  · cases h
theorem ok_ite (G : Gs g X C S sc) {c : Ex} {a b : St} {s : Stmt} (ha : ∀ l, cSs g z a sc l = true → SSs X C z l (exec S a)) (hb : ∀ l, cSs g z b sc l = true → SSs X C z l (exec S b)) (h : cS g z (.ite c a b) sc s = true) : SS X C z s (exec S (.ite c a b)) := by
  unfold cS at h
  split at h
  · simp only [Bool.and_eq_true] at h
    obtain ⟨⟨⟨h1, h2⟩, h3⟩, h4⟩ := h
    exact ss_if ((fine c).pb G.toGd h1 h2) (ha _ h3) (hb _ h4)
  · cases h
theorem ok_for (G : Gs g X C S sc) {t : Tg} {it : Ex} {b : St} {s : Stmt} (hb : ∀ l, cSs g z b sc l = true → SSs X C z l (exec S b)) (h : cS g z (.for_ t it b) sc s = true) : SS X C z s (exec S (.for_ t it b)) := by
  unfold cS at h
  split at h
  · simp only [Bool.and_eq_true, Bool.not_eq_true'] at h
    obtain ⟨⟨⟨⟨⟨h1, h2⟩, h3⟩, h4⟩, h5⟩, h6⟩ := h
    exact ss_for G.pass G.calm ((fine it).pi G.toGd h1) (pr_ok h3) (cT_ok G.toGd h4) (hb _ h6) (set_ok h2) fun i hi => of_decide_eq_true (List.all_eq_true.mp h5 i hi)
  · cases h
theorem ok_while (G : Gs g X C S sc) {c : Ex} {b : St} {s : Stmt} (hb : ∀ l, cSs g z b sc l = true → SSs X C z l (exec S b)) (h : cS g z (.while_ c b) sc s = true) : SS X C z s (exec S (.while_ c b)) := by
  unfold cS at h
  split at h
  · simp only [Bool.and_eq_true] at h
    obtain ⟨⟨h1, h2⟩, h3⟩ := h
    exact ss_while G.pass ((fine c).pb G.toGd h1 h2) (hb _ h3)
  · cases h
theorem ok_rt (G : Gs g X C S sc) {e : Ex} {s : Stmt} (h : cS g z (.rt e) sc s = true) : SS X C z s (exec S (.rt e)) := by
  unfold cS at h
  split at h
  · exact ss_rt ((fine e).pe G.toGd h)
  · cases h
theorem ok_ex (G : Gs g X C S sc) {e : Ex} {s : Stmt} (h : cS g z (.ex e) sc s = true) : SS X C z s (exec S (.ex e)) := by
  unfold cS at h
  split at h
  · simp only [Bool.and_eq_true] at h
    exact ss_ex ((fine e).pe G.toGd h.1) (swap_ok h.2)
  · cases h
end
end PL
set_option maxHeartbeats 1000000
/-! PLc8: assignments in parallel; all statements. -/
namespace PL
open PySem PySem.Spec PyProof.Rows L2
section
variable {g : Sx} {X : Cx} {C : Gx} {S : Sem} {sc : Scope} {z : Nat}
theorem starF {x : Expr} (h : notStar x = true) : (match x with
    | .Starred .. => true
    | _ => false) = false := by
  cases x <;> first | rfl | cases h
theorem kind_loc (G : Gs g X C S sc) {x : Str} (h : sc.names.lookup x = some .local) : (X.env.kindOf x == some NameKind.local) = true := by
  show (X.env.scope.names.lookup x == some NameKind.local) = true
  rw [G.eq, h]; rfl
theorem anyStar : ∀ {vs : List Expr}, vs.all notStar = true → (vs.any fun
    | .Starred .. => true
    | _ => false) = false
  | [], _ => rfl
  | v :: vs, h => by
    simp only [List.all_cons, Bool.and_eq_true] at h
    rw [List.any_cons, anyStar h.2]
    have := h.1
    cases v <;> first | rfl | cases this
theorem swapped2 (G : Gs g X C S sc) {x y : Str} {px py pt pt2 : Pos} {k k2 : Nat} {a b : Expr} (h : parB sc [(x, px), (y, py)] [a, b] = true) :
    swappedStores [.Tuple [.Name x px, .Name y py] k pt] (.Tuple [a, b] k2 pt2) X.env = pure (some [x, y]) := by
  unfold parB at h
  simp only [List.all_cons, List.all_nil, Bool.and_true, List.map_cons, List.map_nil, Bool.and_eq_true, decide_eq_true_eq, Bool.not_eq_true', beq_iff_eq] at h
  obtain ⟨⟨⟨⟨⟨⟨h1, h2⟩, h3⟩, h4⟩, h5, h6⟩, h7⟩, h8⟩ := h
  have hne : x ≠ y := by
    intro e
    subst e
    simp at h3
  have e1 := kind_loc G h1
  have e2 := kind_loc G h2
  have l1 : (py.line == px.line) = true := by rw [h4.2]; exact beq_self_eq_true _
  unfold swappedStores
  have e3 : [x, y].eraseDups.length = 2 := by
    have hb : (y == x) = false := beq_false_of_ne (Ne.symm hne)
    simp [List.eraseDups_cons, hb, hne, Ne.symm hne]
  have bk : (X.env.blockKind != .function) = false := by rw [G.bk]; rfl
  simp only [List.length_cons, List.length_nil, Nat.zero_add, Nat.reduceAdd, beq_self_eq_true, Bool.true_or, Bool.not_true, bne_self_eq_false, Bool.or_self, Bool.false_or, bk, List.any_cons, List.any_nil]
  rw [if_neg (by decide)]
  refine (if_neg (fun hh => ?_)).trans ?_
  · have hh' : (([a, b] : List Expr).any fun
      | .Starred .. => true
      | _ => false) = true := hh
    rw [anyStar (by simp only [List.all_cons, List.all_nil, Bool.and_true, Bool.and_eq_true]; exact ⟨h5, h6⟩)] at hh'
    cases hh'
  simp only [List.filterMap_cons, List.filterMap_nil, List.head?_cons, Option.map_some, Option.getD_some, PySem.Expr.pos, e1, e2, l1, beq_self_eq_true, Bool.and_self, if_true, e3, List.length_cons, List.length_nil, Nat.zero_add, Nat.reduceAdd, bne_self_eq_false, Bool.or_self]
  rw [if_neg (by decide), if_neg (by simp only [List.all_cons, List.all_nil, Bool.and_true, h7]; decide), if_neg (by simp only [List.all_cons, List.all_nil, Bool.and_true, h8]; decide)]
theorem swapped3 (G : Gs g X C S sc) {x y q : Str} {px py pq pt pt2 : Pos} {k k2 : Nat} {a b c : Expr} (h : parB sc [(x, px), (y, py), (q, pq)] [a, b, c] = true) :
    swappedStores [.Tuple [.Name x px, .Name y py, .Name q pq] k pt] (.Tuple [a, b, c] k2 pt2) X.env = pure (some [x, y, q]) := by
  unfold parB at h
  simp only [List.all_cons, List.all_nil, Bool.and_true, List.map_cons, List.map_nil, Bool.and_eq_true, decide_eq_true_eq, Bool.not_eq_true', beq_iff_eq] at h
  obtain ⟨⟨⟨⟨⟨⟨h1, h2, h2'⟩, h3⟩, h4⟩, h5, h6, h6'⟩, h7⟩, h8⟩ := h
  have hd := List.nodup_cons.mp h3
  have hd2 := List.nodup_cons.mp hd.2
  have n1 : x ≠ y := fun e => hd.1 (by rw [e]; simp)
  have n2 : x ≠ q := fun e => hd.1 (by rw [e]; simp)
  have n3 : y ≠ q := fun e => hd2.1 (by rw [e]; simp)
  have e1 := kind_loc G h1
  have e2 := kind_loc G h2
  have e4 := kind_loc G h2'
  have l1 : (py.line == px.line) = true := by rw [h4.2.1]; exact beq_self_eq_true _
  have l2 : (pq.line == px.line) = true := by rw [h4.2.2]; exact beq_self_eq_true _
  unfold swappedStores
  have e3 : [x, y, q].eraseDups.length = 3 := by
    have b1 : (y == x) = false := beq_false_of_ne (Ne.symm n1)
    have b2 : (q == x) = false := beq_false_of_ne (Ne.symm n2)
    have b3 : (q == y) = false := beq_false_of_ne (Ne.symm n3)
    simp [List.eraseDups_cons, b1, b2, b3, n1, n2, n3, Ne.symm n1, Ne.symm n2, Ne.symm n3]
  have bk : (X.env.blockKind != .function) = false := by rw [G.bk]; rfl
  simp only [List.length_cons, List.length_nil, Nat.zero_add, Nat.reduceAdd, beq_self_eq_true, Bool.or_true, Bool.not_true, bne_self_eq_false, Bool.or_self, Bool.false_or, bk, List.any_cons, List.any_nil]
  rw [if_neg (by decide)]
  refine (if_neg (fun hh => ?_)).trans ?_
  · have hh' : (([a, b, c] : List Expr).any fun
      | .Starred .. => true
      | _ => false) = true := hh
    rw [anyStar (by simp only [List.all_cons, List.all_nil, Bool.and_true, Bool.and_eq_true]; exact ⟨h5, h6, h6'⟩)] at hh'
    cases hh'
  simp only [List.filterMap_cons, List.filterMap_nil, List.head?_cons, Option.map_some, Option.getD_some, PySem.Expr.pos, e1, e2, e4, l1, l2, beq_self_eq_true, Bool.and_self, if_true, e3, List.length_cons, List.length_nil, Nat.zero_add, Nat.reduceAdd, bne_self_eq_false, Bool.or_self]
  rw [if_neg (by decide), if_neg (by simp only [List.all_cons, List.all_nil, Bool.and_true, h7]; decide), if_neg (by simp only [List.all_cons, List.all_nil, Bool.and_true, h8]; decide)]
theorem cV_ok (G : Gd g X C S sc) {fr : Bool} {a : Ex} {v : Expr} (h : cV g fr a sc v = true) : SO X C v (if fr then evO S a else bnd (ev S a) fun x => ret (.v x)) := by
  unfold cV at h
  cases fr with
  | true => exact cO_ok G h
  | false => exact so_val ((fine a).pe G h)
theorem len2 {C : Sem} {i j : Nat × Bool} {a b : Ex} {ρ ρ' : PL.Env} {l : List Slot} (h : parM C [i, j] (.cons a (.cons b .nil)) ρ = some (l, ρ')) : l.length = 2 := by
  obtain ⟨s, ρ1, _, h2⟩ := bnd_some h
  obtain ⟨r, ρ2, h3, h4⟩ := bnd_some h2
  obtain ⟨s', ρ3, _, h5⟩ := bnd_some h3
  obtain ⟨r', ρ4, h6, h7⟩ := bnd_some h5
  cases h6; cases h7; cases h4; rfl
theorem len3 {C : Sem} {i j k : Nat × Bool} {a b c : Ex} {ρ ρ' : PL.Env} {l : List Slot} (h : parM C [i, j, k] (.cons a (.cons b (.cons c .nil))) ρ = some (l, ρ')) : l.length = 3 := by
  obtain ⟨s, ρ1, _, h2⟩ := bnd_some h
  obtain ⟨r, ρ2, h3, h4⟩ := bnd_some h2
  cases h4
  rw [List.length_cons, len2 h3]
theorem parB_len {N : List Str} {xs : List (Str × Pos)} {vs : List Expr} (h : parB sc xs vs = true) : (∀ p ∈ xs, sc.names.lookup p.1 = some .local) ∧ (xs.map (·.1)).Nodup ∧ vs.all notStar = true := by
  unfold parB at h
  simp only [Bool.and_eq_true, List.all_eq_true, decide_eq_true_eq] at h
  obtain ⟨⟨⟨⟨⟨h1, h2⟩, _⟩, h4⟩, _⟩, _⟩ := h
  exact ⟨h1, h2, List.all_eq_true.mpr h4⟩
theorem ne_slot {N : List Str} {i j : Nat} {x y : Str} (h1 : slotB N i x = true) (h2 : slotB N j y = true) (n : x ≠ y) : i ≠ j := by
  rintro rfl
  have a := slotB_is h1
  rw [slotB_is h2] at a
  exact n (Option.some.inj a).symm
theorem ok_par2 (G : Gs g X C S sc) {i j : Nat} {fi fj : Bool} {a b : Ex} {s : Stmt} (h : cS g z (.par [(i, fi), (j, fj)] (.cons a (.cons b .nil))) sc s = true) : SS X C z s (exec S (.par [(i, fi), (j, fj)] (.cons a (.cons b .nil)))) := by
  unfold cS at h
  split at h
  · simp only [Bool.and_eq_true] at h
    obtain ⟨⟨⟨⟨⟨⟨h1, h2⟩, h3⟩, h4⟩, h5⟩, h6⟩, h7⟩ := h
    obtain ⟨q1, q2, q3⟩ := parB_len (N := g.N) h5
    simp only [List.all_cons, List.all_nil, Bool.and_true, Bool.and_eq_true] at q3
    simp only [List.map_cons, List.map_nil, List.nodup_cons, List.mem_singleton] at q2
    refine ss_par2 G.calm G.nd (by rw [G.nm]; exact slotB_is h1) (by rw [G.nm]; exact slotB_is h2) (ne_slot h1 h2 q2.1) (by rw [G.eq]; exact q1 (_, _) (.head _)) (by rw [G.eq]; exact q1 (_, _) (.tail _ (.head _))) (sos_cons (cV_ok G.toGd h6) (sos_cons (cV_ok G.toGd h7) sos_nil (star_ok q3.2)) (star_ok q3.1)) (swapped2 G h5) rfl (of_decide_eq_true h3) (of_decide_eq_true h4) fun ρ l ρ' e => len2 e
  · cases h
theorem ok_par3 (G : Gs g X C S sc) {i j k : Nat} {fi fj fk : Bool} {a b c : Ex} {s : Stmt} (h : cS g z (.par [(i, fi), (j, fj), (k, fk)] (.cons a (.cons b (.cons c .nil)))) sc s = true) : SS X C z s (exec S (.par [(i, fi), (j, fj), (k, fk)] (.cons a (.cons b (.cons c .nil))))) := by
  unfold cS at h
  split at h
  · simp only [Bool.and_eq_true] at h
    obtain ⟨⟨⟨⟨⟨⟨⟨⟨⟨h1, h2⟩, h2'⟩, h3⟩, h4⟩, h4'⟩, h5⟩, h6⟩, h7⟩, h8⟩ := h
    obtain ⟨q1, q2, q3⟩ := parB_len (N := g.N) h5
    simp only [List.all_cons, List.all_nil, Bool.and_true, Bool.and_eq_true] at q3
    have hd := List.nodup_cons.mp q2
    have hd2 := List.nodup_cons.mp hd.2
    refine ss_par3 G.calm G.nd (by rw [G.nm]; exact slotB_is h1) (by rw [G.nm]; exact slotB_is h2) (by rw [G.nm]; exact slotB_is h2') (ne_slot h1 h2 fun e => hd.1 (by rw [e]; simp)) (ne_slot h1 h2' fun e => hd.1 (by rw [e]; simp)) (ne_slot h2 h2' fun e => hd2.1 (by rw [e]; simp))
      (by rw [G.eq]; exact q1 (_, _) (.head _)) (by rw [G.eq]; exact q1 (_, _) (.tail _ (.head _))) (by rw [G.eq]; exact q1 (_, _) (.tail _ (.tail _ (.head _)))) (sos_cons (cV_ok G.toGd h6) (sos_cons (cV_ok G.toGd h7) (sos_cons (cV_ok G.toGd h8) sos_nil (star_ok q3.2.2)) (star_ok q3.2.1)) (star_ok q3.1)) (swapped3 G h5) rfl (of_decide_eq_true h3) (of_decide_eq_true h4) (of_decide_eq_true h4') fun ρ l ρ' e => len3 e
  · cases h
theorem ok_par (G : Gs g X C S sc) {is : List (Nat × Bool)} {es : Ex} {s : Stmt} (h : cS g z (.par is es) sc s = true) : SS X C z s (exec S (.par is es)) := by
  have h0 := h
  unfold cS at h
  split at h <;> first | (cases h; done) | skip
  all_goals (rename_i e1; cases e1 <;> first | exact ok_par2 G h0 | exact ok_par3 G h0)
mutual
theorem ok_S (G : Gs g X C S sc) : ∀ (a : St) {s : Stmt}, cS g z a sc s = true → SS X C z s (exec S a)
  | .never, _, _ => ok_never
  | .asg t e, _, h => ok_asg G h
  | .own i e, _, h => ok_own G h
  | .append i e, _, h => ok_append G h
  | .ite c a b, _, h => ok_ite G (fun l h => ok_Ss G a h) (fun l h => ok_Ss G b h) h
  | .for_ t it b, _, h => ok_for G (fun l h => ok_Ss G b h) h
  | .while_ c b, _, h => ok_while G (fun l h => ok_Ss G b h) h
  | .rt e, _, h => ok_rt G h
  | .ex e, _, h => ok_ex G h
  | .par is es, s, h => ok_par G h
  | .skip, _, h => by unfold cS at h; cases h
  | .seq _ _, _, h => by unfold cS at h; cases h
  | .extend _ _, _, h => by unfold cS at h; cases h
  | .update _ _, _, h => by unfold cS at h; cases h
  | .ownLL _ _, _, h => by unfold cS at h; cases h
  | .app2 _ _ _, _, h => by unfold cS at h; cases h
theorem ok_Ss (G : Gs g X C S sc) : ∀ (a : St) {l : List Stmt}, cSs g z a sc l = true → SSs X C z l (exec S a)
  | .never, _, _ => ok_nevers
  | .skip, l, h => by
    unfold cSs at h
    rw [List.isEmpty_iff.mp h]
    exact ss_nil
  | .seq a b, l, h => by
    unfold cSs at h
    split at h
    · simp only [Bool.and_eq_true] at h
      exact ss_cons (ok_S G a h.1) (ok_Ss G b h.2)
    · cases h
  | .asg _ _, _, h => by unfold cSs at h; cases h
  | .own _ _, _, h => by unfold cSs at h; cases h
  | .par _ _, _, h => by unfold cSs at h; cases h
  | .append _ _, _, h => by unfold cSs at h; cases h
  | .extend _ _, _, h => by unfold cSs at h; cases h
  | .update _ _, _, h => by unfold cSs at h; cases h
  | .ownLL _ _, _, h => by unfold cSs at h; cases h
  | .app2 _ _ _, _, h => by unfold cSs at h; cases h
  | .ite _ _ _, _, h => by unfold cSs at h; cases h
  | .for_ _ _ _, _, h => by unfold cSs at h; cases h
  | .while_ _ _, _, h => by unfold cSs at h; cases h
  | .rt _, _, h => by unfold cSs at h; cases h
  | .ex _, _, h => by unfold cSs at h; cases h
end
end
end PL
set_option maxHeartbeats 1000000
/-! PLc9: the maker's body. -/
namespace PL
open PySem PySem.Spec PyProof.Rows L2
/-! ### defs that give a new list -/
def noRet : St → Bool
  | .seq a b => noRet a && noRet b
  | .ite _ a b => noRet a && noRet b
  | .for_ _ _ b => noRet b
  | .while_ _ b => noRet b
  | .rt _ => false
  | _ => true
theorem forLoop_nx {step : Val → M Out} (h : ∀ x ρ o ρ', step x ρ = some (o, ρ') → o = .nx) : ∀ {xs : List Val} {ρ ρ' : PL.Env} {o : Out}, forLoop step xs ρ = some (o, ρ') → o = .nx
  | [], ρ, ρ', o, e => by cases e; rfl
  | x :: r, ρ, ρ', o, e => by
    obtain ⟨o1, ρ1, e1, e2⟩ := bnd_some e
    obtain rfl := h _ _ _ _ e1
    exact forLoop_nx h e2
theorem whileLoop_nx {c : M Bool} {b : M Out} (h : ∀ ρ o ρ', b ρ = some (o, ρ') → o = .nx) : ∀ {n : Nat} {ρ ρ' : PL.Env} {o : Out}, whileLoop c b n ρ = some (o, ρ') → o = .nx
  | 0, ρ, ρ', o, e => by cases e
  | n + 1, ρ, ρ', o, e => by
    obtain ⟨r, ρ1, e1, e2⟩ := bnd_some e
    split at e2
    · obtain ⟨o1, ρ2, e3, e4⟩ := bnd_some e2
      obtain rfl := h _ _ _ e3
      exact whileLoop_nx h e4
    · cases e2; rfl
theorem noRet_nx {S : Sem} : ∀ {a : St}, noRet a = true → ∀ {ρ ρ' : PL.Env} {o : Out}, exec S a ρ = some (o, ρ') → o = .nx
  | .skip, _, ρ, ρ', o, e => by cases e; rfl
  | .seq a b, h, ρ, ρ', o, e => by
    have h' : (noRet a && noRet b) = true := h
    rw [Bool.and_eq_true] at h'
    obtain ⟨o1, ρ1, e1, e2⟩ := bnd_some e
    obtain rfl := noRet_nx h'.1 e1
    exact noRet_nx h'.2 e2
  | .asg _ _, _, ρ, ρ', o, e => by
    obtain ⟨_, _, _, e2⟩ := bnd_some e
    obtain ⟨_, _, _, e4⟩ := bnd_some e2
    cases e4; rfl
  | .own _ _, _, ρ, ρ', o, e => by
    obtain ⟨_, _, _, e2⟩ := bnd_some e
    cases e2; rfl
  | .par _ _, _, ρ, ρ', o, e => by
    obtain ⟨_, _, _, e2⟩ := bnd_some e
    cases e2; rfl
  | .append _ _, _, ρ, ρ', o, e => by
    obtain ⟨_, _, _, e2⟩ := bnd_some e
    obtain ⟨_, _, _, e4⟩ := bnd_some e2
    obtain ⟨_, _, _, e6⟩ := bnd_some e4
    split at e6
    · obtain ⟨_, _, _, e8⟩ := bnd_some e6
      cases e8; rfl
    · cases e6
  | .extend _ _, _, ρ, ρ', o, e => by
    obtain ⟨_, _, _, e2⟩ := bnd_some e
    obtain ⟨_, _, _, e4⟩ := bnd_some e2
    obtain ⟨_, _, _, e6⟩ := bnd_some e4
    split at e6
    · split at e6
      · obtain ⟨_, _, _, e8⟩ := bnd_some e6
        cases e8; rfl
      · cases e6
    · cases e6
  | .update _ _, _, ρ, ρ', o, e => by
    obtain ⟨_, _, _, e2⟩ := bnd_some e
    obtain ⟨_, _, _, e4⟩ := bnd_some e2
    split at e4
    · split at e4
      · cases e4; rfl
      · cases e4
    · cases e4
  | .ownLL _ _, _, ρ, ρ', o, e => by
    obtain ⟨_, _, _, e2⟩ := bnd_some e
    split at e2
    · obtain ⟨_, _, _, e4⟩ := bnd_some e2
      cases e4; rfl
    · cases e2
  | .app2 _ _ _, _, ρ, ρ', o, e => by
    obtain ⟨_, _, _, e2⟩ := bnd_some e
    obtain ⟨_, _, _, e4⟩ := bnd_some e2
    split at e4
    · split at e4
      · cases e4; rfl
      · cases e4
    · cases e4
  | .ite _ a b, h, ρ, ρ', o, e => by
    have h' : (noRet a && noRet b) = true := h
    rw [Bool.and_eq_true] at h'
    obtain ⟨r, ρ1, e1, e2⟩ := bnd_some e
    split at e2
    · exact noRet_nx h'.1 e2
    · exact noRet_nx h'.2 e2
  | .for_ _ _ b, h, ρ, ρ', o, e => by
    obtain ⟨xs, ρ1, e1, e2⟩ := bnd_some e
    refine forLoop_nx (fun x ρ o ρ' e3 => ?_) e2
    obtain ⟨_, _, _, e4⟩ := bnd_some e3
    exact noRet_nx (a := b) h e4
  | .while_ _ b, h, ρ, ρ', o, e => whileLoop_nx (fun ρ o ρ' e3 => noRet_nx (a := b) h e3) e
  | .rt _, h, ρ, ρ', o, e => by cases h
  | .ex _, _, ρ, ρ', o, e => by
    obtain ⟨_, _, _, e2⟩ := bnd_some e
    cases e2; rfl
  | .never, _, ρ, ρ', o, e => by cases e
/-- the front, then a list that is written down -/
def cNw (g : Sx) : St → Scope → List Stmt → Bool
  | .seq (.rt (.lst es)) .skip, sc, l => match l with
    | [.Return (some (.List xs _)) _] => cA g es sc xs
    | _ => false
  | .seq a b, sc, l => match l with
    | s :: r => noRet a && cS g 0 a sc s && cNw g b sc r
    | [] => false
  | _, _, _ => false
def tNw (K : PySem.W.Frag) (C : Gx) (m : M Out) : TS := fun D σ H => ∃ F ρ fps xs ρ', Rel K C F H ρ σ fps ∧ m ρ = some (.rt (.list xs), ρ') ∧
  ∀ p ws σ' F' H' fps', Post K C F H fps ρ' σ' F' H' fps' → H p = none → F' p = none → H' p = some (.lst ws) → RDs K C F' ws xs → D.rt (.ref p) H'
section
variable {g : Sx} {X : Cx} {C : Gx} {S : Sem} {sc : Scope}
theorem nw_last (G : Gs g X C S sc) {es : Ex} {l : List Stmt} (h : cNw g (.seq (.rt (.lst es)) .skip) sc l = true) : PSs X l (tNw X.K C (exec S (.seq (.rt (.lst es)) .skip))) := by
  unfold cNw at h
  split at h
  · refine pss_one (PS.imp (ps_ret (pe_lst ((fine es).pa G.toGd h))) fun D σ H ⟨F, ρ, fps, xs, ρ', R, ex, k⟩ => ?_)
    obtain ⟨o1, ρ1, e1, e2⟩ := bnd_some ex
    obtain ⟨y, ρ2, e3, e4⟩ := bnd_some e1
    cases e4
    cases e2
    obtain ⟨zs, ρ3, e5, e6⟩ := bnd_some e3
    split at e6
    · rename_i hl
      obtain ⟨e7, rfl⟩ := ret_some e6
      cases e7
      refine ⟨F, ρ, fps, xs, _, R, e5, fun vs F1 H1 fps1 P1 rv => ⟨by rw [rv.length]; exact hl, fun p hp => ?_⟩⟩
      exact k p vs σ F1 _ fps1 (P1.trans (Post.laidU P1.rel hp)) (P1.gone hp) (P1.rel.sub.none hp) upd_same rv
    · exact (fail_some e6).elim
  · cases h
theorem nw_cons (G : Gs g X C S sc) {a b : St} {s : Stmt} {r : List Stmt} (hs : noRet a = true) (ha : cS g 0 a sc s = true) (hb : PSs X r (tNw X.K C (exec S b))) : PSs X (s :: r) (tNw X.K C (exec S (.seq a b))) :=
  PSs.imp (pss_cons (ok_S (z := 0) G a ha) hb) fun D σ H ⟨F, ρ, fps, xs, ρ', R, ex, k⟩ => by
    obtain ⟨o1, ρ1, e1, e2⟩ := bnd_some ex
    obtain rfl := noRet_nx hs e1
    refine ⟨F, ρ, fps, .nx, ρ1, R, e1, fun σ1 F1 H1 fps1 P1 _ => ⟨F1, ρ1, fps1, xs, ρ', P1.rel, e2, fun p ws σ' F' H' fps' P2 hp fp hw rw' => k p ws σ' F' H' fps' (P1.trans P2) (P1.gone hp) fp hw rw'⟩⟩
theorem nw_ok (G : Gs g X C S sc) : ∀ (a : St) {l : List Stmt}, cNw g a sc l = true → PSs X l (tNw X.K C (exec S a))
  | .seq a b, l, h => by
    have ih := fun {l : List Stmt} (h : cNw g b sc l = true) => nw_ok G b h
    have h0 := h
    unfold cNw at h
    split at h
    · rename_i e1
      cases e1
      exact nw_last G h0
    · rename_i e1
      cases e1
      split at h
      · simp only [Bool.and_eq_true] at h
        exact nw_cons G h.1.1 h.1.2 (ih h.2)
      · cases h
    · cases h
  | .never, _, h => by unfold cNw at h; cases h
  | .skip, _, h => by unfold cNw at h; cases h
  | .asg _ _, _, h => by unfold cNw at h; cases h
  | .own _ _, _, h => by unfold cNw at h; cases h
  | .par _ _, _, h => by unfold cNw at h; cases h
  | .append _ _, _, h => by unfold cNw at h; cases h
  | .extend _ _, _, h => by unfold cNw at h; cases h
  | .update _ _, _, h => by unfold cNw at h; cases h
  | .ownLL _ _, _, h => by unfold cNw at h; cases h
  | .app2 _ _ _, _, h => by unfold cNw at h; cases h
  | .ite _ _ _, _, h => by unfold cNw at h; cases h
  | .for_ _ _ _, _, h => by unfold cNw at h; cases h
  | .while_ _ _, _, h => by unfold cNw at h; cases h
  | .rt _, _, h => by unfold cNw at h; cases h
  | .ex _, _, h => by unfold cNw at h; cases h
end
/-! ### the maker -/
/-- a part that does not return -/
def still : St → Bool
  | .for_ _ _ .never => true
  | .for_ _ _ (.seq .never .skip) => true
  | .ex _ => true
  | _ => false
theorem forLoop_fail {step : Val → M Out} (h : ∀ x ρ, step x ρ = none) : ∀ {xs : List Val} {ρ ρ' : PL.Env} {o : Out}, forLoop step xs ρ = some (o, ρ') → o = .nx
  | [], ρ, ρ', o, e => by cases e; rfl
  | x :: r, ρ, ρ', o, e => by
    obtain ⟨_, _, e1, _⟩ := forLoop_cons e
    rw [h] at e1; cases e1
theorem still_nx {S : Sem} {a : St} (h : still a = true) {ρ ρ' : PL.Env} {o : Out} (e : exec S a ρ = some (o, ρ')) : o = .nx := by
  unfold still at h
  split at h
  · obtain ⟨xs, ρ1, _, e2⟩ := bnd_some e
    refine forLoop_fail (fun x ρ => ?_) e2
    unfold bnd
    cases asgM _ x ρ <;> rfl
  · obtain ⟨xs, ρ1, _, e2⟩ := bnd_some e
    refine forLoop_fail (fun x ρ => ?_) e2
    unfold bnd
    cases asgM _ x ρ <;> rfl
  · obtain ⟨x, ρ1, _, e2⟩ := bnd_some e
    cases e2; rfl
  · cases h
/-- the front of `__init__`, then self.all_told = e -/
def cIn (g : Sx) : St → Scope → List Stmt → Bool
  | .seq (.rt e) .skip, sc, l => match l with
    | [.Assign [.Attribute (.Name x _) n _] v _] => varB g.N sc 0 x && n == ("all_told" : Str) && cE g e sc v && notComp v
    | _ => false
  | .seq a b, sc, l => match l with
    | s :: r => still a && cS g 1 a sc s && cIn g b sc r
    | [] => false
  | _, _, _ => false
def tIn (K : PySem.W.Frag) (C : Gx) (m : M Out) : TS := fun D σ H => ∃ F ρ fps r ρ' x dx, Rel K C F H ρ σ fps ∧ m ρ = some (r, ρ') ∧ σ[0]? = some (some (.ref x)) ∧ H x = some (.ins C.cls dx []) ∧ F x = none ∧ (∀ i, x ∉ fps i) ∧
  ∀ v σ' F' H' fps', Post K C F H fps ρ' σ' F' H' fps' → F' x = none → H' x = some (.ins C.cls dx []) → RD K C F' v (outV r) → D.nx σ' (upd H' x (.ins C.cls dx [("all_told", v)]))
section
variable {g : Sx} {X : Cx} {C : Gx} {S : Sem} {sc : Scope}
theorem Post.stands {K : PySem.W.Frag} {F H F' H' : Hp} {fps fps' : Fps} {ρ' : PL.Env} {σ' : L2.St} {x : Addr} {dx : Addr} {fs : List (Str × V)} (P : Post K C F H fps ρ' σ' F' H' fps') (h : H x = some (.ins C.cls dx fs)) (f : F x = none) (n : ∀ i, x ∉ fps i) : H' x = some (.ins C.cls dx fs) ∧ F' x = none ∧ ∀ i, x ∉ fps' i := by
  refine ⟨P.keep x _ h n (fun ps e => by cases e), ?_, fun i hi => ?_⟩
  · cases e : F' x with
    | none => rfl
    | some o =>
      rcases P.new x o e with q | q | ⟨i, q⟩
      · rw [f] at q; cases q
      · rw [h] at q; cases q
      · exact absurd q (n i)
  · rcases P.own i x hi with ⟨j, q⟩ | q
    · exact n j q
    · rw [h] at q; cases q
theorem in_last (G : Gs g X C S sc) (cl : Cls X.K C.cls) (na : NoAttr X.K C.cls "all_told") {e : Ex} {l : List Stmt} (h : cIn g (.seq (.rt e) .skip) sc l = true) : PSs X l (tIn X.K C (exec S (.seq (.rt e) .skip))) := by
  unfold cIn at h
  split at h
  · simp only [Bool.and_eq_true] at h
    obtain ⟨⟨⟨h1, h2⟩, h3⟩, h4⟩ := h
    obtain rfl := eq_of_beq h2
    obtain ⟨p, q, r, t⟩ := G.var h1
    refine pss_one (PS.imp (ps_fld (pe_var p q r t) ((fine e).pe G.toGd h3) (swap_ok h4)) fun D σ H ⟨F, ρ, fps, z, ρ', x, dx, R, ex, s0, hx, fx, nx, k⟩ => ?_)
    obtain ⟨o1, ρ1, e1, e2⟩ := bnd_some ex
    obtain ⟨y, ρ2, e3, e4⟩ := bnd_some e1
    cases e4
    cases e2
    refine ⟨F, ρ, fps, _, _, R, e3, fun v F1 H1 fps1 P1 rv => ?_⟩
    obtain ⟨a, b, c⟩ := P1.stands hx fx nx
    exact ⟨.ref x, s0, x, C.cls, dx, [], rfl, a, cl, na, by decide, k v σ F1 H1 fps1 P1 b a rv⟩
  · cases h
theorem in_cons (G : Gs g X C S sc) {a b : St} {s : Stmt} {r : List Stmt} (hs : still a = true) (ha : cS g 1 a sc s = true) (hb : PSs X r (tIn X.K C (exec S b))) : PSs X (s :: r) (tIn X.K C (exec S (.seq a b))) :=
  PSs.imp (pss_cons (ok_S (z := 1) G a ha) hb) fun D σ H ⟨F, ρ, fps, z, ρ', x, dx, R, ex, s0, hx, fx, nx, k⟩ => by
    obtain ⟨o1, ρ1, e1, e2⟩ := bnd_some ex
    obtain rfl := still_nx hs e1
    refine ⟨F, ρ, fps, .nx, ρ1, R, e1, fun σ1 F1 H1 fps1 P1 k1 => ?_⟩
    obtain ⟨h1, f1, n1⟩ := P1.stands hx fx nx
    exact ⟨F1, ρ1, fps1, z, ρ', x, dx, P1.rel, e2, (k1 0 (by decide)).trans s0, h1, f1, n1, fun v σ' F' H' fps' P2 f2 h2 rv => k v σ' F' H' fps' (P1.trans P2) f2 h2 rv⟩
theorem in_ok (G : Gs g X C S sc) (cl : Cls X.K C.cls) (na : NoAttr X.K C.cls "all_told") : ∀ (a : St) {l : List Stmt}, cIn g a sc l = true → PSs X l (tIn X.K C (exec S a))
  | .seq a b, l, h => by
    have ih := fun {l : List Stmt} (h : cIn g b sc l = true) => in_ok G cl na b h
    have h0 := h
    unfold cIn at h
    split at h
    · rename_i e1
      cases e1
      exact in_last G cl na h0
    · rename_i e1
      cases e1
      split at h
      · simp only [Bool.and_eq_true] at h
        exact in_cons G h.1.1 h.1.2 (ih h.2)
      · cases h
    · cases h
  | .never, _, h => by unfold cIn at h; cases h
  | .skip, _, h => by unfold cIn at h; cases h
  | .asg _ _, _, h => by unfold cIn at h; cases h
  | .own _ _, _, h => by unfold cIn at h; cases h
  | .par _ _, _, h => by unfold cIn at h; cases h
  | .append _ _, _, h => by unfold cIn at h; cases h
  | .extend _ _, _, h => by unfold cIn at h; cases h
  | .update _ _, _, h => by unfold cIn at h; cases h
  | .ownLL _ _, _, h => by unfold cIn at h; cases h
  | .app2 _ _ _, _, h => by unfold cIn at h; cases h
  | .ite _ _ _, _, h => by unfold cIn at h; cases h
  | .for_ _ _ _, _, h => by unfold cIn at h; cases h
  | .while_ _ _, _, h => by unfold cIn at h; cases h
  | .rt _, _, h => by unfold cIn at h; cases h
  | .ex _, _, h => by unfold cIn at h; cases h
end
end PL
set_option maxHeartbeats 1000000
/-! PLc10: the table's defs keep their promises. -/
namespace PL
open PySem PySem.Spec PyProof.Rows L2
/-- what is fixed of a module: its constants, whether gcd is at hand -/
def sxOf (T : Tbl) (d : FDef) (G : List (Str × Val)) (gcd : Bool) (lv : Nat) : Sx where
  N := d.N
  T := fun f => match T f with
    | some e => if e.hi then none else some (e.nm, e.ps, e.pool)
    | none => none
  G := G
  gcd := gcd
  kw := fun f => match T f with
    | some e => e.kw
    | none => []
  H := fun f => match T f with
    | some e => if e.hi then some (e.nm, e.ps.length) else none
    | none => none
  nw := fun f => match T f with
    | some e => e.nw
    | none => false
  act := d.hi
  dp := if d.lam then 2 else 0
  lv := lv
/-- the code object of a def that makes lambdas -/
structure TbOk (base : Heap) (mg : Str → Option Value) (C : Gx) (cdv : Value) (qual : Str) : Prop where
  ex : ∃ c P, cdv = .ref c ∧ LamX.TabB base mg c P ∧ (P, qual ++ ".<locals>." ++ "<lambda>") ∈ C.T ∧ ∀ p ∈ C.T, p.1 = P → p.2 = qual ++ ".<locals>." ++ "<lambda>"
/-- a def of the table, where it lies -/
structure DefOk (K : PySem.W.Frag) (mg : Str → Option Value) (base : Heap) (C : Gx) (T : Tbl) (G : List (Str × Val)) (gcd : Bool) (d : FDef) (fa : Addr) (fd : FuncData) : Prop where
  ex : ∃ oc od name qual params body scope dV kV doc pm an cdv ct osl, fd = PySem.W.fnOf name qual params body scope dV kV doc pm an cdv ct ∧ K.lookup fa = some ⟨oc, od, .func fd, osl⟩ ∧ PySem.W.codeIn K cdv qual = true ∧ FnScope d.N d.ps scope ∧
    (∀ lv, cSs (sxOf T d G gcd lv) (if d.pool then 1 else 0) d.body scope body = true) ∧ (d.lam = true → TbOk base mg C cdv qual) ∧ (d.nw = true → ∀ lv, cNw (sxOf T d G gcd lv) d.body scope body = true)
  at_ : mg d.nm = some (.ref fa)
  kp : PySem.W.keepIn K (.ref fa) = true
  bd : Binds K fd d.ps []
  kw : ∀ q ∈ d.kw, BindsK K fd d.ps q.1 q.2
  ns : d.slf = false
  hl : d.hi = true → d.lam = false
  hw : d.nw = true → d.pool = false ∧ d.lam = false
  db : (d.nm == ("__debug__" : Str)) = false
/-- the maker, where it lies -/
structure InitOk (K : PySem.W.Frag) (C : Gx) (T : Tbl) (G : List (Str × Val)) (gcd : Bool) (d : FDef) (fa : Addr) (fd : FuncData) : Prop where
  ex : ∃ oc od name qual params body scope dV kV doc pm an cdv ct osl, fd = PySem.W.fnOf name qual params body scope dV kV doc pm an cdv ct ∧ K.lookup fa = some ⟨oc, od, .func fd, osl⟩ ∧ PySem.W.codeIn K cdv qual = true ∧ FnScope d.N d.ps scope ∧ ∀ lv, cIn (sxOf T d G gcd lv) d.body scope body = true
  bd : Binds K fd d.ps []
  np : d.pool = false
  sl : d.slf = true
  nh : d.hi = false
  nl : d.lam = false
  cl : Cls K C.cls
  na : NoAttr K C.cls "all_told"
/-- the module that the defs lie in -/
structure Md (P : Program) (w : World) (K : PySem.W.Frag) (mg : Str → Option Value) (base : Heap) (C : Gx) (T : Tbl) (G : List (Str × Val)) (gcd : Bool) : Prop where
  on : C.P = P ∧ C.w = w
  st : StOk K C
  bn : ∀ x ∈ bltL, mg x = none
  hgcd : gcd = true → mg "gcd" = some (.builtin "math.gcd")
  cls : mg "Street" = some (.ref C.cls)
  con : ∀ s w, G.lookup s = some w → ∃ v u, mg s = some u ∧ RelV v u ∧ ∀ F, RD K C F v w
  prop : ∀ k, k < 4 → PropFn P w K mg base C k
  mkr : ∃ d fa fd, T 0 = some d ∧ InitOk K C T G gcd d fa fd ∧ Mk K C.cls fa
  df : ∀ (f : Nat) (d : FDef), f ≠ 0 → T f = some d → ∃ fa fd, DefOk K mg base C T G gcd d fa fd
  gf : ∀ k a, C.gf k = some a → ∃ d fd, k ≠ 0 ∧ T k = some d ∧ d.hi = false ∧ d.pool = false ∧ DefOk K mg base C T G gcd d a fd
section
variable {P : Program} {w : World} {K : PySem.W.Frag} {mg : Str → Option Value} {base : Heap} {C : Gx} {T : Tbl} {G : List (Str × Val)} {gcd : Bool}
theorem start_app {F H : Hp} {τ : L2.St} {tl : PL.Env} (ht : ∀ i, SlotAt K C F H τ[i]? (gs tl i) []) : ∀ {vs : List V} {args : List Val}, RDs K C F vs args → ∀ i, SlotAt K C F H (vs.map some ++ τ)[i]? (gs (args.map Slot.v ++ tl) i) []
  | [], [], _, i => ht i
  | v :: vs, x :: args, .cons r rs, i => by
    cases i with
    | zero => exact ⟨rfl, v, rfl, r⟩
    | succ i => exact start_app ht rs i
theorem gs_u : ∀ (n i : Nat), gs (List.replicate n Slot.u) i = .u
  | 0, _ => rfl
  | n + 1, 0 => rfl
  | n + 1, i + 1 => gs_u n i
theorem start_v {F H : Hp} {n : Nat} : ∀ {vs : List V} {args : List Val}, RDs K C F vs args → ∀ i, SlotAt K C F H (vs.map some ++ List.replicate n none)[i]? (gs (args.map Slot.v ++ List.replicate n Slot.u) i) []
  | [], [], _, i => by
    have : gs (List.replicate n Slot.u) i = .u := by
      induction n generalizing i with
      | zero => rfl
      | succ n ih =>
        cases i with
        | zero => rfl
        | succ i => exact ih i
    show SlotAt K C F H _ (gs (List.replicate n Slot.u) i) []
    rw [this]; rfl
  | v :: vs, x :: args, .cons r rs, i => by
    cases i with
    | zero => exact ⟨rfl, v, rfl, r⟩
    | succ i => exact start_v rs i
/-- the level of calls of depth n -/
def lvl (n : Nat) : Nat := 4 * n + 3
/-- what is known of the table's meaning S -/
structure Knows (P : Program) (w : World) (K : PySem.W.Frag) (mg : Str → Option Value) (base : Heap) (C : Gx) (T : Tbl) (G : List (Str × Val)) (gcd : Bool) (S : Sem) (lv : Nat) : Prop where
  ii : ∀ {d : FDef}, T 0 = some d → ∀ {fa : Addr} {fd : FuncData}, InitOk K C T G gcd d fa fd → FnOk P w K mg base CX0 lv fa fd d.ps (spI K C S)
  ih : ∀ {f : Nat} {d : FDef}, T f = some d → d.hi = false → ∀ {fa : Addr} {fd : FuncData}, DefOk K mg base C T G gcd d fa fd → FnOk P w K mg base CX0 lv fa fd d.ps (spC K C S f d.pool)
  io : ∀ {f : Nat} {d : FDef}, T f = some d → d.hi = false → d.nw = true → ∀ {fa : Addr} {fd : FuncData}, DefOk K mg base C T G gcd d fa fd → FnOk P w K mg base CX0 lv fa fd d.ps (spO K C S f)
theorem md_gs (M : Md P w K mg base C T G gcd) {S : Sem} {lv : Nat} (h3 : 2 ≤ lv) {d : FDef} {A : Around} {outer : List PySem.Env} {s : Shared} {H : Hp} {E : XK} {qual : Str} {scope : Scope} {fa : Addr} {cd : Value} (sc : FnScope d.N d.ps scope) (hr : Room (lv + 3) (A.deeper (envOfC qual scope s.heap.objs.size fa cd)))
    (k : Knows P w K mg base C T G gcd S lv) (hh : d.lam = true → ∀ {f : Nat} {e : FDef}, T f = some e → e.hi = true → ∀ {fa : Addr} {fd : FuncData}, DefOk K mg base C T G gcd e fa fd → HiOk P w K mg base C S lv f fa e.ps)
    (tb : d.lam = true → TbOk base mg C cd qual) (ac : d.hi = true → ∀ z, ActP (cxOf CX0 P w K mg base d.N qual scope fa cd A outer s H E) C z (S.act z)) :
    Gs (sxOf T d G gcd lv) (cxOf CX0 P w K mg base d.N qual scope fa cd A outer s H E) C S scope where
  nm := rfl
  scp := fun x k h => .inl h
  calm := rfl
  nd := sc.nd
  on := M.on
  u := by have := hr.un; show (A.deeper (envOfC qual scope s.heap.objs.size fa cd)).units + 70 < cLine; omega
  st := M.st
  lv3 := h3
  room := hr.mono (by show lv + 1 + (if d.lam then 2 else 0) ≤ lv + 3; split <;> omega)
  fnc := fun _ _ => .inl rfl
  bn := M.bn
  gcd := M.hgcd
  cls := M.cls
  kn := fun f x ps pl hf h => by
    have h' : (match T f with
      | some e => if e.hi then none else some (e.nm, e.ps, e.pool)
      | none => none) = some (x, ps, pl) := h
    cases e : T f with
    | none => rw [e] at h'; cases h'
    | some d =>
      rw [e] at h'
      simp only at h'
      split at h'
      · cases h'
      · rename_i nh
        cases h'
        obtain ⟨fa, fd, D⟩ := M.df f d hf e
        exact ⟨⟨fa, fd, k.ih e (by simpa using nh) D, D.at_, D.kp, D.bd⟩, D.db⟩
  kk := fun f x ps hf h q hq => by
    have h' : (match T f with
      | some e => if e.hi then none else some (e.nm, e.ps, e.pool)
      | none => none) = some (x, ps, false) := h
    have hq' : q ∈ (match T f with
      | some e => e.kw
      | none => []) := hq
    cases e : T f with
    | none => rw [e] at h'; cases h'
    | some d =>
      rw [e] at h' hq'
      simp only at h' hq'
      split at h'
      · cases h'
      · rename_i nh
        injection h' with h1
        injection h1 with h2 h3
        injection h3 with h4 h5
        obtain ⟨fa, fd, D⟩ := M.df f d hf e
        have F := k.ih e (by simpa using nh) D
        rw [h5] at F
        rw [← h2, ← h4]
        exact ⟨fa, fd, F, D.at_, D.kp, D.kw q hq'⟩
  nwk := fun f x ps hf h hn => by
    have h' : (match T f with
      | some e => if e.hi then none else some (e.nm, e.ps, e.pool)
      | none => none) = some (x, ps, false) := h
    have hn' : (match T f with
      | some e => e.nw
      | none => false) = true := hn
    cases e : T f with
    | none => rw [e] at h'; cases h'
    | some d =>
      rw [e] at h' hn'
      simp only at h' hn'
      split at h'
      · cases h'
      · rename_i nh
        injection h' with h1
        injection h1 with h2 h3
        injection h3 with h4 h5
        obtain ⟨fa, fd, D⟩ := M.df f d hf e
        rw [← h2, ← h4]
        exact ⟨fa, fd, k.io e (by simpa using nh) hn' D, D.at_, D.kp, D.bd, D.db⟩
  mkr := by
    obtain ⟨d, fa, fd, h, D, m⟩ := M.mkr
    exact ⟨fa, fd, d.ps, m, k.ii h D, D.bd⟩
  gf := fun j a h => by
    obtain ⟨d, fd, j0, e, nh, np, D⟩ := M.gf j a h
    have F := k.ih e nh D
    rw [np] at F
    exact ⟨fd, d.ps, F, D.kp, D.bd⟩
  hi := fun h2 f x n h => by
    have dl : d.lam = true := by
      cases e : d.lam with
      | true => rfl
      | false =>
        have h2 : 2 ≤ (if d.lam then 2 else 0) := h2
        rw [e] at h2
        exact absurd h2 (by decide)
    have h' : (match T f with
      | some e => if e.hi then some (e.nm, e.ps.length) else none
      | none => none) = some (x, n) := h
    cases e : T f with
    | none => rw [e] at h'; cases h'
    | some d' =>
      rw [e] at h'
      simp only at h'
      split at h'
      · rename_i nh
        cases h'
        by_cases hf : f = 0
        · obtain ⟨d0, _, _, h0, D, _⟩ := M.mkr
          rw [hf, h0] at e
          cases e
          rw [D.nh] at nh; cases nh
        · obtain ⟨fa, fd, D⟩ := M.df f d' hf e
          exact ⟨fa, d'.ps, hh dl e nh D, D.at_, D.kp, rfl, D.db⟩
      · cases h'
  lam := fun h2 => by
    have dl : d.lam = true := by
      cases e : d.lam with
      | true => rfl
      | false =>
        have h2 : 2 ≤ (if d.lam then 2 else 0) := h2
        rw [e] at h2
        exact absurd h2 (by decide)
    obtain ⟨c, P, e1, e2, e3, e4⟩ := (tb dl).ex
    exact ⟨c, P, e2, e1, e3, e4⟩
  act := ac
  con := M.con
  prop := M.prop
  eq := rfl
  kind := sc.kind
  pass := passes_of rfl
theorem rds_v {F : Hp} {vs : List V} {xs : List Val} (r : RDs K C F vs xs) : vs.length = xs.length := r.length
theorem tab_step (M : Md P w K mg base C T G gcd) (n : Nat) (kn : Knows P w K mg base C T G gcd (callN T n) (lvl n)) (hh : ∀ {f : Nat} {e : FDef}, T f = some e → e.hi = true → ∀ {fa : Addr} {fd : FuncData}, DefOk K mg base C T G gcd e fa fd → HiOk P w K mg base C (callN T n) (lvl n) f fa e.ps)
    {f : Nat} {d : FDef} (hT : T f = some d) (nh : d.hi = false) {fa : Addr} {fd : FuncData} (D : DefOk K mg base C T G gcd d fa fd) : FnOk P w K mg base CX0 (lvl n + 3 + 1) fa fd d.ps (spC K C (callN T (n + 1)) f d.pool) := by
    obtain ⟨oc, od, name, qual, params, body, scope, dV, kV, doc, pm, an, cdv, ct, osl, rfl, lk, hcd, S, hc, tbo, _⟩ := D.ex
    have gso : ∀ {A : Around} {outer : List PySem.Env} {s : Shared} {H : Hp} {E : XK}, Room (lvl n + 3) (A.deeper (envOfC qual scope s.heap.objs.size fa cdv)) → Gs (sxOf T d G gcd (lvl n)) (cxOf CX0 P w K mg base d.N qual scope fa cdv A outer s H E) C (callN T n) scope := fun hr =>
      md_gs M (by unfold lvl; omega) S hr kn (fun _ => hh) tbo (fun e => by rw [nh] at e; cases e)
    cases hp : d.pool with
    | false =>
      have key : ∀ {args : List Val} {r : Val × List Val}, callN T (n + 1) f none args = some r → args.length = d.ps.length ∧ ∃ o ρ, exec (callN T n) d.body (args.map .v ++ List.replicate (d.N.length - args.length) .u) = some (o, ρ) ∧ r = (outV o, []) := fun {args r} h => by
        have h1 : runF (callN T n) d none args = some r := by
          have : callN T (n + 1) f none args = (match T f with
            | some d => if d.hi then none else runF (callN T n) d none args
            | none => none) := rfl
          rw [this, hT] at h
          simp only [nh] at h
          exact h
        unfold runF at h1
        rw [hp, D.ns] at h1
        simp only at h1
        split at h1
        · rename_i hl
          split at h1
          · rename_i o ρ e
            exact ⟨hl, o, ρ, e, (Option.some.inj h1).symm⟩
          · cases h1
        · cases h1
      refine fn_of lk hcd S (fun vs H Q E h => ?_) (fun A outer s H vs Q E hr h => ?_)
      · obtain ⟨F, args, r, _, _, e, rv, _⟩ := h
        rw [rv.length]; exact (key e).1
      · obtain ⟨F, args, r, sub, tab, e, rv, k⟩ := h
        obtain ⟨hl, o, ρ', ex, rfl⟩ := key e
        rw [hp] at hc
        refine ⟨_, ok_Ss (gso hr) d.body (hc _), F, _, fun _ => [], o, ρ', ?_, ex, ?_⟩
        · refine ⟨sub, ?_, fun i => ?_, fun i j a h => (by cases h), tab⟩
          · simp only [List.length_append, List.length_map, List.length_replicate, L2.start, rv.length]
          · have := start_v (H := H) (n := d.N.length - args.length) rv i
            rw [← rv.length] at this ⊢
            exact this
        · cases o with
          | nx => exact fun σ' F' H' fps' Q _ => k _ _ _ (CPost.of Q (fun i a h => (by cases h)) (fun a h => (by cases h))) .non
          | rt x => exact fun v σ' F' H' fps' Q _ rd => k _ _ _ (CPost.of Q (fun i a h => (by cases h)) (fun a h => (by cases h))) rd
    | true =>
      have key : ∀ {args l : List Val} {r : Val × List Val}, callN T (n + 1) f (some l) args = some r → args.length + 1 = d.ps.length ∧ ∃ o ρ l', exec (callN T n) d.body (.L l :: (args.map .v ++ List.replicate (d.N.length - args.length - 1) .u)) = some (o, ρ) ∧ gs ρ 0 = .L l' ∧ r = (outV o, l') := fun {args l r} h => by
        have h1 : runF (callN T n) d (some l) args = some r := by
          have : callN T (n + 1) f (some l) args = (match T f with
            | some d => if d.hi then none else runF (callN T n) d (some l) args
            | none => none) := rfl
          rw [this, hT] at h
          simp only [nh] at h
          exact h
        unfold runF at h1
        rw [hp] at h1
        simp only at h1
        split at h1
        · rename_i hl
          split at h1
          · rename_i o ρ e
            split at h1
            · rename_i l' e'
              exact ⟨hl, o, ρ, l', e, e', (Option.some.inj h1).symm⟩
            · cases h1
          · cases h1
        · cases h1
      refine fn_of lk hcd S (fun vs H Q E h => ?_) (fun A outer s H vs Q E hr h => ?_)
      · obtain ⟨F, args, r, l, p, ws, vs', _, _, e, rfl, _, _, _, rv, _⟩ := h
        rw [List.length_cons, rv.length]; exact (key e).1
      · obtain ⟨F, args, r, l, p, ws, vs', sub, tab, e, rfl, fp, hpw, rws, rv, k⟩ := h
        obtain ⟨hl, o, ρ', l', ex, el, rfl⟩ := key e
        rw [hp] at hc
        have own : ∀ i a, a ∈ (if i = 0 then [p] else [] : List Addr) → a ∈ [p] := fun i a h => by
          by_cases hi : i = 0
          · rw [if_pos hi] at h; exact h
          · rw [if_neg hi] at h; cases h
        have fin : ∀ {σ' : L2.St} {F' H' : Hp} {fps' : Fps}, Post K C F H (fun i => if i = 0 then [p] else []) ρ' σ' F' H' fps' → Keep 1 (L2.start d.N (.ref p :: vs')) σ' → CPost K C F H F' H' [p] ∧ ∃ ws', F' p = none ∧ H' p = some (.lst ws') ∧ RDs K C F' ws' l' := fun {σ' F' H' fps'} Q kp => by
          have s0 := Q.rel.at_ 0
          rw [el] at s0
          obtain ⟨q, ws', ef, eo, f', h', rr⟩ := s0
          have k0 : σ'[0]? = some (some (.ref p)) := (kp 0 (by decide)).trans rfl
          rw [k0] at eo
          cases eo
          exact ⟨CPost.of Q own (fun a h => by rw [List.mem_singleton.mp h]; exact f'), ws', f', h', rr⟩
        refine ⟨_, ok_Ss (gso hr) d.body (hc _), F, _, fun i => if i = 0 then [p] else [], o, ρ', ?_, ex, ?_⟩
        · refine ⟨sub, ?_, fun i => ?_, fun i j a hi hj => ?_, tab⟩
          · simp only [List.length_append, List.length_map, List.length_replicate, L2.start, rv.length, List.length_cons]
            omega
          · cases i with
            | zero => exact ⟨p, ws, rfl, rfl, fp, hpw, rws⟩
            | succ i =>
              have := start_v (H := H) (n := d.N.length - args.length - 1) rv i
              have e1 : d.N.length - (V.ref p :: vs').length = d.N.length - args.length - 1 := by rw [List.length_cons, rv.length]; omega
              show SlotAt K C F H ((V.ref p :: vs').map some ++ List.replicate (d.N.length - (V.ref p :: vs').length) none)[i + 1]? _ _
              rw [e1]
              exact this
          · have z : ∀ i, a ∈ (if i = 0 then [p] else [] : List Addr) → i = 0 := fun i h => by
              by_cases hz : i = 0
              · exact hz
              · rw [if_neg hz] at h; cases h
            rw [z i hi, z j hj]
        · cases o with
          | nx =>
            exact fun σ' F' H' fps' Q kp => by
              obtain ⟨cp, ws', f', h', rr⟩ := fin Q kp
              exact k _ _ _ ws' cp .non f' h' rr
          | rt x =>
            exact fun v σ' F' H' fps' Q kp rd => by
              obtain ⟨cp, ws', f', h', rr⟩ := fin Q kp
              exact k _ _ _ ws' cp rd f' h' rr
theorem init_step (M : Md P w K mg base C T G gcd) (n : Nat) (kn : Knows P w K mg base C T G gcd (callN T n) (lvl n)) {d : FDef} (hT : T 0 = some d) {fa : Addr} {fd : FuncData} (D : InitOk K C T G gcd d fa fd) : FnOk P w K mg base CX0 (lvl n + 3 + 1) fa fd d.ps (spI K C (callN T (n + 1))) := by
  obtain ⟨oc, od, name, qual, params, body, scope, dV, kV, doc, pm, an, cdv, ct, osl, rfl, lk, hcd, S, hc⟩ := D.ex
  have key : ∀ {args : List Val} {r : Val × List Val}, callN T (n + 1) 0 none args = some r → args.length + 1 = d.ps.length ∧ ∃ o ρ, exec (callN T n) d.body (.u :: (args.map .v ++ List.replicate (d.N.length - 1 - args.length) .u)) = some (o, ρ) ∧ r = (outV o, []) := fun {args r} h => by
    have h1 : runF (callN T n) d none args = some r := by
      have : callN T (n + 1) 0 none args = (match T 0 with
        | some d => if d.hi then none else runF (callN T n) d none args
        | none => none) := rfl
      rw [this, hT] at h
      simp only [D.nh] at h
      exact h
    unfold runF at h1
    rw [D.np, D.sl] at h1
    simp only at h1
    split at h1
    · rename_i hl
      split at h1
      · rename_i o ρ e
        exact ⟨hl, o, ρ, e, (Option.some.inj h1).symm⟩
      · cases h1
    · cases h1
  refine fn_of lk hcd S (fun vs H Q E h => ?_) (fun A outer s H vs Q E hr h => ?_)
  · obtain ⟨F, args, r, x, dx, vs', _, _, e, rfl, _, _, rv, _⟩ := h
    rw [List.length_cons, rv.length]; exact (key e).1
  · obtain ⟨F, args, r, x, dx, vs', sub, tab, e, rfl, fx, hx, rv, k⟩ := h
    obtain ⟨hl, o, ρ', ex, rfl⟩ := key e
    refine ⟨_, in_ok (md_gs (d := d) M (by unfold lvl; omega) S hr kn (fun e => by rw [D.nl] at e; cases e) (fun e => by rw [D.nl] at e; cases e) (fun e => by rw [D.nh] at e; cases e)) D.cl D.na d.body (hc _), F, _, fun _ => [], o, ρ', x, dx, ?_, ex, rfl, hx, fx, (fun i h => by cases h), ?_⟩
    · refine ⟨sub, ?_, fun i => ?_, fun i j a h => (by cases h), tab⟩
      · simp only [List.length_append, List.length_map, List.length_replicate, L2.start, rv.length, List.length_cons]
        omega
      · cases i with
        | zero => exact rfl
        | succ i =>
          have := start_v (H := H) (n := d.N.length - 1 - args.length) rv i
          have e1 : d.N.length - (V.ref x :: vs').length = d.N.length - 1 - args.length := by rw [List.length_cons, rv.length]; omega
          show SlotAt K C F H ((V.ref x :: vs').map some ++ List.replicate (d.N.length - (V.ref x :: vs').length) none)[i + 1]? _ _
          rw [e1]
          exact this
    · exact fun v σ' F' H' fps' Q f' h' rd => k v F' H' (CPost.of Q (fun i a h => (by cases h)) (fun a h => (by cases h))) f' h' rd
/-- a def that gives a new list -/
theorem nw_step (M : Md P w K mg base C T G gcd) (n : Nat) (kn : Knows P w K mg base C T G gcd (callN T n) (lvl n)) {f : Nat} {d : FDef} (hT : T f = some d) (nh : d.hi = false) (hn : d.nw = true) {fa : Addr} {fd : FuncData} (D : DefOk K mg base C T G gcd d fa fd) : FnOk P w K mg base CX0 (lvl n + 3 + 1) fa fd d.ps (spO K C (callN T (n + 1)) f) := by
  obtain ⟨oc, od, name, qual, params, body, scope, dV, kV, doc, pm, an, cdv, ct, osl, rfl, lk, hcd, S, _, _, hc⟩ := D.ex
  obtain ⟨np, nl⟩ := D.hw hn
  have key : ∀ {args : List Val} {r : Val × List Val}, (callN T (n + 1)).call f none args = some r → args.length = d.ps.length ∧ ∃ o ρ, exec (callN T n) d.body (args.map .v ++ List.replicate (d.N.length - args.length) .u) = some (o, ρ) ∧ r = (outV o, []) := fun {args r} h => by
    have h1 : runF (callN T n) d none args = some r := by
      have : callN T (n + 1) f none args = (match T f with
        | some d => if d.hi then none else runF (callN T n) d none args
        | none => none) := rfl
      rw [this, hT] at h
      simp only [nh] at h
      exact h
    unfold runF at h1
    rw [np, D.ns] at h1
    simp only at h1
    split at h1
    · rename_i hl
      split at h1
      · rename_i o ρ e
        exact ⟨hl, o, ρ, e, (Option.some.inj h1).symm⟩
      · cases h1
    · cases h1
  refine fn_of lk hcd S (fun vs H Q E h => ?_) (fun A outer s H vs Q E hr h => ?_)
  · obtain ⟨F, args, xs, q, _, _, e, rv, _⟩ := h
    rw [rv.length]; exact (key e).1
  · obtain ⟨F, args, xs, q, sub, tab, e, rv, k⟩ := h
    obtain ⟨hl, o, ρ', ex, er⟩ := key e
    have eo : o = .rt (.list xs) := by
      cases o with
      | nx => cases er
      | rt x => cases er; rfl
    subst eo
    refine ⟨_, nw_ok (md_gs (d := d) M (by unfold lvl; omega) S hr kn (fun e => by rw [nl] at e; cases e) (fun e => by rw [nl] at e; cases e) (fun e => by rw [nh] at e; cases e)) d.body (hc hn _), F, _, fun _ => [], xs, ρ', ?_, ex, ?_⟩
    · refine ⟨sub, ?_, fun i => ?_, fun i j a h => (by cases h), tab⟩
      · simp only [List.length_append, List.length_map, List.length_replicate, L2.start, rv.length]
      · have := start_v (H := H) (n := d.N.length - args.length) rv i
        rw [← rv.length] at this ⊢
        exact this
    · exact fun p ws σ' F' H' fps' Q hp fp hw rw' => k p ws F' H' (CPost.of Q (fun i a h => (by cases h)) (fun a h => (by cases h))) hp fp hw rw'
/-- a def that is handed a function -/
theorem hi_step (M : Md P w K mg base C T G gcd) (n : Nat) (kn : Knows P w K mg base C T G gcd (callN T n) (lvl n)) {f : Nat} {d : FDef} (hT : T f = some d) (nh : d.hi = true) {fa : Addr} {fd : FuncData} (D : DefOk K mg base C T G gcd d fa fd) : HiOk P w K mg base C (callN T (n + 1)) (lvl n + 3 + 1) f fa d.ps := by
  obtain ⟨oc, od, name, qual, params, body, scope, dV, kV, doc, pm, an, cdv, ct, osl, rfl, lk, hcd, S, hc, _, _⟩ := D.ex
  refine ⟨fun A outer s H us vs z xs L r F Q hr e0 hul vl sub tab rv hz hG e act k => ?_⟩
  have e1 : runH (callN T n) d xs z L = some r := by
    have : (callN T (n + 1)).hi f xs z L = (match T f with
      | some d => if d.hi then runH (callN T n) d xs z L else none
      | none => none) := rfl
    rw [this, hT] at e
    simp only [nh] at e
    exact e
  unfold runH at e1
  split at e1
  case isFalse => cases e1
  rename_i hl
  split at e1
  case h_2 => cases e1
  rename_i o ρ' ex
  cases e1
  have hvl : (vs ++ [V.ref z.a]).length = d.ps.length := by rw [List.length_append, rv.length]; exact hl
  have np : (if d.pool then 1 else 0) = (if d.pool then 1 else 0) := rfl
  refine LamX.run_ofS (N := d.N) (ps := d.ps) (us := us) (vs := vs ++ [.ref z.a]) lk hcd S hr e0 (by have := D.bd s us (e0.mod.kin.keeps fun b o e => (e0.bs b o e).1) (by rw [List.append_nil]; exact hul); rw [List.append_nil] at this; exact this) vl hvl fun hr' => ?_
  have G' : Gs (sxOf T d G gcd (lvl n)) (cxOf CX0 P w K mg base d.N qual scope fa cdv A outer s H E0) C (withAct (callN T n) z L) scope :=
    md_gs M (by unfold lvl; omega) S hr' ⟨fun {d} h {fa fd} D => kn.ii h D, fun {f d} h h' {fa fd} D => kn.ih h h' D, fun {f d} h h' h'' {fa fd} D => kn.io h h' h'' D⟩ (fun e => by rw [D.hl nh] at e; cases e) (fun e => by rw [D.hl nh] at e; cases e) fun _ y => by
      by_cases hy : y = z
      · subst hy
        have : (withAct (callN T n) y L).act y = L := by funext xs; exact if_pos rfl
        rw [this]
        exact act _ _ _ _
      · have : (withAct (callN T n) z L).act y = fun _ => none := by funext xs; exact if_neg hy
        rw [this]
        exact ActP.none
  have R : Rel K C F H (xs.map .v ++ .f z :: List.replicate (d.N.length - xs.length - 1) .u) (L2.start d.N (vs ++ [.ref z.a])) fun _ => [] := by
    have len1 : (vs ++ [V.ref z.a]).length = xs.length + 1 := by rw [List.length_append, rv.length]; rfl
    have es : L2.start d.N (vs ++ [.ref z.a]) = vs.map some ++ (some (.ref z.a) :: List.replicate (d.N.length - xs.length - 1) none) := by
      show (vs ++ [V.ref z.a]).map some ++ List.replicate (d.N.length - (vs ++ [V.ref z.a]).length) none = _
      rw [len1, List.map_append, List.append_assoc, Nat.sub_sub]
      rfl
    refine ⟨sub, ?_, fun i => ?_, fun i j a h => (by cases h), tab⟩
    · rw [es]
      simp only [List.length_append, List.length_map, List.length_cons, List.length_replicate, rv.length]
    · rw [es]
      refine start_app (fun i => ?_) rv i
      cases i with
      | zero => exact ⟨rfl, rfl, hz, hG⟩
      | succ i =>
        show SlotAt K C F H _ (gs (List.replicate _ Slot.u) i) []
        rw [gs_u]; rfl
  refine ⟨_, ok_Ss G' d.body (hc _), F, _, fun _ => [], o, ρ', R, ex, ?_⟩
  cases o with
  | nx => exact fun σ' F' H' fps' Q _ => k _ _ _ (CPost.of Q (fun i a h => (by cases h)) (fun a h => (by cases h))) .non
  | rt x => exact fun v σ' F' H' fps' Q _ rd => k _ _ _ (CPost.of Q (fun i a h => (by cases h)) (fun a h => (by cases h))) rd
theorem table_all (M : Md P w K mg base C T G gcd) : ∀ n : Nat, Knows P w K mg base C T G gcd (callN T n) (lvl n) ∧
    ∀ {f : Nat} {d : FDef}, T f = some d → d.hi = true → ∀ {fa : Addr} {fd : FuncData}, DefOk K mg base C T G gcd d fa fd → HiOk P w K mg base C (callN T n) (lvl n) f fa d.ps
  | 0 => by
    refine ⟨⟨fun {d} _ {fa fd} _ => ?_, fun {f d} _ _ {fa fd} _ => ?_, fun {f d} _ _ _ {fa fd} _ => ?_⟩, fun {f d} _ _ {fa fd} _ => ⟨fun A outer s H us vs z xs L r F Q hr e0 hul vl sub tab rv hz hG e => by cases e⟩⟩
    · have no : ∀ vs H Q E, ¬ spI K C (callN T 0) vs H Q E := fun vs H Q E h => by
        obtain ⟨F, args, r, x, dx, vs', _, _, e, _⟩ := h; cases e
      exact ⟨fun vs H Q E h => (no _ _ _ _ h).elim, fun A outer s H args us vs Q E _ _ _ _ h => (no _ _ _ _ h).elim⟩
    · have no : ∀ vs H Q E, ¬ spC K C (callN T 0) f d.pool vs H Q E := fun vs H Q E h => by
        cases hp : d.pool with
        | false => rw [hp] at h; obtain ⟨F, args, r, _, _, e, _⟩ := h; cases e
        | true => rw [hp] at h; obtain ⟨F, args, r, l, p, ws, vs', _, _, e, _⟩ := h; cases e
      exact ⟨fun vs H Q E h => (no _ _ _ _ h).elim, fun A outer s H args us vs Q E _ _ _ _ h => (no _ _ _ _ h).elim⟩
    · have no : ∀ vs H Q E, ¬ spO K C (callN T 0) f vs H Q E := fun vs H Q E h => by
        obtain ⟨F, args, xs, q, _, _, e, _⟩ := h; cases e
      exact ⟨fun vs H Q E h => (no _ _ _ _ h).elim, fun A outer s H args us vs Q E _ _ _ _ h => (no _ _ _ _ h).elim⟩
  | n + 1 => by
    obtain ⟨kn, hh⟩ := table_all M n
    exact ⟨⟨fun {d} hT {fa fd} D => init_step M n kn hT D, fun {f d} hT nh {fa fd} D => tab_step M n kn hh hT nh D, fun {f d} hT nh hn {fa fd} D => nw_step M n kn hT nh hn D⟩, fun {f d} hT nh {fa fd} D => hi_step M n kn hT nh D⟩
end
end PL
set_option maxHeartbeats 1000000
/-! PLh: a law's module, from what the head tells. -/
namespace PL
open PySem PySem.Spec PyProof.Rows L2
/-! ### binding -/
theorem zip_filt : ∀ {ps : List Str} {us : List Value}, ps.Nodup → us.length = ps.length → (ps.filterMap fun n => ((ps.zip us).lookup n).map (n, ·)) = ps.zip us := by
  intro ps us nd hl
  have key : ∀ (l : List (Str × Value)) {ps : List Str} {us : List Value}, ps.Nodup → us.length = ps.length → (∀ p ∈ l, p.1 ∉ ps) → (ps.filterMap fun n => ((l ++ ps.zip us).lookup n).map (n, ·)) = ps.zip us := by
    intro l ps us nd hl hn
    induction ps generalizing l us with
    | nil => rfl
    | cons p ps ih =>
      cases us with
      | nil => simp at hl
      | cons u us =>
        have nd' := List.nodup_cons.mp nd
        have h0 : (l ++ (p :: ps).zip (u :: us)).lookup p = some u := by
          induction l with
          | nil => simp
          | cons q l ihl =>
            have hq : p ≠ q.1 := fun e => hn q List.mem_cons_self (e ▸ List.mem_cons_self)
            rw [List.cons_append, List.lookup_cons]
            have : (p == q.1) = false := by simpa using hq
            rw [this]
            exact ihl fun r hr => hn r (List.mem_cons_of_mem _ hr)
        rw [List.filterMap_cons, h0]
        simp only [Option.map_some]
        rw [List.zip_cons_cons]
        have := ih (l ++ [(p, u)]) nd'.2 (by simpa using hl) (fun q hq => by
          rcases List.mem_append.mp hq with h | h
          · exact fun hm => hn q h (List.mem_cons_of_mem _ hm)
          · rw [List.mem_singleton.mp h]; exact nd'.1)
        rw [List.append_assoc] at this
        exact congrArg ((p, u) :: ·) this
  exact key [] nd hl (by simp)
theorem zip_some {ps : List Str} {us : List Value} (hl : us.length = ps.length) : ∀ n ∈ ps, ((ps.zip us).lookup n).isNone = false := by
  induction ps generalizing us with
  | nil => intro n h; cases h
  | cons p ps ih =>
    cases us with
    | nil => simp at hl
    | cons u us =>
      intro n h
      rw [List.zip_cons_cons, List.lookup_cons]
      cases e : n == p with
      | true => rfl
      | false =>
        rcases List.mem_cons.mp h with rfl | h
        · simp at e
        · exact ih (by simpa using hl) n h
theorem bind_plain {fd : FuncData} {args : List Arg} (hp : fd.params = ⟨[], args, none, [], [], none, []⟩) (hd : fd.defaults = .none) (nd : (args.map (·.arg)).Nodup) {us : List Value} (hl : us.length = (args.map (·.arg)).length) :
    bindArgs fd ⟨us, []⟩ = pure ((args.map (·.arg)).zip us) := by
  have h1 : ((args.map (·.arg)).filter fun n => (((args.map (·.arg)).zip us).lookup n).isNone) = [] := by
    rw [List.filter_eq_nil_iff]
    intro n hn
    rw [zip_some hl n hn]; decide
  have h2 := zip_filt nd hl
  have h3 : seqItems? Value.none = pure none := rfl
  unfold bindArgs
  rw [hp, hd, h3]
  simp only [List.map_nil, List.nil_append, List.append_nil, pure_bind, List.forIn_nil, Option.getD_none]
  generalize args.map (·.arg) = ps at *
  have h5 : (ps.take (ps.length - (List.drop ((#[] : Array Value).toList.length - ps.length) (#[] : Array Value).toList).length)) = ps := by simp
  simp only [h5, h1, h2, hl]
  simp
  rw [h2]

def argsB (ps : List Str) : Arguments → Bool
  | ⟨[], as, none, [], [], none, []⟩ => decide (as.map (·.arg) = ps) && decide ps.Nodup
  | _ => false
theorem argsB_ok {ps : List Str} {params : Arguments} (h : argsB ps params = true) : ∃ as, params = ⟨[], as, none, [], [], none, []⟩ ∧ as.map (·.arg) = ps ∧ ps.Nodup := by
  unfold argsB at h
  split at h
  · rw [Bool.and_eq_true, decide_eq_true_eq, decide_eq_true_eq] at h
    exact ⟨_, rfl, h.1, h.2⟩
  · cases h
theorem binds_args {K : PySem.W.Frag} {fd : FuncData} {ps : List Str} (h : argsB ps fd.params = true) (hd : fd.defaults = .none) : Binds K fd ps [] := by
  obtain ⟨as, e, rfl, nd⟩ := argsB_ok h
  exact Binds.all fun us hl => bind_plain e hd nd hl
/-- how a def is called by keywords alone -/
def KwOk (params : Arguments) (ps : List Str) (q : List Str × List Nat) : Prop := ∀ (name qual : Str) (body : List Stmt) (scope : Scope) (kV doc pm : Value) (an : Option Addr) (cdv ct : Value) (ws : List Value), ws.length = q.1.length →
  bindArgs (PySem.W.fnOf name qual params body scope .none kV doc pm an cdv ct) ⟨[], q.1.zip ws⟩ = pure (ps.zip (q.2.filterMap fun i => ws[i]?))
/-! ### the defs -/
structure Ent where
  f : Nat
  d : FDef
  st : Stmt
def Ent.dd (e : Ent) : He.DefD := ⟨(e.d.nm, none), e.d.nm, e.d.nm, defArgs e.st, defBody e.st, defScope e.st, [], []⟩
def entB (T : Tbl) (G : List (Str × Val)) (gcd : Bool) (e : Ent) (lv : Nat) : Bool := C8.scC e.d.N e.d.ps (defScope e.st) && (cSs (sxOf T e.d G gcd lv) (if e.d.pool then 1 else 0) e.d.body (defScope e.st) (defBody e.st) && (argsB e.d.ps (defArgs e.st) && (!e.d.slf && ((!e.d.hi || !e.d.lam) && (!(e.d.nm == ("__debug__" : Str)) && (!e.d.nw || (!e.d.pool && (!e.d.lam && cNw (sxOf T e.d G gcd lv) e.d.body (defScope e.st) (defBody e.st)))))))))
structure EntOk (T : Tbl) (G : List (Str × Val)) (gcd : Bool) (e : Ent) : Prop where
  ok : ∀ lv, entB T G gcd e lv = true
  kw : ∀ q ∈ e.d.kw, KwOk (defArgs e.st) e.d.ps q
def initD (d : FDef) (st : Stmt) : He.DefD := ⟨("Street", some "__init__"), "__init__", "Street.__init__", defArgs st, defBody st, defScope st, [], []⟩
def initB (T : Tbl) (G : List (Str × Val)) (gcd : Bool) (d : FDef) (st : Stmt) (lv : Nat) : Bool := C8.scC d.N d.ps (defScope st) && (cIn (sxOf T d G gcd lv) d.body (defScope st) (defBody st) && (argsB d.ps (defArgs st) && (!d.pool && (d.slf && (!d.hi && !d.lam)))))
def AllP {α : Type} (P : α → Prop) : List α → Prop
  | [] => True
  | x :: r => P x ∧ AllP P r
theorem AllP.all {α : Type} {P : α → Prop} : ∀ {l : List α}, AllP P l → ∀ x ∈ l, P x
  | [], _, x, h => by cases h
  | y :: r, h, x, hx => by
    rcases List.mem_cons.mp hx with rfl | hx
    · exact h.1
    · exact AllP.all h.2 x hx
def tblOf (init : FDef) (es : List Ent) : Tbl
  | 0 => some init
  | n + 1 => match es.find? fun e => e.f == n + 1 with
    | some e => some e.d
    | none => none
theorem tbl_at {init : FDef} {es : List Ent} {f : Nat} {d : FDef} (h : tblOf init es f = some d) (hf : f ≠ 0) : ∃ e ∈ es, e.d = d := by
  cases f with
  | zero => exact absurd rfl hf
  | succ n =>
    have h' : (match es.find? fun e => e.f == n + 1 with
      | some e => some e.d
      | none => none) = some d := h
    cases q : es.find? fun e => e.f == n + 1 with
    | none => rw [q] at h'; cases h'
    | some e =>
      rw [q] at h'
      cases h'
      exact ⟨e, List.mem_of_find?_eq_some q, rfl⟩
/-! ### what is asked of the written part -/
def stB (K : PySem.W.Frag) (C : Addr) : Bool :=
  He.eqO (PySem.W.findIn K (.ref C) "__class__") (some (some (.builtin "object.__class__"))) && (He.eqO (PySem.W.specialIn K (.builtin "object.__class__") "__get__") (some (some (.builtin "getset_descriptor.__get__"))) && (decide (PySem.W.takesIn K (.builtin "object.__class__") = some true) && (decide (PySem.W.mroIn K C (.type "object") = some true) &&
  (["NoneType", "bool", "int", "str", "list", "tuple", "dict"].all (fun T => PySem.W.kitOne K (.type T) (.ref C) == some false) && ["int", "bool", "str", "tuple", "list"].all (fun T => PySem.W.kitOne K (.ref C) (.type T) == some false)))))
theorem stB_ok {K : PySem.W.Frag} {C : Gx} (h : stB K C.cls = true) (c : Cls K C.cls) : StOk K C := by
  unfold stB at h
  simp only [Bool.and_eq_true] at h
  obtain ⟨h1, h2, h3, h4, h5, h6⟩ := h
  exact ⟨c, He.eqO_ok h1, He.eqO_ok h2, of_decide_eq_true h3, of_decide_eq_true h4, h5, h6⟩
def getterB (k : Nat) : List Stmt → Bool
  | [.Return (some (.Subscript (.Attribute (.Name x _) y _) (.Constant (.int j) _ _) _)) _] => x == ("self" : Str) && (y == ("all_told" : Str) && (decide (j = (k : Int)) && decide (k < 3)))
  | [.Return (some (.Attribute (.Name x _) y _)) _] => x == ("self" : Str) && (y == ("all_told" : Str) && decide (k = 3))
  | _ => false
def fdB (K : PySem.W.Frag) (k : Nat) : FuncData → Bool
  | ⟨_, qual, params, .stmts body, scope, gl, [], .none, _, _, _, _, cdv, _, bl⟩ => decide (gl = mainGlobals) && (decide (bl = builtinsNs) && (PySem.W.codeIn K cdv qual && (C8.scC ["self"] ["self"] scope && (argsB ["self"] params && getterB k body))))
  | _ => false
def propB (K : PySem.W.Frag) (C : Addr) (k : Nat) : Bool := match PySem.W.findIn K (.ref C) (propN k) with
  | some (some (.ref p)) => He.eqO (PySem.W.specialIn K (.ref p) "__get__") (some (some (.builtin "property.__get__"))) && (decide (PySem.W.takesIn K (.ref p) = some true) && (match PySem.W.recIn K p "property" with
    | some (.ref g :: _) => (match K.lookup g with
      | some ⟨_, _, .func fd, _⟩ => fdB K k fd
      | _ => false)
    | _ => false))
  | _ => false
theorem propB_ok {P : Program} {w : World} {K : PySem.W.Frag} {mg : Str → Option Value} {base : Heap} {C : Gx} {k : Nat} (h : propB K C.cls k = true) (c : Cls K C.cls) (n : NoAttr K C.cls "all_told") : PropFn P w K mg base C k := by
  unfold propB at h
  split at h
  case h_2 => cases h
  rename_i p hp
  simp only [Bool.and_eq_true] at h
  obtain ⟨h1, h2, h3⟩ := h
  split at h3
  case h_2 => cases h3
  rename_i g rest hr
  split at h3
  case h_2 => cases h3
  rename_i oc od fd osl lk
  unfold fdB at h3
  split at h3
  case h_2 => cases h3
  rename_i name qual params body scope gl kV doc pm an cdv ct bl
  simp only [Bool.and_eq_true] at h3
  obtain ⟨e1, e2, e3, e4, e5, e6⟩ := h3
  obtain rfl := of_decide_eq_true e1
  obtain rfl := of_decide_eq_true e2
  refine ⟨p, g, PySem.W.fnOf name qual params body scope .none kV doc pm an cdv ct, ["self"], ⟨hp, He.eqO_ok h1, of_decide_eq_true h2, rest, hr⟩, ?_, binds_args e5 rfl⟩
  unfold getterB at e6
  split at e6
  · simp only [Bool.and_eq_true, decide_eq_true_eq] at e6
    obtain ⟨f1, f2, f3, f4⟩ := e6
    obtain rfl := eq_of_beq f1
    obtain rfl := eq_of_beq f2
    subst f3
    exact fn_prop f4 lk e3 (C8.fnScope_by e4) rfl c n
  · simp only [Bool.and_eq_true, decide_eq_true_eq] at e6
    obtain ⟨f1, f2, f3⟩ := e6
    obtain rfl := eq_of_beq f1
    obtain rfl := eq_of_beq f2
    subst f3
    exact fn_prop3 lk e3 (C8.fnScope_by e4) rfl c n
  · cases e6
def scalV : Val → Option V
  | .none => some .non
  | .bool b => some (.bl b)
  | .int i => some (.int i)
  | .str x => some (.str x)
  | _ => none
def scalVs : List Val → Option (List V)
  | [] => some []
  | x :: r => match scalV x with
    | some v => (match scalVs r with
      | some vs => some (v :: vs)
      | none => none)
    | none => none
theorem scalVs_RDs {K : PySem.W.Frag} {C : Gx} {F : Hp} : ∀ {ds : List Val} {vs : List V}, scalVs ds = some vs → RDs K C F vs ds
  | [], vs, h => by cases h; exact .nil
  | x :: r, vs, h => by
    unfold scalVs at h
    split at h
    · rename_i v hv
      split at h
      · rename_i ws hw
        cases h
        refine .cons ?_ (scalVs_RDs hw)
        unfold scalV at hv
        split at hv <;> cases hv
        · exact .non
        · exact .bl _
        · exact .int _
        · exact .str _
      · cases h
    · cases h
def seqB (K : PySem.W.Frag) (x : Str) (ds : List Val) : Bool := match PySem.W.nsIn K mainGlobals x with
  | some (some (.ref a)) => (match K.lookup a with
    | some ⟨.type c, none, .seq its _, _⟩ => decide (c = "tuple") && (decide (its.size ≤ sizeLine) && (match scalVs ds with
      | some vs => He.relAll vs its.toList
      | none => false))
    | _ => false)
  | _ => false
theorem seqB_ok {K : PySem.W.Frag} {C : Gx} {h : Heap} {mg : Str → Option Value} (X : K.In h) (G : h.Ns mainGlobals mg) {x : Str} {ds : List Val} (c : seqB K x ds = true) : ∃ a vs, mg x = some (.ref a) ∧ KTup K a vs ∧ ∀ F, RDs K C F vs ds := by
  unfold seqB at c
  split at c
  case h_2 => cases c
  rename_i a ha
  split at c
  case h_2 => cases c
  rename_i cl its n sl lk
  simp only [Bool.and_eq_true, decide_eq_true_eq] at c
  obtain ⟨rfl, c2, c3⟩ := c
  split at c3
  case h_2 => cases c3
  rename_i vs hvs
  exact ⟨a, vs, PySem.W.mg_of X G ha, ⟨_, its, n, lk, rfl, rfl, rfl, c2, He.relAll_ok c3⟩, fun F => scalVs_RDs hvs⟩
def conB1 (K : PySem.W.Frag) (T : Tbl) (p : Str × Val) : Bool := match p.2 with
  | .int i => (match PySem.W.nsIn K mainGlobals p.1 with
    | some (some (.int j _)) => decide (j = i)
    | _ => false)
  | .str z => (match PySem.W.nsIn K mainGlobals p.1 with
    | some (some (.str y _)) => decide (y = z)
    | _ => false)
  | .tuple ds => seqB K p.1 ds && kc ds
  | .dict [(.bool true, .tuple ds)] => seqB K p.1 ds
  | .dict [(.bool false, .int k)] => decide (k = (k.toNat : Int)) && (He.eqO (PySem.W.nsIn K mainGlobals p.1) (some (some (.ref (He.ga K p.1)))) && (match T k.toNat with
    | some d => d.nm == p.1 && (!d.hi && (!d.pool && !(k.toNat == 0)))
    | none => false))
  | _ => false
/-- the table's defs that may be values -/
def gfOf (K : PySem.W.Frag) (T : Tbl) (k : Nat) : Option Addr := match T k with
  | some d => if d.hi || (d.pool || k == 0) then none else some (He.ga K d.nm)
  | none => none
theorem conB1_ok {K : PySem.W.Frag} {C : Gx} {T : Tbl} {h : Heap} {mg : Str → Option Value} (X : K.In h) (G : h.Ns mainGlobals mg) (hg : C.gf = gfOf K T) {p : Str × Val} (c : conB1 K T p = true) : ∃ v u, mg p.1 = some u ∧ RelV v u ∧ ∀ F, RD K C F v p.2 := by
  obtain ⟨x, v⟩ := p
  unfold conB1 at c
  simp only at c
  split at c
  · split at c
    · rename_i j t hj
      obtain rfl := of_decide_eq_true c
      exact ⟨.int j, .int j t, PySem.W.mg_of X G hj, ⟨t, rfl⟩, fun F => .int _⟩
    · cases c
  · split at c
    · rename_i j t hj
      obtain rfl := of_decide_eq_true c
      exact ⟨.str j, .str j t, PySem.W.mg_of X G hj, ⟨t, rfl⟩, fun F => .str _⟩
    · cases c
  · rw [Bool.and_eq_true] at c
    obtain ⟨a, vs, e1, e2, e3⟩ := seqB_ok (C := C) X G c.1
    exact ⟨.ref a, .ref a, e1, rfl, fun F => .tupK e2 c.2 (e3 F)⟩
  · obtain ⟨a, vs, e1, e2, e3⟩ := seqB_ok (C := C) X G c
    exact ⟨.ref a, .ref a, e1, rfl, fun F => .ct e2 (e3 F)⟩
  · rename_i k
    simp only [Bool.and_eq_true, decide_eq_true_eq] at c
    obtain ⟨c1, c2, c3⟩ := c
    split at c3
    · rename_i d hd
      simp only [Bool.and_eq_true, Bool.not_eq_true'] at c3
      obtain ⟨d1, d2, d3, d4⟩ := c3
      obtain rfl := eq_of_beq d1
      refine ⟨.ref (He.ga K d.nm), .ref (He.ga K d.nm), PySem.W.mg_of X G (He.eqO_ok c2), rfl, fun F => ?_⟩
      have e : C.gf k.toNat = some (He.ga K d.nm) := by
        rw [hg]
        unfold gfOf
        rw [hd]
        simp only [d2, d3, d4, Bool.or_false, Bool.false_eq_true, if_false]
      have := RD.gf (K := K) (C := C) (F := F) e
      unfold gfV at this
      rw [← c1] at this
      exact this
    · cases c3
  · cases c
/-- the tables of the defs that make lambdas -/
def tabsOf (K : PySem.W.Frag) (tf : List He.Defn) : List (Addr × Str) := tf.map fun p => ((He.cT K p).2, p.1 ++ ".<locals>." ++ "<lambda>")
/-- what the law's end looks at -/
def exB (T : Tbl) (G : List (Str × Val)) (tf : List He.Defn) (K : PySem.W.Frag) : Bool := stB K (He.ga K "Street") && (propB K (He.ga K "Street") 0 && (propB K (He.ga K "Street") 1 && (propB K (He.ga K "Street") 2 && (propB K (He.ga K "Street") 3 &&
  (G.all (conB1 K T) && (decide (tf.map fun p => (He.cT K p).2).Nodup && He.eqO (PySem.W.nsIn K mainGlobals "gcd") (some (some (.builtin "math.gcd")))))))))
/-- the facts that each law asks for -/
def faB : List He.Fa := [.cls "Street", .mkr "Street", .noat "Street" "all_told", .glo "Street", .free "len", .free "int", .free "abs", .free "min", .free "max", .free "sum", .free "all", .free "any", .free "sorted", .free "tuple", .free "list", .free "dict", .free "divmod", .free "isinstance", .free "bool", .free "str", .free "range", .free "enumerate", .free "zip"]
def faOf (es : List Ent) : List He.Fa := faB ++ es.map fun e => .glo e.d.nm
def fnOfE (es : List Ent) (init : FDef) (ist : Stmt) : List He.DefD := initD init ist :: es.map Ent.dd
def gxOf (P : Program) (w : World) (K : PySem.W.Frag) (T : Tbl) (tf : List He.Defn) : Gx := ⟨He.ga K "Street", P, w, tabsOf K tf, gfOf K T⟩
section
variable {P : Program} {w : World} {K : PySem.W.Frag} {mg : Str → Option Value} {base h : Heap} {init : FDef} {ist : Stmt} {es : List Ent} {G : List (Str × Val)} {tf : List He.Defn}
theorem dfl_nil {dV : Value} (h : DflV K dV []) : dV = .none := by
  rcases h with h | h
  · exact h.2
  · exact absurd rfl h.1
theorem tab_inj {f : He.Defn → Addr} : ∀ {l : List He.Defn}, (l.map f).Nodup → ∀ x ∈ l, ∀ y ∈ l, f x = f y → x = y
  | [], _, x, hx, _, _, _ => by cases hx
  | a :: l, nd, x, hx, y, hy, e => by
    rw [List.map_cons] at nd
    have nd' := List.nodup_cons.mp nd
    rcases List.mem_cons.mp hx with q | hx1
    · rcases List.mem_cons.mp hy with q' | hy1
      · rw [q, q']
      · subst q
        have z : f x ∈ l.map f := e ▸ List.mem_map_of_mem hy1
        exact absurd z nd'.1
    · rcases List.mem_cons.mp hy with q | hy1
      · subst q
        have z : f y ∈ l.map f := e ▸ List.mem_map_of_mem hx1
        exact absurd z nd'.1
      · exact tab_inj nd'.2 x hx1 y hy1 e
theorem def_of (X : K.In h) (Gn : h.Ns mainGlobals mg) (c : He.SaysX (faOf es) (fnOfE es init ist) [] tf (exB (tblOf init es) G tf) w h K) {e : Ent} (he : e ∈ es) (ok : EntOk (tblOf init es) G true e) (hl : e.d.lam = true → (e.d.nm, none) ∈ tf)
    (TB : ∀ p ∈ tf.map (He.cT K), LamX.TabB base mg p.1 p.2) : ∃ fd, DefOk K mg base (gxOf P w K (tblOf init es) tf) (tblOf init es) G true e.d (He.ga K e.d.nm) fd := by
  obtain ⟨fd, F⟩ := He.SaysD.defs c.t.d (d := e.dd) (List.mem_cons_of_mem _ (List.mem_map_of_mem he))
  have gl := He.SaysD.facts c.t.d (f := .glo e.d.nm) (List.mem_append_right _ (List.mem_map.mpr ⟨e, he, rfl⟩))
  have k0 := ok.ok 0
  unfold entB at k0
  simp only [Bool.and_eq_true, Bool.not_eq_true'] at k0
  obtain ⟨k1, _, k3, k4, k5, k6, k7⟩ := k0
  obtain ⟨oc, od, dV, kV, doc, pm, an, cdv, ct, osl, hfd, lk, hcd, hdf, _⟩ := F.ex
  have hdV : dV = .none := dfl_nil hdf
  subst hdV
  refine ⟨fd, ⟨⟨oc, od, e.d.nm, e.d.nm, defArgs e.st, defBody e.st, defScope e.st, .none, kV, doc, pm, an, cdv, ct, osl, hfd, lk, hcd, C8.fnScope_by k1, fun lv => ?_, fun hlam => ?_, fun hnw lv => ?_⟩, He.glo_ok X Gn gl, F.kp, ?_, fun q hq s ws hk hw => ?_, k4, fun hh => ?_, fun hnw => ?_, k6⟩⟩
  · have kl := ok.ok lv
    unfold entB at kl
    simp only [Bool.and_eq_true] at kl
    exact kl.2.1
  · have hm := hl hlam
    obtain ⟨cc, hcc⟩ := He.codeIn_ref hcd
    have lk' : K.lookup (He.fAd K (e.d.nm, none)) = some ⟨oc, od, .func fd, osl⟩ := lk
    have hfc : fd.code = .ref cc := by rw [hfd]; exact hcc
    have ec : He.codeOf K (e.d.nm, none) = cc := He.codeOf_eq lk' hfc
    refine ⟨cc, (He.cT K (e.d.nm, none)).2, hcc, ?_, ?_, fun p hp e1 => ?_⟩
    · have := TB (He.cT K (e.d.nm, none)) (List.mem_map_of_mem hm)
      have e2 : (He.cT K (e.d.nm, none)).1 = cc := ec
      rw [e2] at this
      exact this
    · exact List.mem_map.mpr ⟨_, hm, rfl⟩
    · obtain ⟨r, hr, rfl⟩ := List.mem_map.mp hp
      have cm := c.more
      unfold exB at cm
      simp only [Bool.and_eq_true, decide_eq_true_eq] at cm
      have e3 := tab_inj cm.2.2.2.2.2.2.1 r hr _ hm e1
      subst e3
      rfl
  · have kl := ok.ok lv
    unfold entB at kl
    simp only [Bool.and_eq_true, Bool.or_eq_true, Bool.not_eq_true'] at kl
    rcases kl.2.2.2.2.2.2 with z | z
    · rw [hnw] at z; cases z
    · exact z.2.2
  · refine binds_args (by rw [hfd]; exact k3) (by rw [hfd])
  · refine BindsTo.of_eq ?_
    rw [hfd]
    exact ok.kw q hq _ _ _ _ _ _ _ _ _ _ ws hw
  · rw [hh] at k5; simpa using k5
  · rw [hnw] at k7
    simp only [Bool.or_eq_true, Bool.and_eq_true, Bool.not_eq_true'] at k7
    rcases k7 with z | z
    · cases z
    · exact ⟨z.1, z.2.1⟩
theorem md_of (X : K.In h) (Gn : h.Ns mainGlobals mg) (c : He.SaysX (faOf es) (fnOfE es init ist) [] tf (exB (tblOf init es) G tf) w h K) (ok : ∀ e ∈ es, EntOk (tblOf init es) G true e) (hl : ∀ e ∈ es, e.d.lam = true → (e.d.nm, none) ∈ tf) (iok : ∀ lv, initB (tblOf init es) G true init ist lv = true)
    (TB : ∀ p ∈ tf.map (He.cT K), LamX.TabB base mg p.1 p.2) : Md P w K mg base (gxOf P w K (tblOf init es) tf) (tblOf init es) G true := by
  have fb : ∀ {f : He.Fa}, f ∈ faB → f.ok K = true := fun {f} hf => He.SaysD.facts c.t.d (List.mem_append_left _ hf)
  have cm := c.more
  unfold exB at cm
  simp only [Bool.and_eq_true, decide_eq_true_eq] at cm
  obtain ⟨m1, m2, m3, m4, m5, m6, m7, m8⟩ := cm
  have cl : Cls K (He.ga K "Street") := He.cls_ok (fb (by simp [faB]))
  have na : NoAttr K (He.ga K "Street") "all_told" := He.noat_ok (fb (by simp [faB]))
  refine ⟨⟨rfl, rfl⟩, stB_ok m1 cl, fun x hx => He.free_ok X Gn (fb (f := .free x) ?_), fun _ => PySem.W.mg_of X Gn (He.eqO_ok m8), He.glo_ok X Gn (fb (f := .glo "Street") (by simp [faB])), fun s v hs => ?_, fun k hk => ?_, ?_, fun f d hf hd => ?_, fun k a hk => ?_⟩
  · simp only [bltL, List.mem_cons, List.not_mem_nil, or_false] at hx
    simp only [faB, List.mem_cons, He.Fa.free.injEq, reduceCtorEq, false_or, or_false, List.not_mem_nil]
    rcases hx with h | h | h | h | h | h | h | h | h | h | h | h | h | h | h | h | h | h | h <;> subst h <;> simp
  · exact conB1_ok (p := (s, v)) X Gn rfl (List.all_eq_true.mp m6 (s, v) (PySem.mem_of_lookup hs))
  · match k, hk with
    | 0, _ => exact propB_ok m2 cl na
    | 1, _ => exact propB_ok m3 cl na
    | 2, _ => exact propB_ok m4 cl na
    | 3, _ => exact propB_ok m5 cl na
  · obtain ⟨fd, F⟩ := He.SaysD.defs c.t.d (d := initD init ist) List.mem_cons_self
    have i0 := iok 0
    unfold initB at i0
    simp only [Bool.and_eq_true, Bool.not_eq_true'] at i0
    obtain ⟨i1, _, i3, i4, i5, i6, i7⟩ := i0
    obtain ⟨oc, od, dV, kV, doc, pm, an, cdv, ct, osl, hfd, lk, hcd, hdf, _⟩ := F.ex
    have hdV : dV = .none := dfl_nil hdf
    subst hdV
    refine ⟨init, _, fd, rfl, ⟨⟨oc, od, "__init__", "Street.__init__", defArgs ist, defBody ist, defScope ist, .none, kV, doc, pm, an, cdv, ct, osl, hfd, lk, hcd, C8.fnScope_by i1, fun lv => ?_⟩, binds_args (by rw [hfd]; exact i3) (by rw [hfd]), i4, i5, i6, i7, cl, na⟩, He.mkr_ok (fb (f := .mkr "Street") (by simp [faB]))⟩
    have il := iok lv
    unfold initB at il
    simp only [Bool.and_eq_true] at il
    exact il.2.1
  · obtain ⟨e, he, rfl⟩ := tbl_at hd hf
    exact ⟨_, def_of (P := P) X Gn c he (ok e he) (hl e he) TB⟩
  · have hk' : gfOf K (tblOf init es) k = some a := hk
    unfold gfOf at hk'
    split at hk'
    · rename_i d hd
      split at hk'
      · cases hk'
      · rename_i hn
        cases hk'
        simp only [Bool.or_eq_true, not_or, Bool.not_eq_true] at hn
        have k0 : k ≠ 0 := by simpa using hn.2.2
        obtain ⟨e, he, rfl⟩ := tbl_at hd k0
        obtain ⟨fd, D⟩ := def_of (P := P) X Gn c he (ok e he) (hl e he) TB
        exact ⟨e.d, fd, k0, hd, hn.1, hn.2.1, D⟩
    · cases hk'
/-- THE END: the law's promise, from the head's facts and the plain law -/
theorem law_at {l : PySem.W.OpenLaw} {n N L : Nat} {eL : Ent} (X : K.In h) (Gn : h.Ns mainGlobals mg) {fa : Addr} (hm : mg ("law" : Str) = some (.ref fa)) (c : He.SaysX (faOf es) (fnOfE es init ist) [] tf (exB (tblOf init es) G tf) w h K) (ok : ∀ e ∈ es, EntOk (tblOf init es) G true e) (hl : ∀ e ∈ es, e.d.lam = true → (e.d.nm, none) ∈ tf) (iok : ∀ lv, initB (tblOf init es) G true init ist lv = true)
    (hL : eL ∈ es) (hT : tblOf init es L = some eL.d) (hn : eL.d.nm = "law") (hp : eL.d.ps = ([("script" : Str)] : List Str)) (hh : eL.d.hi = false) (hq : eL.d.pool = false)
    (plain : ∀ ns : List Int, ns.length ≤ n → (∀ z ∈ ns, Builtin.Int.intBits z ≤ 1048576) → ∃ r, callN (tblOf init es) N L none [scrV (ns.map PyData.int)] = some (.bool true, r)) : LamX.LawAtS l w K CX0 (lvl N) n "script" mg fa h := by
  have hfa : fa = He.ga K eL.d.nm := by
    have gl := He.SaysD.facts c.t.d (f := .glo eL.d.nm) (List.mem_append_right _ (List.mem_map.mpr ⟨eL, hL, rfl⟩))
    have := He.glo_ok X Gn gl
    rw [hn] at this ⊢
    rw [hm] at this
    exact Value.ref.inj (Option.some.inj this)
  obtain ⟨fd0, F⟩ := He.SaysD.defs c.t.d (d := eL.dd) (List.mem_cons_of_mem _ (List.mem_map_of_mem hL))
  refine ⟨fd0, tf.map (He.cT K), spC K (gxOf l.prog w K (tblOf init es) tf) (callN (tblOf init es) N) L false, fun p hp => ?_, fun p hp => ?_, fun p hp => ?_, fun s u => ?_, fun H a ns hl' hb hT0 hS => ?_, fun base Kb Nb TB => ?_⟩
  · obtain ⟨q, hq, rfl⟩ := List.mem_map.mp hp
    exact c.empty q hq
  · obtain ⟨q, hq, rfl⟩ := List.mem_map.mp hp
    exact c.out q hq
  · obtain ⟨q, hq, rfl⟩ := List.mem_map.mp hp
    exact PySem.W.codeHd_of_K X (c.hd q hq)
  · have k0 := (ok eL hL).ok 0
    unfold entB at k0
    simp only [Bool.and_eq_true] at k0
    obtain ⟨oc, od, dV, kV, doc, pm, an, cdv, ct, osl, hfd, lk, hcd, hdf, _⟩ := F.ex
    have hdV : dV = .none := dfl_nil hdf
    subst hdV
    obtain ⟨as, e1, e2, e3⟩ := argsB_ok k0.2.2.1
    rw [hp] at e2 e3
    refine BindsTo.of_eq ?_
    have := bind_plain (fd := fd0) (args := as) (us := [u]) (by rw [hfd]; exact e1) (by rw [hfd]) (by rw [e2]; exact e3) (by rw [e2]; rfl)
    rw [e2] at this
    exact this
  · obtain ⟨r, hr⟩ := plain ns hl' hb
    have tabs : ∀ F : Hp, (∀ b, F b = none ∨ ∃ xs, SqL K F b xs ∧ (H b = some (.lst xs) ∨ ∃ o, H b = some (.frz o (.lst xs)))) → ∀ p ∈ (gxOf l.prog w K (tblOf init es) tf).T, TabF F H p.1 p.2 ∧ F p.1 = none := fun F hF p hp => by
      obtain ⟨q, hq, rfl⟩ := List.mem_map.mp hp
      have e := hT0 _ (List.mem_map_of_mem hq)
      refine ⟨⟨#[], e, True.intro, fun pos cv z => by simp [codeAmong] at z⟩, ?_⟩
      rcases hF (He.cT K q).2 with z | ⟨xs, _, z | ⟨o, z⟩⟩
      · exact z
      · rw [e] at z; cases z
      · rw [e] at z; cases z
    rcases hS with hS | hS
    · have hSL : SqL K (fun b => if b = a then H a else none) a (ns.map V.int) := .inl (hS.imp (fun e => by show (if a = a then H a else none) = _; rw [if_pos rfl]; exact e) fun ⟨o, e⟩ => ⟨o, by show (if a = a then H a else none) = _; rw [if_pos rfl]; exact e⟩)
      refine ⟨fun b => if b = a then H a else none, [scrV (ns.map PyData.int)], (.bool true, r), fun b o e => ?_, tabs _ fun b => ?_, hr, .cons (.scr hSL (RDs.ints ns)) .nil, fun v F' H' _ rd => rd.bool_inv⟩
      · by_cases hb : b = a
        · subst hb; simpa using e
        · simp only [if_neg hb] at e; cases e
      · by_cases hb : b = a
        · subst hb; exact .inr ⟨_, hSL, hS⟩
        · exact .inl (if_neg hb)
    · exact ⟨fun _ => none, [scrV (ns.map PyData.int)], (.bool true, r), fun b o e => (by cases e), tabs _ fun b => .inl rfl, hr, .cons (.scr (.inr hS) (RDs.ints ns)) .nil, fun v F' H' _ rd => rd.bool_inv⟩
  · have M := md_of (P := l.prog) (base := base) X Gn c ok hl iok TB
    obtain ⟨fd, D⟩ := def_of (P := l.prog) (base := base) X Gn c hL (ok eL hL) (hl eL hL) TB
    have e : fd = fd0 := by
      obtain ⟨_, _, _, _, _, _, _, _, _, _, _, _, _, _, _, _, lk, _⟩ := D.ex
      obtain ⟨_, _, _, _, _, _, _, _, _, _, _, lk', _⟩ := F.ex
      have lk'' : K.lookup (He.ga K eL.d.nm) = _ := lk'
      rw [lk] at lk''
      cases lk''
      rfl
    subst e
    rw [hfa]
    have := (table_all M N).1.ih hT hh D
    rw [hq, hp] at this
    exact this
end
end PL
/-! PDa: the defs of the program and of the laws, as trees of the small language. -/
namespace PL
open PySem
def d_init : FDef := ⟨(S [95, 95, 105, 110, 105, 116, 95, 95]), [(S [115, 101, 108, 102]), (S [112, 108, 97, 99, 101, 115]), (S [116, 105, 101, 115]), (S [119, 97, 110, 116])], [(S [115, 101, 108, 102]), (S [112, 108, 97, 99, 101, 115]), (S [116, 105, 101, 115]), (S [119, 97, 110, 116]), (S [105, 110, 100, 101, 120])], false, true, false, false, false, [], (.seq (.for_ (.n 4) (.iseq (.call 12 (.cons (.var 1) .nil))) (.seq .never .skip)) (.seq (.for_ (.n 4) (.iseq (.call 14 (.cons (.var 1) (.cons (.var 2) .nil)))) (.seq .never .skip)) (.seq (.ex (.call 18 (.cons (.var 3) .nil))) (.seq (.rt (.tup (.cons (.var 1) (.cons (.var 2) (.cons (.var 3) .nil))))) .skip))))⟩
def d_is_whole : FDef := ⟨(S [105, 115, 95, 119, 104, 111, 108, 101]), [(S [118, 97, 108, 117, 101])], [(S [118, 97, 108, 117, 101])], false, false, false, false, false, [], (.seq (.rt (.and (.isa .int (.var 0)) (.not (.isa .bool (.var 0))))) .skip)⟩
def d_is_one_of : FDef := ⟨(S [105, 115, 95, 111, 110, 101, 95, 111, 102]), [(S [118, 97, 108, 117, 101]), (S [119, 111, 114, 100, 115])], [(S [118, 97, 108, 117, 101]), (S [119, 111, 114, 100, 115])], false, false, false, false, false, [], (.seq (.rt (.and (.isa .str (.var 0)) (.cmp .isin (.var 0) (.var 1)))) .skip)⟩
def d_is_word : FDef := ⟨(S [105, 115, 95, 119, 111, 114, 100]), [(S [118, 97, 108, 117, 101])], [(S [118, 97, 108, 117, 101]), (S [115, 105, 103, 110])], false, false, false, false, false, [], (.seq (.rt (.and (.isa .str (.var 0)) (.and (.cmp .ne (.var 0) (.con (.str (S [])))) (.bi .all (.cons (.lc (.cmp .isin (.var 1) (.glob (S [76, 69, 84, 84, 69, 82, 83]) (.str (S [97, 98, 99, 100, 101, 102, 103, 104, 105, 106, 107, 108, 109, 110, 111, 112, 113, 114, 115, 116, 117, 118, 119, 120, 121, 122])))) (.n 1) (.iseq (.var 0)) .nil) .nil))))) .skip)⟩
def d_is_name : FDef := ⟨(S [105, 115, 95, 110, 97, 109, 101]), [(S [118, 97, 108, 117, 101])], [(S [118, 97, 108, 117, 101])], false, false, false, false, false, [], (.seq (.rt (.and (.call 3 (.cons (.var 0) .nil)) (.and (.cmp .le (.bi .len (.cons (.var 0) .nil)) (.glob (S [77, 79, 83, 84, 95, 76, 69, 84, 84, 69, 82, 83]) (.int (8)))) (.cmp .notin (.var 0) (.glob (S [87, 79, 82, 68, 83]) (.tuple [(.str (S [97, 108, 108])), (.str (S [97, 108, 105, 107, 101])), (.str (S [97, 112, 97, 114, 116])), (.str (S [98, 97, 99, 107])), (.str (S [98, 101, 115, 105, 100, 101])), (.str (S [98, 111, 111, 107])), (.str (S [99, 97, 115, 101])), (.str (S [99, 111, 110, 116, 101, 110, 116])), (.str (S [102, 114, 101, 101])), (.str (S [104, 111, 109, 101])), (.str (S [105, 110])), (.str (S [107, 105, 110, 100])), (.str (S [108, 105, 107, 101])), (.str (S [108, 111, 116])), (.str (S [109, 105, 120, 101, 100])), (.str (S [109, 111, 118, 101])), (.str (S [110, 101, 119])), (.str (S [110, 111, 110, 101])), (.str (S [111, 102])), (.str (S [111, 112, 101, 110])), (.str (S [111, 117, 116])), (.str (S [112, 97, 114, 116])), (.str (S [112, 108, 97, 99, 101])), (.str (S [113, 117, 105, 116])), (.str (S [114, 101, 115, 116])), (.str (S [114, 117, 108, 101])), (.str (S [115, 101, 97, 116])), (.str (S [115, 116, 97, 110, 100])), (.str (S [115, 116, 101, 112])), (.str (S [115, 116, 114, 101, 101, 116])), (.str (S [115, 119, 97, 112])), (.str (S [116, 97, 107, 101])), (.str (S [116, 105, 101])), (.str (S [117, 110, 100, 111])), (.str (S [119, 97, 110, 116])), (.str (S [119, 101, 98])), (.str (S [121, 101, 115]))])))))) .skip)⟩
def d_is_tuple_of : FDef := ⟨(S [105, 115, 95, 116, 117, 112, 108, 101, 95, 111, 102]), [(S [118, 97, 108, 117, 101]), (S [109, 97, 110, 121])], [(S [118, 97, 108, 117, 101]), (S [109, 97, 110, 121])], false, false, false, false, false, [], (.seq (.rt (.and (.isa .tuple (.var 0)) (.cmp .eq (.bi .len (.cons (.var 0) .nil)) (.var 1)))) .skip)⟩
def d_is_pair : FDef := ⟨(S [105, 115, 95, 112, 97, 105, 114]), [(S [118, 97, 108, 117, 101])], [(S [118, 97, 108, 117, 101])], false, false, false, false, false, [], (.seq (.rt (.call 5 (.cons (.var 0) (.cons (.con (.int (2))) .nil)))) .skip)⟩
def d_wrong_in : FDef := ⟨(S [119, 114, 111, 110, 103, 95, 105, 110]), [(S [118, 97, 108, 117, 101]), (S [108, 101, 97, 115, 116]), (S [109, 111, 115, 116]), (S [105, 115, 95, 114, 105, 103, 104, 116])], [(S [118, 97, 108, 117, 101]), (S [108, 101, 97, 115, 116]), (S [109, 111, 115, 116]), (S [105, 115, 95, 114, 105, 103, 104, 116]), (S [105, 110, 100, 101, 120]), (S [101, 97, 99, 104])], false, false, true, false, false, [], (.seq (.ite (.or (.not (.isa .tuple (.var 0))) (.cmp .lt (.bi .len (.cons (.var 0) .nil)) (.var 1))) (.seq (.rt (.lst (.cons (.con .none) .nil))) .skip) .skip) (.seq (.for_ (.cons (.n 4) (.cons (.n 5) .nil)) (.ienum (.var 0)) (.seq (.ite (.or (.cmp .eq (.var 4) (.var 2)) (.not (.act 3 (.cons (.slc (.var 0) .nil (.var 4)) (.cons (.var 5) .nil))))) (.seq (.rt (.lst (.cons (.var 4) .nil))) .skip) .skip) .skip)) (.seq (.rt (.lst .nil)) .skip)))⟩
def d_wrong_in_all : FDef := ⟨(S [119, 114, 111, 110, 103, 95, 105, 110, 95, 97, 108, 108]), [(S [118, 97, 108, 117, 101]), (S [109, 97, 110, 121]), (S [105, 115, 95, 114, 105, 103, 104, 116])], [(S [118, 97, 108, 117, 101]), (S [109, 97, 110, 121]), (S [105, 115, 95, 114, 105, 103, 104, 116]), (S [97, 104, 101, 97, 100]), (S [101, 97, 99, 104])], false, false, false, true, false, [], (.seq (.rt (.ife (.call 5 (.cons (.var 0) (.cons (.var 1) .nil))) (.callL 7 (.cons (.var 0) (.cons (.var 1) (.cons (.var 1) .nil))) [3, 4] (.actG 2 (.cons (.var 4) .nil))) (.lst (.cons (.con .none) .nil)))) .skip)⟩
def d_are_below : FDef := ⟨(S [97, 114, 101, 95, 98, 101, 108, 111, 119]), [(S [97, 104, 101, 97, 100]), (S [118, 97, 108, 117, 101])], [(S [97, 104, 101, 97, 100]), (S [118, 97, 108, 117, 101])], false, false, false, false, false, [], (.seq (.rt (.or (.cmp .eq (.var 0) (.tup .nil)) (.cmp .lt (.idx (.var 0) (.neg (.con (.int (1))))) (.var 1)))) .skip)⟩
def d_is_fraction : FDef := ⟨(S [105, 115, 95, 102, 114, 97, 99, 116, 105, 111, 110]), [(S [118, 97, 108, 117, 101])], [(S [118, 97, 108, 117, 101]), (S [101, 97, 99, 104])], false, false, false, false, false, [], (.seq (.ite (.or (.not (.call 6 (.cons (.var 0) .nil))) (.not (.bi .all (.cons (.lc (.call 1 (.cons (.var 1) .nil)) (.n 1) (.iseq (.var 0)) .nil) .nil)))) (.seq (.rt (.con (.bool false))) .skip) .skip) (.seq (.rt (.and (.cmp .gt (.idx (.var 0) (.con (.int (1)))) (.con (.int (0)))) (.cmp .eq (.bi .gcd (.cons (.idx (.var 0) (.con (.int (0)))) (.cons (.idx (.var 0) (.con (.int (1)))) .nil))) (.con (.int (1)))))) .skip))⟩
def d_is_part : FDef := ⟨(S [105, 115, 95, 112, 97, 114, 116]), [(S [118, 97, 108, 117, 101])], [(S [118, 97, 108, 117, 101])], false, false, false, false, false, [], (.seq (.rt (.and (.call 10 (.cons (.var 0) .nil)) (.cmp2 .le .le (.con (.int (0))) (.idx (.var 0) (.con (.int (0)))) (.idx (.var 0) (.con (.int (1))))))) .skip)⟩
def d_wrong_in_places : FDef := ⟨(S [119, 114, 111, 110, 103, 95, 105, 110, 95, 112, 108, 97, 99, 101, 115]), [(S [118, 97, 108, 117, 101])], [(S [118, 97, 108, 117, 101]), (S [97, 104, 101, 97, 100]), (S [101, 97, 99, 104])], false, false, false, true, false, [], (.seq (.rt (.callL 7 (.cons (.var 0) (.cons (.glob (S [76, 69, 65, 83, 84, 95, 80, 76, 65, 67, 69, 83]) (.int (2))) (.cons (.glob (S [77, 79, 83, 84, 95, 80, 76, 65, 67, 69, 83]) (.int (7))) .nil))) [1, 2] (.and (.call 4 (.cons (.var 2) .nil)) (.call 9 (.cons (.var 1) (.cons (.var 2) .nil)))))) .skip)⟩
def d_is_tie : FDef := ⟨(S [105, 115, 95, 116, 105, 101]), [(S [112, 108, 97, 99, 101, 115]), (S [118, 97, 108, 117, 101])], [(S [112, 108, 97, 99, 101, 115]), (S [118, 97, 108, 117, 101])], false, false, false, false, false, [], (.seq (.rt (.and (.call 6 (.cons (.var 1) .nil)) (.and (.call 2 (.cons (.idx (.var 1) (.con (.int (0)))) (.cons (.var 0) .nil))) (.and (.call 2 (.cons (.idx (.var 1) (.con (.int (1)))) (.cons (.var 0) .nil))) (.cmp .lt (.idx (.var 1) (.con (.int (0)))) (.idx (.var 1) (.con (.int (1))))))))) .skip)⟩
def d_wrong_in_ties : FDef := ⟨(S [119, 114, 111, 110, 103, 95, 105, 110, 95, 116, 105, 101, 115]), [(S [112, 108, 97, 99, 101, 115]), (S [118, 97, 108, 117, 101])], [(S [112, 108, 97, 99, 101, 115]), (S [118, 97, 108, 117, 101]), (S [97, 104, 101, 97, 100]), (S [101, 97, 99, 104])], false, false, false, true, false, [], (.seq (.rt (.callL 7 (.cons (.var 1) (.cons (.con (.int (0))) (.cons (.con .none) .nil))) [2, 3] (.and (.call 13 (.cons (.var 0) (.cons (.var 3) .nil))) (.call 9 (.cons (.var 2) (.cons (.var 3) .nil)))))) .skip)⟩
def d_is_kind : FDef := ⟨(S [105, 115, 95, 107, 105, 110, 100]), [(S [118, 97, 108, 117, 101])], [(S [118, 97, 108, 117, 101])], false, false, false, false, false, [], (.seq (.rt (.call 2 (.cons (.var 0) (.cons (.tup (.star (.glob (S [75, 73, 78, 68, 83]) (ctV [(.str (S [97])), (.str (S [98])), (.str (S [99]))])) (.cons (.glob (S [70, 82, 69, 69]) (.str (S [45]))) .nil))) .nil)))) .skip)⟩
def d_wrong_in_seating : FDef := ⟨(S [119, 114, 111, 110, 103, 95, 105, 110, 95, 115, 101, 97, 116, 105, 110, 103]), [(S [115, 116, 114, 101, 101, 116]), (S [118, 97, 108, 117, 101])], [(S [115, 116, 114, 101, 101, 116]), (S [118, 97, 108, 117, 101]), (S [102, 111, 117, 110, 100]), (S [101, 97, 99, 104])], false, false, false, false, false, [], (.seq (.asg (.n 2) (.call 8 (.cons (.var 1) (.cons (.bi .len (.cons (.prop 0 (.var 0)) .nil)) (.cons (.glob (S [105, 115, 95, 107, 105, 110, 100]) (gfV 15)) .nil))))) (.seq (.ite (.cmp .ne (.var 2) (.lst .nil)) (.seq (.rt (.var 2)) .skip) .skip) (.seq (.rt (.ife (.bi .any (.cons (.lc (.cmp .ne (.var 3) (.glob (S [70, 82, 69, 69]) (.str (S [45])))) (.n 3) (.iseq (.var 1)) .nil) .nil)) (.lst .nil) (.lst (.cons (.con .none) .nil)))) .skip)))⟩
def d_like_by : FDef := ⟨(S [108, 105, 107, 101, 95, 98, 121]), [(S [115, 116, 114, 101, 101, 116]), (S [115, 101, 97, 116, 105, 110, 103])], [(S [115, 116, 114, 101, 101, 116]), (S [115, 101, 97, 116, 105, 110, 103]), (S [116, 111, 108, 100]), (S [111, 110, 101]), (S [111, 116, 104, 101, 114])], false, false, false, false, false, [], (.seq (.asg (.n 2) (.dzip (.prop 0 (.var 0)) (.var 1))) (.seq (.rt (.bi .len (.cons (.lc (.con (.int (1))) (.cons (.n 3) (.cons (.n 4) .nil)) (.iseq (.prop 1 (.var 0))) (.and (.cmp .ne (.idx (.var 2) (.var 3)) (.glob (S [70, 82, 69, 69]) (.str (S [45])))) (.cmp .eq (.idx (.var 2) (.var 3)) (.idx (.var 2) (.var 4))))) .nil))) .skip))⟩
def d_check_want : FDef := ⟨(S [99, 104, 101, 99, 107, 95, 119, 97, 110, 116]), [(S [119, 97, 110, 116])], [(S [119, 97, 110, 116])], false, false, false, false, false, [], (.seq (.ite (.not (.call 11 (.cons (.var 0) .nil))) (.seq .never .skip) .skip) .skip)⟩
def d_check_street : FDef := ⟨(S [99, 104, 101, 99, 107, 95, 115, 116, 114, 101, 101, 116]), [(S [115, 116, 114, 101, 101, 116])], [(S [115, 116, 114, 101, 101, 116])], false, false, false, false, false, [], (.seq (.ite (.not (.isa .street (.var 0))) (.seq .never .skip) .skip) .skip)⟩
def d_check_seating : FDef := ⟨(S [99, 104, 101, 99, 107, 95, 115, 101, 97, 116, 105, 110, 103]), [(S [115, 116, 114, 101, 101, 116]), (S [115, 101, 97, 116, 105, 110, 103])], [(S [115, 116, 114, 101, 101, 116]), (S [115, 101, 97, 116, 105, 110, 103]), (S [105, 110, 100, 101, 120])], false, false, false, false, false, [], (.seq (.ex (.call 19 (.cons (.var 0) .nil))) (.seq (.for_ (.n 2) (.iseq (.call 16 (.cons (.var 0) (.cons (.var 1) .nil)))) (.seq .never .skip)) .skip))⟩
def d_like_ties : FDef := ⟨(S [108, 105, 107, 101, 95, 116, 105, 101, 115]), [(S [115, 116, 114, 101, 101, 116]), (S [115, 101, 97, 116, 105, 110, 103])], [(S [115, 116, 114, 101, 101, 116]), (S [115, 101, 97, 116, 105, 110, 103])], false, false, false, false, false, [([(S [115, 101, 97, 116, 105, 110, 103]), (S [115, 116, 114, 101, 101, 116])], [1, 0])], (.seq (.ex (.call 20 (.cons (.var 0) (.cons (.var 1) .nil)))) (.seq (.rt (.call 17 (.cons (.var 0) (.cons (.var 1) .nil)))) .skip))⟩
def d__law_pool : FDef := ⟨(S [95, 108, 97, 119, 95, 112, 111, 111, 108]), [(S [115, 99, 114, 105, 112, 116]), (S [108, 97, 112])], [(S [115, 99, 114, 105, 112, 116]), (S [108, 97, 112]), (S [99, 101, 108, 108]), (S [115, 116, 105, 114, 114, 101, 100]), (S [101, 97, 99, 104])], false, false, false, false, true, [], (.seq (.asg (.n 2) (.ife (.cmp .lt (.var 1) (.bi .len (.cons (.var 0) .nil))) (.bi .int (.cons (.idx (.var 0) (.var 1)) .nil)) (.bop .add (.bop .mul (.con (.int (12043))) (.var 1)) (.con (.int (1237)))))) (.seq (.asg (.n 3) (.bop .add (.con (.int (102023))) (.bop .mul (.con (.int (9013))) (.var 1)))) (.seq (.for_ (.n 4) (.iseq (.slc (.var 0) .nil (.con (.int (63))))) (.seq (.asg (.n 3) (.bop .mod (.bi .int (.cons (.bop .add (.bop .add (.bop .mul (.var 3) (.con (.int (40699)))) (.bop .mod (.bi .int (.cons (.var 4) .nil)) (.con (.int (2147483587))))) (.con (.int (23)))) .nil)) (.con (.int (2147483629))))) .skip)) (.seq (.asg (.n 3) (.bop .mod (.bi .int (.cons (.bop .add (.bop .add (.bop .mul (.var 3) (.con (.int (97)))) (.bop .mul (.bop .mod (.bi .int (.cons (.var 2) .nil)) (.con (.int (2147483587)))) (.con (.int (31013))))) (.con (.int (7)))) .nil)) (.con (.int (2147483629))))) (.seq (.rt (.lst (.cons (.ife (.or (.cmp .lt (.var 2) (.con (.int (0)))) (.cmp .ge (.var 2) (.bop .pow (.con (.int (10))) (.con (.int (15)))))) (.bi .abs (.cons (.var 2) .nil)) (.con (.int (0)))) (.cons (.var 3) (.cons (.con (.int (0))) .nil))))) .skip)))))⟩
def d__law_below : FDef := ⟨(S [95, 108, 97, 119, 95, 98, 101, 108, 111, 119]), [(S [112, 111, 111, 108]), (S [109, 97, 110, 121])], [(S [112, 111, 111, 108]), (S [109, 97, 110, 121]), (S [115, 116, 105, 114, 114, 101, 100]), (S [102, 105, 103, 117, 114, 101])], true, false, false, false, false, [], (.seq (.ite (.cmp .gt (.idxO 0 (.con (.int (0)))) (.con (.int (0)))) (.seq (.asg (.cons (.sub 0 (.con (.int (0)))) (.cons (.n 3) .nil)) (.bi .divmod (.cons (.idxO 0 (.con (.int (0)))) (.cons (.var 1) .nil)))) (.seq (.rt (.var 3)) .skip)) .skip) (.seq (.asg (.sub 0 (.con (.int (2)))) (.bop .add (.idxO 0 (.con (.int (2)))) (.con (.int (1))))) (.seq (.asg (.n 2) (.bop .mod (.bi .int (.cons (.bop .add (.bop .add (.bop .mul (.idxO 0 (.con (.int (1)))) (.con (.int (48677)))) (.bop .mul (.con (.int (3413))) (.idxO 0 (.con (.int (2)))))) (.con (.int (61)))) .nil)) (.con (.int (2147483563))))) (.seq (.asg (.sub 0 (.con (.int (1)))) (.bop .mod (.bi .int (.cons (.bop .add (.bop .mul (.var 2) (.bop .add (.bop .mod (.bi .int (.cons (.var 2) .nil)) (.con (.int (4001)))) (.con (.int (17911))))) (.idxO 0 (.con (.int (2))))) .nil)) (.con (.int (2147483563))))) (.seq (.rt (.bop .mod (.bi .int (.cons (.bop .fdiv (.idxO 0 (.con (.int (1)))) (.con (.int (367)))) .nil)) (.var 1))) .skip)))))⟩
def d__law_one : FDef := ⟨(S [95, 108, 97, 119, 95, 111, 110, 101]), [(S [112, 111, 111, 108]), (S [115, 111, 109, 101])], [(S [112, 111, 111, 108]), (S [115, 111, 109, 101])], true, false, false, false, false, [], (.seq (.rt (.idx (.var 1) (.callP 23 0 (.cons (.bi .len (.cons (.var 1) .nil)) .nil)))) .skip)⟩
def d__law_same : FDef := ⟨(S [95, 108, 97, 119, 95, 115, 97, 109, 101]), [(S [116, 111, 108, 100]), (S [100, 117, 101])], [(S [116, 111, 108, 100]), (S [100, 117, 101]), (S [102, 105, 116, 115]), (S [107])], false, false, false, false, false, [], (.seq (.ite (.or (.isa .tuple (.var 1)) (.isa .list (.var 1))) (.seq (.asg (.n 2) (.ife (.isa .tuple (.var 1)) (.isa .tuple (.var 0)) (.isa .list (.var 0)))) (.seq (.rt (.and (.var 2) (.and (.cmp .eq (.bi .len (.cons (.var 0) .nil)) (.bi .len (.cons (.var 1) .nil))) (.bi .all (.cons (.lc (.call 25 (.cons (.idx (.var 0) (.var 3)) (.cons (.idx (.var 1) (.var 3)) .nil))) (.n 3) (.irange1 (.bi .len (.cons (.var 1) .nil))) .nil) .nil))))) .skip)) .skip) (.seq (.ite (.cmp .is_ (.var 1) (.con .none)) (.seq (.rt (.cmp .is_ (.var 0) (.con .none))) .skip) .skip) (.seq (.ite (.isa .bool (.var 1)) (.seq (.rt (.and (.isa .bool (.var 0)) (.cmp .eq (.var 0) (.var 1)))) .skip) .skip) (.seq (.ite (.isa .int (.var 1)) (.seq (.rt (.and (.isa .int (.var 0)) (.and (.not (.isa .bool (.var 0))) (.cmp .eq (.var 0) (.var 1))))) .skip) .skip) (.seq (.rt (.and (.isa .str (.var 1)) (.and (.isa .str (.var 0)) (.cmp .eq (.var 0) (.var 1))))) .skip)))))⟩
def d__law_words : FDef := ⟨(S [95, 108, 97, 119, 95, 119, 111, 114, 100, 115]), [], [(S [119, 111, 114, 100, 115])], false, false, false, false, false, [], (.seq (.asg (.n 0) (.tup (.cons (.con (.str (S [97, 108, 108]))) (.cons (.con (.str (S [97, 108, 105, 107, 101]))) (.cons (.con (.str (S [97, 112, 97, 114, 116]))) (.cons (.con (.str (S [98, 97, 99, 107]))) (.cons (.con (.str (S [98, 101, 115, 105, 100, 101]))) (.cons (.con (.str (S [98, 111, 111, 107]))) (.cons (.con (.str (S [99, 97, 115, 101]))) (.cons (.con (.str (S [99, 111, 110, 116, 101, 110, 116]))) (.cons (.con (.str (S [102, 114, 101, 101]))) (.cons (.con (.str (S [104, 111, 109, 101]))) (.cons (.con (.str (S [105, 110]))) (.cons (.con (.str (S [107, 105, 110, 100]))) (.cons (.con (.str (S [108, 105, 107, 101]))) (.cons (.con (.str (S [108, 111, 116]))) (.cons (.con (.str (S [109, 105, 120, 101, 100]))) (.cons (.con (.str (S [109, 111, 118, 101]))) (.cons (.con (.str (S [110, 101, 119]))) (.cons (.con (.str (S [110, 111, 110, 101]))) (.cons (.con (.str (S [111, 102]))) .nil))))))))))))))))))))) (.seq (.rt (.bop .add (.var 0) (.tup (.cons (.con (.str (S [111, 112, 101, 110]))) (.cons (.con (.str (S [111, 117, 116]))) (.cons (.con (.str (S [112, 97, 114, 116]))) (.cons (.con (.str (S [112, 108, 97, 99, 101]))) (.cons (.con (.str (S [113, 117, 105, 116]))) (.cons (.con (.str (S [114, 101, 115, 116]))) (.cons (.con (.str (S [114, 117, 108, 101]))) (.cons (.con (.str (S [115, 101, 97, 116]))) (.cons (.con (.str (S [115, 116, 97, 110, 100]))) (.cons (.con (.str (S [115, 116, 101, 112]))) (.cons (.con (.str (S [115, 116, 114, 101, 101, 116]))) (.cons (.con (.str (S [115, 119, 97, 112]))) (.cons (.con (.str (S [116, 97, 107, 101]))) (.cons (.con (.str (S [116, 105, 101]))) (.cons (.con (.str (S [117, 110, 100, 111]))) (.cons (.con (.str (S [119, 97, 110, 116]))) (.cons (.con (.str (S [119, 101, 98]))) (.cons (.con (.str (S [121, 101, 115]))) .nil))))))))))))))))))))) .skip))⟩
def d__law_own_v0 : FDef := ⟨(S [95, 108, 97, 119, 95, 111, 119, 110]), [], [], false, false, false, false, false, [], (.seq (.rt (.me .split (.con (.str (S [97, 32, 97, 98, 32, 97, 98, 99, 32, 98, 32, 99]))) (.cons (.con (.str (S [32]))) .nil))) .skip)⟩
def d__law_name : FDef := ⟨(S [95, 108, 97, 119, 95, 110, 97, 109, 101]), [(S [112, 111, 111, 108]), (S [117, 115, 101, 100])], [(S [112, 111, 111, 108]), (S [117, 115, 101, 100]), (S [108, 97, 112]), (S [102, 111, 117, 110, 100]), (S [115, 112, 111, 116]), (S [107])], true, false, false, false, false, [], (.seq (.for_ (.n 2) (.irange1 (.con (.int (20)))) (.seq (.asg (.n 3) (.con (.str (S [])))) (.seq (.ite (.and (.cmp .ne (.var 1) (.lst .nil)) (.cmp .eq (.callP 23 0 (.cons (.con (.int (4))) .nil)) (.con (.int (0))))) (.seq (.asg (.n 3) (.slc (.callP 24 0 (.cons (.var 1) .nil)) .nil (.con (.int (6))))) .skip) .skip) (.seq (.for_ (.n 4) (.irange1 (.callP 24 0 (.cons (.tup (.cons (.con (.int (1))) (.cons (.con (.int (1))) (.cons (.con (.int (2))) (.cons (.con (.int (3))) (.cons (.con (.int (8))) .nil)))))) .nil))) (.seq (.asg (.n 3) (.bop .add (.var 3) (.idx (.con (.str (S [97, 98, 99, 100, 101, 102, 103, 104, 105, 106, 107, 108, 109, 110, 111, 112, 113, 114, 115, 116, 117, 118, 119, 120, 121, 122]))) (.callP 23 0 (.cons (.con (.int (26))) .nil))))) .skip)) (.seq (.asg (.n 3) (.slc (.var 3) .nil (.con (.int (8))))) (.seq (.ite (.and (.cmp .notin (.var 3) (.var 1)) (.and (.cmp .notin (.var 3) (.call 26 .nil)) (.cmp .notin (.var 3) (.call 27 .nil)))) (.seq (.rt (.var 3)) .skip) .skip) .skip)))))) (.seq (.rt (.idx (.lc (.bop .mul (.idx (.con (.str (S [97, 98, 99, 100, 101, 102, 103, 104, 105, 106, 107, 108]))) (.var 5)) (.con (.int (8)))) (.n 5) (.irange1 (.con (.int (12)))) (.cmp .notin (.bop .mul (.idx (.con (.str (S [97, 98, 99, 100, 101, 102, 103, 104, 105, 106, 107, 108]))) (.var 5)) (.con (.int (8)))) (.var 1))) (.con (.int (0))))) .skip))⟩
def d__law_street : FDef := ⟨(S [95, 108, 97, 119, 95, 115, 116, 114, 101, 101, 116]), [(S [112, 111, 111, 108]), (S [109, 111, 115, 116])], [(S [112, 111, 111, 108]), (S [109, 111, 115, 116]), (S [112, 108, 97, 99, 101, 115]), (S [119, 97, 121]), (S [102, 111, 117, 110, 100]), (S [108, 97, 112]), (S [107]), (S [106])], true, false, false, false, false, [], (.seq (.par [(2, true), (3, false), (4, true)] (.cons (.lst .nil) (.cons (.callP 23 0 (.cons (.con (.int (6))) .nil)) (.cons (.dlit true .nil) .nil)))) (.seq (.for_ (.n 5) (.irange1 (.bop .add (.con (.int (2))) (.callP 23 0 (.cons (.bop .sub (.var 1) (.con (.int (1)))) .nil)))) (.seq (.append 2 (.borrow 2 (.callP 28 0 (.cons (.var 2) .nil)))) .skip)) (.seq (.asg (.n 2) (.bi .tuple (.cons (.bi .sorted (.cons (.var 2) .nil)) .nil))) (.seq (.for_ (.n 6) (.irange2 (.con (.int (1))) (.bi .len (.cons (.var 2) .nil))) (.seq (.ite (.cmp .lt (.var 3) (.con (.int (3)))) (.seq (.asg (.sub 4 (.tup (.cons (.idx (.var 2) (.ife (.cmp .eq (.var 3) (.con (.int (0)))) (.callP 23 0 (.cons (.var 6) .nil)) (.bop .sub (.var 6) (.con (.int (1)))))) (.cons (.idx (.var 2) (.var 6)) .nil)))) (.con (.bool true))) .skip) .skip) (.seq (.for_ (.n 7) (.irange1 (.var 6)) (.seq (.ite (.and (.cmp .gt (.var 3) (.con (.int (2)))) (.cmp .eq (.callP 23 0 (.cons (.idx (.tup (.cons (.con (.int (1))) (.cons (.con (.int (1))) (.cons (.con (.int (1))) (.cons (.con (.int (2))) (.cons (.con (.int (3))) (.cons (.con (.int (5))) .nil))))))) (.var 3)) .nil)) (.con (.int (0))))) (.seq (.asg (.sub 4 (.tup (.cons (.idx (.var 2) (.var 7)) (.cons (.idx (.var 2) (.var 6)) .nil)))) (.con (.bool true))) .skip) .skip) .skip)) .skip))) (.seq (.ite (.and (.cmp .eq (.var 3) (.con (.int (1)))) (.cmp .gt (.bi .len (.cons (.var 2) .nil)) (.con (.int (2))))) (.seq (.asg (.sub 4 (.tup (.cons (.idx (.var 2) (.con (.int (0)))) (.cons (.idx (.var 2) (.neg (.con (.int (1))))) .nil)))) (.con (.bool true))) .skip) .skip) (.seq (.rt (.tup (.cons (.var 2) (.cons (.bi .tuple (.cons (.bi .sorted (.cons (.var 4) .nil)) .nil)) (.cons (.callP 24 0 (.cons (.tup (.cons (.tup (.cons (.con (.int (1))) (.cons (.con (.int (2))) .nil))) (.cons (.tup (.cons (.con (.int (1))) (.cons (.con (.int (3))) .nil))) (.cons (.tup (.cons (.con (.int (1))) (.cons (.con (.int (2))) .nil))) (.cons (.tup (.cons (.con (.int (2))) (.cons (.con (.int (3))) .nil))) (.cons (.tup (.cons (.con (.int (1))) (.cons (.con (.int (1))) .nil))) (.cons (.tup (.cons (.con (.int (0))) (.cons (.con (.int (1))) .nil))) (.cons (.tup (.cons (.con (.int (2))) (.cons (.con (.int (5))) .nil))) .nil)))))))) .nil)) .nil))))) .skip))))))⟩
def d__law_made : FDef := ⟨(S [95, 108, 97, 119, 95, 109, 97, 100, 101]), [(S [116, 111, 108, 100])], [(S [116, 111, 108, 100])], false, false, false, false, false, [], (.seq (.rt (.mk (.cons (.idx (.var 0) (.con (.int (0)))) (.cons (.idx (.var 0) (.con (.int (1)))) (.cons (.idx (.var 0) (.con (.int (2)))) .nil))))) .skip)⟩
def d__law_seating : FDef := ⟨(S [95, 108, 97, 119, 95, 115, 101, 97, 116, 105, 110, 103]), [(S [112, 111, 111, 108]), (S [116, 111, 108, 100])], [(S [112, 111, 111, 108]), (S [116, 111, 108, 100]), (S [107, 105, 110, 100, 115]), (S [114, 111, 119]), (S [112, 108, 97, 99, 101])], true, false, false, false, false, [], (.seq (.par [(2, false), (3, true)] (.cons (.callP 24 0 (.cons (.tup (.cons (.con (.str (S [97, 98]))) (.cons (.con (.str (S [97, 98, 45]))) (.cons (.con (.str (S [97, 98, 45]))) (.cons (.con (.str (S [97, 98, 99]))) (.cons (.con (.str (S [97, 98, 99, 45]))) (.cons (.con (.str (S [97, 45]))) .nil))))))) .nil)) (.cons (.lst .nil) .nil))) (.seq (.for_ (.n 4) (.iseq (.idx (.var 1) (.con (.int (0))))) (.seq (.append 3 (.idx (.var 2) (.callP 23 0 (.cons (.bi .len (.cons (.var 2) .nil)) .nil)))) .skip)) (.seq (.ite (.borrow 3 (.cmp .eq (.var 3) (.bop .mul (.lst (.cons (.con (.str (S [45]))) .nil)) (.borrow 3 (.bi .len (.cons (.var 3) .nil)))))) (.seq (.asg (.sub 3 (.callP 23 0 (.cons (.borrow 3 (.bi .len (.cons (.var 3) .nil))) .nil))) (.con (.str (S [97])))) .skip) .skip) (.seq (.rt (.bi .tuple (.cons (.var 3) .nil))) .skip))))⟩
def d__law_ends : FDef := ⟨(S [95, 108, 97, 119, 95, 101, 110, 100, 115]), [(S [116, 111, 108, 100])], [(S [116, 111, 108, 100]), (S [97, 116]), (S [111, 110, 101]), (S [116, 119, 111]), (S [107]), (S [112, 108, 97, 99, 101])], false, false, false, false, false, [], (.seq (.asg (.n 1) (.bi .dict (.cons (.lc (.tup (.cons (.var 5) (.cons (.var 4) .nil))) (.cons (.n 4) (.cons (.n 5) .nil)) (.ienum (.idx (.var 0) (.con (.int (0))))) .nil) .nil))) (.seq (.rt (.lc (.tup (.cons (.idx (.var 1) (.var 2)) (.cons (.idx (.var 1) (.var 3)) .nil))) (.cons (.n 2) (.cons (.n 3) .nil)) (.iseq (.idx (.var 0) (.con (.int (1))))) .nil)) .skip))⟩
def d__law_like : FDef := ⟨(S [95, 108, 97, 119, 95, 108, 105, 107, 101]), [(S [116, 111, 108, 100]), (S [115, 101, 97, 116, 105, 110, 103])], [(S [116, 111, 108, 100]), (S [115, 101, 97, 116, 105, 110, 103]), (S [97]), (S [98])], false, false, false, false, false, [], (.seq (.rt (.bi .len (.cons (.lc (.con (.int (1))) (.cons (.n 2) (.cons (.n 3) .nil)) (.iseq (.call 32 (.cons (.var 0) .nil))) (.and (.cmp .eq (.idx (.var 1) (.var 2)) (.idx (.var 1) (.var 3))) (.cmp .ne (.idx (.var 1) (.var 2)) (.con (.str (S [45])))))) .nil))) .skip)⟩
def d__law_right_v0 : FDef := ⟨(S [95, 108, 97, 119, 95, 114, 105, 103, 104, 116]), [(S [112, 111, 111, 108])], [(S [112, 111, 111, 108]), (S [108, 97, 112]), (S [116, 111, 108, 100]), (S [115, 116, 114, 101, 101, 116]), (S [115, 101, 97, 116, 105, 110, 103]), (S [100, 117, 101]), (S [116, 117, 114, 110, 101, 100]), (S [107, 105, 110, 100])], true, false, false, false, false, [], (.seq (.for_ (.n 1) (.irange1 (.con (.int (5)))) (.seq (.asg (.n 2) (.callP 29 0 (.cons (.con (.int (7))) .nil))) (.seq (.par [(3, false), (4, false)] (.cons (.call 30 (.cons (.var 2) .nil)) (.cons (.callP 31 0 (.cons (.var 2) .nil)) .nil))) (.seq (.asg (.n 5) (.call 33 (.cons (.var 2) (.cons (.var 4) .nil)))) (.seq (.ite (.not (.call 25 (.cons (.lst (.cons (.call 21 (.cons (.var 3) (.cons (.var 4) .nil))) (.cons (.callK 21 [1, 0] (.cons (.var 4) (.cons (.var 3) .nil))) .nil))) (.cons (.lst (.cons (.var 5) (.cons (.var 5) .nil))) .nil)))) (.seq (.rt (.con (.bool false))) .skip) .skip) (.seq (.asg (.n 6) (.bi .tuple (.cons (.lc (.idx (.dlit false (.cons (.tup (.cons (.con (.str (S [97]))) (.cons (.con (.str (S [98]))) .nil))) (.cons (.tup (.cons (.con (.str (S [98]))) (.cons (.con (.str (S [99]))) .nil))) (.cons (.tup (.cons (.con (.str (S [99]))) (.cons (.con (.str (S [97]))) .nil))) (.cons (.tup (.cons (.con (.str (S [45]))) (.cons (.con (.str (S [45]))) .nil))) .nil))))) (.var 7)) (.n 7) (.iseq (.var 4)) .nil) .nil))) (.seq (.ite (.not (.call 25 (.cons (.lst (.cons (.call 21 (.cons (.var 3) (.cons (.var 6) .nil))) (.cons (.call 21 (.cons (.var 3) (.cons (.bop .mul (.tup (.cons (.con (.str (S [99]))) .nil)) (.bi .len (.cons (.var 4) .nil))) .nil))) .nil))) (.cons (.lst (.cons (.var 5) (.cons (.bi .len (.cons (.idx (.var 2) (.con (.int (1)))) .nil)) .nil))) .nil)))) (.seq (.rt (.con (.bool false))) .skip) .skip) .skip))))))) (.seq (.rt (.con (.bool true))) .skip))⟩
def d_law_v0 : FDef := ⟨(S [108, 97, 119]), [(S [115, 99, 114, 105, 112, 116])], [(S [115, 99, 114, 105, 112, 116]), (S [108, 97, 112]), (S [112, 111, 111, 108]), (S [97, 103, 97, 105, 110])], false, false, false, false, false, [], (.seq (.for_ (.n 1) (.irange1 (.bi .max (.cons (.con (.int (1))) (.cons (.bi .min (.cons (.bi .len (.cons (.var 0) .nil)) (.cons (.con (.int (3))) .nil))) .nil)))) (.seq (.own 2 (.call 22 (.cons (.var 0) (.cons (.var 1) .nil)))) (.seq (.ite (.not (.bi .all (.cons (.lc (.callP 34 2 .nil) (.n 3) (.irange1 (.con (.int (4)))) .nil) .nil))) (.seq (.rt (.con (.bool false))) .skip) .skip) .skip))) (.seq (.rt (.con (.bool true))) .skip))⟩
def d_is_number : FDef := ⟨(S [105, 115, 95, 110, 117, 109, 98, 101, 114]), [(S [118, 97, 108, 117, 101])], [(S [118, 97, 108, 117, 101])], false, false, false, false, false, [], (.seq (.rt (.and (.call 1 (.cons (.var 0) .nil)) (.cmp .ge (.var 0) (.con (.int (0)))))) .skip)⟩
def d_wrong_in_crowd : FDef := ⟨(S [119, 114, 111, 110, 103, 95, 105, 110, 95, 99, 114, 111, 119, 100]), [(S [115, 116, 114, 101, 101, 116]), (S [118, 97, 108, 117, 101])], [(S [115, 116, 114, 101, 101, 116]), (S [118, 97, 108, 117, 101]), (S [102, 111, 117, 110, 100])], false, false, false, false, false, [], (.seq (.asg (.n 2) (.call 8 (.cons (.var 1) (.cons (.bi .len (.cons (.glob (S [75, 73, 78, 68, 83]) (ctV [(.str (S [97])), (.str (S [98])), (.str (S [99]))])) .nil)) (.cons (.glob (S [105, 115, 95, 110, 117, 109, 98, 101, 114]) (gfV 36)) .nil))))) (.seq (.ite (.cmp .ne (.var 2) (.lst .nil)) (.seq (.rt (.var 2)) .skip) .skip) (.seq (.rt (.ife (.cmp2 .le .le (.con (.int (1))) (.bi .sum (.cons (.var 1) .nil)) (.bi .len (.cons (.prop 0 (.var 0)) .nil))) (.lst .nil) (.lst (.cons (.con .none) .nil)))) .skip)))⟩
def d_seatings_by : FDef := ⟨(S [115, 101, 97, 116, 105, 110, 103, 115, 95, 98, 121]), [(S [115, 116, 114, 101, 101, 116]), (S [99, 114, 111, 119, 100])], [(S [115, 116, 114, 101, 101, 116]), (S [99, 114, 111, 119, 100]), (S [109, 97, 110, 121]), (S [108, 105, 110, 101]), (S [95]), (S [108, 97, 116, 101, 114]), (S [97, 104, 101, 97, 100]), (S [108, 101, 102, 116]), (S [97, 116]), (S [107, 105, 110, 100])], false, false, false, false, false, [], (.seq (.asg (.n 2) (.bi .len (.cons (.prop 0 (.var 0)) .nil))) (.seq (.asg (.n 3) (.lst (.cons (.tup (.cons (.tup .nil) (.cons (.tup (.cons (.bop .sub (.var 2) (.bi .sum (.cons (.var 1) .nil))) (.star (.var 1) .nil))) .nil))) .nil))) (.seq (.for_ (.n 4) (.irange1 (.var 2)) (.seq (.own 5 (.lst .nil)) (.seq (.for_ (.cons (.n 6) (.cons (.n 7) .nil)) (.iseq (.var 3)) (.seq (.for_ (.cons (.n 8) (.cons (.n 9) .nil)) (.ienum (.tup (.cons (.glob (S [70, 82, 69, 69]) (.str (S [45]))) (.star (.glob (S [75, 73, 78, 68, 83]) (ctV [(.str (S [97])), (.str (S [98])), (.str (S [99]))])) .nil)))) (.seq (.ite (.cmp .gt (.idx (.var 7) (.var 8)) (.con (.int (0)))) (.seq (.append 5 (.tup (.cons (.tup (.star (.var 6) (.cons (.var 9) .nil))) (.cons (.tup (.star (.slc (.var 7) .nil (.var 8)) (.cons (.bop .sub (.idx (.var 7) (.var 8)) (.con (.int (1)))) (.star (.slc (.var 7) (.bop .add (.var 8) (.con (.int (1)))) .nil) .nil)))) .nil)))) .skip) .skip) .skip)) .skip)) (.seq (.asg (.n 3) (.var 5)) .skip)))) (.seq (.rt (.lc (.var 6) (.cons (.n 6) (.cons (.n 4) .nil)) (.iseq (.var 3)) .nil)) .skip))))⟩
def d_likes_of : FDef := ⟨(S [108, 105, 107, 101, 115, 95, 111, 102]), [(S [115, 116, 114, 101, 101, 116]), (S [99, 114, 111, 119, 100])], [(S [115, 116, 114, 101, 101, 116]), (S [99, 114, 111, 119, 100]), (S [115, 101, 97, 116, 105, 110, 103])], false, false, false, false, false, [], (.seq (.rt (.lc (.tup (.cons (.call 17 (.cons (.var 0) (.cons (.var 2) .nil))) (.cons (.var 2) .nil))) (.n 2) (.iseq (.call 38 (.cons (.var 0) (.cons (.var 1) .nil)))) .nil)) .skip)⟩
def d_least_by : FDef := ⟨(S [108, 101, 97, 115, 116, 95, 98, 121]), [(S [115, 116, 114, 101, 101, 116]), (S [99, 114, 111, 119, 100])], [(S [115, 116, 114, 101, 101, 116]), (S [99, 114, 111, 119, 100])], false, false, false, false, false, [], (.seq (.rt (.bi .min (.cons (.call 39 (.cons (.var 0) (.cons (.var 1) .nil))) .nil))) .skip)⟩
def d_most_by : FDef := ⟨(S [109, 111, 115, 116, 95, 98, 121]), [(S [115, 116, 114, 101, 101, 116]), (S [99, 114, 111, 119, 100])], [(S [115, 116, 114, 101, 101, 116]), (S [99, 114, 111, 119, 100]), (S [114, 111, 119, 115]), (S [109, 111, 115, 116]), (S [109, 97, 110, 121]), (S [95]), (S [115, 101, 97, 116, 105, 110, 103])], false, false, false, false, false, [], (.seq (.asg (.n 2) (.call 39 (.cons (.var 0) (.cons (.var 1) .nil)))) (.seq (.asg (.n 3) (.bi .max (.cons (.lc (.var 4) (.cons (.n 4) (.cons (.n 5) .nil)) (.iseq (.var 2)) .nil) .nil))) (.seq (.rt (.idx (.lc (.tup (.cons (.var 4) (.cons (.var 6) .nil))) (.cons (.n 4) (.cons (.n 6) .nil)) (.iseq (.var 2)) (.cmp .eq (.var 4) (.var 3))) (.con (.int (0))))) .skip)))⟩
def d_check_crowd : FDef := ⟨(S [99, 104, 101, 99, 107, 95, 99, 114, 111, 119, 100]), [(S [115, 116, 114, 101, 101, 116]), (S [99, 114, 111, 119, 100])], [(S [115, 116, 114, 101, 101, 116]), (S [99, 114, 111, 119, 100]), (S [105, 110, 100, 101, 120])], false, false, false, false, false, [], (.seq (.ex (.call 19 (.cons (.var 0) .nil))) (.seq (.for_ (.n 2) (.iseq (.call 37 (.cons (.var 0) (.cons (.var 1) .nil)))) (.seq .never .skip)) .skip))⟩
def d_least_like : FDef := ⟨(S [108, 101, 97, 115, 116, 95, 108, 105, 107, 101]), [(S [115, 116, 114, 101, 101, 116]), (S [99, 114, 111, 119, 100])], [(S [115, 116, 114, 101, 101, 116]), (S [99, 114, 111, 119, 100])], false, false, false, false, false, [([(S [99, 114, 111, 119, 100]), (S [115, 116, 114, 101, 101, 116])], [1, 0])], (.seq (.ex (.call 42 (.cons (.var 0) (.cons (.var 1) .nil)))) (.seq (.rt (.idx (.call 40 (.cons (.var 0) (.cons (.var 1) .nil))) (.con (.int (0))))) .skip))⟩
def d_most_like : FDef := ⟨(S [109, 111, 115, 116, 95, 108, 105, 107, 101]), [(S [115, 116, 114, 101, 101, 116]), (S [99, 114, 111, 119, 100])], [(S [115, 116, 114, 101, 101, 116]), (S [99, 114, 111, 119, 100])], false, false, false, false, false, [([(S [99, 114, 111, 119, 100]), (S [115, 116, 114, 101, 101, 116])], [1, 0])], (.seq (.ex (.call 42 (.cons (.var 0) (.cons (.var 1) .nil)))) (.seq (.rt (.idx (.call 41 (.cons (.var 0) (.cons (.var 1) .nil))) (.con (.int (0))))) .skip))⟩
def d_least_seating : FDef := ⟨(S [108, 101, 97, 115, 116, 95, 115, 101, 97, 116, 105, 110, 103]), [(S [115, 116, 114, 101, 101, 116]), (S [99, 114, 111, 119, 100])], [(S [115, 116, 114, 101, 101, 116]), (S [99, 114, 111, 119, 100])], false, false, false, false, false, [([(S [99, 114, 111, 119, 100]), (S [115, 116, 114, 101, 101, 116])], [1, 0])], (.seq (.ex (.call 42 (.cons (.var 0) (.cons (.var 1) .nil)))) (.seq (.rt (.idx (.call 40 (.cons (.var 0) (.cons (.var 1) .nil))) (.con (.int (1))))) .skip))⟩
def d_most_seating : FDef := ⟨(S [109, 111, 115, 116, 95, 115, 101, 97, 116, 105, 110, 103]), [(S [115, 116, 114, 101, 101, 116]), (S [99, 114, 111, 119, 100])], [(S [115, 116, 114, 101, 101, 116]), (S [99, 114, 111, 119, 100])], false, false, false, false, false, [([(S [99, 114, 111, 119, 100]), (S [115, 116, 114, 101, 101, 116])], [1, 0])], (.seq (.ex (.call 42 (.cons (.var 0) (.cons (.var 1) .nil)))) (.seq (.rt (.idx (.call 41 (.cons (.var 0) (.cons (.var 1) .nil))) (.con (.int (1))))) .skip))⟩
def d__law_own_v1 : FDef := ⟨(S [95, 108, 97, 119, 95, 111, 119, 110]), [], [], false, false, false, false, false, [], (.seq (.rt (.me .split (.con (.str (S [97, 32, 97, 98, 32, 97, 98, 99]))) (.cons (.con (.str (S [32]))) .nil))) .skip)⟩
def d__law_crowd : FDef := ⟨(S [95, 108, 97, 119, 95, 99, 114, 111, 119, 100]), [(S [115, 101, 97, 116, 105, 110, 103])], [(S [115, 101, 97, 116, 105, 110, 103]), (S [108, 101, 116, 116, 101, 114]), (S [107, 105, 110, 100])], false, false, false, false, false, [], (.seq (.rt (.bi .tuple (.cons (.lc (.bi .len (.cons (.lc (.con (.int (1))) (.n 2) (.iseq (.var 0)) (.cmp .eq (.var 2) (.var 1))) .nil)) (.n 1) (.iseq (.con (.str (S [97, 98, 99])))) .nil) .nil))) .skip)⟩
def d__law_seatings : FDef := ⟨(S [95, 108, 97, 119, 95, 115, 101, 97, 116, 105, 110, 103, 115]), [(S [116, 111, 108, 100]), (S [99, 114, 111, 119, 100])], [(S [116, 111, 108, 100]), (S [99, 114, 111, 119, 100]), (S [114, 111, 119, 115]), (S [112, 108, 97, 99, 101]), (S [108, 111, 110, 103, 101, 114]), (S [114, 111, 119]), (S [108, 101, 102, 116]), (S [107]), (S [107, 105, 110, 100])], false, false, false, false, false, [], (.seq (.asg (.n 2) (.lst (.cons (.tup (.cons (.tup .nil) (.cons (.bop .add (.tup (.cons (.bop .sub (.bi .len (.cons (.idx (.var 0) (.con (.int (0)))) .nil)) (.bi .sum (.cons (.var 1) .nil))) .nil)) (.var 1)) .nil))) .nil))) (.seq (.for_ (.n 3) (.iseq (.idx (.var 0) (.con (.int (0))))) (.seq (.own 4 (.lst .nil)) (.seq (.for_ (.cons (.n 5) (.cons (.n 6) .nil)) (.iseq (.var 2)) (.seq (.for_ (.cons (.n 7) (.cons (.n 8) .nil)) (.ienum (.con (.str (S [45, 97, 98, 99])))) (.seq (.ite (.cmp .gt (.idx (.var 6) (.var 7)) (.con (.int (0)))) (.seq (.append 4 (.tup (.cons (.bop .add (.var 5) (.tup (.cons (.var 8) .nil))) (.cons (.bop .add (.bop .add (.slc (.var 6) .nil (.var 7)) (.tup (.cons (.bop .sub (.idx (.var 6) (.var 7)) (.con (.int (1)))) .nil))) (.slc (.var 6) (.bop .add (.var 7) (.con (.int (1)))) .nil)) .nil)))) .skip) .skip) .skip)) .skip)) (.seq (.asg (.n 2) (.var 4)) .skip)))) (.seq (.rt (.lc (.var 5) (.cons (.n 5) (.cons (.n 6) .nil)) (.iseq (.var 2)) .nil)) .skip)))⟩
def d__law_right_v1 : FDef := ⟨(S [95, 108, 97, 119, 95, 114, 105, 103, 104, 116]), [(S [112, 111, 111, 108])], [(S [112, 111, 111, 108]), (S [108, 97, 112]), (S [116, 111, 108, 100]), (S [115, 116, 114, 101, 101, 116]), (S [99, 114, 111, 119, 100]), (S [114, 111, 119, 115]), (S [108, 101, 97, 115, 116]), (S [109, 111, 115, 116]), (S [102, 105, 114, 115, 116]), (S [108, 111, 116, 49]), (S [115, 101, 97, 116, 105, 110, 103]), (S [109, 97, 110, 121])], true, false, false, false, false, [], (.seq (.for_ (.n 1) (.irange1 (.con (.int (2)))) (.seq (.asg (.n 2) (.callP 29 0 (.cons (.con (.int (7))) .nil))) (.seq (.par [(3, false), (4, false)] (.cons (.call 30 (.cons (.var 2) .nil)) (.cons (.call 47 (.cons (.callP 31 0 (.cons (.var 2) .nil)) .nil)) .nil))) (.seq (.asg (.n 5) (.lc (.tup (.cons (.call 33 (.cons (.var 2) (.cons (.var 10) .nil))) (.cons (.var 10) .nil))) (.n 10) (.iseq (.call 48 (.cons (.var 2) (.cons (.var 4) .nil)))) .nil)) (.seq (.asg (.cons (.n 6) (.cons (.n 7) .nil)) (.tup (.cons (.bi .min (.cons (.var 5) .nil)) (.cons (.bi .max (.cons (.lc (.var 11) (.cons (.n 11) (.cons (.n 10) .nil)) (.iseq (.var 5)) .nil) .nil)) .nil)))) (.seq (.asg (.n 8) (.idx (.lc (.var 10) (.cons (.n 11) (.cons (.n 10) .nil)) (.iseq (.var 5)) (.cmp .eq (.var 11) (.var 7))) (.con (.int (0))))) (.seq (.ite (.not (.call 25 (.cons (.lst (.cons (.call 43 (.cons (.var 3) (.cons (.var 4) .nil))) (.cons (.call 44 (.cons (.var 3) (.cons (.var 4) .nil))) (.cons (.call 45 (.cons (.var 3) (.cons (.var 4) .nil))) (.cons (.call 46 (.cons (.var 3) (.cons (.var 4) .nil))) .nil))))) (.cons (.lst (.cons (.idx (.var 6) (.con (.int (0)))) (.cons (.var 7) (.cons (.idx (.var 6) (.con (.int (1)))) (.cons (.var 8) .nil))))) .nil)))) (.seq (.rt (.con (.bool false))) .skip) .skip) (.seq (.asg (.n 9) (.lst (.cons (.callK 43 [1, 0] (.cons (.var 4) (.cons (.var 3) .nil))) (.cons (.callK 44 [1, 0] (.cons (.var 4) (.cons (.var 3) .nil))) (.cons (.callK 45 [1, 0] (.cons (.var 4) (.cons (.var 3) .nil))) .nil))))) (.seq (.asg (.n 9) (.bop .add (.var 9) (.lst (.cons (.callK 46 [1, 0] (.cons (.var 4) (.cons (.var 3) .nil))) .nil)))) (.seq (.ite (.not (.call 25 (.cons (.var 9) (.cons (.lst (.cons (.idx (.var 6) (.con (.int (0)))) (.cons (.var 7) (.cons (.idx (.var 6) (.con (.int (1)))) (.cons (.var 8) .nil))))) .nil)))) (.seq (.rt (.con (.bool false))) .skip) .skip) .skip)))))))))) (.seq (.rt (.con (.bool true))) .skip))⟩
def d_law_v1 : FDef := ⟨(S [108, 97, 119]), [(S [115, 99, 114, 105, 112, 116])], [(S [115, 99, 114, 105, 112, 116]), (S [108, 97, 112]), (S [112, 111, 111, 108]), (S [97, 103, 97, 105, 110])], false, false, false, false, false, [], (.seq (.for_ (.n 1) (.irange1 (.bi .max (.cons (.con (.int (1))) (.cons (.bi .min (.cons (.bi .len (.cons (.var 0) .nil)) (.cons (.con (.int (3))) .nil))) .nil)))) (.seq (.own 2 (.call 22 (.cons (.var 0) (.cons (.var 1) .nil)))) (.seq (.ite (.not (.bi .all (.cons (.lc (.callP 34 2 .nil) (.n 3) (.irange1 (.con (.int (3)))) .nil) .nil))) (.seq (.rt (.con (.bool false))) .skip) .skip) .skip))) (.seq (.rt (.con (.bool true))) .skip))⟩
end PL
set_option maxHeartbeats 1000000
/-! P0: how the small language runs, step by step. -/
namespace PL
open PySem
section
variable {C : Sem} {ρ ρ1 ρ2 ρ3 ρ4 : PL.Env} {a b c e i k it lo hi : Ex} {es : Ex} {x y z w : Val} {xs ys : List Val}
theorem bnd_of {α β : Type} {m : M α} {f : α → M β} {v : α} {r : Option (β × PL.Env)} (h : m ρ = some (v, ρ1)) (h2 : f v ρ1 = r) : bnd m f ρ = r := by
  unfold bnd; rw [h]; exact h2
theorem lft_of {α : Type} {o : Option α} {v : α} (h : o = some v) : lft o ρ = some (v, ρ) := by
  unfold lft; rw [h]
theorem ret_of {α : Type} {v : α} : (ret v : M α) ρ = some (v, ρ) := rfl
/-! ### expressions -/
theorem e_var {n : Nat} (h : gs ρ n = .v x) : ev C (.var n) ρ = some (x, ρ) := by
  show getV n ρ = _
  unfold getV; rw [h]
theorem e_frzL {n : Nat} (h : gs ρ n = .L xs) : ev C (.var n) ρ = some (.list xs, ss ρ n (.v (.list xs))) := by
  show getV n ρ = _
  unfold getV; rw [h]
theorem e_frzD {n : Nat} {t : Bool} {kvs : List (Val × Val)} (h : gs ρ n = .D t kvs) : ev C (.var n) ρ = some (.dict kvs, ss ρ n (.v (.dict kvs))) := by
  show getV n ρ = _
  unfold getV; rw [h]
theorem e_con : ev C (.con x) ρ = some (x, ρ) := rfl
theorem e_glob {s : Str} : ev C (.glob s x) ρ = some (x, ρ) := rfl
/-- a list of parts -/
noncomputable def evA (C : Sem) (es : Ex) : M (List Val) := argsM (ev C es)
theorem a_nil : evA C .nil ρ = some ([], ρ) := rfl
theorem a_cons (h1 : ev C e ρ = some (x, ρ1)) (h2 : evA C es ρ1 = some (xs, ρ2)) : evA C (.cons e es) ρ = some (x :: xs, ρ2) := by
  have h2' : argsM (ev C es) ρ1 = some (xs, ρ2) := h2
  show argsM (bnd (ev C e) fun x => bnd (argsM (ev C es)) fun xs => ret (.tuple (x :: xs))) ρ = _
  unfold argsM at h2' ⊢
  exact bnd_of (bnd_of h1 (bnd_of h2' rfl)) rfl
theorem a_star (h1 : ev C e ρ = some (x, ρ1)) (h3 : itemsV x = some ys) (h2 : evA C es ρ1 = some (xs, ρ2)) : evA C (.star e es) ρ = some (ys ++ xs, ρ2) := by
  have h2' : argsM (ev C es) ρ1 = some (xs, ρ2) := h2
  show argsM (bnd (ev C e) fun x => bnd (lft (itemsV x)) fun ys => bnd (argsM (ev C es)) fun xs => ret (.tuple (ys ++ xs))) ρ = _
  unfold argsM at h2' ⊢
  exact bnd_of (bnd_of h1 (bnd_of (lft_of h3) (bnd_of h2' rfl))) rfl
theorem e_tup (h : evA C es ρ = some (xs, ρ1)) (hl : xs.length ≤ line := by simp [line]) : ev C (.tup es) ρ = some (.tuple xs, ρ1) := by
  refine bnd_of h ?_
  show (if xs.length ≤ line then ret (PyData.tuple xs) else fail) ρ1 = _
  rw [if_pos hl]; rfl
theorem e_lst (h : evA C es ρ = some (xs, ρ1)) (hl : xs.length ≤ line := by simp [line]) : ev C (.lst es) ρ = some (.list xs, ρ1) := by
  refine bnd_of h ?_
  show (if xs.length ≤ line then ret (PyData.list xs) else fail) ρ1 = _
  rw [if_pos hl]; rfl
theorem e_bop {o : Bop} (h1 : ev C a ρ = some (x, ρ1)) (h2 : ev C b ρ1 = some (y, ρ2)) (h3 : bopV o x y = some z) : ev C (.bop o a b) ρ = some (z, ρ2) := bnd_of h1 (bnd_of h2 (lft_of h3))
theorem e_cmp {o : Cop} {r : Bool} (h1 : ev C a ρ = some (x, ρ1)) (h2 : ev C b ρ1 = some (y, ρ2)) (h3 : cmpV o x y = some r) : ev C (.cmp o a b) ρ = some (.bool r, ρ2) := bnd_of h1 (bnd_of h2 (bnd_of (lft_of h3) rfl))
theorem e_cmp2t {o o' : Cop} {r : Bool} (h1 : ev C a ρ = some (x, ρ1)) (h2 : ev C b ρ1 = some (y, ρ2)) (h3 : cmpV o x y = some true) (h4 : ev C c ρ2 = some (z, ρ3)) (h5 : cmpV o' y z = some r) : ev C (.cmp2 o o' a b c) ρ = some (.bool r, ρ3) :=
  bnd_of h1 (bnd_of h2 (bnd_of (lft_of h3) (bnd_of h4 (bnd_of (lft_of h5) rfl))))
theorem e_cmp2f {o o' : Cop} (h1 : ev C a ρ = some (x, ρ1)) (h2 : ev C b ρ1 = some (y, ρ2)) (h3 : cmpV o x y = some false) : ev C (.cmp2 o o' a b c) ρ = some (.bool false, ρ2) :=
  bnd_of h1 (bnd_of h2 (bnd_of (lft_of h3) rfl))
theorem boolM_of {m : M Val} {r : Bool} (h : m ρ = some (.bool r, ρ1)) : boolM m ρ = some (r, ρ1) := bnd_of h rfl
theorem e_andt {r : Bool} (h1 : ev C a ρ = some (.bool true, ρ1)) (h2 : ev C b ρ1 = some (.bool r, ρ2)) : ev C (.and a b) ρ = some (.bool r, ρ2) := bnd_of (boolM_of h1) (bnd_of (boolM_of h2) rfl)
theorem e_andf (h1 : ev C a ρ = some (.bool false, ρ1)) : ev C (.and a b) ρ = some (.bool false, ρ1) := bnd_of (boolM_of h1) rfl
theorem e_ort (h1 : ev C a ρ = some (.bool true, ρ1)) : ev C (.or a b) ρ = some (.bool true, ρ1) := bnd_of (boolM_of h1) rfl
theorem e_orf {r : Bool} (h1 : ev C a ρ = some (.bool false, ρ1)) (h2 : ev C b ρ1 = some (.bool r, ρ2)) : ev C (.or a b) ρ = some (.bool r, ρ2) := bnd_of (boolM_of h1) (bnd_of (boolM_of h2) rfl)
/-- both parts pure -/
theorem e_and {r s : Bool} (h1 : ev C a ρ = some (.bool r, ρ)) (h2 : r = true → ev C b ρ = some (.bool s, ρ)) : ev C (.and a b) ρ = some (.bool (r && s), ρ) := by
  cases r with
  | true => exact e_andt h1 (h2 rfl)
  | false => exact e_andf h1
theorem e_or {r s : Bool} (h1 : ev C a ρ = some (.bool r, ρ)) (h2 : r = false → ev C b ρ = some (.bool s, ρ)) : ev C (.or a b) ρ = some (.bool (r || s), ρ) := by
  cases r with
  | true => exact e_ort h1
  | false => exact e_orf h1 (h2 rfl)
theorem e_not {r : Bool} (h1 : ev C a ρ = some (.bool r, ρ1)) : ev C (.not a) ρ = some (.bool (!r), ρ1) := bnd_of (boolM_of h1) rfl
theorem e_ift (h1 : ev C c ρ = some (.bool true, ρ1)) (h2 : ev C a ρ1 = some (x, ρ2)) : ev C (.ife c a b) ρ = some (x, ρ2) := bnd_of (boolM_of h1) h2
theorem e_iff (h1 : ev C c ρ = some (.bool false, ρ1)) (h2 : ev C b ρ1 = some (x, ρ2)) : ev C (.ife c a b) ρ = some (x, ρ2) := bnd_of (boolM_of h1) h2
theorem e_ife {r : Bool} {u : Val} (h1 : ev C c ρ = some (.bool r, ρ)) (h2 : r = true → ev C a ρ = some (x, ρ)) (h3 : r = false → ev C b ρ = some (y, ρ)) : ev C (.ife c a b) ρ = some (if r = true then x else y, ρ) := by
  cases r with
  | true => exact e_ift h1 (h2 rfl)
  | false => exact e_iff h1 (h3 rfl)
theorem e_neg {n : Int} (h1 : ev C a ρ = some (.int n, ρ1)) : ev C (.neg a) ρ = some (.int (-n), ρ1) := bnd_of h1 rfl
theorem e_prop {n : Nat} (h1 : ev C a ρ = some (x, ρ1)) (h2 : propV n x = some y) : ev C (.prop n a) ρ = some (y, ρ1) := bnd_of h1 (lft_of h2)
theorem e_idx (h1 : ev C a ρ = some (x, ρ1)) (h2 : ev C i ρ1 = some (y, ρ2)) (h3 : idxV x y = some z) : ev C (.idx a i) ρ = some (z, ρ2) := bnd_of h1 (bnd_of h2 (lft_of h3))
/-- a slice's bound -/
noncomputable def evP (C : Sem) (e : Ex) : M (Option Int) := partM e (ev C e)
theorem p_nil : evP C .nil ρ = some (none, ρ) := rfl
theorem p_int {n : Int} (h : ev C e ρ = some (.int n, ρ1)) (hn : e ≠ .nil := by exact nofun) : evP C e ρ = some (some n, ρ1) := by
  unfold evP partM
  cases e <;> first | exact absurd rfl hn | exact bnd_of h rfl
theorem e_slc {l h : Option Int} (h1 : ev C a ρ = some (x, ρ1)) (h2 : evP C lo ρ1 = some (l, ρ2)) (h3 : evP C hi ρ2 = some (h, ρ3)) (h4 : slcV l h x = some y) : ev C (.slc a lo hi) ρ = some (y, ρ3) := bnd_of h1 (bnd_of h2 (bnd_of h3 (lft_of h4)))
theorem chkS_of {n : Nat} (h : gs ρ n ≠ .u) : chkS n ρ = some ((), ρ) := by
  unfold chkS
  cases e : gs ρ n <;> first | exact absurd e h | rfl
theorem e_idxL {n : Nat} {j : Int} (h : gs ρ n = .L xs) (h1 : ev C i ρ = some (.int j, ρ1)) (h2 : gs ρ1 n = .L ys) (h3 : atP ys j = some z) : ev C (.idxO n i) ρ = some (z, ρ1) := by
  refine bnd_of (chkS_of (by rw [h]; exact nofun)) (bnd_of h1 ?_)
  rw [h2]
  exact lft_of h3
theorem e_idxD {n : Nat} {t t' : Bool} {kvs kvs' : List (Val × Val)} (h : gs ρ n = .D t kvs) (h1 : ev C i ρ = some (y, ρ1)) (h2 : gs ρ1 n = .D t' kvs') (hk : keyOk t' y = true) (h3 : dget kvs' y = some z) : ev C (.idxO n i) ρ = some (z, ρ1) := by
  refine bnd_of (chkS_of (by rw [h]; exact nofun)) (bnd_of h1 ?_)
  rw [h2]
  simp only [hk, if_true]
  exact lft_of h3
theorem e_inO {n : Nat} {neg t : Bool} {kvs : List (Val × Val)} (h1 : ev C e ρ = some (x, ρ1)) (h2 : gs ρ1 n = .D t kvs) (hk : keyOk t x = true) : ev C (.inO neg e n) ρ = some (.bool (if neg then !dhas kvs x else dhas kvs x), ρ1) := by
  refine bnd_of h1 ?_
  rw [h2]
  simp only [hk, if_true]
theorem getL_of {n : Nat} (h : gs ρ n = .L xs) : getL n ρ = some (xs, ρ) := by
  unfold getL; rw [h]
theorem e_popO {n : Nat} (h : gs ρ n = .L xs) (h2 : xs.getLast? = some y) : ev C (.popO n) ρ = some (y, ss ρ n (.L xs.dropLast)) := by
  refine bnd_of (getL_of h) ?_
  rw [h2]
  rfl
theorem e_popAt {n : Nat} {j : Int} (h : gs ρ n = .L xs) (h1 : ev C i ρ = some (.int j, ρ1)) (h2 : gs ρ1 n = .L ys) (hj : 0 ≤ j ∧ j < ys.length ∧ j < 1000000) (h3 : ys[j.toNat]? = some z) : ev C (.popAt n i) ρ = some (z, ss ρ1 n (.L (ys.eraseIdx j.toNat))) := by
  refine bnd_of (getL_of h) (bnd_of h1 (bnd_of (getL_of h2) ?_))
  simp only
  rw [if_pos hj, h3]
  rfl
theorem e_borrow {n : Nat} (hf : frz1 (gs ρ n) = .v y) (h : ev C e (ss ρ n (.v y)) = some (x, ρ1)) (hs : scalar x = true) (hb : backE (ss ρ n .u) ρ1 = some ρ2) : ev C (.borrow n e) ρ = some (x, ss ρ2 n (gs ρ n)) := by
  show borrowM n (ev C e) ρ = _
  unfold borrowM
  rw [hf]
  simp only
  rw [h]
  simp only [hs, if_true]
  rw [hb]
theorem e_isa {t : Ty} {r : Bool} (h1 : ev C a ρ = some (x, ρ1)) (h2 : isaV t x = some r) : ev C (.isa t a) ρ = some (.bool r, ρ1) := bnd_of h1 (bnd_of (lft_of h2) rfl)
theorem e_bi {f : Bi} (h1 : evA C es ρ = some (xs, ρ1)) (h2 : biV f xs = some y) : ev C (.bi f es) ρ = some (y, ρ1) := bnd_of h1 (lft_of h2)
theorem e_me {m : Me} (h1 : ev C a ρ = some (x, ρ1)) (h2 : evA C es ρ1 = some (xs, ρ2)) (h3 : meV m x xs = some y) : ev C (.me m a es) ρ = some (y, ρ2) := bnd_of h1 (bnd_of h2 (lft_of h3))
theorem e_call {f : Nat} {q : List Val} (h1 : evA C es ρ = some (xs, ρ1)) (h2 : C.call f none xs = some (y, q)) : ev C (.call f es) ρ = some (y, ρ1) := bnd_of h1 (bnd_of (lft_of h2) rfl)
theorem e_callP {f n : Nat} {l l1 l2 : List Val} (h : gs ρ n = .L l) (h1 : evA C es ρ = some (xs, ρ1)) (h3 : gs ρ1 n = .L l1) (h2 : C.call f (some l1) xs = some (y, l2)) : ev C (.callP f n es) ρ = some (y, ss ρ1 n (.L l2)) :=
  bnd_of (getL_of h) (bnd_of h1 (bnd_of (getL_of h3) (bnd_of (lft_of h2) rfl)))
theorem e_callK {f : Nat} {perm : List Nat} {q : List Val} (h1 : evA C es ρ = some (xs, ρ1)) (h2 : C.call f none (permute perm xs) = some (y, q)) : ev C (.callK f perm es) ρ = some (y, ρ1) := bnd_of h1 (bnd_of (lft_of h2) rfl)
theorem e_actG {n : Nat} {j : Int} {q : List Val} (h : gs ρ n = .v (.dict [(.bool false, .int j)])) (h1 : evA C es ρ = some (xs, ρ1)) (h2 : C.call j.toNat none xs = some (y, q)) : ev C (.actG n es) ρ = some (y, ρ1) := by
  show (match gs ρ n with
    | .v (.dict [(.bool false, .int k)]) => bnd (argsM (ev C es)) (fun xs => bnd (lft (C.call k.toNat none xs)) fun r => ret r.1) ρ
    | _ => none) = _
  rw [h]
  exact bnd_of h1 (bnd_of (lft_of h2) rfl)
theorem e_act {n : Nat} {z : Fz} (h : gs ρ n = .f z) (h1 : evA C es ρ = some (xs, ρ1)) (h2 : C.act z xs = some y) : ev C (.act n es) ρ = some (y, ρ1) := by
  show (match gs ρ n with
    | .f z => bnd (argsM (ev C es)) (fun xs => lft (C.act z xs)) ρ
    | _ => none) = _
  rw [h]
  exact bnd_of h1 (lft_of h2)
theorem e_callL {f : Nat} {ps : List Nat} (h1 : evA C es ρ = some (xs, ρ1)) (h2 : ∀ z, C.hi f xs z (lamM ps (ev C b) ρ1) = some y) : ev C (.callL f es ps b) ρ = some (y, ρ1) := by
  refine bnd_of h1 ?_
  rw [allF_of h2]
theorem e_mk {q : List Val} (h1 : evA C es ρ = some (xs, ρ1)) (h2 : C.call 0 none xs = some (y, q)) : ev C (.mk es) ρ = some (stV y, ρ1) := bnd_of h1 (bnd_of (lft_of h2) rfl)
/-! ### iterables -/
noncomputable def evI (C : Sem) (it : Ex) : M (List Val) := itemsM (ev C it)
theorem i_seq (h1 : ev C e ρ = some (x, ρ1)) (h2 : seqV x = some xs) : evI C (.iseq e) ρ = some (xs, ρ1) := by
  show itemsM (bnd (ev C e) fun x => bnd (lft (seqV x)) fun ys => ret (.list ys)) ρ = _
  unfold itemsM
  exact bnd_of (bnd_of h1 (bnd_of (lft_of h2) rfl)) rfl
theorem i_enum (h1 : ev C e ρ = some (x, ρ1)) (h2 : seqV x = some xs) : evI C (.ienum e) ρ = some (enumV 0 xs, ρ1) := by
  show itemsM (bnd (ev C e) fun x => bnd (lft (seqV x)) fun ys => ret (.list (enumV 0 ys))) ρ = _
  unfold itemsM
  exact bnd_of (bnd_of h1 (bnd_of (lft_of h2) rfl)) rfl
theorem i_zip (h1 : ev C a ρ = some (x, ρ1)) (h2 : ev C b ρ1 = some (y, ρ2)) (h3 : tupsV x = some xs) (h4 : tupsV y = some ys) : evI C (.izip a b) ρ = some (zipV xs ys, ρ2) := by
  show itemsM (bnd (ev C a) fun x => bnd (ev C b) fun y => bnd (lft (tupsV x)) fun xs => bnd (lft (tupsV y)) fun ys => ret (.list (zipV xs ys))) ρ = _
  unfold itemsM
  exact bnd_of (bnd_of h1 (bnd_of h2 (bnd_of (lft_of h3) (bnd_of (lft_of h4) rfl)))) rfl
theorem range1_of {j : Int} (h : -1000000 ≤ j ∧ j ≤ 1000000) : ranges [.int j] = some (rangeV 0 j.toNat) := by
  show (if -1000000 ≤ j ∧ j ≤ 1000000 then some (rangeV 0 j.toNat) else none) = _
  rw [if_pos h]
theorem range2_of {i j : Int} (h : -1000000 ≤ i ∧ i ≤ 1000000 ∧ j ≤ 1000000 ∧ -1000000 ≤ j) : ranges [.int i, .int j] = some (rangeV i (j - i).toNat) := by
  show (if -1000000 ≤ i ∧ i ≤ 1000000 ∧ j ≤ 1000000 ∧ -1000000 ≤ j then some (rangeV i (j - i).toNat) else none) = _
  rw [if_pos h]
theorem i_range1 {j : Int} (h1 : ev C a ρ = some (.int j, ρ1)) (h : -1000000 ≤ j ∧ j ≤ 1000000) : evI C (.irange1 a) ρ = some (rangeV 0 j.toNat, ρ1) := by
  show itemsM (bnd (argsM (bnd (ev C a) fun x => bnd (argsM (ret (.tuple []))) fun xs => ret (.tuple (x :: xs)))) fun xs => bnd (lft (ranges xs)) fun ys => ret (.list ys)) ρ = _
  have : argsM (bnd (ev C a) fun x => bnd (argsM (ret (.tuple []))) fun xs => ret (.tuple (x :: xs))) ρ = some ([.int j], ρ1) := a_cons (C := C) (es := .nil) h1 a_nil
  unfold itemsM
  exact bnd_of (bnd_of this (bnd_of (lft_of (range1_of h)) rfl)) rfl
theorem i_range2 {j l : Int} (h1 : ev C a ρ = some (.int j, ρ1)) (h2 : ev C b ρ1 = some (.int l, ρ2)) (h : -1000000 ≤ j ∧ j ≤ 1000000 ∧ l ≤ 1000000 ∧ -1000000 ≤ l) : evI C (.irange2 a b) ρ = some (rangeV j (l - j).toNat, ρ2) := by
  show itemsM (bnd (argsM (bnd (ev C a) fun x => bnd (argsM (bnd (ev C b) fun x => bnd (argsM (ret (.tuple []))) fun xs => ret (.tuple (x :: xs)))) fun xs => ret (.tuple (x :: xs)))) fun xs => bnd (lft (ranges xs)) fun ys => ret (.list ys)) ρ = _
  have : argsM (bnd (ev C a) fun x => bnd (argsM (bnd (ev C b) fun x => bnd (argsM (ret (.tuple []))) fun xs => ret (.tuple (x :: xs)))) fun xs => ret (.tuple (x :: xs))) ρ = some ([.int j, .int l], ρ2) := a_cons (C := C) (es := .cons b .nil) h1 (a_cons h2 a_nil)
  unfold itemsM
  exact bnd_of (bnd_of this (bnd_of (lft_of (range2_of h)) rfl)) rfl
/-! ### comprehensions -/
/-- one turn: what it gives, if it gives -/
noncomputable def evC (C : Sem) (c : Ex) : M Bool := condM c (ev C c)
theorem c_nil : evC C .nil ρ = some (true, ρ) := rfl
theorem c_ex {r : Bool} (h : ev C c ρ = some (.bool r, ρ1)) (hn : c ≠ .nil := by exact nofun) : evC C c ρ = some (r, ρ1) := by
  unfold evC condM
  cases c <;> first | exact absurd rfl hn | exact boolM_of h
theorem asgM_of {t : Tg} {r : PL.Env} (h : asgT t x ρ = some r) : asgM t x ρ = some ((), r) := by
  unfold asgM; rw [h]
theorem st_yes {t : Tg} (h1 : asgT t x ρ = some ρ1) (h2 : evC C c ρ1 = some (true, ρ2)) (h3 : ev C e ρ2 = some (y, ρ3)) : lcStep t (condM c (ev C c)) (ev C e) x ρ = some (some y, wipeE ρ3 (tgIdx t)) :=
  bnd_of (asgM_of h1) (bnd_of h2 (bnd_of h3 rfl))
theorem st_no {t : Tg} (h1 : asgT t x ρ = some ρ1) (h2 : evC C c ρ1 = some (false, ρ2)) : lcStep t (condM c (ev C c)) (ev C e) x ρ = some (none, wipeE ρ2 (tgIdx t)) :=
  bnd_of (asgM_of h1) (bnd_of h2 rfl)
/-- parts that change nothing -/
theorem loop_pure {step : Val → M (Option Val)} {g : Val → Option Val} : ∀ {xs acc : List Val} {ρ : PL.Env}, (∀ x ∈ xs, step x ρ = some (g x, ρ)) → acc.length + xs.length < line → lcLoop step xs acc ρ = some (acc ++ xs.filterMap g, ρ)
  | [], acc, ρ, _, _ => by simp [lcLoop, ret]
  | x :: r, acc, ρ, h, hl => by
    unfold lcLoop
    refine bnd_of (h x List.mem_cons_self) ?_
    simp only [List.length_cons] at hl
    cases e : g x with
    | none =>
      simp only [List.filterMap_cons, e]
      exact loop_pure (fun y hy => h y (List.mem_cons_of_mem _ hy)) (by omega)
    | some y =>
      simp only [List.filterMap_cons, e]
      rw [if_pos (by omega)]
      have := loop_pure (acc := acc ++ [y]) (fun y hy => h y (List.mem_cons_of_mem _ hy)) (by simp; omega)
      rw [this]
      simp
theorem e_lc {elt : Ex} {tg : Tg} (h1 : evI C it ρ = some (xs, ρ1)) (h2 : lcLoop (lcStep tg (condM c (ev C c)) (ev C elt)) xs [] (wipeE ρ1 (tgIdx tg)) = some (ys, ρ2)) : ev C (.lc elt tg it c) ρ = some (.list ys, ρ2) :=
  bnd_of h1 (bnd_of (show wipeM _ _ = some ((), _) from rfl) (bnd_of h2 rfl))
/-- parts that change nothing, over the codes of a list -/
theorem loop_typed {α : Type} {enc : α → Val} {b : α → Bool} {f : α → Val} {tg : Tg} {elt : Ex} {ρw : PL.Env} : ∀ {ys : List α} {acc : List Val}, acc.length + ys.length < line →
    (∀ y ∈ ys, ∃ ρx, asgT tg (enc y) ρw = some ρx ∧ wipeE ρx (tgIdx tg) = ρw ∧ evC C c ρx = some (b y, ρx) ∧ (b y = true → ev C elt ρx = some (f y, ρx))) →
    lcLoop (lcStep tg (condM c (ev C c)) (ev C elt)) (ys.map enc) acc ρw = some (acc ++ (ys.filter b).map f, ρw)
  | [], acc, _, _ => by simp [lcLoop, ret]
  | y :: ys, acc, hl, h => by
    obtain ⟨ρx, h1, h2, h3, h4⟩ := h y List.mem_cons_self
    rw [List.map_cons]
    unfold lcLoop
    simp only [List.length_cons] at hl
    cases e : b y with
    | false =>
      rw [e] at h3
      refine bnd_of (st_no h1 h3) ?_
      simp only [h2]
      rw [loop_typed (by omega) fun z hz => h z (List.mem_cons_of_mem _ hz)]
      simp [List.filter_cons, e]
    | true =>
      rw [e] at h3
      refine bnd_of (st_yes h1 h3 (h4 e)) ?_
      simp only [h2]
      rw [if_pos (by omega), loop_typed (by simp; omega) fun z hz => h z (List.mem_cons_of_mem _ hz)]
      simp [List.filter_cons, e]
theorem e_lct {α : Type} (ys : List α) (enc : α → Val) (b : α → Bool) (f : α → Val) {tg : Tg} {elt : Ex} {ρw : PL.Env} (h1 : evI C it ρ = some (ys.map enc, ρ1)) (hw : wipeE ρ1 (tgIdx tg) = ρw) (hl : ys.length < line)
    (h : ∀ y ∈ ys, ∃ ρx, asgT tg (enc y) ρw = some ρx ∧ wipeE ρx (tgIdx tg) = ρw ∧ evC C c ρx = some (b y, ρx) ∧ (b y = true → ev C elt ρx = some (f y, ρx))) : ev C (.lc elt tg it c) ρ = some (.list ((ys.filter b).map f), ρw) := by
  refine bnd_of h1 (bnd_of (show wipeM (tgIdx tg) ρ1 = some ((), ρw) by rw [← hw]; rfl) (bnd_of (loop_typed (acc := []) (by simpa using hl) h) ?_))
  rfl
/-- by an invariant -/
theorem loop_inv {step : Val → M (Option Val)} {xs : List Val} {I : Nat → List Val → PL.Env → Prop} {ρ : PL.Env} (h0 : I 0 [] ρ)
    (hs : ∀ i (hi : i < xs.length) acc ρ, acc.length ≤ i → I i acc ρ → ∃ o ρ', step xs[i] ρ = some (o, ρ') ∧ I (i + 1) (acc ++ o.toList) ρ') (hl : xs.length < line) : ∃ ys ρ', lcLoop step xs [] ρ = some (ys, ρ') ∧ I xs.length ys ρ' := by
  have key : ∀ (k : Nat) (acc : List Val) (ρ : PL.Env), k ≤ xs.length → acc.length ≤ k → I k acc ρ → ∃ ys ρ', lcLoop step (xs.drop k) acc ρ = some (ys, ρ') ∧ I xs.length ys ρ' := by
    intro k
    induction hd : xs.length - k generalizing k with
    | zero =>
      intro acc ρ hk ha hI
      have e : k = xs.length := by omega
      subst e
      rw [List.drop_length]
      exact ⟨acc, ρ, rfl, hI⟩
    | succ n ih =>
      intro acc ρ hk ha hI
      have hlt : k < xs.length := by omega
      obtain ⟨o, ρ', e, hI'⟩ := hs k hlt acc ρ ha hI
      rw [List.drop_eq_getElem_cons hlt]
      have hal : (acc ++ o.toList).length ≤ k + 1 := by cases o <;> simp <;> omega
      obtain ⟨ys, ρ2, e2, hI2⟩ := ih (k + 1) (by omega) (acc ++ o.toList) ρ' (by omega) hal hI'
      refine ⟨ys, ρ2, ?_, hI2⟩
      unfold lcLoop
      refine bnd_of e ?_
      cases o with
      | none => simpa using e2
      | some y =>
        simp only
        rw [if_pos (by omega)]
        simpa using e2
  obtain ⟨ys, ρ', e, h⟩ := key 0 [] ρ (Nat.zero_le _) (Nat.le_refl _) h0
  rw [List.drop_zero] at e
  exact ⟨ys, ρ', e, h⟩
theorem e_dzip (h1 : ev C a ρ = some (x, ρ1)) (h2 : ev C b ρ1 = some (y, ρ2)) (h3 : tupsV x = some xs) (h4 : tupsV y = some ys) (h5 : (xs.all keyS && decide (xs.length = ys.length)) = true) : ev C (.dzip a b) ρ = some (.dict (dputs [] (xs.zip ys)), ρ2) := by
  refine bnd_of h1 (bnd_of h2 (bnd_of (lft_of h3) (bnd_of (lft_of h4) ?_)))
  rw [h5]
  rfl
theorem e_dlit {t : Bool} {kvs : List (Val × Val)} (h1 : evA C es ρ = some (xs, ρ1)) (h2 : pairsOf xs = some kvs) (h3 : (kvs.all (fun kv => keyOk t kv.1) && decide (kvs.length ≤ 15)) = true) : ev C (.dlit t es) ρ = some (.dict (dputs [] kvs), ρ1) := by
  refine bnd_of h1 ?_
  rw [h2]
  simp only [h3, if_true]
  rfl
/-! ### statements -/
variable {s t : St} {o : Out}
theorem s_seq (h1 : exec C s ρ = some (.nx, ρ1)) (h2 : exec C t ρ1 = some (o, ρ2)) : exec C (.seq s t) ρ = some (o, ρ2) := bnd_of h1 h2
theorem s_seqr (h1 : exec C s ρ = some (.rt x, ρ1)) : exec C (.seq s t) ρ = some (.rt x, ρ1) := bnd_of h1 rfl
theorem s_skip : exec C .skip ρ = some (.nx, ρ) := rfl
theorem s_rt (h : ev C e ρ = some (x, ρ1)) : exec C (.rt e) ρ = some (.rt x, ρ1) := bnd_of h rfl
theorem s_ex (h : ev C e ρ = some (x, ρ1)) : exec C (.ex e) ρ = some (.nx, ρ1) := bnd_of h rfl
theorem s_ift (h : ev C c ρ = some (.bool true, ρ1)) (h2 : exec C s ρ1 = some (o, ρ2)) : exec C (.ite c s t) ρ = some (o, ρ2) := bnd_of (boolM_of h) h2
theorem s_iff (h : ev C c ρ = some (.bool false, ρ1)) (h2 : exec C t ρ1 = some (o, ρ2)) : exec C (.ite c s t) ρ = some (o, ρ2) := bnd_of (boolM_of h) h2
theorem s_if1 {r : Bool} (h : ev C c ρ = some (.bool r, ρ1)) (hr : r = true) (h2 : exec C s ρ1 = some (o, ρ2)) : exec C (.ite c s t) ρ = some (o, ρ2) := s_ift (by rw [h, hr]) h2
theorem s_if0 {r : Bool} (h : ev C c ρ = some (.bool r, ρ1)) (hr : r = false) (h2 : exec C t ρ1 = some (o, ρ2)) : exec C (.ite c s t) ρ = some (o, ρ2) := s_iff (by rw [h, hr]) h2
theorem e_if1 {r : Bool} (h1 : ev C c ρ = some (.bool r, ρ1)) (hr : r = true) (h2 : ev C a ρ1 = some (x, ρ2)) : ev C (.ife c a b) ρ = some (x, ρ2) := e_ift (by rw [h1, hr]) h2
theorem e_if0 {r : Bool} (h1 : ev C c ρ = some (.bool r, ρ1)) (hr : r = false) (h2 : ev C b ρ1 = some (x, ρ2)) : ev C (.ife c a b) ρ = some (x, ρ2) := e_iff (by rw [h1, hr]) h2
theorem e_and1 {r r' : Bool} (h1 : ev C a ρ = some (.bool r, ρ1)) (hr : r = true) (h2 : ev C b ρ1 = some (.bool r', ρ2)) : ev C (.and a b) ρ = some (.bool r', ρ2) := e_andt (by rw [h1, hr]) h2
theorem e_and0 {r : Bool} (h1 : ev C a ρ = some (.bool r, ρ1)) (hr : r = false) : ev C (.and a b) ρ = some (.bool false, ρ1) := e_andf (by rw [h1, hr])
theorem e_or1 {r : Bool} (h1 : ev C a ρ = some (.bool r, ρ1)) (hr : r = true) : ev C (.or a b) ρ = some (.bool true, ρ1) := e_ort (by rw [h1, hr])
theorem e_or0 {r r' : Bool} (h1 : ev C a ρ = some (.bool r, ρ1)) (hr : r = false) (h2 : ev C b ρ1 = some (.bool r', ρ2)) : ev C (.or a b) ρ = some (.bool r', ρ2) := e_orf (by rw [h1, hr]) h2
theorem s_asgn {n : Nat} (h : ev C e ρ = some (x, ρ1)) : exec C (.asg (.n n) e) ρ = some (.nx, ss ρ1 n (.v x)) := bnd_of h (bnd_of (show asgA C (.n n) x ρ1 = some ((), ss ρ1 n (.v x)) from rfl) rfl)
theorem s_asg {ta : Ta} (h : ev C e ρ = some (x, ρ1)) (h2 : asgA C ta x ρ1 = some ((), ρ2)) : exec C (.asg ta e) ρ = some (.nx, ρ2) := bnd_of h (bnd_of h2 rfl)
theorem t_n {n : Nat} : asgA C (.n n) x ρ = some ((), ss ρ n (.v x)) := rfl
theorem subL {n p : Nat} {j : Int} (h : gs ρ n = .L xs) (h2 : ixP xs.length j = some p) : subM n (.int j) x ρ = some ((), ss ρ n (.L (xs.set p x))) := by
  unfold subM; rw [h]; simp only; rw [h2]
theorem subD {n : Nat} {t : Bool} {kvs : List (Val × Val)} (h : gs ρ n = .D t kvs) (h2 : (keyOk t y && decide (kvs.length < line)) = true) : subM n y x ρ = some ((), ss ρ n (.D t (dput kvs y x))) := by
  unfold subM; rw [h]; simp only; rw [h2]; rfl
theorem t_sub {n : Nat} {r : PL.Env} (h : gs ρ n ≠ .u) (h1 : ev C k ρ = some (y, ρ1)) (h2 : subM n y x ρ1 = some ((), r)) : asgA C (.sub n k) x ρ = some ((), r) := bnd_of (chkS_of h) (bnd_of h1 h2)
theorem t_cons {ta ts : Ta} (h0 : unpV x = some (y :: ys)) (hl : ys.length = taLen ts) (h1 : asgA C ta y ρ = some ((), ρ1)) (h2 : asgAs C ts ys ρ1 = some ((), ρ2)) : asgA C (.cons ta ts) x ρ = some ((), ρ2) := by
  unfold asgA
  rw [h0]
  simp only [hl, if_true]
  exact bnd_of h1 h2
theorem ts_nil : asgAs C .nil [] ρ = some ((), ρ) := rfl
theorem ts_cons {ta ts : Ta} (h1 : asgA C ta y ρ = some ((), ρ1)) (h2 : asgAs C ts ys ρ1 = some ((), ρ2)) : asgAs C (.cons ta ts) (y :: ys) ρ = some ((), ρ2) := bnd_of h1 h2
theorem s_own {n : Nat} {sl : Slot} (h : evO C e ρ = some (sl, ρ1)) : exec C (.own n e) ρ = some (.nx, ss ρ1 n sl) := bnd_of h rfl
theorem o_dnew {t : Bool} : evO C (.dlit t .nil) ρ = some (.D t [], ρ) := rfl
theorem o_lst (h : ev C (.lst es) ρ = some (.list xs, ρ1)) : evO C (.lst es) ρ = some (.L xs, ρ1) := bnd_of h rfl
theorem o_list (h : ev C (.bi .list es) ρ = some (.list xs, ρ1)) : evO C (.bi .list es) ρ = some (.L xs, ρ1) := bnd_of h rfl
theorem o_lc {elt : Ex} {tg : Tg} (h : ev C (.lc elt tg it c) ρ = some (.list xs, ρ1)) : evO C (.lc elt tg it c) ρ = some (.L xs, ρ1) := bnd_of h rfl
theorem o_done {t : Bool} (h1 : ev C k ρ = some (x, ρ1)) (h2 : ev C e ρ1 = some (y, ρ2)) (hk : keyOk t x = true) : evO C (.dlit t (.cons (.tup (.cons k (.cons e .nil))) .nil)) ρ = some (.D t [(x, y)], ρ2) := by
  refine bnd_of h1 (bnd_of h2 ?_)
  simp only [hk, if_true]
  rfl
theorem s_par {is : List (Nat × Bool)} {r : List Slot} (h : parM C is es ρ = some (r, ρ1)) : exec C (.par is es) ρ = some (.nx, setAll is r ρ1) := bnd_of h rfl
theorem m_nil : parM C [] .nil ρ = some ([], ρ) := rfl
theorem m_v {n : Nat} {is : List (Nat × Bool)} {r : List Slot} (h : ev C e ρ = some (x, ρ1)) (h2 : parM C is es ρ1 = some (r, ρ2)) : parM C ((n, false) :: is) (.cons e es) ρ = some (.v x :: r, ρ2) := by
  unfold parM
  exact bnd_of (bnd_of h rfl) (bnd_of h2 rfl)
theorem m_o {n : Nat} {is : List (Nat × Bool)} {sl : Slot} {r : List Slot} (h : evO C e ρ = some (sl, ρ1)) (h2 : parM C is es ρ1 = some (r, ρ2)) : parM C ((n, true) :: is) (.cons e es) ρ = some (sl :: r, ρ2) := by
  unfold parM
  exact bnd_of h (bnd_of h2 rfl)
theorem s_append {n : Nat} (h : gs ρ n = .L xs) (h1 : ev C e ρ = some (x, ρ1)) (h2 : gs ρ1 n = .L ys) (hl : ys.length < line) : exec C (.append n e) ρ = some (.nx, ss ρ1 n (.L (ys ++ [x]))) := by
  refine bnd_of (getL_of h) (bnd_of h1 (bnd_of (getL_of h2) ?_))
  rw [if_pos hl]
  rfl
theorem s_for {tg : Tg} (h1 : evI C it ρ = some (xs, ρ1)) (h2 : forLoop (fun x => bnd (asgM tg x) fun _ => exec C s) xs ρ1 = some (o, ρ2)) : exec C (.for_ tg it s) ρ = some (o, ρ2) := bnd_of h1 h2
theorem turn {tg : Tg} {r : Option (Out × PL.Env)} (h1 : asgT tg x ρ = some ρ1) (h2 : exec C s ρ1 = r) : (bnd (asgM tg x) fun _ => exec C s) ρ = r := bnd_of (asgM_of h1) h2
/-- a loop by an invariant: it ends, or it returns -/
theorem for_inv {step : Val → M Out} {xs : List Val} {I : Nat → PL.Env → Prop} {P : Out → PL.Env → Prop} {ρ : PL.Env} (h0 : I 0 ρ)
    (hs : ∀ i (hi : i < xs.length) ρ, I i ρ → (∃ ρ', step xs[i] ρ = some (.nx, ρ') ∧ I (i + 1) ρ') ∨ ∃ x ρ', step xs[i] ρ = some (.rt x, ρ') ∧ P (.rt x) ρ') (he : ∀ ρ, I xs.length ρ → P .nx ρ) : ∃ o ρ', forLoop step xs ρ = some (o, ρ') ∧ P o ρ' := by
  have key : ∀ (k : Nat) (ρ : PL.Env), k ≤ xs.length → I k ρ → ∃ o ρ', forLoop step (xs.drop k) ρ = some (o, ρ') ∧ P o ρ' := by
    intro k
    induction hd : xs.length - k generalizing k with
    | zero =>
      intro ρ hk hI
      have e : k = xs.length := by omega
      subst e
      rw [List.drop_length]
      exact ⟨.nx, ρ, rfl, he ρ hI⟩
    | succ n ih =>
      intro ρ hk hI
      have hlt : k < xs.length := by omega
      rw [List.drop_eq_getElem_cons hlt]
      rcases hs k hlt ρ hI with ⟨ρ', e, hI'⟩ | ⟨x, ρ', e, hP⟩
      · obtain ⟨o, ρ2, e2, hP2⟩ := ih (k + 1) (by omega) ρ' (by omega) hI'
        exact ⟨o, ρ2, bnd_of e e2, hP2⟩
      · exact ⟨.rt x, ρ', bnd_of e rfl, hP⟩
  have := key 0 ρ (Nat.zero_le _) h0
  rwa [List.drop_zero] at this
theorem for_all {step : Val → M Out} {xs : List Val} {I : Nat → PL.Env → Prop} {ρ : PL.Env} (h0 : I 0 ρ) (hs : ∀ i (hi : i < xs.length) ρ, I i ρ → ∃ ρ', step xs[i] ρ = some (.nx, ρ') ∧ I (i + 1) ρ') : ∃ ρ', forLoop step xs ρ = some (.nx, ρ') ∧ I xs.length ρ' := by
  obtain ⟨o, ρ', e, h⟩ := for_inv (P := fun o ρ => o = .nx ∧ I xs.length ρ) h0 (fun i hi ρ h => .inl (hs i hi ρ h)) (fun ρ h => ⟨rfl, h⟩)
  obtain ⟨rfl, h⟩ := h
  exact ⟨ρ', e, h⟩
theorem s_while (h : whileLoop (boolM (ev C c)) (exec C s) fuel ρ = some (o, ρ1)) : exec C (.while_ c s) ρ = some (o, ρ1) := h
/-- a while by an invariant and a measure -/
theorem while_inv {c : M Bool} {b : M Out} {I : PL.Env → Prop} {μ : PL.Env → Nat} {P : Out → PL.Env → Prop} : ∀ {n : Nat} {ρ : PL.Env}, I ρ → μ ρ < n →
    (∀ ρ, I ρ → (∃ ρ1, c ρ = some (false, ρ1) ∧ P .nx ρ1) ∨ ∃ ρ1, c ρ = some (true, ρ1) ∧ ((∃ ρ2, b ρ1 = some (.nx, ρ2) ∧ I ρ2 ∧ μ ρ2 < μ ρ) ∨ ∃ x ρ2, b ρ1 = some (.rt x, ρ2) ∧ P (.rt x) ρ2)) → ∃ o ρ', whileLoop c b n ρ = some (o, ρ') ∧ P o ρ'
  | 0, ρ, _, h, _ => absurd h (Nat.not_lt_zero _)
  | n + 1, ρ, hI, hm, hs => by
    rcases hs ρ hI with ⟨ρ1, e, hP⟩ | ⟨ρ1, e, ⟨ρ2, e2, hI2, hm2⟩ | ⟨x, ρ2, e2, hP⟩⟩
    · exact ⟨.nx, ρ1, bnd_of e rfl, hP⟩
    · obtain ⟨o, ρ', e3, hP⟩ := while_inv (n := n) hI2 (by omega) hs
      exact ⟨o, ρ', bnd_of e (bnd_of e2 e3), hP⟩
    · exact ⟨.rt x, ρ2, bnd_of e (bnd_of e2 rfl), hP⟩
end
/-! ### calls -/
theorem call_pool {T : Tbl} {f : Nat} {d : FDef} (h : T f = some d) (hh : d.hi = false) (hp : d.pool = true) {n : Nat} {l l' : List Val} {args : List Val} {o : Out} {ρ : PL.Env} (ha : args.length + 1 = d.ps.length) (he : exec (callN T n) d.body (startE d.N.length (some l) args) = some (o, ρ)) (hg : gs ρ 0 = .L l') :
    (callN T (n + 1)).call f (some l) args = some (outV o, l') := by
  show (match T f with
    | some d => if d.hi then none else runF (callN T n) d (some l) args
    | none => none) = _
  rw [h]
  simp only [hh, Bool.false_eq_true, if_false]
  unfold runF
  simp only [hp]
  rw [if_pos ha, he]
  simp only [hg]
theorem call_plain {T : Tbl} {f : Nat} {d : FDef} (h : T f = some d) (hh : d.hi = false) (hp : d.pool = false) (hs : d.slf = false) {n : Nat} {args : List Val} {o : Out} {ρ : PL.Env} (ha : args.length = d.ps.length) (he : exec (callN T n) d.body (startE d.N.length none args) = some (o, ρ)) :
    (callN T (n + 1)).call f none args = some (outV o, []) := by
  show (match T f with
    | some d => if d.hi then none else runF (callN T n) d none args
    | none => none) = _
  rw [h]
  simp only [hh, Bool.false_eq_true, if_false]
  unfold runF
  simp only [hp, hs]
  rw [if_pos ha, he]
theorem call_pool_rt {T : Tbl} {f : Nat} {d : FDef} (h : T f = some d) (hh : d.hi = false) (hp : d.pool = true) {n : Nat} {l l' : List Val} {args : List Val} {x : Val} {ρ0 ρ : PL.Env} (ha : args.length + 1 = d.ps.length) (hs : startE d.N.length (some l) args = ρ0) (he : exec (callN T n) d.body ρ0 = some (.rt x, ρ)) (hg : gs ρ 0 = .L l') :
    (callN T (n + 1)).call f (some l) args = some (x, l') := call_pool (o := .rt x) h hh hp ha (by rw [hs]; exact he) hg
theorem call_rt {T : Tbl} {f : Nat} {d : FDef} (h : T f = some d) (hh : d.hi = false) (hp : d.pool = false) (hs : d.slf = false) {n : Nat} {args : List Val} {x : Val} {ρ0 ρ : PL.Env} (ha : args.length = d.ps.length) (hs' : startE d.N.length none args = ρ0) (he : exec (callN T n) d.body ρ0 = some (.rt x, ρ)) :
    (callN T (n + 1)).call f none args = some (x, []) := call_plain (o := .rt x) h hh hp hs ha (by rw [hs']; exact he)
theorem call_nx {T : Tbl} {f : Nat} {d : FDef} (h : T f = some d) (hh : d.hi = false) (hp : d.pool = false) (hs : d.slf = false) {n : Nat} {args : List Val} {ρ0 ρ : PL.Env} (ha : args.length = d.ps.length) (hs' : startE d.N.length none args = ρ0) (he : exec (callN T n) d.body ρ0 = some (.nx, ρ)) :
    (callN T (n + 1)).call f none args = some (.none, []) := call_plain (o := .nx) h hh hp hs ha (by rw [hs']; exact he)
theorem call_init {T : Tbl} {f : Nat} {d : FDef} (h : T f = some d) (hh : d.hi = false) (hp : d.pool = false) (hs : d.slf = true) {n : Nat} {args : List Val} {o : Out} {ρ : PL.Env} (ha : args.length + 1 = d.ps.length) (he : exec (callN T n) d.body (.u :: startE (d.N.length - 1) none args) = some (o, ρ)) :
    (callN T (n + 1)).call f none args = some (outV o, []) := by
  show (match T f with
    | some d => if d.hi then none else runF (callN T n) d none args
    | none => none) = _
  rw [h]
  simp only [hh, Bool.false_eq_true, if_false]
  unfold runF
  simp only [hp, hs]
  rw [if_pos ha, he]
theorem call_hi {T : Tbl} {f : Nat} {d : FDef} (h : T f = some d) (hh : d.hi = true) {n : Nat} {xs : List Val} {z : Fz} {L : List Val → Option Val} {o : Out} {ρ : PL.Env} (ha : xs.length + 1 = d.ps.length) (he : exec (withAct (callN T n) z L) d.body (xs.map .v ++ .f z :: List.replicate (d.N.length - xs.length - 1) .u) = some (o, ρ)) :
    (callN T (n + 1)).hi f xs z L = some (outV o) := by
  show (match T f with
    | some d => if d.hi then runH (callN T n) d xs z L else none
    | none => none) = _
  rw [h]
  simp only [hh, if_true]
  unfold runH
  rw [if_pos ha, he]
theorem act_at {C : Sem} {z : Fz} {L : List Val → Option Val} (xs : List Val) : (withAct C z L).act z xs = L xs := if_pos rfl
/-! ### lists -/
theorem nodup_len {α : Type} [DecidableEq α] : ∀ {l us : List α}, l.Nodup → (∀ x ∈ l, x ∈ us) → l.length ≤ us.length
  | [], _, _, _ => Nat.zero_le _
  | x :: l, us, nd, h => by
    have nd' := List.nodup_cons.mp nd
    have hx := h x List.mem_cons_self
    have := nodup_len (l := l) (us := us.erase x) nd'.2 fun y hy => (List.mem_erase_of_ne (fun e : y = x => nd'.1 (by rw [← e]; exact hy))).mpr (h y (List.mem_cons_of_mem _ hy))
    rw [List.length_erase_of_mem hx] at this
    have := List.length_pos_of_mem hx
    simp only [List.length_cons]
    omega
/-! ### numbers -/
theorem add_ok {i j : Int} : bopV .add (.int i) (.int j) = some (.int (i + j)) := rfl
theorem sub_ok {i j : Int} : bopV .sub (.int i) (.int j) = some (.int (i - j)) := rfl
theorem mul_r {i j : Int} (h : -(2 ^ 64) < j ∧ j < 2 ^ 64) : bopV .mul (.int i) (.int j) = some (.int (i * j)) := by
  show (if (-(2 ^ 64) < i ∧ i < 2 ^ 64) ∨ (-(2 ^ 64) < j ∧ j < 2 ^ 64) then some (PyData.int (i * j)) else none) = _
  rw [if_pos (Or.inr h)]
theorem mul_l {i j : Int} (h : -(2 ^ 64) < i ∧ i < 2 ^ 64) : bopV .mul (.int i) (.int j) = some (.int (i * j)) := by
  show (if (-(2 ^ 64) < i ∧ i < 2 ^ 64) ∨ (-(2 ^ 64) < j ∧ j < 2 ^ 64) then some (PyData.int (i * j)) else none) = _
  rw [if_pos (Or.inl h)]
theorem mod_ok {i j : Int} (h : 0 < j) : bopV .mod (.int i) (.int j) = some (.int (i % j)) := by
  show (if 0 < j then some (PyData.int (i % j)) else none) = _
  rw [if_pos h]
theorem fdiv_ok {i j : Int} (h : 0 < j ∧ j < 1073741824) : bopV .fdiv (.int i) (.int j) = some (.int (i / j)) := by
  show (if 0 < j ∧ j < 1073741824 then some (PyData.int (i / j)) else none) = _
  rw [if_pos h]
theorem divmod_ok {i j : Int} (h : 0 < j ∧ j < 1073741824) : biV .divmod [.int i, .int j] = some (.tuple [.int (i / j), .int (i % j)]) := by
  show (if 0 < j ∧ j < 1073741824 then some (PyData.tuple [.int (i / j), .int (i % j)]) else none) = _
  rw [if_pos h]
theorem lt_int {i j : Int} : cmpV .lt (.int i) (.int j) = some (decide (i < j)) := by
  show (if okLt (.int i) (.int j) then some (PySem.W.dataLt (.int i) (.int j)) else none) = _
  rw [PySem.W.dataLt_int]; rfl
theorem gt_int {i j : Int} : cmpV .gt (.int i) (.int j) = some (decide (j < i)) := by
  show (if okLt (.int i) (.int j) then some (PySem.W.dataLt (.int j) (.int i)) else none) = _
  rw [PySem.W.dataLt_int]; rfl
theorem le_int {i j : Int} : cmpV .le (.int i) (.int j) = some (decide (i ≤ j)) := by
  show (if okLt (.int i) (.int j) then some (!PySem.W.dataLt (.int j) (.int i)) else none) = _
  rw [PySem.W.dataLt_int]
  have : (!decide (j < i)) = decide (i ≤ j) := by by_cases h : j < i <;> simp [h] <;> omega
  rw [this]; rfl
theorem ge_int {i j : Int} : cmpV .ge (.int i) (.int j) = some (decide (j ≤ i)) := by
  show (if okLt (.int i) (.int j) then some (!PySem.W.dataLt (.int i) (.int j)) else none) = _
  rw [PySem.W.dataLt_int]
  have : (!decide (i < j)) = decide (j ≤ i) := by by_cases h : i < j <;> simp [h] <;> omega
  rw [this]; rfl
theorem eq_int {i j : Int} : cmpV .eq (.int i) (.int j) = some (decide (i = j)) := by
  show (if pk 8 (.int i) && pk 8 (.int j) then some (PyData.eqv (.int i) (.int j)) else none) = _
  have : PyData.eqv (.int i) (.int j) = decide (i = j) := by simp [PyData.eqv]; rfl
  rw [this]; rfl
end PL
set_option maxHeartbeats 2000000
/-! P1: the law's numbers, words, names. -/
namespace PL
open PySem
local macro_rules
  | `(tactic| get_elem_tactic_extensible) => `(tactic| first
    | with_reducible exact e_con | with_reducible exact e_glob | with_reducible exact a_nil | with_reducible exact p_nil | with_reducible exact s_skip | with_reducible exact c_nil | with_reducible exact m_nil | with_reducible exact t_n | with_reducible exact ts_nil
    | with_reducible apply e_var
    | with_reducible apply a_cons
    | with_reducible apply e_bop
    | with_reducible apply e_cmp
    | with_reducible apply e_not
    | with_reducible apply e_neg
    | with_reducible apply e_prop
    | with_reducible apply e_idx
    | with_reducible apply e_slc
    | with_reducible apply p_int
    | with_reducible apply e_idxL
    | with_reducible apply e_tup
    | with_reducible apply e_lst
    | with_reducible apply e_bi
    | with_reducible apply e_me
    | with_reducible apply e_isa
    | with_reducible apply e_call
    | with_reducible apply e_callP
    | with_reducible apply s_seq
    | with_reducible apply s_asgn
    | with_reducible apply s_asg
    | with_reducible apply t_sub
    | with_reducible apply t_cons
    | with_reducible apply ts_cons
    | with_reducible apply s_ex
    | with_reducible exact lt_int | with_reducible exact gt_int | with_reducible exact le_int | with_reducible exact ge_int | with_reducible exact eq_int | with_reducible exact add_ok | with_reducible exact sub_ok
    | with_reducible exact mul_r (by decide) | with_reducible exact mul_l (by decide)
    | (show gs _ _ = _; rfl)
    | (show gs _ _ ≠ _; intro hh; cases hh; done)
    | (show subM _ _ _ _ = _; exact subL rfl rfl)
    | (show _ = _; with_reducible assumption)
    | with_reducible exact divmod_ok ⟨by assumption, by assumption⟩ | with_reducible exact mod_ok (by first | decide | assumption) | with_reducible exact fdiv_ok (by decide)
    | with_reducible exact mul_l (by omega)
    | (show _ = _; with_unfolding_all rfl)
    | fail)
theorem below_ok {T : Tbl} (h : T 23 = some d__law_below) (n : Nat) {a b c m : Int} (hm : 0 < m) (hm2 : m < 1073741824) :
    ∃ r a' b' c' : Int, (callN T (n + 1)).call 23 (some [.int a, .int b, .int c]) [.int m] = some (.int r, [.int a', .int b', .int c']) ∧ 0 ≤ r ∧ r < m := by
  by_cases ha : 0 < a
  · have key : ∃ x ρ, exec (callN T n) d__law_below.body [.L [.int a, .int b, .int c], .v (.int m), .u, .u] = some (.rt x, ρ) ∧ x = .int (a % m) ∧ gs ρ 0 = .L [.int (a / m), .int b, .int c] := by
      refine ⟨?_, ?_, ?h, ?_, ?_⟩
      case h =>
        dsimp only [d__law_below]
        with_reducible apply s_seqr
        with_reducible apply s_if1
        · repeat' get_elem_tactic_extensible
        · exact decide_eq_true ha
        · with_reducible apply s_seq
          · repeat' get_elem_tactic_extensible
          · with_reducible apply s_seqr
            with_reducible apply s_rt
            repeat' get_elem_tactic_extensible
      all_goals rfl
    obtain ⟨x, ρ, e, rfl, hg⟩ := key
    exact ⟨_, _, _, _, call_pool_rt h rfl rfl rfl rfl e hg, Int.emod_nonneg a (show m ≠ 0 by omega), Int.emod_lt_of_pos a hm⟩
  · have hx : ∀ i : Int, 0 ≤ i % 2147483563 ∧ i % 2147483563 < 2147483563 := fun i => ⟨Int.emod_nonneg _ (by decide), Int.emod_lt_of_pos _ (by decide)⟩
    have m1 : ∀ i y : Int, bopV .mul (.int (i % 2147483563)) (.int y) = some (.int (i % 2147483563 * y)) := fun i y => mul_l (by have := hx i; omega)
    have key : ∃ y z w : Int, ∃ ρ, exec (callN T n) d__law_below.body [.L [.int a, .int b, .int c], .v (.int m), .u, .u] = some (.rt (.int (y % m)), ρ) ∧ gs ρ 0 = .L [.int a, .int z, .int w] := by
      refine ⟨?_, ?_, ?_, ?_, ?h, ?g⟩
      case h =>
        dsimp only [d__law_below]
        with_reducible apply s_seq
        · with_reducible apply s_if0
          · repeat' get_elem_tactic_extensible
          · exact decide_eq_false ha
          · with_reducible exact s_skip
        · with_reducible apply s_seq
          · repeat' get_elem_tactic_extensible
          · with_reducible apply s_seq
            · repeat' get_elem_tactic_extensible
            · with_reducible apply s_seq
              · repeat' first | with_reducible exact m1 _ _ | get_elem_tactic_extensible
              · with_reducible apply s_seqr
                with_reducible apply s_rt
                repeat' get_elem_tactic_extensible
      case g => rfl
    obtain ⟨y, z, w, ρ, e, hg⟩ := key
    exact ⟨_, _, _, _, call_pool_rt h rfl rfl rfl rfl e hg, Int.emod_nonneg y (show m ≠ 0 by omega), Int.emod_lt_of_pos y hm⟩

/-- where the draws come from -/
def Pool (p : List Val) : Prop := ∃ a b c : Int, p = [.int a, .int b, .int c]
theorem below_at {T : Tbl} (h : T 23 = some d__law_below) (n : Nat) {p : List Val} (hp : Pool p) {m : Int} (hm : 0 < m) (hm2 : m < 1073741824) :
    ∃ (r : Int) (p' : List Val), (callN T (n + 1)).call 23 (some p) [.int m] = some (.int r, p') ∧ Pool p' ∧ 0 ≤ r ∧ r < m := by
  obtain ⟨a, b, c, rfl⟩ := hp
  obtain ⟨r, a', b', c', e, h1, h2⟩ := below_ok h n (a := a) (b := b) (c := c) hm hm2
  exact ⟨r, _, e, ⟨a', b', c', rfl⟩, h1, h2⟩
/-- one of some things -/
theorem one_at {T : Tbl} (h : T 23 = some d__law_below) (h1 : T 24 = some d__law_one) (n : Nat) {p : List Val} (hp : Pool p) {v : Val} {L : Int} (hv : biV .len [v] = some (.int L)) (hL : 0 < L) (hL2 : L < 1073741824) {P : Val → Prop} (hi : ∀ r : Int, 0 ≤ r → r < L → ∃ y, idxV v (.int r) = some y ∧ P y) :
    ∃ (y : Val) (p' : List Val), (callN T (n + 2)).call 24 (some p) [v] = some (y, p') ∧ Pool p' ∧ P y := by
  obtain ⟨r, p', e, hp', r0, r1⟩ := below_at h n hp hL hL2
  obtain ⟨y, ey, py⟩ := hi r r0 r1
  refine ⟨y, p', call_pool_rt (ρ := [.L p', .v v]) h1 rfl rfl rfl rfl ?_ rfl, hp', py⟩
  exact s_seqr (s_rt (e_idx (e_var rfl) (e_callP rfl (a_cons (e_bi (a_cons (e_var rfl) a_nil) hv) a_nil) rfl e) ey))
theorem len_tup {xs : List Val} : biV .len [.tuple xs] = some (.int xs.length) := rfl
theorem len_list {xs : List Val} : biV .len [.list xs] = some (.int xs.length) := rfl
theorem atP_nat {α : Type} {xs : List α} {r : Int} (h0 : 0 ≤ r) (h1 : r < xs.length) : ∃ y, atP xs r = some y ∧ xs[r.toNat]? = some y ∧ y ∈ xs := by
  have hl : r.toNat < xs.length := by omega
  refine ⟨xs[r.toNat], ?_, List.getElem?_eq_getElem hl, List.getElem_mem hl⟩
  unfold atP ixP
  rw [if_pos h0, if_pos h1]
  exact List.getElem?_eq_getElem hl
theorem idx_head {x : Val} {xs : List Val} : idxV (.list (x :: xs)) (.int 0) = some x := by
  show atP (x :: xs) 0 = _
  unfold atP ixP
  rw [if_pos (by decide), if_pos (by simp)]
  rfl
theorem one_tup {T : Tbl} (h : T 23 = some d__law_below) (h1 : T 24 = some d__law_one) (n : Nat) {p : List Val} (hp : Pool p) {xs : List Val} (h0 : xs ≠ []) (hL2 : xs.length < 1073741824) :
    ∃ (y : Val) (p' : List Val), (callN T (n + 2)).call 24 (some p) [.tuple xs] = some (y, p') ∧ Pool p' ∧ y ∈ xs := by
  have hl : 0 < xs.length := List.length_pos_iff.mpr h0
  exact one_at h h1 n hp len_tup (by omega) (by omega) fun r r0 r1 => by
    obtain ⟨y, e, _, m⟩ := atP_nat (xs := xs) r0 r1
    exact ⟨y, e, m⟩
theorem one_list {T : Tbl} (h : T 23 = some d__law_below) (h1 : T 24 = some d__law_one) (n : Nat) {p : List Val} (hp : Pool p) {xs : List Val} (h0 : xs ≠ []) (hL2 : xs.length < 1073741824) :
    ∃ (y : Val) (p' : List Val), (callN T (n + 2)).call 24 (some p) [.list xs] = some (y, p') ∧ Pool p' ∧ y ∈ xs := by
  have hl : 0 < xs.length := List.length_pos_iff.mpr h0
  exact one_at h h1 n hp len_list (by omega) (by omega) fun r r0 r1 => by
    obtain ⟨y, e, _, m⟩ := atP_nat (xs := xs) r0 r1
    exact ⟨y, e, m⟩
/-! ### texts -/
theorem S_len (l : List Nat) : (S l).length = l.length := by simp [S, Str.length]
theorem S_cps (l : List Nat) : (S l).cps.toList = l := by simp [S]
theorem S_app (l m : List Nat) : S l ++ S m = S (l ++ m) := by
  show (⟨(S l).cps ++ (S m).cps⟩ : Str) = _
  simp [S]
theorem S_inj {l m : List Nat} (h : S l = S m) : l = m := by
  have := congrArg (fun x : Str => x.cps.toList) h
  simpa [S] using this
theorem str_S (x : Str) : ∃ l, x = S l := ⟨x.cps.toList, by cases x; simp [S]⟩
theorem add_str {l m : List Nat} (h : l.length + m.length ≤ line) : bopV .add (.str (S l)) (.str (S m)) = some (.str (S (l ++ m))) := by
  show (if (S l).length + (S m).length ≤ line then some (PyData.str (S l ++ S m)) else none) = _
  rw [S_len, S_len, if_pos h, S_app]
theorem slc_str {l : List Nat} {lo hi : Option Int} (h : l.length ≤ line) : slcV lo hi (.str (S l)) = some (.str (S (cutP l lo hi))) := by
  show (if (S l).length ≤ line then some (PyData.str (S (cutP (S l).cps.toList lo hi))) else none) = _
  rw [S_len, if_pos h, S_cps]
theorem idx_str {l : List Nat} {r : Int} (hl : l.length ≤ line) (h0 : 0 ≤ r) (h1 : r < l.length) : ∃ c, idxV (.str (S l)) (.int r) = some (.str (S [c])) ∧ c ∈ l := by
  obtain ⟨c, e, _, m⟩ := atP_nat (xs := l) h0 h1
  refine ⟨c, ?_, m⟩
  show (if (S l).length ≤ line then (match atP (S l).cps.toList r with
    | some c => some (PyData.str (S [c]))
    | none => none) else none) = _
  rw [S_len, if_pos hl, S_cps, e]
theorem cut_to {α : Type} {xs : List α} {k : Int} (h : 0 ≤ k) : cutP xs none (some k) = xs.take k.toNat := by
  unfold cutP sIx
  simp only [List.drop_zero, Nat.sub_zero]
  rw [if_neg (by omega)]
  rw [← List.take_take]
  simp [List.take_take]
/-- x in a list of texts -/
theorem eqv_str (x y : Str) : PyData.eqv (.str x) (.str y) = decide (x = y) := by
  simp [PyData.eqv]; rfl
theorem any_strs (s : Str) : ∀ us : List Str, ((us.map PyData.str).any fun y => PyData.eqv y (.str s)) = decide (s ∈ us)
  | [] => by simp
  | u :: us => by
    rw [List.map_cons, List.any_cons, any_strs s us, eqv_str]
    by_cases h : u = s
    · simp [h]
    · have : ¬ s = u := fun e => h e.symm
      simp [h, this]
theorem pk_strs (us : List Str) : (us.map PyData.str).all (pk 8) = true := by
  rw [List.all_map]
  exact List.all_eq_true.mpr fun x _ => rfl
theorem notin_list {s : Str} {us : List Str} : cmpV .notin (.str s) (.list (us.map .str)) = some (!decide (s ∈ us)) := by
  show (if pk 8 (.str s) && (us.map PyData.str).all (pk 8) then some ((us.map PyData.str).any fun y => PyData.eqv y (.str s)) else none).map not = _
  rw [pk_strs, any_strs]
  rfl
theorem notin_tup {s : Str} {us : List Str} : cmpV .notin (.str s) (.tuple (us.map .str)) = some (!decide (s ∈ us)) := by
  show (if pk 8 (.str s) && (us.map PyData.str).all (pk 8) then some ((us.map PyData.str).any fun y => PyData.eqv y (.str s)) else none).map not = _
  rw [pk_strs, any_strs]
  rfl
theorem in_tup {s : Str} {us : List Str} : cmpV .isin (.str s) (.tuple (us.map .str)) = some (decide (s ∈ us)) := by
  show (if pk 8 (.str s) && (us.map PyData.str).all (pk 8) then some ((us.map PyData.str).any fun y => PyData.eqv y (.str s)) else none) = _
  rw [pk_strs, any_strs]
  rfl
theorem words_at {T : Tbl} (h : T 26 = some d__law_words) (n : Nat) : (callN T (n + 1)).call 26 none [] = some (.tuple (wordsL.map .str), []) := by
  refine call_rt (ρ0 := [.u]) (ρ := [.v (.tuple ((wordsL.take 19).map .str))]) h rfl rfl rfl rfl rfl ?_
  dsimp only [d__law_words]
  with_reducible apply s_seq
  · repeat' get_elem_tactic_extensible
  · with_reducible apply s_seqr
    with_reducible apply s_rt
    repeat' get_elem_tactic_extensible
/-! ### names -/
/-- a text of one to eight small letters -/
def Nice (s : Str) : Prop := ∃ l : List Nat, s = S l ∧ 1 ≤ l.length ∧ l.length ≤ 8 ∧ ∀ c ∈ l, 97 ≤ c ∧ c ≤ 122
/-- .. none of the document's words -/
def Good (s : Str) : Prop := Nice s ∧ s ∉ wordsL
def alph : List Nat := [97, 98, 99, 100, 101, 102, 103, 104, 105, 106, 107, 108, 109, 110, 111, 112, 113, 114, 115, 116, 117, 118, 119, 120, 121, 122]
theorem alph_ok : ∀ c ∈ alph, 97 ≤ c ∧ c ≤ 122 := by decide
/-- letters put behind a text -/
theorem name_letters {T : Tbl} (h : T 23 = some d__law_below) (n : Nat) {p us : List Val} {v2 v4 : Slot} {m : Nat} {l : List Nat} (hp : Pool p) (hl : l.length ≤ 6) (hm : m ≤ 8) (hc : ∀ c ∈ l, 97 ≤ c ∧ c ≤ 122) :
    ∃ (p' : List Val) (l' : List Nat) (s4 : Slot), forLoop (fun x => bnd (asgM (.n 4) x) fun _ => exec (callN T (n + 1)) (.seq (.asg (.n 3) (.bop .add (.var 3) (.idx (.con (.str (S alph))) (.callP 23 0 (.cons (.con (.int (26))) .nil))))) .skip)) (rangeV 0 m) [.L p, .v (.list us), v2, .v (.str (S l)), v4, .u] = some (.nx, [.L p', .v (.list us), v2, .v (.str (S l')), s4, .u]) ∧
      Pool p' ∧ l'.length = l.length + m ∧ ∀ c ∈ l', 97 ≤ c ∧ c ≤ 122 := by
  have len : (rangeV 0 m).length = m := by simp [rangeV]
  obtain ⟨ρ', e, p', l', s4, rfl, h1, h2, h3⟩ := for_all (ρ := [.L p, .v (.list us), v2, .v (.str (S l)), v4, .u]) (xs := rangeV 0 m) (step := fun x => bnd (asgM (.n 4) x) fun _ => exec (callN T (n + 1)) (.seq (.asg (.n 3) (.bop .add (.var 3) (.idx (.con (.str (S alph))) (.callP 23 0 (.cons (.con (.int (26))) .nil))))) .skip))
    (I := fun i ρ => ∃ (p' : List Val) (l' : List Nat) (s4 : Slot), ρ = [.L p', .v (.list us), v2, .v (.str (S l')), s4, .u] ∧ Pool p' ∧ l'.length = l.length + i ∧ ∀ c ∈ l', 97 ≤ c ∧ c ≤ 122)
    ⟨p, l, v4, rfl, hp, rfl, hc⟩ (fun i hi ρ hI => by
      obtain ⟨p', l', s4, rfl, h1, h2, h3⟩ := hI
      obtain ⟨r, p2, e, hp2, r0, r1⟩ := below_at h n h1 (m := 26) (by decide) (by decide)
      obtain ⟨c, ec, mc⟩ := idx_str (l := alph) (r := r) (by decide) r0 (show r < (alph.length : Nat) from r1)
      refine ⟨[.L p2, .v (.list us), v2, .v (.str (S (l' ++ [c]))), .v (rangeV 0 m)[i], .u], turn (ρ1 := [.L p', .v (.list us), v2, .v (.str (S l')), .v (rangeV 0 m)[i], .u]) rfl (s_seq (s_asgn (e_bop (e_var rfl) (e_idx e_con (e_callP rfl (a_cons e_con a_nil) rfl e) ec) (add_str ?_))) s_skip), p2, l' ++ [c], _, rfl, hp2, by simp [h2]; omega, fun d hd => ?_⟩
      · have : l'.length ≤ 14 := by omega
        simp [line]; omega
      · rcases List.mem_append.mp hd with hd | hd
        · exact h3 d hd
        · rw [List.mem_singleton.mp hd]; exact alph_ok c mc)
  exact ⟨p', l', s4, e, h1, by rw [h2, len], h3⟩
theorem rep8 (c : Nat) : repL 8 [c] = List.replicate 8 c := rfl
def backs : List Nat := [97, 98, 99, 100, 101, 102, 103, 104, 105, 106, 107, 108]
/-- the name that is left -/
theorem name_left {C : Sem} {p : List Val} {us : List Str} {s2 s3 s4 : Slot} (hus : us.length ≤ 11) : ∃ c : Nat, c ∈ backs ∧ S (List.replicate 8 c) ∉ us ∧
    ev C (.idx (.lc (.bop .mul (.idx (.con (.str (S backs))) (.var 5)) (.con (.int (8)))) (.n 5) (.irange1 (.con (.int (12)))) (.cmp .notin (.bop .mul (.idx (.con (.str (S backs))) (.var 5)) (.con (.int (8)))) (.var 1))) (.con (.int (0)))) [.L p, .v (.list (us.map .str)), s2, s3, s4, .u] = some (.str (S (List.replicate 8 c)), [.L p, .v (.list (us.map .str)), s2, s3, s4, .u]) := by
  let nm : Nat → Str := fun k => S (List.replicate 8 (backs.getD k 0))
  have lc : ev C (.lc (.bop .mul (.idx (.con (.str (S backs))) (.var 5)) (.con (.int (8)))) (.n 5) (.irange1 (.con (.int (12)))) (.cmp .notin (.bop .mul (.idx (.con (.str (S backs))) (.var 5)) (.con (.int (8)))) (.var 1))) [.L p, .v (.list (us.map .str)), s2, s3, s4, .u] = some (.list (((List.range 12).filter fun k => !decide (nm k ∈ us)).map fun k => .str (nm k)), [.L p, .v (.list (us.map .str)), s2, s3, s4, .u]) := by
    refine e_lct (List.range 12) (fun k => .int (0 + (k : Nat))) (fun k => !decide (nm k ∈ us)) (fun k => .str (nm k)) (i_range1 e_con (by decide)) rfl (by decide) fun k hk => ?_
    have hk := List.mem_range.mp hk
    refine ⟨_, rfl, rfl, ?_⟩
    have hi : idxV (.str (S backs)) (.int (0 + (k : Nat))) = some (.str (S [backs.getD k 0])) := by
      rw [Int.zero_add]
      show (if (S backs).length ≤ line then (match atP (S backs).cps.toList (k : Int) with
        | some c => some (PyData.str (S [c]))
        | none => none) else none) = _
      rw [S_len, S_cps, if_pos (by simp [backs, line])]
      unfold atP ixP
      rw [if_pos (by omega), if_pos (by simp [backs]; omega)]
      have hk' : k < backs.length := by simp [backs]; omega
      simp [List.getD_eq_getElem?_getD, List.getElem?_eq_getElem hk']
    have hm : bopV .mul (.str (S [backs.getD k 0])) (.int 8) = some (.str (nm k)) := by
      show (if (1 : Int) ≤ 8 ∧ (8 : Int) ≤ 1000 ∧ (S [backs.getD k 0]).length ≤ 1000 then some (PyData.str (S (repL 8 (S [backs.getD k 0]).cps.toList))) else none) = _
      rw [S_len, S_cps, if_pos (by simp)]; rfl
    have hv := e_bop (e_idx (e_con (C := C)) (e_var (ρ := [.L p, .v (.list (us.map .str)), s2, s3, s4, .v (.int (0 + (k : Nat)))]) (n := 5) rfl) hi) e_con hm
    exact ⟨c_ex (e_cmp hv (e_var rfl) notin_list), fun _ => hv⟩
  obtain ⟨k, hk, hu⟩ : ∃ k, k < 12 ∧ nm k ∉ us := Classical.byContradiction fun hn => by
    have hall : ∀ x ∈ (List.range 12).map nm, x ∈ us := fun x hx => by
      obtain ⟨k, hk, rfl⟩ := List.mem_map.mp hx
      exact Classical.byContradiction fun q => hn ⟨k, List.mem_range.mp hk, q⟩
    have nd : ((List.range 12).map nm).Nodup := by decide
    have := nodup_len nd hall
    simp at this
    omega
  have hne : ((List.range 12).filter fun k => !decide (nm k ∈ us)) ≠ [] := fun e => by
    have : k ∈ (List.range 12).filter fun k => !decide (nm k ∈ us) := List.mem_filter.mpr ⟨List.mem_range.mpr hk, by simpa using hu⟩
    rw [e] at this; cases this
  obtain ⟨j, r, e⟩ := List.exists_cons_of_ne_nil hne
  have hj := List.mem_filter.mp (show j ∈ (List.range 12).filter fun k => !decide (nm k ∈ us) by rw [e]; exact List.mem_cons_self)
  have hj1 := List.mem_range.mp hj.1
  refine ⟨backs.getD j 0, ?_, of_decide_eq_false ((Bool.not_eq_true' _).mp hj.2), ?_⟩
  · have : ∀ j, j < 12 → backs.getD j 0 ∈ backs := by decide
    exact this j hj1
  · rw [e] at lc
    exact e_idx lc e_con idx_head
theorem left_good (c : Nat) (h : c ∈ backs) : Good (S (List.replicate 8 c)) := by
  have key : ∀ c ∈ backs, (97 ≤ c ∧ c ≤ 122) ∧ (wordsL.contains (S (List.replicate 8 c))) = false := by decide +kernel
  obtain ⟨h1, h2⟩ := key c h
  refine ⟨⟨_, rfl, by simp, by simp, fun d hd => ?_⟩, fun hm => ?_⟩
  · rw [List.eq_of_mem_replicate hd]; exact h1
  · rw [List.contains_iff_mem.mpr hm] at h2; cases h2
/-- what a def of small words gives -/
def OwnOk (T : Tbl) (n : Nat) : Prop := ∃ os : List Str, ∀ m, (callN T (m + n)).call 27 none [] = some (.list (os.map .str), [])
theorem ne_nil {us : List Str} : cmpV .ne (.list (us.map .str)) (.list []) = some (!decide (us = [])) := by
  cases us with
  | nil => rfl
  | cons u r =>
    show (if pk 8 (.list (PyData.str u :: r.map .str)) && pk 8 (.list []) then some (!PyData.eqv (.list (PyData.str u :: r.map .str)) (.list [])) else none) = _
    have h1 : pk 8 (.list (PyData.str u :: r.map .str)) = true := by
      have := pk_strs (u :: r)
      show (PyData.str u :: r.map .str).all (pk 7) = true
      rw [List.all_eq_true]
      intro x hx
      have hx' : x ∈ (u :: r).map PyData.str := hx
      obtain ⟨y, _, rfl⟩ := List.mem_map.mp hx'
      rfl
    rw [h1]
    simp [PyData.eqv, PyData.eqvAll, pk]
section
variable {T : Tbl} {p : List Val} {us : List Str} {s2 s3 s4 : Slot}
abbrev envN (p : List Val) (us : List Str) (s2 s3 s4 : Slot) : PL.Env := [.L p, .v (.list (us.map .str)), s2, s3, s4, .u]
def nameIf : St := .ite (.and (.cmp .ne (.var 1) (.lst .nil)) (.cmp .eq (.callP 23 0 (.cons (.con (.int (4))) .nil)) (.con (.int (0))))) (.seq (.asg (.n 3) (.slc (.callP 24 0 (.cons (.var 1) .nil)) .nil (.con (.int (6))))) .skip) .skip
def nameFor : St := .for_ (.n 4) (.irange1 (.callP 24 0 (.cons (.tup (.cons (.con (.int (1))) (.cons (.con (.int (1))) (.cons (.con (.int (2))) (.cons (.con (.int (3))) (.cons (.con (.int (8))) .nil)))))) .nil))) (.seq (.asg (.n 3) (.bop .add (.var 3) (.idx (.con (.str (S alph))) (.callP 23 0 (.cons (.con (.int (26))) .nil))))) .skip)
def nameLast : St := .ite (.and (.cmp .notin (.var 3) (.var 1)) (.and (.cmp .notin (.var 3) (.call 26 .nil)) (.cmp .notin (.var 3) (.call 27 .nil)))) (.seq (.rt (.var 3)) .skip) .skip
def nameTurn : St := .seq (.asg (.n 3) (.con (.str (S [])))) (.seq nameIf (.seq nameFor (.seq (.asg (.n 3) (.slc (.var 3) .nil (.con (.int (8))))) (.seq nameLast .skip))))
theorem name_if (h : T 23 = some d__law_below) (h1 : T 24 = some d__law_one) (n : Nat) (hp : Pool p) (hus : us.length ≤ 11) (hg : ∀ u ∈ us, Nice u) :
    ∃ (p' : List Val) (l : List Nat), exec (callN T (n + 2)) nameIf (envN p us s2 (.v (.str (S []))) s4) = some (.nx, envN p' us s2 (.v (.str (S l))) s4) ∧ Pool p' ∧ l.length ≤ 6 ∧ ∀ c ∈ l, 97 ≤ c ∧ c ≤ 122 := by
  have c1 : ev (callN T (n + 2)) (.cmp .ne (.var 1) (.lst .nil)) (envN p us s2 (.v (.str (S []))) s4) = some (.bool (!decide (us = [])), envN p us s2 (.v (.str (S []))) s4) := e_cmp (e_var rfl) (e_lst a_nil) ne_nil
  by_cases hu : us = []
  · exact ⟨p, [], s_if0 (e_and0 c1 (by simp [hu])) rfl s_skip, hp, by simp, by simp⟩
  · obtain ⟨r, p2, e, hp2, r0, r1⟩ := below_at h (n + 1) hp (m := 4) (by decide) (by decide)
    have c2 : ev (callN T (n + 2)) (.and (.cmp .ne (.var 1) (.lst .nil)) (.cmp .eq (.callP 23 0 (.cons (.con (.int (4))) .nil)) (.con (.int (0))))) (envN p us s2 (.v (.str (S []))) s4) = some (.bool (decide (r = 0)), envN p2 us s2 (.v (.str (S []))) s4) :=
      e_and1 c1 (by simp [hu]) (e_cmp (e_callP rfl (a_cons e_con a_nil) rfl e) e_con eq_int)
    by_cases hr : r = 0
    · obtain ⟨y, p3, e3, hp3, my⟩ := one_list h h1 n hp2 (xs := us.map .str) (by simpa using hu) (by simp; omega)
      obtain ⟨u, mu, rfl⟩ := List.mem_map.mp my
      obtain ⟨l, rfl, l1, l2, l3⟩ := hg u mu
      refine ⟨p3, l.take 6, s_if1 c2 (decide_eq_true hr) (s_seq (s_asgn (e_slc (e_callP rfl (a_cons (e_var rfl) a_nil) rfl e3) p_nil (p_int e_con) (slc_str (by simp [line]; omega)))) ?_), hp3, by simp; omega, fun c hc => l3 c (List.mem_of_mem_take hc)⟩
      rw [cut_to (by decide)]
      exact s_skip
    · exact ⟨p2, [], s_if0 c2 (decide_eq_false hr) s_skip, hp2, by simp, by simp⟩
theorem name_for (h : T 23 = some d__law_below) (h1 : T 24 = some d__law_one) (n : Nat) (hp : Pool p) {l : List Nat} (hl : l.length ≤ 6) (hc : ∀ c ∈ l, 97 ≤ c ∧ c ≤ 122) :
    ∃ (p' : List Val) (l' : List Nat) (s4' : Slot), exec (callN T (n + 2)) nameFor (envN p us s2 (.v (.str (S l))) s4) = some (.nx, envN p' us s2 (.v (.str (S l'))) s4') ∧ Pool p' ∧ 1 ≤ l'.length ∧ l'.length ≤ 14 ∧ ∀ c ∈ l', 97 ≤ c ∧ c ≤ 122 := by
  obtain ⟨y, p2, e, hp2, my⟩ := one_tup h h1 n hp (xs := [.int 1, .int 1, .int 2, .int 3, .int 8]) (by simp) (by simp)
  obtain ⟨m, rfl, m1, m2⟩ : ∃ m : Nat, y = .int (m : Int) ∧ 1 ≤ m ∧ m ≤ 8 := by
    simp only [List.mem_cons, List.not_mem_nil, or_false] at my
    rcases my with rfl | rfl | rfl | rfl | rfl
    · exact ⟨1, rfl, by decide, by decide⟩
    · exact ⟨1, rfl, by decide, by decide⟩
    · exact ⟨2, rfl, by decide, by decide⟩
    · exact ⟨3, rfl, by decide, by decide⟩
    · exact ⟨8, rfl, by decide, by decide⟩
  obtain ⟨p3, l', s4', e3, hp3, h3, h4⟩ := name_letters h (n + 1) (us := us.map .str) (v2 := s2) (v4 := s4) hp2 hl m2 hc
  refine ⟨p3, l', s4', s_for (i_range1 (e_callP rfl (a_cons (e_tup (a_cons e_con (a_cons e_con (a_cons e_con (a_cons e_con (a_cons e_con a_nil)))))) a_nil) rfl e) (by omega)) ?_, hp3, by omega, by omega, h4⟩
  rw [Int.toNat_natCast]
  exact e3
theorem name_last (hw : T 26 = some d__law_words) (ho : OwnOk T k) (hk : k ≤ n + 2) {l : List Nat} (l1 : 1 ≤ l.length) (l2 : l.length ≤ 8) (l3 : ∀ c ∈ l, 97 ≤ c ∧ c ≤ 122) :
    exec (callN T (n + 2)) nameLast (envN p us s2 (.v (.str (S l))) s4) = some (.nx, envN p us s2 (.v (.str (S l))) s4) ∨ exec (callN T (n + 2)) nameLast (envN p us s2 (.v (.str (S l))) s4) = some (.rt (.str (S l)), envN p us s2 (.v (.str (S l))) s4) ∧ Good (S l) ∧ S l ∉ us := by
  obtain ⟨os, ho⟩ := ho
  have ho' := ho (n + 2 - k)
  rw [Nat.sub_add_cancel hk] at ho'
  have c1 : ev (callN T (n + 2)) (.cmp .notin (.var 3) (.var 1)) (envN p us s2 (.v (.str (S l))) s4) = some (.bool (!decide (S l ∈ us)), envN p us s2 (.v (.str (S l))) s4) := e_cmp (e_var rfl) (e_var rfl) notin_list
  have c2 : ev (callN T (n + 2)) (.cmp .notin (.var 3) (.call 26 .nil)) (envN p us s2 (.v (.str (S l))) s4) = some (.bool (!decide (S l ∈ wordsL)), envN p us s2 (.v (.str (S l))) s4) := e_cmp (e_var rfl) (e_call a_nil (words_at hw (n + 1))) notin_tup
  have c3 : ev (callN T (n + 2)) (.cmp .notin (.var 3) (.call 27 .nil)) (envN p us s2 (.v (.str (S l))) s4) = some (.bool (!decide (S l ∈ os)), envN p us s2 (.v (.str (S l))) s4) := e_cmp (e_var rfl) (e_call a_nil ho') notin_list
  have c4 := e_and c1 fun _ => e_and c2 fun _ => c3
  by_cases hq : (!decide (S l ∈ us) && (!decide (S l ∈ wordsL) && !decide (S l ∈ os))) = true
  · refine .inr ⟨s_if1 c4 hq (s_seqr (s_rt (e_var rfl))), ⟨⟨l, rfl, l1, l2, l3⟩, ?_⟩, ?_⟩
    · simp only [Bool.and_eq_true, Bool.not_eq_true', decide_eq_false_iff_not] at hq
      exact hq.2.1
    · simp only [Bool.and_eq_true, Bool.not_eq_true', decide_eq_false_iff_not] at hq
      exact hq.1
  · exact .inl (s_if0 c4 (Bool.not_eq_true _ |>.mp hq) s_skip)
/-- a drawn name -/
theorem name_at (h : T 23 = some d__law_below) (h1 : T 24 = some d__law_one) (hw : T 26 = some d__law_words) (hn : T 28 = some d__law_name) {k n : Nat} (ho : OwnOk T k) (hk : k ≤ n + 2) (hp : Pool p) (hus : us.length ≤ 11) (hg : ∀ u ∈ us, Nice u) :
    ∃ (s : Str) (p' : List Val), (callN T (n + 3)).call 28 (some p) [.list (us.map .str)] = some (.str s, p') ∧ Pool p' ∧ Good s ∧ s ∉ us := by
  obtain ⟨o, ρ', e, h2⟩ := for_inv (ρ := envN p us .u .u .u) (xs := rangeV 0 20) (step := fun x => bnd (asgM (.n 2) x) fun _ => exec (callN T (n + 2)) nameTurn) (I := fun _ ρ => ∃ p' s2 s3 s4, ρ = envN p' us s2 s3 s4 ∧ Pool p')
    (P := fun o ρ => ∃ p' s2 s3 s4, ρ = envN p' us s2 s3 s4 ∧ Pool p' ∧ (o = .nx ∨ ∃ s, o = .rt (.str s) ∧ Good s ∧ s ∉ us)) ⟨p, _, _, _, rfl, hp⟩ (fun i hi ρ hI => by
      obtain ⟨p', s2, s3, s4, rfl, hp'⟩ := hI
      obtain ⟨p1, l1, e1, hp1, a1, a2⟩ := name_if (s2 := .v (rangeV 0 20)[i]) (s4 := s4) h h1 n hp' hus hg
      obtain ⟨p2, l2, s4', e2, hp2, b1, b2, b3⟩ := name_for (us := us) (s2 := .v (rangeV 0 20)[i]) (s4 := s4) h h1 n hp1 a1 a2
      have e3 : exec (callN T (n + 2)) (.asg (.n 3) (.slc (.var 3) .nil (.con (.int (8))))) (envN p2 us (.v (rangeV 0 20)[i]) (.v (.str (S l2))) s4') = some (.nx, envN p2 us (.v (rangeV 0 20)[i]) (.v (.str (S (l2.take 8)))) s4') := by
        have := s_asgn (n := 3) (e_slc (C := callN T (n + 2)) (a := .var 3) (lo := .nil) (hi := .con (.int 8)) (ρ := envN p2 us (.v (rangeV 0 20)[i]) (.v (.str (S l2))) s4') (e_var rfl) p_nil (p_int e_con) (slc_str (by simp [line]; omega)))
        rw [cut_to (by decide)] at this
        exact this
      have t1 : asgT (.n 2) (rangeV 0 20)[i] (envN p' us s2 s3 s4) = some (envN p' us (.v (rangeV 0 20)[i]) s3 s4) := rfl
      have a0 : exec (callN T (n + 2)) (.asg (.n 3) (.con (.str (S [])))) (envN p' us (.v (rangeV 0 20)[i]) s3 s4) = some (.nx, envN p' us (.v (rangeV 0 20)[i]) (.v (.str (S []))) s4) := s_asgn e_con
      rcases name_last (p := p2) (us := us) (s2 := .v (rangeV 0 20)[i]) (s4 := s4') (n := n) hw ho hk (l := l2.take 8) (by simp; omega) (by simp; omega) (fun c hc => b3 c (List.mem_of_mem_take hc)) with e4 | ⟨e4, g1, g2⟩
      · exact .inl ⟨_, turn t1 (s_seq a0 (s_seq e1 (s_seq e2 (s_seq e3 (s_seq e4 s_skip))))), p2, _, _, _, rfl, hp2⟩
      · exact .inr ⟨_, _, turn t1 (s_seq a0 (s_seq e1 (s_seq e2 (s_seq e3 (s_seqr e4))))), p2, _, _, _, rfl, hp2, .inr ⟨_, rfl, g1, g2⟩⟩) (fun ρ hI => by
      obtain ⟨p', s2, s3, s4, rfl, hp'⟩ := hI
      exact ⟨p', s2, s3, s4, rfl, hp', .inl rfl⟩)
  obtain ⟨p', s2, s3, s4, rfl, hp', ho'⟩ := h2
  have ef : exec (callN T (n + 2)) (.for_ (.n 2) (.irange1 (.con (.int (20)))) nameTurn) (envN p us .u .u .u) = some (o, envN p' us s2 s3 s4) := s_for (i_range1 e_con (by decide)) e
  rcases ho' with rfl | ⟨s, rfl, g1, g2⟩
  · obtain ⟨c, mc, nc, ec⟩ := name_left (C := callN T (n + 2)) (p := p') (us := us) (s2 := s2) (s3 := s3) (s4 := s4) hus
    exact ⟨_, p', call_pool_rt hn rfl rfl rfl rfl (s_seq ef (s_seqr (s_rt ec))) rfl, hp', left_good c mc, nc⟩
  · exact ⟨s, p', call_pool_rt hn rfl rfl rfl rfl (s_seqr ef) rfl, hp', g1, g2⟩
end
end PL
set_option maxHeartbeats 2000000
/-! P2: order; a drawn street. -/
namespace PL
open PySem PyProof.Rows
abbrev dLt (x y : Val) : Bool := PySem.W.dataLt x y
theorem leD_eq (x y : Val) : leD x y = !dLt y x := congrFun (congrFun (PySem.W.dataLe_eq false id) x) y
theorem dLt_irr (x : Val) : dLt x x = false := lex_irrefl _
theorem dLt_trans {x y z : Val} (h : dLt x y = true) (h2 : dLt y z = true) : dLt x z = true := lex_trans _ _ _ h h2
theorem dLt_asym {x y : Val} (h : dLt x y = true) : dLt y x = false := by
  cases e : dLt y x with
  | false => rfl
  | true => have := dLt_trans h e; rw [dLt_irr] at this; cases this
theorem dLt_tri {x y : Val} (h : dLt x y = false) (h2 : dLt y x = false) : PySem.W.keyToks x = PySem.W.keyToks y := lex_total _ _ h h2
theorem leD_trans (x y z : Val) (h : leD x y = true) (h2 : leD y z = true) : leD x z = true := by
  rw [leD_eq, Bool.not_eq_true'] at *
  cases e : dLt z x with
  | false => rfl
  | true =>
    rcases lex_negTrans (O := itemOrd) (PySem.W.keyToks z) (PySem.W.keyToks y) (PySem.W.keyToks x) e with q | q
    · have q' : dLt z y = true := q
      rw [h2] at q'; cases q'
    · have q' : dLt y x = true := q
      rw [h] at q'; cases q'
theorem leD_total (x y : Val) : (leD x y || leD y x) = true := by
  rw [leD_eq, leD_eq]
  cases e : dLt y x with
  | false => rfl
  | true => rw [dLt_asym e]; rfl
theorem sorted_le (xs : List Val) : (xs.mergeSort leD).Pairwise fun a b => leD a b = true := List.pairwise_mergeSort leD_trans leD_total xs
/-- codes that the order tells apart -/
theorem sort_enc {α : Type} (enc : α → Val) (xs : List α) : (xs.map enc).mergeSort leD = (xs.mergeSort fun a b => leD (enc a) (enc b)).map enc := (List.map_mergeSort (r := fun a b => leD (enc a) (enc b)) (s := leD) (f := enc) (l := xs) fun _ _ _ _ => rfl).symm
theorem sort_strict {α : Type} {enc : α → Val} (inj : ∀ a b, PySem.W.keyToks (enc a) = PySem.W.keyToks (enc b) → a = b) {xs : List α} (nd : xs.Nodup) : (xs.mergeSort fun a b => leD (enc a) (enc b)).Pairwise fun a b => dLt (enc a) (enc b) = true := by
  have h1 : (xs.mergeSort fun a b => leD (enc a) (enc b)).Pairwise fun a b => leD (enc a) (enc b) = true := List.pairwise_mergeSort (le := fun a b => leD (enc a) (enc b)) (fun a b c => leD_trans (enc a) (enc b) (enc c)) (fun a b => leD_total (enc a) (enc b)) xs
  have h2 : (xs.mergeSort fun a b => leD (enc a) (enc b)).Nodup := (List.mergeSort_perm xs _).nodup_iff.mpr nd
  refine (h1.and h2).imp fun {a b} h => ?_
  have h3 := h.1
  rw [leD_eq, Bool.not_eq_true'] at h3
  cases e : dLt (enc a) (enc b) with
  | true => rfl
  | false => exact absurd (inj a b (dLt_tri e h3)) h.2
theorem toks_str {a b : Str} (h : PySem.W.keyToks (.str a) = PySem.W.keyToks (.str b)) : a = b := by
  have : a.cps.toList = b.cps.toList := by simpa [PySem.W.keyToks] using h
  exact PySem.W.str_of_cps this
abbrev sLt (a b : Str) : Bool := dLt (.str a) (.str b)
/-- two texts -/
def encP (t : Str × Str) : Val := .tuple [.str t.1, .str t.2]
theorem toks_pair {a b : Str × Str} (h : PySem.W.keyToks (encP a) = PySem.W.keyToks (encP b)) : a = b := by
  have h' : a.1.cps.toList = b.1.cps.toList ∧ a.2.cps.toList = b.2.cps.toList := by simpa [encP, PySem.W.keyToks, PySem.W.keyToksAll] using h
  exact Prod.ext (PySem.W.str_of_cps h'.1) (PySem.W.str_of_cps h'.2)
theorem encP_inj {a b : Str × Str} (h : encP a = encP b) : a = b := toks_pair (by rw [h])
theorem eqv_pair (a b : Str × Str) : PyData.eqv (encP a) (encP b) = decide (a = b) := by
  unfold encP
  rw [show PyData.eqv (.tuple [.str a.1, .str a.2]) (.tuple [.str b.1, .str b.2]) = (PyData.eqv (.str a.1) (.str b.1) && (PyData.eqv (.str a.2) (.str b.2) && true)) from by simp [PyData.eqv, PyData.eqvAll], eqv_str, eqv_str]
  obtain ⟨a1, a2⟩ := a
  obtain ⟨b1, b2⟩ := b
  by_cases h1 : a1 = b1 <;> by_cases h2 : a2 = b2 <;> simp [h1, h2]
theorem sort_strs {us : List Str} (h : us ≠ []) : biV .sorted [.list (us.map .str)] = some (.list ((us.mergeSort fun a b => leD (.str a) (.str b)).map .str)) := by
  show (if sortOk (us.map PyData.str) then some (PyData.list ((us.map PyData.str).mergeSort leD)) else none) = _
  have h1 : sortOk (us.map PyData.str) = true := by
    unfold sortOk allLike
    simp only [Bool.and_eq_true, Bool.or_eq_true, List.all_map]
    refine ⟨⟨⟨List.all_eq_true.mpr fun _ _ => rfl, List.all_eq_true.mpr fun _ _ => List.all_eq_true.mpr fun _ _ => rfl⟩, List.all_eq_true.mpr fun _ _ => rfl⟩, .inr (List.all_eq_true.mpr fun _ _ => rfl)⟩
  rw [h1, sort_enc]; rfl
/-- a dict of pairs of texts -/
def encD (ks : List (Str × Str)) : List (Val × Val) := ks.map fun t => (encP t, .bool true)
theorem kc_pair (t : Str × Str) : kc [.str t.1, .str t.2] = false := by
  simp [kc, constL, PyData.eqvAll, PyData.eqv, wordsL, rulesL]
theorem keyT_pair (t : Str × Str) : keyT (encP t) = true := by
  show ([PyData.str t.1, .str t.2].all keyS && !kc [.str t.1, .str t.2]) = true
  rw [kc_pair]; rfl
theorem dhas_pair (ks : List (Str × Str)) (t : Str × Str) : dhas (encD ks) (encP t) = decide (t ∈ ks) := by
  unfold dhas encD
  rw [List.any_map]
  induction ks with
  | nil => simp
  | cons k ks ih =>
    rw [List.any_cons, ih]
    show (PyData.eqv (encP k) (encP t) || _) = _
    rw [eqv_pair]
    by_cases h : k = t
    · simp [h]
    · have : ¬ t = k := fun e => h e.symm
      simp [h, this]
theorem dput_pair (ks : List (Str × Str)) (t : Str × Str) : dput (encD ks) (encP t) (.bool true) = encD (if t ∈ ks then ks else ks ++ [t]) := by
  unfold dput
  rw [dhas_pair]
  by_cases h : t ∈ ks
  · rw [if_pos (by simpa using h), if_pos h]
    unfold encD
    rw [List.map_map]
    refine List.map_congr_left fun k _ => ?_
    show (if PyData.eqv (encP k) (encP t) = true then (encP k, PyData.bool true) else (encP k, PyData.bool true)) = _
    split <;> rfl
  · rw [if_neg (by simpa using h), if_neg h]
    simp [encD]
theorem sort_keys {ks : List (Str × Str)} : biV .sorted [.dict (encD ks)] = some (.list ((ks.mergeSort fun a b => leD (encP a) (encP b)).map encP)) := by
  have e1 : (encD ks).map (·.1) = ks.map encP := by simp [encD, Function.comp_def]
  have h0 : ((encD ks).all fun kv => keyT kv.1) = true := by
    unfold encD
    rw [List.all_map]
    exact List.all_eq_true.mpr fun t _ => keyT_pair t
  have h1 : sortOk (ks.map encP) = true := by
    unfold sortOk allLike
    simp only [Bool.and_eq_true, Bool.or_eq_true, List.all_map]
    refine ⟨⟨⟨List.all_eq_true.mpr fun _ _ => rfl, List.all_eq_true.mpr fun _ _ => List.all_eq_true.mpr fun _ _ => rfl⟩, List.all_eq_true.mpr fun _ _ => rfl⟩, .inl (List.all_eq_true.mpr fun _ _ => rfl)⟩
  show (if (((encD ks).all fun kv => keyS kv.1) || ((encD ks).all fun kv => keyT kv.1)) && sortOk ((encD ks).map (·.1)) then some (PyData.list (((encD ks).map (·.1)).mergeSort leD)) else none) = _
  rw [h0, e1, h1, sort_enc, Bool.or_true]; rfl
/-! ### what a drawn street is -/
/-- ascending -/
abbrev Asc {α : Type} (enc : α → Val) (xs : List α) : Prop := xs.Pairwise fun a b => dLt (enc a) (enc b) = true
def wantsL : List (Int × Int) := [(1, 2), (1, 3), (1, 2), (2, 3), (1, 1), (0, 1), (2, 5)]
structure Strt (ps : List Str) (ts : List (Str × Str)) (w : Int × Int) : Prop where
  p2 : 2 ≤ ps.length
  p7 : ps.length ≤ 7
  nice : ∀ x ∈ ps, Good x
  pasc : Asc PyData.str ps
  tin : ∀ t ∈ ts, t.1 ∈ ps ∧ t.2 ∈ ps ∧ sLt t.1 t.2 = true
  tasc : Asc encP ts
  want : w ∈ wantsL
def encW (w : Int × Int) : Val := .tuple [.int w.1, .int w.2]
def encS (ps : List Str) (ts : List (Str × Str)) (w : Int × Int) : Val := .tuple [.tuple (ps.map .str), .tuple (ts.map encP), encW w]
section
variable {T : Tbl} {p : List Val} {n : Nat} {most way : Int}
abbrev envS (p : List Val) (most : Int) (pl : Slot) (way : Int) (ks : List (Str × Str)) (s5 s6 s7 : Slot) : PL.Env := [.L p, .v (.int most), pl, .v (.int way), .D true (encD ks), s5, s6, s7]
theorem pool_scalar (h : Pool p) : p.all scalar = true := by
  obtain ⟨a, b, c, rfl⟩ := h
  rfl
def streetNames : St := .for_ (.n 5) (.irange1 (.bop .add (.con (.int (2))) (.callP 23 0 (.cons (.bop .sub (.var 1) (.con (.int (1)))) .nil)))) (.seq (.append 2 (.borrow 2 (.callP 28 0 (.cons (.var 2) .nil)))) .skip)
theorem street_names (h : T 23 = some d__law_below) (h1 : T 24 = some d__law_one) (hw : T 26 = some d__law_words) (hn : T 28 = some d__law_name) {k : Nat} (ho : OwnOk T k) (hk : k ≤ n + 2) (hp : Pool p) (hm : 2 ≤ most) (hm2 : most ≤ 7) :
    ∃ (p' : List Val) (us : List Str) (s5 : Slot), exec (callN T (n + 3)) streetNames (envS p most (.L []) way [] .u .u .u) = some (.nx, envS p' most (.L (us.map .str)) way [] s5 .u .u) ∧ Pool p' ∧ 2 ≤ us.length ∧ us.length ≤ most ∧ us.Nodup ∧ ∀ u ∈ us, Good u := by
  obtain ⟨r, p1, e1, hp1, r0, r1⟩ := below_at h (n + 2) hp (m := most - 1) (by omega) (by omega)
  have ei : evI (callN T (n + 3)) (.irange1 (.bop .add (.con (.int (2))) (.callP 23 0 (.cons (.bop .sub (.var 1) (.con (.int (1)))) .nil)))) (envS p most (.L []) way [] .u .u .u) = some (rangeV 0 (2 + r).toNat, envS p1 most (.L []) way [] .u .u .u) :=
    i_range1 (e_bop e_con (e_callP rfl (a_cons (e_bop (e_var rfl) e_con sub_ok) a_nil) rfl e1) add_ok) (by omega)
  obtain ⟨ρ', e, p', us, s5, rfl, a1, a2, a3, a4⟩ := for_all (ρ := envS p1 most (.L []) way [] .u .u .u) (xs := rangeV 0 (2 + r).toNat) (step := fun x => bnd (asgM (.n 5) x) fun _ => exec (callN T (n + 3)) (.seq (.append 2 (.borrow 2 (.callP 28 0 (.cons (.var 2) .nil)))) .skip))
    (I := fun i ρ => ∃ p' us s5, ρ = envS p' most (.L (us.map .str)) way [] s5 .u .u ∧ Pool p' ∧ us.length = i ∧ us.Nodup ∧ ∀ u ∈ us, Good u) ⟨p1, [], _, rfl, hp1, rfl, List.nodup_nil, by simp⟩ (fun i hi ρ hI => by
      obtain ⟨p', us, s5, rfl, b1, b2, b3, b4⟩ := hI
      have hi' : i < 7 := by
        have : (rangeV 0 (2 + r).toNat).length = (2 + r).toNat := by simp [rangeV]
        omega
      obtain ⟨s, p2, e2, hp2, gs2, ns⟩ := name_at h h1 hw hn (n := n) ho hk b1 (us := us) (by omega) (fun u hu => (b4 u hu).1)
      have eb : ev (callN T (n + 3)) (.borrow 2 (.callP 28 0 (.cons (.var 2) .nil))) (envS p' most (.L (us.map .str)) way [] (.v (rangeV 0 (2 + r).toNat)[i]) .u .u) = some (.str s, envS p2 most (.L (us.map .str)) way [] (.v (rangeV 0 (2 + r).toNat)[i]) .u .u) := by
        refine e_borrow (y := .list (us.map .str)) (ρ1 := envS p2 most (.v (.list (us.map .str))) way [] (.v (rangeV 0 (2 + r).toNat)[i]) .u .u) (ρ2 := envS p2 most .u way [] (.v (rangeV 0 (2 + r).toNat)[i]) .u .u) rfl (e_callP rfl (a_cons (e_var rfl) a_nil) rfl e2) rfl ?_
        show backE (Slot.L p' :: _) (Slot.L p2 :: _) = _
        unfold backE
        have : back1 (.L p') (.L p2) = some (.L p2) := by
          unfold back1
          simp only [pool_scalar hp2, if_true]
        rw [this]
        rfl
      refine ⟨envS p2 most (.L ((us ++ [s]).map .str)) way [] (.v (rangeV 0 (2 + r).toNat)[i]) .u .u, turn (ρ1 := envS p' most (.L (us.map .str)) way [] (.v (rangeV 0 (2 + r).toNat)[i]) .u .u) rfl (s_seq (ρ1 := envS p2 most (.L ((us ++ [s]).map .str)) way [] (.v (rangeV 0 (2 + r).toNat)[i]) .u .u) ?_ s_skip), p2, us ++ [s], _, rfl, hp2, by simp [b2], ?_, fun u hu => ?_⟩
      · have := s_append (n := 2) rfl eb rfl (by simp [line]; omega)
        rw [List.map_append]
        exact this
      · rw [List.nodup_append]
        exact ⟨b3, by simp, fun a ha b hb => by rw [List.mem_singleton.mp hb]; exact fun e => ns (e ▸ ha)⟩
      · rcases List.mem_append.mp hu with hu | hu
        · exact b4 u hu
        · rw [List.mem_singleton.mp hu]; exact gs2)
  have len : (rangeV 0 (2 + r).toNat).length = (2 + r).toNat := by simp [rangeV]
  exact ⟨p', us, s5, s_for ei e, a1, by omega, by omega, a3, a4⟩
/-- ties so far -/
structure KS (ps : List Str) (ks : List (Str × Str)) : Prop where
  nd : ks.Nodup
  ok : ∀ t ∈ ks, t.1 ∈ ps ∧ t.2 ∈ ps ∧ sLt t.1 t.2 = true
theorem KS.nil {ps : List Str} : KS ps [] := ⟨List.nodup_nil, by simp⟩
theorem pairs_len (ps : List Str) : (ps.flatMap fun a => ps.map fun b => (a, b)).length = ps.length * ps.length := by
  rw [List.length_flatMap]
  simp only [List.length_map]
  have : ∀ (l : List Str) (c : Nat), (l.map fun _ => c).sum = l.length * c := fun l c => by
    induction l with
    | nil => simp
    | cons x l ih => rw [List.map_cons, List.sum_cons, ih, List.length_cons, Nat.succ_mul, Nat.add_comm]
  exact this ps ps.length
theorem KS.len {ps : List Str} {ks : List (Str × Str)} (K : KS ps ks) : ks.length ≤ ps.length * ps.length := by
  rw [← pairs_len]
  refine nodup_len K.nd fun t ht => ?_
  obtain ⟨h1, h2, _⟩ := K.ok t ht
  exact List.mem_flatMap.mpr ⟨t.1, h1, List.mem_map.mpr ⟨t.2, h2, rfl⟩⟩
theorem KS.put {ps : List Str} {ks : List (Str × Str)} (K : KS ps ks) {t : Str × Str} (h : t.1 ∈ ps ∧ t.2 ∈ ps ∧ sLt t.1 t.2 = true) : KS ps (if t ∈ ks then ks else ks ++ [t]) := by
  split
  · exact K
  · rename_i hn
    refine ⟨?_, fun u hu => ?_⟩
    · rw [List.nodup_append]
      exact ⟨K.nd, by simp, fun a ha b hb => by rw [List.mem_singleton.mp hb]; exact fun e => hn (e ▸ ha)⟩
    · rcases List.mem_append.mp hu with hu | hu
      · exact K.ok u hu
      · rw [List.mem_singleton.mp hu]; exact h
abbrev plV (ps : List Str) : Slot := .v (.tuple (ps.map .str))
theorem tie_put {C : Sem} {ps : List Str} (h7 : ps.length ≤ 7) {A B : Ex} {p1 : List Val} {ks : List (Str × Str)} {s5 s6 s7 : Slot} {i j : Int} {a b : Str} (hA : ev C A (envS p most (plV ps) way ks s5 s6 s7) = some (.int i, envS p1 most (plV ps) way ks s5 s6 s7)) (hB : ev C B (envS p1 most (plV ps) way ks s5 s6 s7) = some (.int j, envS p1 most (plV ps) way ks s5 s6 s7))
    (ea : idxV (.tuple (ps.map .str)) (.int i) = some (.str a)) (eb : idxV (.tuple (ps.map .str)) (.int j) = some (.str b)) (hab : a ∈ ps ∧ b ∈ ps ∧ sLt a b = true) (K : KS ps ks) :
    ∃ ks', exec C (.asg (.sub 4 (.tup (.cons (.idx (.var 2) A) (.cons (.idx (.var 2) B) .nil)))) (.con (.bool true))) (envS p most (plV ps) way ks s5 s6 s7) = some (.nx, envS p1 most (plV ps) way ks' s5 s6 s7) ∧ KS ps ks' := by
  refine ⟨_, ?_, K.put (t := (a, b)) hab⟩
  have hl : (encD ks).length < line := by
    have := K.len
    have h49 : ps.length * ps.length ≤ 7 * 7 := Nat.mul_le_mul h7 h7
    simp [encD, line]; omega
  have := s_asg (C := C) (ta := .sub 4 (.tup (.cons (.idx (.var 2) A) (.cons (.idx (.var 2) B) .nil)))) (e := .con (.bool true)) (ρ := envS p most (plV ps) way ks s5 s6 s7) e_con
    (t_sub (by intro hh; cases hh) (e_tup (a_cons (e_idx (e_var rfl) hA ea) (a_cons (e_idx (e_var rfl) hB eb) a_nil))) (subD (n := 4) (t := true) (kvs := encD ks) (y := encP (a, b)) rfl (by rw [show keyOk true (encP (a, b)) = keyT (encP (a, b)) from rfl, keyT_pair]; simpa using hl)))
  rw [dput_pair] at this
  exact this
/-- an index of the places -/
theorem idx_pl {ps : List Str} {i : Int} (h0 : 0 ≤ i) (h1 : i < ps.length) : idxV (.tuple (ps.map .str)) (.int i) = some (.str (ps.getD i.toNat (S []))) ∧ ps.getD i.toNat (S []) ∈ ps := by
  have hl : i.toNat < ps.length := by omega
  refine ⟨?_, ?_⟩
  · show atP (ps.map PyData.str) i = _
    unfold atP ixP
    rw [if_pos h0, if_pos (by simpa using h1)]
    simp [List.getElem?_eq_getElem hl]
  · simp [List.getD_eq_getElem?_getD, List.getElem?_eq_getElem hl]
theorem asc_get {ps : List Str} (ha : Asc PyData.str ps) {i j : Int} (h0 : 0 ≤ i) (hij : i < j) (hj : j < ps.length) : sLt (ps.getD i.toNat (S [])) (ps.getD j.toNat (S [])) = true := by
  have hi : i.toNat < ps.length := by omega
  have hj' : j.toNat < ps.length := by omega
  have := List.pairwise_iff_getElem.mp ha i.toNat j.toNat hi hj' (by omega)
  simpa [List.getD_eq_getElem?_getD, List.getElem?_eq_getElem hi, List.getElem?_eq_getElem hj'] using this
def tieOne : St := .ite (.cmp .lt (.var 3) (.con (.int (3)))) (.seq (.asg (.sub 4 (.tup (.cons (.idx (.var 2) (.ife (.cmp .eq (.var 3) (.con (.int (0)))) (.callP 23 0 (.cons (.var 6) .nil)) (.bop .sub (.var 6) (.con (.int (1)))))) (.cons (.idx (.var 2) (.var 6)) .nil)))) (.con (.bool true))) .skip) .skip
def tieMany : St := .ite (.and (.cmp .gt (.var 3) (.con (.int (2)))) (.cmp .eq (.callP 23 0 (.cons (.idx (.tup (.cons (.con (.int (1))) (.cons (.con (.int (1))) (.cons (.con (.int (1))) (.cons (.con (.int (2))) (.cons (.con (.int (3))) (.cons (.con (.int (5))) .nil))))))) (.var 3)) .nil)) (.con (.int (0))))) (.seq (.asg (.sub 4 (.tup (.cons (.idx (.var 2) (.var 7)) (.cons (.idx (.var 2) (.var 6)) .nil)))) (.con (.bool true))) .skip) .skip
def tieFor : St := .for_ (.n 7) (.irange1 (.var 6)) (.seq tieMany .skip)
def streetTies : St := .for_ (.n 6) (.irange2 (.con (.int (1))) (.bi .len (.cons (.var 2) .nil))) (.seq tieOne (.seq tieFor .skip))
def streetRing : St := .ite (.and (.cmp .eq (.var 3) (.con (.int (1)))) (.cmp .gt (.bi .len (.cons (.var 2) .nil)) (.con (.int (2))))) (.seq (.asg (.sub 4 (.tup (.cons (.idx (.var 2) (.con (.int (0)))) (.cons (.idx (.var 2) (.neg (.con (.int (1))))) .nil)))) (.con (.bool true))) .skip) .skip
variable {ps : List Str} {ks : List (Str × Str)} {s5 s6 s7 : Slot}
theorem tie_one (h : T 23 = some d__law_below) (hp : Pool p) (h7 : ps.length ≤ 7) (ha : Asc PyData.str ps) (K : KS ps ks) {k : Int} (k1 : 1 ≤ k) (k2 : k < ps.length) :
    ∃ p' ks', exec (callN T (n + 1)) tieOne (envS p most (plV ps) way ks s5 (.v (.int k)) s7) = some (.nx, envS p' most (plV ps) way ks' s5 (.v (.int k)) s7) ∧ Pool p' ∧ KS ps ks' := by
  have c : ev (callN T (n + 1)) (.cmp .lt (.var 3) (.con (.int (3)))) (envS p most (plV ps) way ks s5 (.v (.int k)) s7) = some (.bool (decide (way < 3)), envS p most (plV ps) way ks s5 (.v (.int k)) s7) := e_cmp (e_var rfl) e_con lt_int
  by_cases hw : way < 3
  · have c0 : ev (callN T (n + 1)) (.cmp .eq (.var 3) (.con (.int (0)))) (envS p most (plV ps) way ks s5 (.v (.int k)) s7) = some (.bool (decide (way = 0)), envS p most (plV ps) way ks s5 (.v (.int k)) s7) := e_cmp (e_var rfl) e_con eq_int
    obtain ⟨i, p1, ei, hp1, i0, i1⟩ : ∃ (i : Int) (p1 : List Val), ev (callN T (n + 1)) (.ife (.cmp .eq (.var 3) (.con (.int (0)))) (.callP 23 0 (.cons (.var 6) .nil)) (.bop .sub (.var 6) (.con (.int (1))))) (envS p most (plV ps) way ks s5 (.v (.int k)) s7) = some (.int i, envS p1 most (plV ps) way ks s5 (.v (.int k)) s7) ∧ Pool p1 ∧ 0 ≤ i ∧ i < k := by
      by_cases h0 : way = 0
      · obtain ⟨r, p1, e, hp1, r0, r1⟩ := below_at h n hp (m := k) (by omega) (by omega)
        exact ⟨r, p1, e_if1 c0 (decide_eq_true h0) (e_callP rfl (a_cons (e_var rfl) a_nil) rfl e), hp1, r0, r1⟩
      · exact ⟨k - 1, p, e_if0 c0 (decide_eq_false h0) (e_bop (e_var rfl) e_con sub_ok), hp, by omega, by omega⟩
    obtain ⟨ea, ma⟩ := idx_pl (ps := ps) i0 (by omega)
    obtain ⟨eb, mb⟩ := idx_pl (ps := ps) (i := k) (by omega) k2
    obtain ⟨ks', e, K'⟩ := tie_put h7 ei (e_var (n := 6) rfl) ea eb ⟨ma, mb, asc_get ha i0 i1 k2⟩ K
    exact ⟨p1, ks', s_if1 c (decide_eq_true hw) (s_seq e s_skip), hp1, K'⟩
  · exact ⟨p, ks, s_if0 c (decide_eq_false hw) s_skip, hp, K⟩
theorem tie_many (h : T 23 = some d__law_below) (hp : Pool p) (h7 : ps.length ≤ 7) (ha : Asc PyData.str ps) (K : KS ps ks) (w0 : 0 ≤ way) (w1 : way < 6) {j k : Int} (j0 : 0 ≤ j) (j1 : j < k) (k2 : k < ps.length) :
    ∃ p' ks', exec (callN T (n + 1)) tieMany (envS p most (plV ps) way ks s5 (.v (.int k)) (.v (.int j))) = some (.nx, envS p' most (plV ps) way ks' s5 (.v (.int k)) (.v (.int j))) ∧ Pool p' ∧ KS ps ks' := by
  have c : ev (callN T (n + 1)) (.cmp .gt (.var 3) (.con (.int (2)))) (envS p most (plV ps) way ks s5 (.v (.int k)) (.v (.int j))) = some (.bool (decide (2 < way)), envS p most (plV ps) way ks s5 (.v (.int k)) (.v (.int j))) := e_cmp (e_var rfl) e_con gt_int
  by_cases hw : 2 < way
  · obtain ⟨m, em, m0, m1⟩ : ∃ m : Int, idxV (.tuple [.int 1, .int 1, .int 1, .int 2, .int 3, .int 5]) (.int way) = some (.int m) ∧ 0 < m ∧ m < 1073741824 := by
      have : way = 3 ∨ way = 4 ∨ way = 5 := by omega
      rcases this with rfl | rfl | rfl
      · exact ⟨2, rfl, by decide, by decide⟩
      · exact ⟨3, rfl, by decide, by decide⟩
      · exact ⟨5, rfl, by decide, by decide⟩
    obtain ⟨r, p1, e, hp1, r0, r1⟩ := below_at h n hp m0 m1
    have c2 : ev (callN T (n + 1)) (.and (.cmp .gt (.var 3) (.con (.int (2)))) (.cmp .eq (.callP 23 0 (.cons (.idx (.tup (.cons (.con (.int (1))) (.cons (.con (.int (1))) (.cons (.con (.int (1))) (.cons (.con (.int (2))) (.cons (.con (.int (3))) (.cons (.con (.int (5))) .nil))))))) (.var 3)) .nil)) (.con (.int (0))))) (envS p most (plV ps) way ks s5 (.v (.int k)) (.v (.int j))) = some (.bool (decide (r = 0)), envS p1 most (plV ps) way ks s5 (.v (.int k)) (.v (.int j))) :=
      e_and1 c (decide_eq_true hw) (e_cmp (e_callP rfl (a_cons (e_idx (e_tup (a_cons e_con (a_cons e_con (a_cons e_con (a_cons e_con (a_cons e_con (a_cons e_con a_nil))))))) (e_var rfl) em) a_nil) rfl e) e_con eq_int)
    by_cases hr : r = 0
    · obtain ⟨ea, ma⟩ := idx_pl (ps := ps) j0 (by omega)
      obtain ⟨eb, mb⟩ := idx_pl (ps := ps) (i := k) (by omega) k2
      obtain ⟨ks', e', K'⟩ := tie_put (C := callN T (n + 1)) (p := p1) (most := most) (way := way) (s5 := s5) (s6 := .v (.int k)) (s7 := .v (.int j)) h7 (e_var (n := 7) rfl) (e_var (n := 6) rfl) ea eb ⟨ma, mb, asc_get ha j0 j1 k2⟩ K
      exact ⟨p1, ks', s_if1 c2 (decide_eq_true hr) (s_seq e' s_skip), hp1, K'⟩
    · exact ⟨p1, ks, s_if0 c2 (decide_eq_false hr) s_skip, hp1, K⟩
  · exact ⟨p, ks, s_if0 (e_and0 c (decide_eq_false hw)) rfl s_skip, hp, K⟩
theorem range_get {lo : Int} {m i : Nat} (h : i < (rangeV lo m).length) : (rangeV lo m)[i] = .int (lo + (i : Nat)) := by
  simp [rangeV]
theorem range_len {lo : Int} {m : Nat} : (rangeV lo m).length = m := by simp [rangeV]
theorem tie_for (h : T 23 = some d__law_below) (hp : Pool p) (h7 : ps.length ≤ 7) (ha : Asc PyData.str ps) (K : KS ps ks) (w0 : 0 ≤ way) (w1 : way < 6) {k : Int} (k1 : 1 ≤ k) (k2 : k < ps.length) :
    ∃ p' ks' s7', exec (callN T (n + 1)) tieFor (envS p most (plV ps) way ks s5 (.v (.int k)) s7) = some (.nx, envS p' most (plV ps) way ks' s5 (.v (.int k)) s7') ∧ Pool p' ∧ KS ps ks' := by
  obtain ⟨ρ', e, p', ks', s7', rfl, a1, a2⟩ := for_all (ρ := envS p most (plV ps) way ks s5 (.v (.int k)) s7) (xs := rangeV 0 k.toNat) (step := fun x => bnd (asgM (.n 7) x) fun _ => exec (callN T (n + 1)) (.seq tieMany .skip))
    (I := fun i ρ => ∃ p' ks' s7', ρ = envS p' most (plV ps) way ks' s5 (.v (.int k)) s7' ∧ Pool p' ∧ KS ps ks') ⟨p, ks, s7, rfl, hp, K⟩ (fun i hi ρ hI => by
      obtain ⟨p', ks', s7', rfl, b1, b2⟩ := hI
      have hi' : i < k.toNat := by rw [range_len] at hi; exact hi
      rw [range_get]
      obtain ⟨p2, ks2, e2, c1, c2⟩ := tie_many (n := n) (most := most) (way := way) (s5 := s5) h b1 h7 ha b2 w0 w1 (j := 0 + (i : Nat)) (k := k) (by omega) (by omega) k2
      exact ⟨_, turn (ρ1 := envS p' most (plV ps) way ks' s5 (.v (.int k)) (.v (.int (0 + (i : Nat))))) rfl (s_seq e2 s_skip), p2, ks2, _, rfl, c1, c2⟩)
  exact ⟨p', ks', s7', s_for (i_range1 (e_var rfl) (by omega)) e, a1, a2⟩
theorem street_ties (h : T 23 = some d__law_below) (hp : Pool p) (h2 : 2 ≤ ps.length) (h7 : ps.length ≤ 7) (ha : Asc PyData.str ps) (w0 : 0 ≤ way) (w1 : way < 6) :
    ∃ p' ks' s6' s7', exec (callN T (n + 1)) streetTies (envS p most (plV ps) way [] s5 s6 s7) = some (.nx, envS p' most (plV ps) way ks' s5 s6' s7') ∧ Pool p' ∧ KS ps ks' := by
  have el : biV .len [.tuple (ps.map .str)] = some (.int ps.length) := by rw [len_tup, List.length_map]
  obtain ⟨ρ', e, p', ks', s6', s7', rfl, a1, a2⟩ := for_all (ρ := envS p most (plV ps) way [] s5 s6 s7) (xs := rangeV 1 ((ps.length : Int) - 1).toNat) (step := fun x => bnd (asgM (.n 6) x) fun _ => exec (callN T (n + 1)) (.seq tieOne (.seq tieFor .skip)))
    (I := fun i ρ => ∃ p' ks' s6' s7', ρ = envS p' most (plV ps) way ks' s5 s6' s7' ∧ Pool p' ∧ KS ps ks') ⟨p, [], s6, s7, rfl, hp, KS.nil⟩ (fun i hi ρ hI => by
      obtain ⟨p', ks', s6', s7', rfl, b1, b2⟩ := hI
      have hi' : i < ((ps.length : Int) - 1).toNat := by rw [range_len] at hi; exact hi
      rw [range_get]
      obtain ⟨p2, ks2, e2, c1, c2⟩ := tie_one (n := n) (most := most) (way := way) (s5 := s5) (s7 := s7') h b1 h7 ha b2 (k := 1 + (i : Nat)) (by omega) (by omega)
      obtain ⟨p3, ks3, s73, e3, d1, d2⟩ := tie_for (n := n) (most := most) (way := way) (s5 := s5) (s7 := s7') h c1 h7 ha c2 w0 w1 (k := 1 + (i : Nat)) (by omega) (by omega)
      exact ⟨_, turn (ρ1 := envS p' most (plV ps) way ks' s5 (.v (.int (1 + (i : Nat)))) s7') rfl (s_seq e2 (s_seq e3 s_skip)), p3, ks3, _, _, rfl, d1, d2⟩)
  exact ⟨p', ks', s6', s7', s_for (i_range2 e_con (e_bi (a_cons (e_var rfl) a_nil) el) (by omega)) e, a1, a2⟩
theorem street_ring {C : Sem} (h2 : 2 ≤ ps.length) (h7 : ps.length ≤ 7) (ha : Asc PyData.str ps) (K : KS ps ks) :
    ∃ ks', exec C streetRing (envS p most (plV ps) way ks s5 s6 s7) = some (.nx, envS p most (plV ps) way ks' s5 s6 s7) ∧ KS ps ks' := by
  have el : biV .len [.tuple (ps.map .str)] = some (.int ps.length) := by rw [len_tup, List.length_map]
  have c : ev C (.and (.cmp .eq (.var 3) (.con (.int (1)))) (.cmp .gt (.bi .len (.cons (.var 2) .nil)) (.con (.int (2))))) (envS p most (plV ps) way ks s5 s6 s7) = some (.bool (decide (way = 1) && decide (2 < (ps.length : Int))), envS p most (plV ps) way ks s5 s6 s7) :=
    e_and (e_cmp (e_var rfl) e_con eq_int) fun _ => e_cmp (e_bi (a_cons (e_var rfl) a_nil) el) e_con gt_int
  cases hq : (decide (way = 1) && decide (2 < (ps.length : Int))) with
  | true =>
    obtain ⟨ea, ma⟩ := idx_pl (ps := ps) (i := 0) (by omega) (by omega)
    obtain ⟨eb, mb⟩ := idx_pl (ps := ps) (i := (ps.length : Int) - 1) (by omega) (by omega)
    have eb' : idxV (.tuple (ps.map .str)) (.int (-1)) = some (.str (ps.getD ((ps.length : Int) - 1).toNat (S []))) := by
      rw [← eb]
      show atP (ps.map PyData.str) (-1) = atP (ps.map PyData.str) ((ps.length : Int) - 1)
      unfold atP ixP
      rw [if_neg (by decide), if_pos (by simp; omega), if_pos (by omega), if_pos (by simp; omega)]
      congr 1
      simp
      congr 1
      omega
    obtain ⟨ks', e, K'⟩ := tie_put (C := C) (p := p) (most := most) (way := way) (s5 := s5) (s6 := s6) (s7 := s7) h7 (e_con (x := .int 0)) (e_neg (e_con (x := .int 1))) ea eb' ⟨ma, mb, asc_get ha (by omega) (by omega) (by omega)⟩ K
    exact ⟨ks', s_if1 c hq (s_seq e s_skip), K'⟩
  | false => exact ⟨ks, s_if0 c hq s_skip, K⟩
/-- a drawn street -/
theorem street_at (h : T 23 = some d__law_below) (h1 : T 24 = some d__law_one) (hw : T 26 = some d__law_words) (hn : T 28 = some d__law_name) (hs : T 29 = some d__law_street) {k : Nat} (ho : OwnOk T k) (hk : k ≤ n + 2) (hp : Pool p) (hm : 2 ≤ most) (hm2 : most ≤ 7) :
    ∃ (ps : List Str) (ts : List (Str × Str)) (w : Int × Int) (p' : List Val), (callN T (n + 4)).call 29 (some p) [.int most] = some (encS ps ts w, p') ∧ Pool p' ∧ Strt ps ts w ∧ ps.length ≤ most := by
  obtain ⟨way, p1, e1, hp1, w0, w1⟩ := below_at h (n + 2) hp (m := 6) (by decide) (by decide)
  have x0 : exec (callN T (n + 3)) (.par [(2, true), (3, false), (4, true)] (.cons (.lst .nil) (.cons (.callP 23 0 (.cons (.con (.int (6))) .nil)) (.cons (.dlit true .nil) .nil)))) [.L p, .v (.int most), .u, .u, .u, .u, .u, .u] = some (.nx, envS p1 most (.L []) way [] .u .u .u) :=
    s_par (m_o (o_lst (e_lst a_nil)) (m_v (e_callP rfl (a_cons e_con a_nil) rfl e1) (m_o o_dnew m_nil)))
  obtain ⟨p2, us, s5, x1, hp2, u2, um, und, ug⟩ := street_names (way := way) (n := n) h h1 hw hn ho hk hp1 hm hm2
  have une : us ≠ [] := by intro e; subst e; simp at u2
  let ps := us.mergeSort fun a b => leD (.str a) (.str b)
  have pperm : ps.Perm us := List.mergeSort_perm us _
  have plen : ps.length = us.length := pperm.length_eq
  have pasc : Asc PyData.str ps := sort_strict (enc := PyData.str) (fun a b => toks_str) und
  have x2 : exec (callN T (n + 3)) (.asg (.n 2) (.bi .tuple (.cons (.bi .sorted (.cons (.var 2) .nil)) .nil))) (envS p2 most (.L (us.map .str)) way [] s5 .u .u) = some (.nx, envS p2 most (plV ps) way [] s5 .u .u) := by
    refine s_asgn (n := 2) (x := .tuple (ps.map .str)) (ρ1 := envS p2 most (.v (.list (us.map .str))) way [] s5 .u .u) ?_
    exact e_bi (a_cons (e_bi (a_cons (e_frzL rfl) a_nil) (sort_strs une)) a_nil) rfl
  obtain ⟨p3, ks, s6, s7, x3, hp3, K⟩ := street_ties (n := n + 2) (most := most) (s5 := s5) (s6 := .u) (s7 := .u) h hp2 (ps := ps) (by omega) (by omega) pasc w0 w1
  obtain ⟨ks', x4, K'⟩ := street_ring (C := callN T (n + 3)) (p := p3) (most := most) (way := way) (s5 := s5) (s6 := s6) (s7 := s7) (ps := ps) (by omega) (by omega) pasc K
  let ts := ks'.mergeSort fun a b => leD (encP a) (encP b)
  have tperm : ts.Perm ks' := List.mergeSort_perm ks' _
  obtain ⟨y, p4, e5, hp4, my⟩ := one_tup h h1 (n + 1) hp3 (xs := wantsL.map encW) (by simp [wantsL]) (by simp [wantsL])
  obtain ⟨w, mw, rfl⟩ := List.mem_map.mp my
  refine ⟨ps, ts, w, p4, call_pool_rt (ρ := [.L p4, .v (.int most), plV ps, .v (.int way), .v (.dict (encD ks')), s5, s6, s7]) hs rfl rfl rfl rfl (s_seq x0 (s_seq x1 (s_seq x2 (s_seq x3 (s_seq x4 (s_seqr (s_rt ?_))))))) rfl, hp4, ⟨by omega, by omega, fun x hx => ug x (pperm.mem_iff.mp hx), pasc, fun t ht => K'.ok t (tperm.mem_iff.mp ht), sort_strict (enc := encP) (fun a b => toks_pair) K'.nd, mw⟩, by omega⟩
  have ew : ∀ (C : Sem) (ρ : PL.Env), ev C (.tup (.cons (.tup (.cons (.con (.int (1))) (.cons (.con (.int (2))) .nil))) (.cons (.tup (.cons (.con (.int (1))) (.cons (.con (.int (3))) .nil))) (.cons (.tup (.cons (.con (.int (1))) (.cons (.con (.int (2))) .nil))) (.cons (.tup (.cons (.con (.int (2))) (.cons (.con (.int (3))) .nil))) (.cons (.tup (.cons (.con (.int (1))) (.cons (.con (.int (1))) .nil))) (.cons (.tup (.cons (.con (.int (0))) (.cons (.con (.int (1))) .nil))) (.cons (.tup (.cons (.con (.int (2))) (.cons (.con (.int (5))) .nil))) .nil)))))))) ρ = some (.tuple (wantsL.map encW), ρ) := fun C ρ =>
    e_tup (a_cons (e_tup (a_cons e_con (a_cons e_con a_nil))) (a_cons (e_tup (a_cons e_con (a_cons e_con a_nil))) (a_cons (e_tup (a_cons e_con (a_cons e_con a_nil))) (a_cons (e_tup (a_cons e_con (a_cons e_con a_nil))) (a_cons (e_tup (a_cons e_con (a_cons e_con a_nil))) (a_cons (e_tup (a_cons e_con (a_cons e_con a_nil))) (a_cons (e_tup (a_cons e_con (a_cons e_con a_nil))) a_nil))))))) (by simp [line, wantsL])
  have e6 := e_callP (C := callN T (n + 3)) (f := 24) (n := 0) (ρ := [.L p3, .v (.int most), plV ps, .v (.int way), .v (.dict (encD ks')), s5, s6, s7]) rfl (a_cons (ew _ _) a_nil) rfl e5
  exact e_tup (a_cons (e_var rfl) (a_cons (e_bi (a_cons (e_bi (a_cons (e_frzD rfl) a_nil) sort_keys) a_nil) rfl) (a_cons e6 a_nil)))
end
end PL
set_option maxHeartbeats 2000000
/-! P3: a drawn street is let. -/
namespace PL
open PySem PyProof.Rows
theorem all_true {α : Type} : ∀ l : List α, biV .all [.list (l.map fun _ => PyData.bool true)] = some (.bool true)
  | l => by
    have h : boolsOf (l.map fun _ => PyData.bool true) = some (l.map fun _ => true) := by
      induction l with
      | nil => rfl
      | cons x l ih => simp only [List.map_cons, boolsOf, ih, Option.map_some]
    show (boolsOf (l.map fun _ => PyData.bool true)).map (fun bs => PyData.bool (bs.all id)) = _
    rw [h]
    simp
theorem enum_typed {α : Type} (enc : α → Val) : ∀ (xs : List α) (k : Int), enumV k (xs.map enc) = (xs.zipIdx 0).map fun p => .tuple [.int (k + (p.2 : Nat)), enc p.1] := by
  have key : ∀ (xs : List α) (k : Int) (j : Nat), enumV (k + j) (xs.map enc) = (xs.zipIdx j).map fun p => .tuple [.int (k + (p.2 : Nat)), enc p.1] := by
    intro xs
    induction xs with
    | nil => intro k j; rfl
    | cons x xs ih =>
      intro k j
      rw [List.map_cons, List.zipIdx_cons, List.map_cons]
      unfold enumV
      have := ih k (j + 1)
      rw [← this]
      congr 1
      congr 1
      push_cast
      omega
  intro xs k
  have := key xs k 0
  simpa using this
/-- the defs that each law has -/
structure TB (T : Tbl) : Prop where
  t0 : T 0 = some d_init
  t1 : T 1 = some d_is_whole
  t2 : T 2 = some d_is_one_of
  t3 : T 3 = some d_is_word
  t4 : T 4 = some d_is_name
  t5 : T 5 = some d_is_tuple_of
  t6 : T 6 = some d_is_pair
  t7 : T 7 = some d_wrong_in
  t8 : T 8 = some d_wrong_in_all
  t9 : T 9 = some d_are_below
  t10 : T 10 = some d_is_fraction
  t11 : T 11 = some d_is_part
  t12 : T 12 = some d_wrong_in_places
  t13 : T 13 = some d_is_tie
  t14 : T 14 = some d_wrong_in_ties
  t18 : T 18 = some d_check_want
  t19 : T 19 = some d_check_street
section
variable {T : Tbl} (B : TB T)
include B
theorem whole_at (n : Nat) (i : Int) : (callN T (n + 1)).call 1 none [.int i] = some (.bool true, []) :=
  call_rt (ρ := [.v (.int i)]) B.t1 rfl rfl rfl rfl rfl (s_seqr (s_rt (e_andt (e_isa (e_var rfl) rfl) (e_not (r := false) (e_isa (e_var rfl) rfl)))))
theorem one_of_at (n : Nat) (s : Str) (ps : List Str) : (callN T (n + 1)).call 2 none [.str s, .tuple (ps.map .str)] = some (.bool (decide (s ∈ ps)), []) :=
  call_rt (ρ := [.v (.str s), .v (.tuple (ps.map .str))]) B.t2 rfl rfl rfl rfl rfl (s_seqr (s_rt (e_andt (e_isa (e_var rfl) rfl) (e_cmp (e_var rfl) (e_var rfl) in_tup))))
theorem word_at (n : Nat) {s : Str} (h : Nice s) : (callN T (n + 1)).call 3 none [.str s] = some (.bool true, []) := by
  obtain ⟨l, rfl, l1, l8, lc⟩ := h
  have ne : cmpV .ne (.str (S l)) (.str (S [])) = some true := by
    show (if pk 8 (.str (S l)) && pk 8 (.str (S [])) then some (!PyData.eqv (.str (S l)) (.str (S []))) else none) = _
    rw [eqv_str, decide_eq_false (fun e => by have := S_inj e; subst this; simp at l1)]
    rfl
  have lcm : ev (callN T n) (.lc (.cmp .isin (.var 1) (.glob (S [76, 69, 84, 84, 69, 82, 83]) (.str (S alph)))) (.n 1) (.iseq (.var 0)) .nil) [.v (.str (S l)), .u] = some (.list ((l.filter fun _ => true).map fun _ => .bool true), [.v (.str (S l)), .u]) := by
    refine e_lct l (fun c => .str (S [c])) (fun _ => true) (fun _ => .bool true) (i_seq (e_var rfl) ?_) rfl (by simp [line]; omega) fun c hc => ⟨[.v (.str (S l)), .v (.str (S [c]))], rfl, rfl, c_nil, fun _ => e_cmp (e_var rfl) e_glob ?_⟩
    · show some ((S l).cps.toList.map fun c => PyData.str (S [c])) = _
      rw [S_cps]
    · show inV (.str (S [c])) (.str (S alph)) = _
      show (match (S [c]).cps.toList with
        | [c] => some ((S alph).cps.toList.contains c)
        | _ => none) = _
      rw [S_cps, S_cps]
      have := lc c hc
      have key : ∀ c, 97 ≤ c → c ≤ 122 → c ∈ alph := fun c h1 h2 => by
        have : c = 97 ∨ c = 98 ∨ c = 99 ∨ c = 100 ∨ c = 101 ∨ c = 102 ∨ c = 103 ∨ c = 104 ∨ c = 105 ∨ c = 106 ∨ c = 107 ∨ c = 108 ∨ c = 109 ∨ c = 110 ∨ c = 111 ∨ c = 112 ∨ c = 113 ∨ c = 114 ∨ c = 115 ∨ c = 116 ∨ c = 117 ∨ c = 118 ∨ c = 119 ∨ c = 120 ∨ c = 121 ∨ c = 122 := by omega
        simpa [alph] using this
      simp [key c this.1 this.2]
  exact call_rt (ρ := [.v (.str (S l)), .u]) B.t3 rfl rfl rfl rfl rfl (s_seqr (s_rt (e_andt (e_isa (e_var rfl) rfl) (e_andt (e_cmp (e_var rfl) e_con ne) (e_bi (a_cons lcm a_nil) (all_true _))))))
theorem name_ok (n : Nat) {s : Str} (h : Good s) : (callN T (n + 2)).call 4 none [.str s] = some (.bool true, []) := by
  obtain ⟨hn, hw⟩ := h
  have hw' := word_at B n hn
  obtain ⟨l, rfl, l1, l8, lc⟩ := hn
  have el : biV .len [.str (S l)] = some (.int l.length) := by
    show (if (S l).length ≤ line then some (PyData.int ((S l).length : Nat)) else none) = _
    rw [S_len, if_pos (by simp [line]; omega)]
  have e8 : cmpV .le (.int (l.length : Nat)) (.int 8) = some true := by rw [le_int, decide_eq_true (by omega)]
  have en : cmpV .notin (.str (S l)) (.tuple (wordsL.map .str)) = some true := by rw [notin_tup, decide_eq_false hw]; rfl
  exact call_rt (ρ := [.v (.str (S l))]) B.t4 rfl rfl rfl rfl rfl (s_seqr (s_rt (e_andt (e_call (a_cons (e_var rfl) a_nil) hw') (e_andt (e_cmp (e_bi (a_cons (e_var rfl) a_nil) el) e_glob e8) (e_cmp (e_var rfl) e_glob en)))))
theorem tuple_of_at (n : Nat) (xs : List Val) (m : Int) : (callN T (n + 1)).call 5 none [.tuple xs, .int m] = some (.bool (decide ((xs.length : Int) = m)), []) :=
  call_rt (ρ := [.v (.tuple xs), .v (.int m)]) B.t5 rfl rfl rfl rfl rfl (s_seqr (s_rt (e_andt (e_isa (e_var rfl) rfl) (e_cmp (e_bi (a_cons (e_var rfl) a_nil) len_tup) (e_var rfl) eq_int))))
theorem pair_at (n : Nat) (x y : Val) : (callN T (n + 2)).call 6 none [.tuple [x, y]] = some (.bool true, []) :=
  call_rt (ρ := [.v (.tuple [x, y])]) B.t6 rfl rfl rfl rfl rfl (s_seqr (s_rt (e_call (a_cons (e_var rfl) (a_cons e_con a_nil)) (tuple_of_at B n [x, y] 2))))
theorem below_ok2 (n : Nat) {xs : List Val} {y : Val} (hp : xs.all (pk 7) = true) (h : ∀ z, xs.getLast? = some z → okLt z y = true ∧ dLt z y = true) : (callN T (n + 1)).call 9 none [.tuple xs, y] = some (.bool true, []) := by
  cases hx : xs.getLast? with
  | none =>
    have e : xs = [] := List.getLast?_eq_none_iff.mp hx
    subst e
    exact call_rt (ρ := [.v (.tuple []), .v y]) B.t9 rfl rfl rfl rfl rfl (s_seqr (s_rt (e_ort (e_cmp (e_var rfl) (e_tup a_nil) rfl))))
  | some z =>
    obtain ⟨h1, h2⟩ := h z hx
    have ne : xs ≠ [] := by intro e; subst e; cases hx
    have c1 : cmpV .eq (.tuple xs) (.tuple []) = some false := by
      show (if xs.all (pk 7) && pk 8 (.tuple []) then some (PyData.eqv (.tuple xs) (.tuple [])) else none) = _
      rw [hp]
      cases xs with
      | nil => exact absurd rfl ne
      | cons a b => simp [PyData.eqv, PyData.eqvAll, pk]
    have c2 : idxV (.tuple xs) (.int (-1)) = some z := by
      show atP xs (-1) = _
      have hl := List.length_pos_iff.mpr ne
      unfold atP ixP
      rw [if_neg (by decide), if_pos (by omega)]
      rw [← hx, List.getLast?_eq_getElem?]
      show xs[((-1 : Int) + xs.length).toNat]? = _
      congr 1
      omega
    have c3 : cmpV .lt z y = some true := by
      show (if okLt z y then some (PySem.W.dataLt z y) else none) = _
      rw [h1]
      exact congrArg some h2
    exact call_rt (ρ := [.v (.tuple xs), .v y]) B.t9 rfl rfl rfl rfl rfl (s_seqr (s_rt (e_orf (e_cmp (e_var rfl) (e_tup a_nil) c1) (e_cmp (e_idx (e_var rfl) (e_neg e_con) c2) (e_var rfl) c3))))
/-- a fraction from 0 to 1 -/
def Part (w : Int × Int) : Prop := 0 ≤ w.1 ∧ w.1 ≤ w.2 ∧ 0 < w.2 ∧ Nat.gcd w.1.natAbs w.2.natAbs = 1
theorem fraction_at (n : Nat) {w : Int × Int} (h : Part w) : (callN T (n + 3)).call 10 none [encW w] = some (.bool true, []) := by
  obtain ⟨a, b⟩ := w
  obtain ⟨h1, h2, h3, h4⟩ := h
  have lcm : ev (callN T (n + 2)) (.lc (.call 1 (.cons (.var 1) .nil)) (.n 1) (.iseq (.var 0)) .nil) [.v (encW (a, b)), .u] = some (.list (([a, b].filter fun _ => true).map fun _ => .bool true), [.v (encW (a, b)), .u]) :=
    e_lct [a, b] PyData.int (fun _ => true) (fun _ => .bool true) (i_seq (e_var rfl) rfl) rfl (by simp [line]) fun c hc => ⟨[.v (encW (a, b)), .v (.int c)], rfl, rfl, c_nil, fun _ => e_call (a_cons (e_var rfl) a_nil) (whole_at B (n + 1) c)⟩
  have c1 : cmpV .gt (.int b) (.int 0) = some true := by rw [gt_int, decide_eq_true h3]
  have c2 : cmpV .eq (.int (Nat.gcd a.natAbs b.natAbs : Nat)) (.int 1) = some true := by
    rw [eq_int, h4]; rfl
  refine call_rt (ρ := [.v (encW (a, b)), .u]) B.t10 rfl rfl rfl rfl rfl (s_seq (s_iff (e_orf (e_not (r := true) (e_call (a_cons (e_var rfl) a_nil) (pair_at B n (.int a) (.int b)))) (e_not (r := true) (e_bi (a_cons lcm a_nil) (all_true _)))) s_skip) ?_)
  exact s_seqr (s_rt (e_andt (e_cmp (e_idx (e_var rfl) e_con rfl) e_con c1) (e_cmp (e_bi (a_cons (e_idx (e_var rfl) e_con rfl) (a_cons (e_idx (e_var rfl) e_con rfl) a_nil)) rfl) e_con c2)))
theorem part_at (n : Nat) {w : Int × Int} (h : Part w) : (callN T (n + 4)).call 11 none [encW w] = some (.bool true, []) := by
  have hf := fraction_at B n h
  obtain ⟨a, b⟩ := w
  obtain ⟨h1, h2, h3, h4⟩ := h
  exact call_rt (ρ := [.v (encW (a, b))]) B.t11 rfl rfl rfl rfl rfl (s_seqr (s_rt (e_andt (e_call (a_cons (e_var rfl) a_nil) hf) (e_cmp2t e_con (e_idx (e_var rfl) e_con rfl) (by rw [le_int, decide_eq_true h1]) (e_idx (e_var rfl) e_con rfl) (by rw [le_int, decide_eq_true h2])))))
theorem check_want_at (n : Nat) {w : Int × Int} (h : Part w) : (callN T (n + 5)).call 18 none [encW w] = some (.none, []) :=
  call_nx (ρ := [.v (encW w)]) B.t18 rfl rfl rfl rfl rfl (s_seq (s_iff (e_not (r := true) (e_call (a_cons (e_var rfl) a_nil) (part_at B n h))) s_skip) s_skip)
/-- each element right: nothing is wrong -/
theorem wrong_none {n : Nat} {xs : List Val} {least : Int} {most : Val} {z : Fz} {L : List Val → Option Val} (hl : least ≤ xs.length) (hm : ∀ i : Nat, i < xs.length → cmpV .eq (.int i) most = some false) (hL : ∀ (i : Nat) (h : i < xs.length), L [.tuple (xs.take i), xs[i]] = some (.bool true)) :
    (callN T (n + 1)).hi 7 [.tuple xs, .int least, most] z L = some (.list []) := by
  have c1 : ev (withAct (callN T n) z L) (.or (.not (.isa .tuple (.var 0))) (.cmp .lt (.bi .len (.cons (.var 0) .nil)) (.var 1))) [.v (.tuple xs), .v (.int least), .v most, .f z, .u, .u] = some (.bool false, [.v (.tuple xs), .v (.int least), .v most, .f z, .u, .u]) :=
    e_orf (e_not (r := true) (e_isa (e_var rfl) rfl)) (e_cmp (e_bi (a_cons (e_var rfl) a_nil) len_tup) (e_var rfl) (by rw [lt_int, decide_eq_false (by omega)]))
  have len : (enumV 0 xs).length = xs.length := by
    have := enum_typed id xs 0
    rw [List.map_id] at this
    rw [this]; simp
  have get : ∀ (i : Nat) (h : i < xs.length), (enumV 0 xs)[i]'(by rw [len]; exact h) = .tuple [.int (i : Nat), xs[i]] := fun i h => by
    have := enum_typed id xs 0
    rw [List.map_id] at this
    simp [this]
  obtain ⟨ρ', e, s4, s5, rfl⟩ := for_all (ρ := [.v (.tuple xs), .v (.int least), .v most, .f z, .u, .u]) (xs := enumV 0 xs) (step := fun x => bnd (asgM (.cons (.n 4) (.cons (.n 5) .nil)) x) fun _ => exec (withAct (callN T n) z L) (.seq (.ite (.or (.cmp .eq (.var 4) (.var 2)) (.not (.act 3 (.cons (.slc (.var 0) .nil (.var 4)) (.cons (.var 5) .nil))))) (.seq (.rt (.lst (.cons (.var 4) .nil))) .skip) .skip) .skip))
    (I := fun i ρ => ∃ s4 s5, ρ = [.v (.tuple xs), .v (.int least), .v most, .f z, s4, s5]) ⟨_, _, rfl⟩ (fun i hi ρ hI => by
      obtain ⟨s4, s5, rfl⟩ := hI
      have hi' : i < xs.length := by rw [len] at hi; exact hi
      rw [get i hi']
      refine ⟨_, turn (ρ1 := [.v (.tuple xs), .v (.int least), .v most, .f z, .v (.int (i : Nat)), .v xs[i]]) rfl (s_seq (s_iff (e_orf (e_cmp (e_var rfl) (e_var rfl) (hm i hi')) (e_not (r := true) (e_act rfl (a_cons (e_slc (e_var rfl) p_nil (p_int (e_var rfl)) rfl) (a_cons (e_var rfl) a_nil)) ?_))) s_skip) s_skip), _, _, rfl⟩
      rw [act_at, cut_to (by omega), Int.toNat_natCast]
      exact hL i hi')
  exact call_hi (o := .rt (.list [])) (ρ := [.v (.tuple xs), .v (.int least), .v most, .f z, s4, s5]) B.t7 rfl rfl (s_seq (s_iff c1 s_skip) (s_seq (s_for (i_enum (e_var rfl) rfl) e) (s_seqr (s_rt (e_lst a_nil)))))
omit B in
theorem lam_of {is : List Nat} {m : M Val} {ρ ρ0 ρ' : PL.Env} {args : List Val} {x : Val} (hl : args.length = is.length) (h0 : setV is args (ρ.map keepV) = ρ0) (h : m ρ0 = some (x, ρ')) : lamM is m ρ args = some x := by
  unfold lamM
  rw [if_pos hl, h0, h]
omit B in
theorem asc_last {α : Type} {enc : α → Val} {xs : List α} (ha : Asc enc xs) {i : Nat} (hi : i < xs.length) {z : Val} (hz : ((xs.map enc).take i).getLast? = some z) : (∃ a, z = enc a) ∧ dLt z (enc xs[i]) = true := by
  have hm := List.mem_of_getLast? hz
  rw [← List.map_take] at hm
  obtain ⟨a, ma, rfl⟩ := List.mem_map.mp hm
  obtain ⟨j, hj, rfl⟩ := List.mem_iff_getElem.mp ma
  have hj' : j < i := by rw [List.length_take] at hj; omega
  refine ⟨⟨_, rfl⟩, ?_⟩
  have := List.pairwise_iff_getElem.mp ha j i (by omega) hi hj'
  simpa using this
variable {ps : List Str} {ts : List (Str × Str)} {w : Int × Int}
theorem places_at (n : Nat) (S0 : Strt ps ts w) : (callN T (n + 3)).call 12 none [.tuple (ps.map .str)] = some (.list [], []) := by
  refine call_rt (ρ := [.v (.tuple (ps.map .str)), .u, .u]) B.t12 rfl rfl rfl rfl rfl (s_seqr (s_rt (e_callL (a_cons (e_var rfl) (a_cons e_glob (a_cons e_glob a_nil))) fun z => wrong_none B (by simp; exact Int.ofNat_le.mpr S0.p2) (fun i hi => ?_) fun i hi => ?_)))
  · have h7 := S0.p7
    rw [List.length_map] at hi
    rw [eq_int, decide_eq_false (by omega)]
  · rw [List.length_map] at hi
    have e : (ps.map PyData.str)[i] = .str ps[i] := by simp
    rw [e]
    refine lam_of (ρ0 := [.v (.tuple (ps.map .str)), .v (.tuple ((ps.map .str).take i)), .v (.str ps[i])]) (ρ' := [.v (.tuple (ps.map .str)), .v (.tuple ((ps.map .str).take i)), .v (.str ps[i])]) rfl rfl (e_andt (e_call (a_cons (e_var rfl) a_nil) (name_ok B n (S0.nice _ (List.getElem_mem hi)))) (e_call (a_cons (e_var rfl) (a_cons (e_var rfl) a_nil)) (below_ok2 B (n + 1) ?_ fun z hz => ?_)))
    · rw [List.all_eq_true]
      intro x hx
      obtain ⟨y, _, rfl⟩ := List.mem_map.mp (List.mem_of_mem_take hx)
      rfl
    · obtain ⟨⟨a, rfl⟩, hlt⟩ := asc_last S0.pasc hi hz
      exact ⟨rfl, hlt⟩
theorem tie_at (n : Nat) {t : Str × Str} (ht : t.1 ∈ ps ∧ t.2 ∈ ps ∧ sLt t.1 t.2 = true) : (callN T (n + 3)).call 13 none [.tuple (ps.map .str), encP t] = some (.bool true, []) := by
  have c1 : cmpV .lt (.str t.1) (.str t.2) = some true := by
    show (if okLt (.str t.1) (.str t.2) then some (PySem.W.dataLt (.str t.1) (.str t.2)) else none) = _
    rw [show okLt (.str t.1) (.str t.2) = true from rfl]
    exact congrArg some ht.2.2
  have h1 := one_of_at B (n + 1) t.1 ps
  have h2 := one_of_at B (n + 1) t.2 ps
  rw [decide_eq_true ht.1] at h1
  rw [decide_eq_true ht.2.1] at h2
  exact call_rt (ρ := [.v (.tuple (ps.map .str)), .v (encP t)]) B.t13 rfl rfl rfl rfl rfl (s_seqr (s_rt (e_andt (e_call (a_cons (e_var rfl) a_nil) (pair_at B n (.str t.1) (.str t.2))) (e_andt (e_call (a_cons (e_idx (e_var rfl) e_con rfl) (a_cons (e_var rfl) a_nil)) h1) (e_andt (e_call (a_cons (e_idx (e_var rfl) e_con rfl) (a_cons (e_var rfl) a_nil)) h2) (e_cmp (e_idx (e_var rfl) e_con rfl) (e_idx (e_var rfl) e_con rfl) c1))))))
theorem ties_at (n : Nat) (S0 : Strt ps ts w) : (callN T (n + 4)).call 14 none [.tuple (ps.map .str), .tuple (ts.map encP)] = some (.list [], []) := by
  refine call_rt (ρ := [.v (.tuple (ps.map .str)), .v (.tuple (ts.map encP)), .u, .u]) B.t14 rfl rfl rfl rfl rfl (s_seqr (s_rt (e_callL (a_cons (e_var rfl) (a_cons e_con (a_cons e_con a_nil))) fun z => wrong_none B (by simp) (fun i hi => rfl) fun i hi => ?_)))
  rw [List.length_map] at hi
  have e : (ts.map encP)[i] = encP ts[i] := by simp
  rw [e]
  refine lam_of (ρ0 := [.v (.tuple (ps.map .str)), .v (.tuple (ts.map encP)), .v (.tuple ((ts.map encP).take i)), .v (encP ts[i])]) (ρ' := [.v (.tuple (ps.map .str)), .v (.tuple (ts.map encP)), .v (.tuple ((ts.map encP).take i)), .v (encP ts[i])]) rfl rfl (e_andt (e_call (a_cons (e_var rfl) (a_cons (e_var rfl) a_nil)) (tie_at B n (S0.tin _ (List.getElem_mem hi)))) (e_call (a_cons (e_var rfl) (a_cons (e_var rfl) a_nil)) (below_ok2 B (n + 2) ?_ fun z hz => ?_)))
  · rw [List.all_eq_true]
    intro x hx
    obtain ⟨y, _, rfl⟩ := List.mem_map.mp (List.mem_of_mem_take hx)
    rfl
  · obtain ⟨⟨a, rfl⟩, hlt⟩ := asc_last S0.tasc hi hz
    exact ⟨rfl, hlt⟩
omit B in
theorem want_part (h : w ∈ wantsL) : Part w := by
  have key : ∀ w ∈ wantsL, 0 ≤ w.1 ∧ w.1 ≤ w.2 ∧ 0 < w.2 ∧ Nat.gcd w.1.natAbs w.2.natAbs = 1 := by decide
  exact key w h
theorem init_at (n : Nat) (S0 : Strt ps ts w) {v : Int × Int} (hv : Part v) : (callN T (n + 6)).call 0 none [.tuple (ps.map .str), .tuple (ts.map encP), encW v] = some (.tuple [.tuple (ps.map .str), .tuple (ts.map encP), encW v], []) := by
  refine call_init (o := .rt (.tuple [.tuple (ps.map .str), .tuple (ts.map encP), encW v])) (ρ := [.u, .v (.tuple (ps.map .str)), .v (.tuple (ts.map encP)), .v (encW v), .u]) B.t0 rfl rfl rfl rfl ?_
  exact s_seq (s_for (i_seq (e_call (a_cons (e_var rfl) a_nil) (places_at B (n + 2) S0)) rfl) rfl) (s_seq (s_for (i_seq (e_call (a_cons (e_var rfl) (a_cons (e_var rfl) a_nil)) (ties_at B (n + 1) S0)) rfl) rfl) (s_seq (s_ex (e_call (a_cons (e_var rfl) a_nil) (check_want_at B n hv))) (s_seqr (s_rt (e_tup (a_cons (e_var rfl) (a_cons (e_var rfl) (a_cons (e_var rfl) a_nil))))))))
/-- the street made of its parts -/
theorem made_at (h30 : T 30 = some d__law_made) (n : Nat) (S0 : Strt ps ts w) : (callN T (n + 7)).call 30 none [encS ps ts w] = some (stV (encS ps ts w), []) :=
  call_rt (ρ := [.v (encS ps ts w)]) h30 rfl rfl rfl rfl rfl (s_seqr (s_rt (e_mk (a_cons (e_idx (e_var rfl) e_con rfl) (a_cons (e_idx (e_var rfl) e_con rfl) (a_cons (e_idx (e_var rfl) e_con rfl) a_nil))) (init_at B n S0 (want_part S0.want)))))
end
end PL
set_option maxHeartbeats 2000000
/-! P4: seatings; ties by index; like ties; alike values. -/
namespace PL
open PySem PyProof.Rows
/-! ### dicts whose keys are texts -/
def encA {α : Type} (f : α → Val) (l : List (Str × α)) : List (Val × Val) := l.map fun p => (.str p.1, f p.2)
theorem dget_enc {α : Type} (f : α → Val) (l : List (Str × α)) (s : Str) : dget (encA f l) (.str s) = (l.find? fun p => decide (p.1 = s)).map fun p => f p.2 := by
  unfold dget encA
  induction l with
  | nil => rfl
  | cons p l ih =>
    rw [List.map_cons, List.find?_cons, List.find?_cons]
    simp only [eqv_str]
    by_cases h : p.1 = s
    · simp [h]
    · simp only [h, decide_false]
      first | done | exact ih
theorem dhas_enc {α : Type} (f : α → Val) (l : List (Str × α)) (s : Str) : dhas (encA f l) (.str s) = l.any fun p => decide (p.1 = s) := by
  unfold dhas encA
  rw [List.any_map]
  congr 1
theorem dputs_enc {α : Type} (f : α → Val) : ∀ (l acc : List (Str × α)), (l.map (·.1)).Nodup → (∀ p ∈ l, ∀ q ∈ acc, q.1 ≠ p.1) → dputs (encA f acc) (encA f l) = encA f (acc ++ l)
  | [], acc, _, _ => by simp [encA, dputs]
  | p :: l, acc, nd, h => by
    rw [List.map_cons] at nd
    have nd' := List.nodup_cons.mp nd
    show dputs (dput (encA f acc) (.str p.1) (f p.2)) (encA f l) = _
    have h1 : dput (encA f acc) (.str p.1) (f p.2) = encA f (acc ++ [p]) := by
      unfold dput
      rw [dhas_enc]
      have : (acc.any fun q => decide (q.1 = p.1)) = false := by
        rw [List.any_eq_false]
        intro q hq
        simpa using h p List.mem_cons_self q hq
      rw [this]
      simp [encA]
    rw [h1, dputs_enc f l (acc ++ [p]) nd'.2 fun r hr q hq => ?_, List.append_assoc]
    · rfl
    · rcases List.mem_append.mp hq with hq | hq
      · exact h r (List.mem_cons_of_mem _ hr) q hq
      · rw [List.mem_singleton.mp hq]
        exact fun e => nd'.1 (e ▸ List.mem_map_of_mem hr)
theorem keyS_enc {α : Type} (f : α → Val) (l : List (Str × α)) : ((encA f l).all fun kv => keyS kv.1) = true := by
  unfold encA
  rw [List.all_map]
  exact List.all_eq_true.mpr fun _ _ => rfl
theorem idx_enc {α : Type} {f : α → Val} {l : List (Str × α)} {s : Str} {v : Val} (h : dget (encA f l) (.str s) = some v) : idxV (.dict (encA f l)) (.str s) = some v := by
  have hk := keyS_enc f l
  cases l with
  | nil => cases h
  | cons p r =>
    show (if ((keyS (.str s) && (encA f (p :: r)).all fun kv => keyS kv.1) || (keyT (.str s) && (encA f (p :: r)).all fun kv => keyT kv.1)) = true then dget (encA f (p :: r)) (.str s) else none) = _
    rw [hk, if_pos (by rfl)]
    exact h
/-! ### the place of a text -/
theorem asc_nodup {ps : List Str} (h : Asc PyData.str ps) : ps.Nodup := h.imp fun {a b} hab e => by
  subst e
  rw [dLt_irr] at hab; cases hab
def pos (ps : List Str) (s : Str) : Nat := ps.idxOf s
theorem find_idx : ∀ {ps : List Str} {k : Nat} {s : Str}, s ∈ ps → ((ps.zipIdx k).find? fun p => decide (p.1 = s)) = some (s, k + ps.idxOf s)
  | [], _, _, h => by cases h
  | p :: ps, k, s, h => by
    rw [List.zipIdx_cons, List.find?_cons, List.idxOf_cons]
    by_cases e : p = s
    · simp [e]
    · have h' : s ∈ ps := (List.mem_cons.mp h).resolve_left fun q => e q.symm
      have e' : (p == s) = false := by simpa using e
      simp only [e, decide_false, e', Bool.false_eq_true, if_false, cond_false]
      rw [find_idx h']
      congr 1
      congr 1
      omega
/-- who is at a place -/
def at_ (ps ks : List Str) (s : Str) : Str := ks.getD (pos ps s) (S [])
theorem find_zip : ∀ {ps ks : List Str} {s : Str}, ps.length = ks.length → s ∈ ps → ((ps.zip ks).find? fun p => decide (p.1 = s)) = some (s, at_ ps ks s)
  | [], _, _, _, h => by cases h
  | _ :: _, [], _, hl, _ => by simp at hl
  | p :: ps, k :: ks, s, hl, h => by
    rw [List.zip_cons_cons, List.find?_cons]
    by_cases e : p = s
    · subst e; simp [at_, pos]
    · have h' : s ∈ ps := (List.mem_cons.mp h).resolve_left fun q => e q.symm
      simp only [e, decide_false]
      rw [find_zip (by simpa using hl) h']
      have e' : (p == s) = false := by simpa using e
      simp [at_, pos, List.idxOf_cons, e']
theorem pos_lt {ps : List Str} {s : Str} (h : s ∈ ps) : pos ps s < ps.length := List.idxOf_lt_length_of_mem h
/-! ### how many like ties -/
def free : Str := S [45]
def likeB (ps ks : List Str) (t : Str × Str) : Bool := !decide (at_ ps ks t.1 = free) && decide (at_ ps ks t.1 = at_ ps ks t.2)
def likeN (ps : List Str) (ts : List (Str × Str)) (ks : List Str) : Nat := (ts.filter (likeB ps ks)).length
theorem eq_str {a b : Str} : cmpV .eq (.str a) (.str b) = some (decide (a = b)) := by
  show (if pk 8 (.str a) && pk 8 (.str b) then some (PyData.eqv (.str a) (.str b)) else none) = _
  rw [eqv_str]; rfl
theorem ne_str {a b : Str} : cmpV .ne (.str a) (.str b) = some (!decide (a = b)) := by
  show (if pk 8 (.str a) && pk 8 (.str b) then some (!PyData.eqv (.str a) (.str b)) else none) = _
  rw [eqv_str]; rfl
theorem len_map {α : Type} {f : α → Val} {xs : List α} : biV .len [.list (xs.map f)] = some (.int (xs.length : Nat)) := by rw [len_list, List.length_map]
section
variable {T : Tbl} {ps : List Str} {ts : List (Str × Str)} {w : Int × Int} {ks : List Str}
theorem Strt.tlen (S0 : Strt ps ts w) : ts.length ≤ 49 := by
  have nd : ts.Nodup := S0.tasc.imp fun {a b} hab e => by
    subst e
    rw [dLt_irr] at hab; cases hab
  have K : KS ps ts := ⟨nd, S0.tin⟩
  have h := K.len
  have h49 : ps.length * ps.length ≤ 7 * 7 := Nat.mul_le_mul S0.p7 S0.p7
  omega
theorem ends_at (h : T 32 = some d__law_ends) (n : Nat) (S0 : Strt ps ts w) : (callN T (n + 1)).call 32 none [encS ps ts w] = some (.list (ts.map fun t => .tuple [.int (pos ps t.1 : Nat), .int (pos ps t.2 : Nat)]), []) := by
  let kv : List (Str × Nat) := ps.zipIdx 0
  have l1 : ev (callN T n) (.lc (.tup (.cons (.var 5) (.cons (.var 4) .nil))) (.cons (.n 4) (.cons (.n 5) .nil)) (.ienum (.idx (.var 0) (.con (.int (0))))) .nil) [.v (encS ps ts w), .u, .u, .u, .u, .u] = some (.list ((kv.filter fun _ => true).map fun p => .tuple [.str p.1, .int (p.2 : Nat)]), [.v (encS ps ts w), .u, .u, .u, .u, .u]) := by
    have i1 : evI (callN T n) (.ienum (.idx (.var 0) (.con (.int (0))))) [.v (encS ps ts w), .u, .u, .u, .u, .u] = some (kv.map fun p => .tuple [.int (0 + (p.2 : Nat)), .str p.1], [.v (encS ps ts w), .u, .u, .u, .u, .u]) := by
      have := i_enum (C := callN T n) (e := .idx (.var 0) (.con (.int 0))) (ρ := [.v (encS ps ts w), .u, .u, .u, .u, .u]) (x := .tuple (ps.map .str)) (xs := ps.map .str) (e_idx (e_var rfl) e_con rfl) rfl
      rw [enum_typed] at this
      exact this
    refine e_lct kv (fun p => .tuple [.int (0 + (p.2 : Nat)), .str p.1]) (fun _ => true) (fun p => .tuple [.str p.1, .int (p.2 : Nat)]) i1 rfl (by have := S0.p7; simp [kv, line]; omega) fun p hp => ⟨[.v (encS ps ts w), .u, .u, .u, .v (.int (0 + (p.2 : Nat))), .v (.str p.1)], rfl, rfl, c_nil, fun _ => ?_⟩
    · have := e_tup (C := callN T n) (ρ := [.v (encS ps ts w), .u, .u, .u, .v (.int (0 + (p.2 : Nat))), .v (.str p.1)]) (a_cons (e_var (n := 5) rfl) (a_cons (e_var (n := 4) rfl) a_nil))
      rw [Int.zero_add] at this
      simpa using this
  have hd : biV .dict [.list ((kv.filter fun _ => true).map fun p => .tuple [.str p.1, .int (p.2 : Nat)])] = some (.dict (encA (fun i : Nat => .int (i : Nat)) kv)) := by
    have hf : (kv.filter fun _ => true) = kv := List.filter_eq_self.mpr fun _ _ => rfl
    rw [hf]
    have hp : pairsOf (kv.map fun p => PyData.tuple [.str p.1, .int (p.2 : Nat)]) = some (encA (fun i : Nat => .int (i : Nat)) kv) := by
      unfold encA
      induction kv with
      | nil => rfl
      | cons p r ih => simp only [List.map_cons, pairsOf, ih, Option.map_some]
    show (match pairsOf (kv.map fun p => PyData.tuple [.str p.1, .int (p.2 : Nat)]) with
      | some kvs => if kvs.all (fun kv => keyS kv.1) then some (PyData.dict (dputs [] kvs)) else none
      | none => none) = _
    rw [hp]
    simp only [keyS_enc, if_true]
    have := dputs_enc (fun i : Nat => PyData.int (i : Nat)) kv [] (by simp [kv]; exact asc_nodup S0.pasc) (by simp)
    rw [show encA (fun i : Nat => PyData.int (i : Nat)) ([] : List (Str × Nat)) = [] from rfl, List.nil_append] at this
    rw [this]
  have look : ∀ s ∈ ps, idxV (.dict (encA (fun i : Nat => .int (i : Nat)) kv)) (.str s) = some (.int (pos ps s : Nat)) := fun s hs => by
    refine idx_enc ?_
    rw [dget_enc, find_idx hs]
    simp [pos]
  have l2 : ev (callN T n) (.lc (.tup (.cons (.idx (.var 1) (.var 2)) (.cons (.idx (.var 1) (.var 3)) .nil))) (.cons (.n 2) (.cons (.n 3) .nil)) (.iseq (.idx (.var 0) (.con (.int (1))))) .nil) [.v (encS ps ts w), .v (.dict (encA (fun i : Nat => .int (i : Nat)) kv)), .u, .u, .u, .u] = some (.list ((ts.filter fun _ => true).map fun t => .tuple [.int (pos ps t.1 : Nat), .int (pos ps t.2 : Nat)]), [.v (encS ps ts w), .v (.dict (encA (fun i : Nat => .int (i : Nat)) kv)), .u, .u, .u, .u]) := by
    refine e_lct ts encP (fun _ => true) (fun t => .tuple [.int (pos ps t.1 : Nat), .int (pos ps t.2 : Nat)]) (i_seq (e_idx (e_var rfl) e_con rfl) rfl) rfl (by have := S0.tlen; simp [line]; omega) fun t ht => ⟨[.v (encS ps ts w), .v (.dict (encA (fun i : Nat => .int (i : Nat)) kv)), .v (.str t.1), .v (.str t.2), .u, .u], rfl, rfl, c_nil, fun _ => ?_⟩
    obtain ⟨t1, t2, _⟩ := S0.tin t ht
    exact e_tup (a_cons (e_idx (e_var rfl) (e_var rfl) (look _ t1)) (a_cons (e_idx (e_var rfl) (e_var rfl) (look _ t2)) a_nil))
  rw [List.filter_eq_self.mpr fun _ _ => rfl] at l2
  exact call_rt (ρ := [.v (encS ps ts w), .v (.dict (encA (fun i : Nat => .int (i : Nat)) kv)), .u, .u, .u, .u]) h rfl rfl rfl rfl rfl (s_seq (s_asgn (e_bi (a_cons l1 a_nil) hd)) (s_seqr (s_rt l2)))
theorem at_idx (hl : ps.length = ks.length) {s : Str} (hs : s ∈ ps) : idxV (.tuple (ks.map .str)) (.int (pos ps s : Nat)) = some (.str (at_ ps ks s)) := by
  have hp := pos_lt hs
  have := (idx_pl (ps := ks) (i := (pos ps s : Nat)) (by omega) (by omega)).1
  rw [Int.toNat_natCast] at this
  exact this
theorem like_at (h : T 32 = some d__law_ends) (h2 : T 33 = some d__law_like) (n : Nat) (S0 : Strt ps ts w) (hl : ps.length = ks.length) : (callN T (n + 2)).call 33 none [encS ps ts w, .tuple (ks.map .str)] = some (.int (likeN ps ts ks : Nat), []) := by
  have lc : ev (callN T (n + 1)) (.lc (.con (.int (1))) (.cons (.n 2) (.cons (.n 3) .nil)) (.iseq (.call 32 (.cons (.var 0) .nil))) (.and (.cmp .eq (.idx (.var 1) (.var 2)) (.idx (.var 1) (.var 3))) (.cmp .ne (.idx (.var 1) (.var 2)) (.con (.str (S [45])))))) [.v (encS ps ts w), .v (.tuple (ks.map .str)), .u, .u] = some (.list ((ts.filter fun t => decide (at_ ps ks t.1 = at_ ps ks t.2) && !decide (at_ ps ks t.1 = free)).map fun _ => .int 1), [.v (encS ps ts w), .v (.tuple (ks.map .str)), .u, .u]) := by
    refine e_lct ts (fun t => .tuple [.int (pos ps t.1 : Nat), .int (pos ps t.2 : Nat)]) (fun t => decide (at_ ps ks t.1 = at_ ps ks t.2) && !decide (at_ ps ks t.1 = free)) (fun _ => .int 1) (i_seq (e_call (a_cons (e_var rfl) a_nil) (ends_at h n S0)) rfl) rfl (by have := S0.tlen; simp [line]; omega) fun t ht => ⟨[.v (encS ps ts w), .v (.tuple (ks.map .str)), .v (.int (pos ps t.1 : Nat)), .v (.int (pos ps t.2 : Nat))], rfl, rfl, c_ex ?_, fun _ => e_con⟩
    obtain ⟨t1, t2, _⟩ := S0.tin t ht
    exact e_and (e_cmp (e_idx (e_var rfl) (e_var rfl) (at_idx hl t1)) (e_idx (e_var rfl) (e_var rfl) (at_idx hl t2)) eq_str) fun _ => e_cmp (e_idx (e_var rfl) (e_var rfl) (at_idx hl t1)) e_con ne_str
  have e : (ts.filter fun t => decide (at_ ps ks t.1 = at_ ps ks t.2) && !decide (at_ ps ks t.1 = free)) = ts.filter (likeB ps ks) := by
    congr 1
    funext t
    exact Bool.and_comm _ _
  rw [e] at lc
  exact call_rt (ρ := [.v (encS ps ts w), .v (.tuple (ks.map .str)), .u, .u]) h2 rfl rfl rfl rfl rfl (s_seqr (s_rt (e_bi (a_cons lc a_nil) len_map)))
theorem like_by_at (h : T 17 = some d_like_by) (n : Nat) (S0 : Strt ps ts w) (hl : ps.length = ks.length) : (callN T (n + 1)).call 17 none [stV (encS ps ts w), .tuple (ks.map .str)] = some (.int (likeN ps ts ks : Nat), []) := by
  have dz : (dputs [] ((ps.map PyData.str).zip (ks.map PyData.str))) = encA PyData.str (ps.zip ks) := by
    have e1 : (ps.map PyData.str).zip (ks.map PyData.str) = encA PyData.str (ps.zip ks) := by
      unfold encA
      rw [List.zip_map]
      rfl
    rw [e1]
    have := dputs_enc PyData.str (ps.zip ks) [] (by rw [List.map_fst_zip (by omega)]; exact asc_nodup S0.pasc) (by simp)
    simpa [encA] using this
  have x1 : ev (callN T n) (.dzip (.prop 0 (.var 0)) (.var 1)) [.v (stV (encS ps ts w)), .v (.tuple (ks.map .str)), .u, .u, .u] = some (.dict (encA PyData.str (ps.zip ks)), [.v (stV (encS ps ts w)), .v (.tuple (ks.map .str)), .u, .u, .u]) := by
    rw [← dz]
    refine e_dzip (e_prop (e_var rfl) rfl) (e_var rfl) rfl rfl ?_
    rw [Bool.and_eq_true, decide_eq_true_eq]
    exact ⟨by rw [List.all_map]; exact List.all_eq_true.mpr fun _ _ => rfl, by simpa using hl⟩
  have look : ∀ s ∈ ps, idxV (.dict (encA PyData.str (ps.zip ks))) (.str s) = some (.str (at_ ps ks s)) := fun s hs => by
    refine idx_enc ?_
    rw [dget_enc, find_zip hl hs]; rfl
  have lc : ev (callN T n) (.lc (.con (.int (1))) (.cons (.n 3) (.cons (.n 4) .nil)) (.iseq (.prop 1 (.var 0))) (.and (.cmp .ne (.idx (.var 2) (.var 3)) (.glob (S [70, 82, 69, 69]) (.str (S [45])))) (.cmp .eq (.idx (.var 2) (.var 3)) (.idx (.var 2) (.var 4))))) [.v (stV (encS ps ts w)), .v (.tuple (ks.map .str)), .v (.dict (encA PyData.str (ps.zip ks))), .u, .u] = some (.list ((ts.filter (likeB ps ks)).map fun _ => .int 1), [.v (stV (encS ps ts w)), .v (.tuple (ks.map .str)), .v (.dict (encA PyData.str (ps.zip ks))), .u, .u]) := by
    refine e_lct ts encP (likeB ps ks) (fun _ => .int 1) (i_seq (e_prop (e_var rfl) rfl) rfl) rfl (by have := S0.tlen; simp [line]; omega) fun t ht => ⟨[.v (stV (encS ps ts w)), .v (.tuple (ks.map .str)), .v (.dict (encA PyData.str (ps.zip ks))), .v (.str t.1), .v (.str t.2)], rfl, rfl, c_ex ?_, fun _ => e_con⟩
    obtain ⟨t1, t2, _⟩ := S0.tin t ht
    exact e_and (e_cmp (e_idx (e_var rfl) (e_var rfl) (look _ t1)) e_glob ne_str) fun _ => e_cmp (e_idx (e_var rfl) (e_var rfl) (look _ t1)) (e_idx (e_var rfl) (e_var rfl) (look _ t2)) eq_str
  exact call_rt (ρ := [.v (stV (encS ps ts w)), .v (.tuple (ks.map .str)), .v (.dict (encA PyData.str (ps.zip ks))), .u, .u]) h rfl rfl rfl rfl rfl (s_seq (s_asgn x1) (s_seqr (s_rt (e_bi (a_cons lc a_nil) len_map))))
end
end PL
set_option maxHeartbeats 2000000
/-! P5: a drawn seating; the program's like ties. -/
namespace PL
open PySem PyProof.Rows
def kindsL : List Str := [S [97], S [98], S [99], S [45]]
/-- who sits where, somebody at all -/
structure Seat (ps ks : List Str) : Prop where
  len : ps.length = ks.length
  kin : ∀ k ∈ ks, k ∈ kindsL
  some : ∃ k ∈ ks, k ≠ free
theorem bools_map {α : Type} (f : α → Bool) : ∀ l : List α, boolsOf (l.map fun x => PyData.bool (f x)) = .some (l.map f)
  | [] => rfl
  | x :: l => by simp only [List.map_cons, boolsOf, bools_map f l, Option.map_some]
theorem all_map {α : Type} (f : α → Bool) (l : List α) : biV .all [.list (l.map fun x => PyData.bool (f x))] = .some (.bool (l.all f)) := by
  show (boolsOf (l.map fun x => PyData.bool (f x))).map (fun bs => PyData.bool (bs.all id)) = _
  rw [bools_map]
  simp [List.all_map]
  first | done | rfl
theorem any_map {α : Type} (f : α → Bool) (l : List α) : biV .any [.list (l.map fun x => PyData.bool (f x))] = .some (.bool (l.any f)) := by
  show (boolsOf (l.map fun x => PyData.bool (f x))).map (fun bs => PyData.bool (bs.any id)) = _
  rw [bools_map]
  simp [List.any_map]
  first | done | rfl
theorem eqv_strs : ∀ us vs : List Str, PyData.eqvAll (us.map .str) (vs.map .str) = decide (us = vs)
  | [], [] => by simp [PyData.eqvAll]
  | [], _ :: _ => by simp [PyData.eqvAll]
  | _ :: _, [] => by simp [PyData.eqvAll]
  | u :: us, v :: vs => by
    rw [List.map_cons, List.map_cons]
    show (PyData.eqv (.str u) (.str v) && PyData.eqvAll (us.map .str) (vs.map .str)) = _
    rw [eqv_strs us vs, eqv_str]
    by_cases h1 : u = v <;> by_cases h2 : us = vs <;> simp [h1, h2]
theorem pk_strs7 (us : List Str) : (us.map PyData.str).all (pk 7) = true := by
  rw [List.all_map]
  exact List.all_eq_true.mpr fun x _ => rfl
theorem eq_strs {us vs : List Str} : cmpV .eq (.list (us.map .str)) (.list (vs.map .str)) = .some (decide (us = vs)) := by
  show (if (us.map PyData.str).all (pk 7) && (vs.map PyData.str).all (pk 7) then Option.some (PyData.eqv (.list (us.map .str)) (.list (vs.map .str))) else none) = _
  rw [pk_strs7, pk_strs7]
  show Option.some (PyData.eqvAll (us.map .str) (vs.map .str)) = _
  rw [eqv_strs]
theorem back_cons {a b c : Slot} {r t q : PL.Env} (h1 : back1 a b = .some c) (h2 : backE r t = .some q) : backE (a :: r) (b :: t) = .some (c :: q) := by
  unfold backE
  rw [h1]
  simp only
  rw [h2]
section
variable {T : Tbl} {p : List Val} {ps ks : List Str} {ts : List (Str × Str)} {w : Int × Int}
def kindWords : List (List Nat) := [[97, 98], [97, 98, 45], [97, 98, 45], [97, 98, 99], [97, 98, 99, 45], [97, 45]]
abbrev envK (p : List Val) (x : Val) (K : Val) (ks : List Str) (s4 : Slot) : PL.Env := [.L p, .v x, .v K, .L (ks.map .str), s4]
theorem seating_at (h : T 23 = some d__law_below) (h1 : T 24 = some d__law_one) (h31 : T 31 = some d__law_seating) (n : Nat) (hp : Pool p) (S0 : Strt ps ts w) :
    ∃ (ks : List Str) (p' : List Val), (callN T (n + 3)).call 31 (some p) [encS ps ts w] = .some (.tuple (ks.map .str), p') ∧ Pool p' ∧ Seat ps ks := by
  obtain ⟨y, p1, e1, hp1, my⟩ := one_tup h h1 n hp (xs := kindWords.map fun l => .str (S l)) (by simp [kindWords]) (by simp [kindWords])
  obtain ⟨l, ml, rfl⟩ := List.mem_map.mp my
  have hl : 1 ≤ l.length ∧ l.length ≤ 4 ∧ ∀ c ∈ l, S [c] ∈ kindsL := by
    have key : ∀ l ∈ kindWords, 1 ≤ l.length ∧ l.length ≤ 4 ∧ ∀ c ∈ l, S [c] ∈ kindsL := by decide +kernel
    exact key l ml
  obtain ⟨l1, l2, l3⟩ := hl
  have x0 : exec (callN T (n + 2)) (.par [(2, false), (3, true)] (.cons (.callP 24 0 (.cons (.tup (.cons (.con (.str (S [97, 98]))) (.cons (.con (.str (S [97, 98, 45]))) (.cons (.con (.str (S [97, 98, 45]))) (.cons (.con (.str (S [97, 98, 99]))) (.cons (.con (.str (S [97, 98, 99, 45]))) (.cons (.con (.str (S [97, 45]))) .nil))))))) .nil)) (.cons (.lst .nil) .nil))) [.L p, .v (encS ps ts w), .u, .u, .u] = .some (.nx, envK p1 (encS ps ts w) (.str (S l)) [] .u) :=
    s_par (m_v (e_callP rfl (a_cons (e_tup (a_cons e_con (a_cons e_con (a_cons e_con (a_cons e_con (a_cons e_con (a_cons e_con a_nil))))))) a_nil) rfl e1) (m_o (o_lst (e_lst a_nil)) m_nil))
  have el : biV .len [.str (S l)] = .some (.int l.length) := by
    show (if (S l).length ≤ line then Option.some (PyData.int ((S l).length : Nat)) else none) = _
    rw [S_len, if_pos (by simp [line]; omega)]
  obtain ⟨ρ', e, p2, us, s4, rfl, hp2, a1, a2, hb⟩ := for_all (ρ := envK p1 (encS ps ts w) (.str (S l)) [] .u) (xs := ps.map .str) (step := fun x => bnd (asgM (.n 4) x) fun _ => exec (callN T (n + 2)) (.seq (.append 3 (.idx (.var 2) (.callP 23 0 (.cons (.bi .len (.cons (.var 2) .nil)) .nil)))) .skip))
    (I := fun i ρ => ∃ p' us s4, ρ = envK p' (encS ps ts w) (.str (S l)) us s4 ∧ Pool p' ∧ us.length = i ∧ (∀ k ∈ us, k ∈ kindsL) ∧ back1 s4 s4 = .some s4) ⟨p1, [], .u, rfl, hp1, rfl, by simp, rfl⟩ (fun i hi ρ hI => by
      obtain ⟨p', us, s4, rfl, hp', a1, a2, _⟩ := hI
      obtain ⟨r, p3, e3, hp3, r0, r1⟩ := below_at h (n + 1) hp' (m := (l.length : Nat)) (by omega) (by omega)
      obtain ⟨c, ec, mc⟩ := idx_str (l := l) (r := r) (by simp [line]; omega) r0 r1
      refine ⟨_, turn (ρ1 := envK p' (encS ps ts w) (.str (S l)) us (.v (ps.map PyData.str)[i])) rfl (s_seq (s_append (xs := us.map .str) (ys := us.map .str) rfl (e_idx (e_var rfl) (e_callP rfl (a_cons (e_bi (a_cons (e_var rfl) a_nil) el) a_nil) rfl e3) ec) rfl ?_) s_skip), p3, us ++ [S [c]], .v (ps.map PyData.str)[i], ?_, hp3, by simp [a1], fun k hk => ?_, rfl⟩
      · have h7 := S0.p7
        rw [List.length_map] at hi ⊢
        simp [line]; omega
      · show [_, _, _, _, _] = _
        unfold envK
        rw [List.map_append]
        rfl
      · rcases List.mem_append.mp hk with hk | hk
        · exact a2 k hk
        · rw [List.mem_singleton.mp hk]; exact l3 c mc)
  rw [List.length_map] at a1
  have x1 : exec (callN T (n + 2)) (.for_ (.n 4) (.iseq (.idx (.var 1) (.con (.int (0))))) (.seq (.append 3 (.idx (.var 2) (.callP 23 0 (.cons (.bi .len (.cons (.var 2) .nil)) .nil)))) .skip)) (envK p1 (encS ps ts w) (.str (S l)) [] .u) = .some (.nx, envK p2 (encS ps ts w) (.str (S l)) us s4) := s_for (i_seq (e_idx (e_var rfl) e_con rfl) rfl) e
  have h2 := S0.p2
  have h7 := S0.p7
  obtain ⟨a, b, c, rfl⟩ := id hp2
  have bl : ev (callN T (n + 2)) (.borrow 3 (.bi .len (.cons (.var 3) .nil))) (envK [.int a, .int b, .int c] (encS ps ts w) (.str (S l)) us s4) = .some (.int (us.length : Nat), envK [.int a, .int b, .int c] (encS ps ts w) (.str (S l)) us s4) := by
    refine e_borrow (y := .list (us.map .str)) (ρ1 := [.L [.int a, .int b, .int c], .v (encS ps ts w), .v (.str (S l)), .v (.list (us.map .str)), s4]) (ρ2 := [.L [.int a, .int b, .int c], .v (encS ps ts w), .v (.str (S l)), .u, s4]) rfl (e_bi (a_cons (e_var rfl) a_nil) len_map) rfl ?_
    exact back_cons rfl (back_cons rfl (back_cons rfl (back_cons rfl (back_cons hb rfl))))
  have c1 : ev (callN T (n + 2)) (.borrow 3 (.cmp .eq (.var 3) (.bop .mul (.lst (.cons (.con (.str (S [45]))) .nil)) (.borrow 3 (.bi .len (.cons (.var 3) .nil)))))) (envK [.int a, .int b, .int c] (encS ps ts w) (.str (S l)) us s4) = .some (.bool (decide (us = List.replicate us.length free)), envK [.int a, .int b, .int c] (encS ps ts w) (.str (S l)) us s4) := by
    have hbe : backE [.L [.int a, .int b, .int c], .v (encS ps ts w), .v (.str (S l)), .u, s4] [.L [.int a, .int b, .int c], .v (encS ps ts w), .v (.str (S l)), .v (.list (us.map .str)), s4] = .some [.L [.int a, .int b, .int c], .v (encS ps ts w), .v (.str (S l)), .u, s4] := back_cons rfl (back_cons rfl (back_cons rfl (back_cons rfl (back_cons hb rfl))))
    have hm : bopV .mul (.list [.str (S [45])]) (.int (us.length : Nat)) = .some (.list ((List.replicate us.length free).map .str)) := by
      show (if 0 ≤ (us.length : Int) ∧ (us.length : Int) ≤ 1000 ∧ [PyData.str (S [45])].length ≤ 1000 then Option.some (PyData.list (repL (us.length : Int).toNat [.str (S [45])])) else none) = _
      rw [if_pos ⟨by omega, by omega, by simp⟩, Int.toNat_natCast]
      congr 2
      unfold repL
      generalize us.length = m
      induction m with
      | zero => rfl
      | succ m ih => rw [List.replicate_succ, List.replicate_succ, List.flatten_cons, ih]; rfl
    exact e_borrow (y := .list (us.map .str)) (ρ1 := [.L [.int a, .int b, .int c], .v (encS ps ts w), .v (.str (S l)), .v (.list (us.map .str)), s4]) (ρ2 := [.L [.int a, .int b, .int c], .v (encS ps ts w), .v (.str (S l)), .u, s4]) rfl (e_cmp (ρ1 := [.L [.int a, .int b, .int c], .v (encS ps ts w), .v (.str (S l)), .v (.list (us.map .str)), s4]) (e_var rfl) (e_bop (e_lst (a_cons e_con a_nil)) (e_borrow (y := .list (us.map .str)) (ρ1 := [.L [.int a, .int b, .int c], .v (encS ps ts w), .v (.str (S l)), .v (.list (us.map .str)), s4]) (ρ2 := [.L [.int a, .int b, .int c], .v (encS ps ts w), .v (.str (S l)), .u, s4]) rfl (e_bi (a_cons (e_var rfl) a_nil) len_map) rfl hbe) hm) eq_strs) rfl hbe
  by_cases hu : us = List.replicate us.length free
  · obtain ⟨r, p3, e3, hp3, r0, r1⟩ := below_at h (n + 1) hp2 (m := (us.length : Nat)) (by omega) (by omega)
    have x2 : exec (callN T (n + 2)) (.asg (.sub 3 (.callP 23 0 (.cons (.borrow 3 (.bi .len (.cons (.var 3) .nil))) .nil))) (.con (.str (S [97])))) (envK [.int a, .int b, .int c] (encS ps ts w) (.str (S l)) us s4) = .some (.nx, envK p3 (encS ps ts w) (.str (S l)) (us.set r.toNat (S [97])) s4) := by
      have hix : ixP (us.map PyData.str).length r = .some r.toNat := by
        unfold ixP
        rw [if_pos r0, if_pos (by rw [List.length_map]; exact r1)]
      have := s_asg (ta := .sub 3 (.callP 23 0 (.cons (.borrow 3 (.bi .len (.cons (.var 3) .nil))) .nil))) (e_con (C := callN T (n + 2)) (x := .str (S [97])) (ρ := envK [.int a, .int b, .int c] (encS ps ts w) (.str (S l)) us s4)) (t_sub nofun (e_callP rfl (a_cons bl a_nil) rfl e3) (subL (xs := us.map .str) rfl hix))
      rw [this]
      unfold envK
      rw [List.map_set]
      rfl
    refine ⟨us.set r.toNat (S [97]), p3, call_pool_rt (ρ := [.L p3, .v (encS ps ts w), .v (.str (S l)), .v (.list ((us.set r.toNat (S [97])).map .str)), s4]) h31 rfl rfl rfl rfl (s_seq x0 (s_seq x1 (s_seq (s_if1 c1 (decide_eq_true hu) (s_seq x2 s_skip)) (s_seqr (s_rt (e_bi (a_cons (e_frzL rfl) a_nil) rfl)))))) rfl, hp3, by rw [List.length_set]; exact a1.symm, fun k hk => ?_, S [97], ?_, by decide⟩
    · rcases List.mem_or_eq_of_mem_set hk with hk | rfl
      · exact a2 k hk
      · decide
    · exact List.mem_set (by omega) _
  · refine ⟨us, _, call_pool_rt (ρ := [.L [.int a, .int b, .int c], .v (encS ps ts w), .v (.str (S l)), .v (.list (us.map .str)), s4]) h31 rfl rfl rfl rfl (s_seq x0 (s_seq x1 (s_seq (s_if0 c1 (decide_eq_false hu) s_skip) (s_seqr (s_rt (e_bi (a_cons (e_frzL rfl) a_nil) rfl)))))) rfl, hp2, a1.symm, a2, ?_⟩
    refine Classical.byContradiction fun q => hu (List.eq_replicate_iff.mpr ⟨rfl, fun k hk => ?_⟩)
    exact Classical.byContradiction fun e => q ⟨k, hk, e⟩
/-! ### the program's like ties -/
structure TL (T : Tbl) : Prop where
  t15 : T 15 = some d_is_kind
  t16 : T 16 = some d_wrong_in_seating
  t17 : T 17 = some d_like_by
  t20 : T 20 = some d_check_seating
theorem kind_at (B : TB T) (L : TL T) (n : Nat) {k : Str} (h : k ∈ kindsL) : (callN T (n + 2)).call 15 none [.str k] = .some (.bool true, []) := by
  have e := one_of_at B n k kindsL
  rw [decide_eq_true h] at e
  exact call_rt (ρ := [.v (.str k)]) L.t15 rfl rfl rfl rfl rfl (s_seqr (s_rt (e_call (a_cons (e_var rfl) (a_cons (e_tup (a_star e_glob rfl (a_cons e_glob a_nil))) a_nil)) e)))
theorem wrong_all_at (B : TB T) (n : Nat) {g : Nat} {xs : List Val} (h : ∀ x ∈ xs, (callN T (n + 2)).call g none [x] = .some (.bool true, [])) : (callN T (n + 3)).call 8 none [.tuple xs, .int (xs.length : Nat), gfV g] = .some (.list [], []) := by
  have e := tuple_of_at B (n + 1) xs (xs.length : Nat)
  rw [decide_eq_true rfl] at e
  refine call_rt (ρ := [.v (.tuple xs), .v (.int (xs.length : Nat)), .v (gfV g), .u, .u]) B.t8 rfl rfl rfl rfl rfl (s_seqr (s_rt (e_ift (e_call (a_cons (e_var rfl) (a_cons (e_var rfl) a_nil)) e) (e_callL (a_cons (e_var rfl) (a_cons (e_var rfl) (a_cons (e_var rfl) a_nil))) fun z => wrong_none B (Int.le_refl _) (fun i hi => ?_) fun i hi => ?_))))
  · rw [eq_int, decide_eq_false (by omega)]
  · exact lam_of (ρ0 := [.v (.tuple xs), .v (.int (xs.length : Nat)), .v (gfV g), .v (.tuple (xs.take i)), .v xs[i]]) (ρ' := [.v (.tuple xs), .v (.int (xs.length : Nat)), .v (gfV g), .v (.tuple (xs.take i)), .v xs[i]]) rfl rfl (e_actG rfl (a_cons (e_var rfl) a_nil) (h _ (List.getElem_mem hi)))
theorem wrong_seating_at (B : TB T) (L : TL T) (n : Nat) (S0 : Strt ps ts w) (hs : Seat ps ks) : (callN T (n + 4)).call 16 none [stV (encS ps ts w), .tuple (ks.map .str)] = .some (.list [], []) := by
  have e := wrong_all_at B n (g := 15) (xs := ks.map .str) fun x hx => by
    obtain ⟨k, mk, rfl⟩ := List.mem_map.mp hx
    exact kind_at B L n (hs.kin k mk)
  have hl : biV .len [.tuple (ps.map .str)] = .some (.int ((ks.map PyData.str).length : Nat)) := by
    rw [len_tup, List.length_map, List.length_map, hs.len]
  have lc : ev (callN T (n + 3)) (.lc (.cmp .ne (.var 3) (.glob (S [70, 82, 69, 69]) (.str (S [45])))) (.n 3) (.iseq (.var 1)) .nil) [.v (stV (encS ps ts w)), .v (.tuple (ks.map .str)), .v (.list []), .u] = .some (.list ((ks.filter fun _ => true).map fun k => .bool (!decide (k = free))), [.v (stV (encS ps ts w)), .v (.tuple (ks.map .str)), .v (.list []), .u]) :=
    e_lct ks PyData.str (fun _ => true) (fun k => .bool (!decide (k = free))) (i_seq (e_var rfl) rfl) rfl (by have := hs.len; have := S0.p7; simp [line]; omega) fun k mk => ⟨[.v (stV (encS ps ts w)), .v (.tuple (ks.map .str)), .v (.list []), .v (.str k)], rfl, rfl, c_nil, fun _ => e_cmp (e_var rfl) e_glob ne_str⟩
  rw [List.filter_eq_self.mpr fun _ _ => rfl] at lc
  have ha : (ks.any fun k => !decide (k = free)) = true := by
    obtain ⟨k, mk, hk⟩ := hs.some
    exact List.any_eq_true.mpr ⟨k, mk, by simpa using hk⟩
  exact call_rt (ρ := [.v (stV (encS ps ts w)), .v (.tuple (ks.map .str)), .v (.list []), .u]) L.t16 rfl rfl rfl rfl rfl (s_seq (s_asgn (e_call (a_cons (e_var rfl) (a_cons (e_bi (a_cons (e_prop (e_var rfl) rfl) a_nil) hl) (a_cons e_glob a_nil))) e)) (s_seq (s_iff (e_cmp (e_var rfl) (e_lst a_nil) (ne_nil (us := []))) s_skip) (s_seqr (s_rt (e_if1 (e_bi (a_cons lc a_nil) (any_map _ _)) ha (e_lst a_nil))))))
theorem check_street_at (B : TB T) (n : Nat) {x : Val} : (callN T (n + 1)).call 19 none [stV x] = .some (.none, []) :=
  call_nx (ρ := [.v (stV x)]) B.t19 rfl rfl rfl rfl rfl (s_seq (s_iff (e_not (r := true) (e_isa (e_var rfl) rfl)) s_skip) s_skip)
theorem check_seating_at (B : TB T) (L : TL T) (n : Nat) (S0 : Strt ps ts w) (hs : Seat ps ks) : (callN T (n + 5)).call 20 none [stV (encS ps ts w), .tuple (ks.map .str)] = .some (.none, []) :=
  call_nx (ρ := [.v (stV (encS ps ts w)), .v (.tuple (ks.map .str)), .u]) L.t20 rfl rfl rfl rfl rfl (s_seq (s_ex (e_call (a_cons (e_var rfl) a_nil) (check_street_at B (n + 3)))) (s_seq (s_for (i_seq (e_call (a_cons (e_var rfl) (a_cons (e_var rfl) a_nil)) (wrong_seating_at B L n S0 hs)) rfl) rfl) s_skip))
theorem like_ties_at (B : TB T) (L : TL T) (h : T 21 = some d_like_ties) (n : Nat) (S0 : Strt ps ts w) (hs : Seat ps ks) : (callN T (n + 6)).call 21 none [stV (encS ps ts w), .tuple (ks.map .str)] = .some (.int (likeN ps ts ks : Nat), []) :=
  call_rt (ρ := [.v (stV (encS ps ts w)), .v (.tuple (ks.map .str))]) h rfl rfl rfl rfl rfl (s_seq (s_ex (e_call (a_cons (e_var rfl) (a_cons (e_var rfl) a_nil)) (check_seating_at B L n S0 hs))) (s_seqr (s_rt (e_call (a_cons (e_var rfl) (a_cons (e_var rfl) a_nil)) (like_by_at L.t17 (n + 4) S0 hs.len)))))
end
end PL
set_option maxHeartbeats 2000000
/-! P6: alike values; where the draws come from; turned kinds. -/
namespace PL
open PySem PyProof.Rows
def okS : Nat → Val → Bool
  | d + 1, .tuple xs => decide (xs.length ≤ 1000) && xs.all (okS d)
  | d + 1, .list xs => decide (xs.length ≤ 1000) && xs.all (okS d)
  | _, v => scalar v
section
variable {T : Tbl}
theorem same_in (h : T 25 = some d__law_same) {n : Nat} {X : Val} {xs : List Val} (hx : xs.length ≤ 1000) (hl : biV .len [X] = some (.int (xs.length : Nat))) (hi : ∀ j : Int, idxV X (.int j) = atP xs j) (ih : ∀ x ∈ xs, (callN T n).call 25 none [x, x] = some (.bool true, [])) {s2 : Slot} :
    ev (callN T n) (.and (.cmp .eq (.bi .len (.cons (.var 0) .nil)) (.bi .len (.cons (.var 1) .nil))) (.bi .all (.cons (.lc (.call 25 (.cons (.idx (.var 0) (.var 3)) (.cons (.idx (.var 1) (.var 3)) .nil))) (.n 3) (.irange1 (.bi .len (.cons (.var 1) .nil))) .nil) .nil))) [.v X, .v X, s2, .u] = some (.bool true, [.v X, .v X, s2, .u]) := by
  have c1 : cmpV .eq (.int (xs.length : Nat)) (.int (xs.length : Nat)) = some true := by rw [eq_int, decide_eq_true rfl]
  have lc : ev (callN T n) (.lc (.call 25 (.cons (.idx (.var 0) (.var 3)) (.cons (.idx (.var 1) (.var 3)) .nil))) (.n 3) (.irange1 (.bi .len (.cons (.var 1) .nil))) .nil) [.v X, .v X, s2, .u] = some (.list (((List.range xs.length).filter fun _ => true).map fun _ => .bool true), [.v X, .v X, s2, .u]) := by
    refine e_lct (List.range xs.length) (fun k => .int (0 + (k : Nat))) (fun _ => true) (fun _ => .bool true) (i_range1 (e_bi (a_cons (e_var rfl) a_nil) hl) (by omega)) rfl (by simp [line]; omega) fun k hk => ⟨[.v X, .v X, s2, .v (.int (0 + (k : Nat)))], rfl, rfl, c_nil, fun _ => ?_⟩
    have hk' := List.mem_range.mp hk
    have e : idxV X (.int (0 + (k : Nat))) = some xs[k] := by
      rw [Int.zero_add, hi]
      unfold atP ixP
      rw [if_pos (by omega), if_pos (by omega)]
      simp
    exact e_call (a_cons (e_idx (e_var rfl) (e_var rfl) e) (a_cons (e_idx (e_var rfl) (e_var rfl) e) a_nil)) (ih _ (List.getElem_mem hk'))
  exact e_andt (e_cmp (e_bi (a_cons (e_var rfl) a_nil) hl) (e_bi (a_cons (e_var rfl) a_nil) hl) c1) (e_bi (a_cons lc a_nil) (all_true _))
theorem same_scalar (h : T 25 = some d__law_same) (n : Nat) {v : Val} (hv : scalar v = true) : (callN T (n + 1)).call 25 none [v, v] = some (.bool true, []) := by
  cases v with
  | none => exact call_rt (ρ := [.v .none, .v .none, .u, .u]) h rfl rfl rfl rfl rfl (s_seq (s_iff (e_orf (e_isa (e_var rfl) rfl) (e_isa (e_var rfl) rfl)) s_skip) (s_seqr (s_ift (e_cmp (e_var rfl) e_con rfl) (s_seqr (s_rt (e_cmp (e_var rfl) e_con rfl))))))
  | bool b =>
    have c1 : cmpV .eq (.bool b) (.bool b) = some true := by cases b <;> rfl
    exact call_rt (ρ := [.v (.bool b), .v (.bool b), .u, .u]) h rfl rfl rfl rfl rfl (s_seq (s_iff (e_orf (e_isa (e_var rfl) rfl) (e_isa (e_var rfl) rfl)) s_skip) (s_seq (s_iff (e_cmp (e_var rfl) e_con rfl) s_skip) (s_seqr (s_ift (e_isa (e_var rfl) rfl) (s_seqr (s_rt (e_andt (e_isa (e_var rfl) rfl) (e_cmp (e_var rfl) (e_var rfl) c1))))))))
  | int i =>
    have c1 : cmpV .eq (.int i) (.int i) = some true := by rw [eq_int, decide_eq_true rfl]
    exact call_rt (ρ := [.v (.int i), .v (.int i), .u, .u]) h rfl rfl rfl rfl rfl (s_seq (s_iff (e_orf (e_isa (e_var rfl) rfl) (e_isa (e_var rfl) rfl)) s_skip) (s_seq (s_iff (e_cmp (e_var rfl) e_con rfl) s_skip) (s_seq (s_iff (e_isa (e_var rfl) rfl) s_skip) (s_seqr (s_ift (e_isa (e_var rfl) rfl) (s_seqr (s_rt (e_andt (e_isa (e_var rfl) rfl) (e_andt (e_not (r := false) (e_isa (e_var rfl) rfl)) (e_cmp (e_var rfl) (e_var rfl) c1))))))))))
  | str s =>
    have c1 : cmpV .eq (.str s) (.str s) = some true := by rw [eq_str, decide_eq_true rfl]
    exact call_rt (ρ := [.v (.str s), .v (.str s), .u, .u]) h rfl rfl rfl rfl rfl (s_seq (s_iff (e_orf (e_isa (e_var rfl) rfl) (e_isa (e_var rfl) rfl)) s_skip) (s_seq (s_iff (e_cmp (e_var rfl) e_con rfl) s_skip) (s_seq (s_iff (e_isa (e_var rfl) rfl) s_skip) (s_seq (s_iff (e_isa (e_var rfl) rfl) s_skip) (s_seqr (s_rt (e_andt (e_isa (e_var rfl) rfl) (e_andt (e_isa (e_var rfl) rfl) (e_cmp (e_var rfl) (e_var rfl) c1)))))))))
  | tuple xs => cases hv
  | list xs => cases hv
  | dict kvs => cases hv
/-- a value is like itself -/
theorem same_at (h : T 25 = some d__law_same) : ∀ (d n : Nat) (v : Val), okS d v = true → d ≤ n → (callN T (n + 1)).call 25 none [v, v] = some (.bool true, [])
  | 0, n, v, hv, _ => same_scalar h n (by cases v <;> first | exact hv | cases hv)
  | d + 1, 0, _, _, hd => absurd hd (by omega)
  | d + 1, n + 1, v, hv, hd => by
    have key : ∀ {X : Val} {xs : List Val}, X = v → (decide (xs.length ≤ 1000) && xs.all (okS d)) = true → xs.length ≤ 1000 ∧ ∀ x ∈ xs, (callN T (n + 1)).call 25 none [x, x] = some (.bool true, []) := fun {X xs} _ h2 => by
      rw [Bool.and_eq_true, decide_eq_true_eq, List.all_eq_true] at h2
      exact ⟨h2.1, fun x hx => same_at h d n x (h2.2 x hx) (by omega)⟩
    cases v with
    | tuple xs =>
      obtain ⟨hx, ih⟩ := key (xs := xs) rfl hv
      exact call_rt (ρ := [.v (.tuple xs), .v (.tuple xs), .v (.bool true), .u]) h rfl rfl rfl rfl rfl (s_seqr (s_ift (e_ort (e_isa (e_var rfl) rfl)) (s_seq (s_asgn (e_ift (e_isa (e_var rfl) rfl) (e_isa (e_var rfl) rfl))) (s_seqr (s_rt (e_andt (e_var rfl) (same_in h hx len_tup (fun _ => rfl) ih)))))))
    | list xs =>
      obtain ⟨hx, ih⟩ := key (xs := xs) rfl hv
      exact call_rt (ρ := [.v (.list xs), .v (.list xs), .v (.bool true), .u]) h rfl rfl rfl rfl rfl (s_seqr (s_ift (e_orf (e_isa (e_var rfl) rfl) (e_isa (e_var rfl) rfl)) (s_seq (s_asgn (e_iff (e_isa (e_var rfl) rfl) (e_isa (e_var rfl) rfl))) (s_seqr (s_rt (e_andt (e_var rfl) (same_in h hx len_list (fun _ => rfl) ih)))))))
    | none => exact same_scalar h (n + 1) rfl
    | bool b => exact same_scalar h (n + 1) rfl
    | int i => exact same_scalar h (n + 1) rfl
    | str s => exact same_scalar h (n + 1) rfl
    | dict kvs => cases hv
/-! ### where the draws come from -/
theorem pow15 : bopV .pow (.int 10) (.int 15) = some (.int 1000000000000000) := by
  show (if (0 : Int) ≤ 15 ∧ (15 : Int) ≤ 1000000 ∧ (10 : Int).natAbs < 2 ^ 64 then some (PyData.int (10 ^ (15 : Int).toNat)) else none) = _
  rw [if_pos (by decide)]
  rfl
theorem int_int {i : Int} : biV .int [.int i] = some (.int i) := rfl
theorem pool_at (h : T 22 = some d__law_pool) (n : Nat) (ns : List Int) {j : Int} (j0 : 0 ≤ j) : ∃ l, (callN T (n + 1)).call 22 none [scrV (ns.map .int), .int j] = some (.list l, []) ∧ Pool l := by
  have e1 : ∃ m : Int, ev (callN T n) (.ife (.cmp .lt (.var 1) (.bi .len (.cons (.var 0) .nil))) (.bi .int (.cons (.idx (.var 0) (.var 1)) .nil)) (.bop .add (.bop .mul (.con (.int (12043))) (.var 1)) (.con (.int (1237))))) [.v (scrV (ns.map .int)), .v (.int j), .u, .u, .u] = some (.int m, [.v (scrV (ns.map .int)), .v (.int j), .u, .u, .u]) := by
    have c1 : ev (callN T n) (.cmp .lt (.var 1) (.bi .len (.cons (.var 0) .nil))) [.v (scrV (ns.map .int)), .v (.int j), .u, .u, .u] = some (.bool (decide (j < (ns.map PyData.int).length)), [.v (scrV (ns.map .int)), .v (.int j), .u, .u, .u]) := e_cmp (e_var rfl) (e_bi (a_cons (e_var rfl) a_nil) rfl) lt_int
    by_cases hj : j < (ns.map PyData.int).length
    · obtain ⟨y, ey, _, my⟩ := atP_nat (xs := ns.map PyData.int) j0 hj
      obtain ⟨m, _, rfl⟩ := List.mem_map.mp my
      exact ⟨m, e_if1 c1 (decide_eq_true hj) (e_bi (a_cons (e_idx (e_var rfl) (e_var rfl) ey) a_nil) int_int)⟩
    · exact ⟨_, e_if0 c1 (decide_eq_false hj) (e_bop (e_bop e_con (e_var rfl) (mul_l (by decide))) e_con add_ok)⟩
  obtain ⟨m, e1⟩ := e1
  obtain ⟨ρ', e, s, s4, rfl⟩ := for_all (ρ := [.v (scrV (ns.map .int)), .v (.int j), .v (.int m), .v (.int (102023 + 9013 * j)), .u]) (xs := (ns.take 63).map PyData.int) (step := fun x => bnd (asgM (.n 4) x) fun _ => exec (callN T n) (.seq (.asg (.n 3) (.bop .mod (.bi .int (.cons (.bop .add (.bop .add (.bop .mul (.var 3) (.con (.int (40699)))) (.bop .mod (.bi .int (.cons (.var 4) .nil)) (.con (.int (2147483587))))) (.con (.int (23)))) .nil)) (.con (.int (2147483629))))) .skip))
    (I := fun i ρ => ∃ (s : Int) (s4 : Slot), ρ = [.v (scrV (ns.map .int)), .v (.int j), .v (.int m), .v (.int s), s4]) ⟨_, _, rfl⟩ (fun i hi ρ hI => by
      obtain ⟨s, s4, rfl⟩ := hI
      obtain ⟨z, _, hz⟩ := List.mem_map.mp (List.getElem_mem hi)
      rw [← hz]
      exact ⟨_, turn (ρ1 := [.v (scrV (ns.map .int)), .v (.int j), .v (.int m), .v (.int s), .v (.int z)]) rfl (s_seq (s_asgn (e_bop (e_bi (a_cons (e_bop (e_bop (e_bop (e_var rfl) e_con (mul_r (by decide))) (e_bop (e_bi (a_cons (e_var rfl) a_nil) int_int) e_con (mod_ok (by decide))) add_ok) e_con add_ok) a_nil) int_int) e_con (mod_ok (by decide)))) s_skip), _, _, rfl⟩)
  have hc : slcV none (some 63) (scrV (ns.map PyData.int)) = some (.list ((ns.take 63).map .int)) := by
    show some (PyData.list (cutP (ns.map PyData.int) none (some 63))) = _
    rw [cut_to (by decide), List.map_take]; rfl
  have r5 : ∃ q : Int, ev (callN T n) (.ife (.or (.cmp .lt (.var 2) (.con (.int (0)))) (.cmp .ge (.var 2) (.bop .pow (.con (.int (10))) (.con (.int (15)))))) (.bi .abs (.cons (.var 2) .nil)) (.con (.int (0)))) [.v (scrV (ns.map .int)), .v (.int j), .v (.int m), .v (.int ((s * 97 + m % 2147483587 * 31013 + 7) % 2147483629)), s4] = some (.int q, [.v (scrV (ns.map .int)), .v (.int j), .v (.int m), .v (.int ((s * 97 + m % 2147483587 * 31013 + 7) % 2147483629)), s4]) := by
    have c1 := e_or (C := callN T n) (ρ := [.v (scrV (ns.map .int)), .v (.int j), .v (.int m), .v (.int ((s * 97 + m % 2147483587 * 31013 + 7) % 2147483629)), s4]) (a := .cmp .lt (.var 2) (.con (.int (0)))) (b := .cmp .ge (.var 2) (.bop .pow (.con (.int (10))) (.con (.int (15))))) (e_cmp (e_var rfl) e_con lt_int) (fun _ => e_cmp (e_var rfl) (e_bop e_con e_con pow15) ge_int)
    cases hb : (decide (m < 0) || decide (1000000000000000 ≤ m)) with
    | true => exact ⟨_, e_if1 c1 hb (e_bi (a_cons (e_var rfl) a_nil) rfl)⟩
    | false => exact ⟨_, e_if0 c1 hb e_con⟩
  obtain ⟨q, r5⟩ := r5
  refine ⟨[.int q, .int ((s * 97 + m % 2147483587 * 31013 + 7) % 2147483629), .int 0], call_rt (ρ := [.v (scrV (ns.map .int)), .v (.int j), .v (.int m), .v (.int ((s * 97 + m % 2147483587 * 31013 + 7) % 2147483629)), s4]) h rfl rfl rfl rfl rfl ?_, _, _, _, rfl⟩
  refine s_seq (s_asgn e1) (s_seq (s_asgn (e_bop e_con (e_bop e_con (e_var rfl) (mul_l (by decide))) add_ok)) (s_seq (s_for (i_seq (e_slc (e_var rfl) p_nil (p_int e_con) hc) rfl) e) (s_seq (s_asgn (e_bop (e_bi (a_cons (e_bop (e_bop (e_bop (e_var rfl) e_con (mul_r (by decide))) (e_bop (e_bop (e_bi (a_cons (e_var rfl) a_nil) int_int) e_con (mod_ok (by decide))) e_con (mul_r (by decide))) add_ok) e_con add_ok) a_nil) int_int) e_con (mod_ok (by decide)))) (s_seqr (s_rt (e_lst (a_cons r5 (a_cons (e_var rfl) (a_cons e_con a_nil)))))))))
/-! ### turned kinds -/
def tk (k : Str) : Str := if k = S [97] then S [98] else if k = S [98] then S [99] else if k = S [99] then S [97] else S [45]
def turnL : List (Str × Str) := [(S [97], S [98]), (S [98], S [99]), (S [99], S [97]), (S [45], S [45])]
theorem tk_find : ∀ k ∈ kindsL, (turnL.find? fun p => decide (p.1 = k)) = some (k, tk k) := by decide +kernel
theorem tk_idx {k : Str} (h : k ∈ kindsL) : idxV (.dict (encA .str turnL)) (.str k) = some (.str (tk k)) := by
  refine idx_enc ?_
  rw [dget_enc, tk_find k h]
  rfl
theorem tk_kin : ∀ k ∈ kindsL, tk k ∈ kindsL ∧ (k ≠ free → tk k ≠ free) := by decide +kernel
theorem tk_like : ∀ x ∈ kindsL, ∀ y ∈ kindsL, (!decide (tk x = free) && decide (tk x = tk y)) = (!decide (x = free) && decide (x = y)) := by decide +kernel
variable {ps ks : List Str} {ts : List (Str × Str)} {w : Int × Int}
theorem at_in (hs : Seat ps ks) {s : Str} (h : s ∈ ps) : at_ ps ks s ∈ kindsL := by
  have hp := pos_lt h
  have hl := hs.len
  unfold at_
  rw [List.getD_eq_getElem?_getD, List.getElem?_eq_getElem (by omega)]
  exact hs.kin _ (List.getElem_mem _)
theorem at_map (hl : ps.length = ks.length) {s : Str} (h : s ∈ ps) (f : Str → Str) : at_ ps (ks.map f) s = f (at_ ps ks s) := by
  have hp := pos_lt h
  unfold at_
  rw [List.getD_eq_getElem?_getD, List.getD_eq_getElem?_getD, List.getElem?_map, List.getElem?_eq_getElem (by omega)]
  rfl
theorem like_tk (S0 : Strt ps ts w) (hs : Seat ps ks) : likeN ps ts (ks.map tk) = likeN ps ts ks := by
  unfold likeN
  congr 1
  refine List.filter_congr fun t ht => ?_
  obtain ⟨t1, t2, _⟩ := S0.tin t ht
  unfold likeB
  rw [at_map hs.len t1, at_map hs.len t2]
  exact tk_like _ (at_in hs t1) _ (at_in hs t2)
theorem seat_tk (hs : Seat ps ks) : Seat ps (ks.map tk) := by
  refine ⟨by rw [List.length_map]; exact hs.len, fun k hk => ?_, ?_⟩
  · obtain ⟨x, mx, rfl⟩ := List.mem_map.mp hk
    exact (tk_kin x (hs.kin x mx)).1
  · obtain ⟨x, mx, hx⟩ := hs.some
    exact ⟨tk x, List.mem_map_of_mem mx, (tk_kin x (hs.kin x mx)).2 hx⟩
theorem seat_rep (S0 : Strt ps ts w) : Seat ps (List.replicate ps.length (S [99])) := by
  have := S0.p2
  refine ⟨by simp, fun k hk => ?_, S [99], List.mem_replicate.mpr ⟨by omega, rfl⟩, by decide⟩
  rw [List.eq_of_mem_replicate hk]
  decide
theorem like_rep (S0 : Strt ps ts w) : likeN ps ts (List.replicate ps.length (S [99])) = ts.length := by
  have ha : ∀ s ∈ ps, at_ ps (List.replicate ps.length (S [99])) s = S [99] := fun s hs => by
    have hp := pos_lt hs
    unfold at_
    rw [List.getD_eq_getElem?_getD, List.getElem?_replicate, if_pos hp]; rfl
  unfold likeN
  rw [List.filter_eq_self.mpr fun t ht => ?_]
  obtain ⟨t1, t2, _⟩ := S0.tin t ht
  unfold likeB
  rw [ha _ t1, ha _ t2]
  decide
end
end PL
set_option maxHeartbeats 2000000
/-! P7: the law of like ties holds. -/
namespace PL
open PySem PyProof.Rows
theorem o_call {C : Sem} {ρ ρ1 : PL.Env} {f : Nat} {es : Ex} {xs : List Val} (h : ev C (.call f es) ρ = some (.list xs, ρ1)) : evO C (.call f es) ρ = some (.L xs, ρ1) := bnd_of h rfl
theorem own_ok {T : Tbl} (h : T 27 = some d__law_own_v0) : OwnOk T 1 := by
  refine ⟨Txt.split (S [97, 32, 97, 98, 32, 97, 98, 99, 32, 98, 32, 99]) (S [32]), fun m => ?_⟩
  refine call_rt (ρ := []) h rfl rfl rfl rfl rfl (s_seqr (s_rt (e_me e_con (a_cons e_con a_nil) ?_)))
  show (if ((S [32]).length == 0) = false ∧ (S [97, 32, 97, 98, 32, 97, 98, 99, 32, 98, 32, 99]).length + 2 ≤ line then some (PyData.list ((Txt.split (S [97, 32, 97, 98, 32, 97, 98, 99, 32, 98, 32, 99]) (S [32])).map .str)) else none) = _
  rw [if_pos]
  rw [S_len, S_len]
  simp [line]
structure TK (T : Tbl) : Prop where
  B : TB T
  L : TL T
  t21 : T 21 = some d_like_ties
  t22 : T 22 = some d__law_pool
  t23 : T 23 = some d__law_below
  t24 : T 24 = some d__law_one
  t25 : T 25 = some d__law_same
  t26 : T 26 = some d__law_words
  t27 : OwnOk T 1
  t28 : T 28 = some d__law_name
  t29 : T 29 = some d__law_street
  t30 : T 30 = some d__law_made
  t31 : T 31 = some d__law_seating
  t32 : T 32 = some d__law_ends
  t33 : T 33 = some d__law_like
section
variable {T : Tbl} {p : List Val} {ps ks : List Str} {ts : List (Str × Str)} {w : Int × Int}
def turnE : Ex := .dlit false (.cons (.tup (.cons (.con (.str (S [97]))) (.cons (.con (.str (S [98]))) .nil))) (.cons (.tup (.cons (.con (.str (S [98]))) (.cons (.con (.str (S [99]))) .nil))) (.cons (.tup (.cons (.con (.str (S [99]))) (.cons (.con (.str (S [97]))) .nil))) (.cons (.tup (.cons (.con (.str (S [45]))) (.cons (.con (.str (S [45]))) .nil))) .nil))))
theorem turn_dict {C : Sem} {ρ : PL.Env} : ev C turnE ρ = some (.dict (encA .str turnL), ρ) := by
  have e := e_dlit (C := C) (ρ := ρ) (t := false) (a_cons (e_tup (a_cons (e_con (x := .str (S [97]))) (a_cons (e_con (x := .str (S [98]))) a_nil))) (a_cons (e_tup (a_cons (e_con (x := .str (S [98]))) (a_cons (e_con (x := .str (S [99]))) a_nil))) (a_cons (e_tup (a_cons (e_con (x := .str (S [99]))) (a_cons (e_con (x := .str (S [97]))) a_nil))) (a_cons (e_tup (a_cons (e_con (x := .str (S [45]))) (a_cons (e_con (x := .str (S [45]))) a_nil))) a_nil)))) (kvs := encA PyData.str turnL) rfl rfl
  have d := dputs_enc PyData.str turnL [] (by decide +kernel) (by simp)
  rw [show encA PyData.str ([] : List (Str × Str)) = [] from rfl, List.nil_append] at d
  rw [d] at e
  exact e
def rightTurn : St := .seq (.asg (.n 2) (.callP 29 0 (.cons (.con (.int (7))) .nil))) (.seq (.par [(3, false), (4, false)] (.cons (.call 30 (.cons (.var 2) .nil)) (.cons (.callP 31 0 (.cons (.var 2) .nil)) .nil))) (.seq (.asg (.n 5) (.call 33 (.cons (.var 2) (.cons (.var 4) .nil)))) (.seq (.ite (.not (.call 25 (.cons (.lst (.cons (.call 21 (.cons (.var 3) (.cons (.var 4) .nil))) (.cons (.callK 21 [1, 0] (.cons (.var 4) (.cons (.var 3) .nil))) .nil))) (.cons (.lst (.cons (.var 5) (.cons (.var 5) .nil))) .nil)))) (.seq (.rt (.con (.bool false))) .skip) .skip) (.seq (.asg (.n 6) (.bi .tuple (.cons (.lc (.idx turnE (.var 7)) (.n 7) (.iseq (.var 4)) .nil) .nil))) (.seq (.ite (.not (.call 25 (.cons (.lst (.cons (.call 21 (.cons (.var 3) (.cons (.var 6) .nil))) (.cons (.call 21 (.cons (.var 3) (.cons (.bop .mul (.tup (.cons (.con (.str (S [99]))) .nil)) (.bi .len (.cons (.var 4) .nil))) .nil))) .nil))) (.cons (.lst (.cons (.var 5) (.cons (.bi .len (.cons (.idx (.var 2) (.con (.int (1)))) .nil)) .nil))) .nil)))) (.seq (.rt (.con (.bool false))) .skip) .skip) .skip)))))
theorem right_turn (K : TK T) (n : Nat) (hp : Pool p) {s1 s2 s3 s4 s5 s6 s7 : Slot} : ∃ p' t2 t3 t4 t5 t6, exec (callN T (n + 7)) rightTurn [.L p, s1, s2, s3, s4, s5, s6, s7] = some (.nx, [.L p', s1, t2, t3, t4, t5, t6, .u]) ∧ Pool p' := by
  obtain ⟨ps, ts, w, p1, e1, hp1, S0, -⟩ := street_at (n := n + 3) K.t23 K.t24 K.t26 K.t28 K.t29 K.t27 (by omega) hp (most := 7) (by decide) (by decide)
  obtain ⟨ks, p2, e2, hp2, hs⟩ := seating_at K.t23 K.t24 K.t31 (n + 4) hp1 S0
  have em := made_at K.B K.t30 n S0
  have el := like_at K.t32 K.t33 (n + 5) S0 hs.len
  have et := like_ties_at K.B K.L K.t21 (n + 1) S0 hs
  have et2 := like_ties_at K.B K.L K.t21 (n + 1) S0 (seat_tk hs)
  rw [like_tk S0 hs] at et2
  have et3 := like_ties_at K.B K.L K.t21 (n + 1) S0 (seat_rep S0)
  rw [like_rep S0] at et3
  have q1 := same_at K.t25 1 (n + 6) (.list [.int (likeN ps ts ks : Nat), .int (likeN ps ts ks : Nat)]) rfl (by omega)
  have q2 := same_at K.t25 1 (n + 6) (.list [.int (likeN ps ts ks : Nat), .int (ts.length : Nat)]) rfl (by omega)
  have lc : ev (callN T (n + 7)) (.lc (.idx turnE (.var 7)) (.n 7) (.iseq (.var 4)) .nil) [.L p2, s1, .v (encS ps ts w), .v (stV (encS ps ts w)), .v (.tuple (ks.map .str)), .v (.int (likeN ps ts ks : Nat)), s6, s7] = some (.list ((ks.filter fun _ => true).map fun k => .str (tk k)), [.L p2, s1, .v (encS ps ts w), .v (stV (encS ps ts w)), .v (.tuple (ks.map .str)), .v (.int (likeN ps ts ks : Nat)), s6, .u]) :=
    e_lct ks PyData.str (fun _ => true) (fun k => .str (tk k)) (i_seq (e_var rfl) rfl) rfl (by have := hs.len; have := S0.p7; simp [line]; omega) fun k mk => ⟨[.L p2, s1, .v (encS ps ts w), .v (stV (encS ps ts w)), .v (.tuple (ks.map .str)), .v (.int (likeN ps ts ks : Nat)), s6, .v (.str k)], rfl, rfl, c_nil, fun _ => e_idx turn_dict (e_var rfl) (tk_idx (hs.kin k mk))⟩
  have ht : biV .tuple [.list ((ks.filter fun _ => true).map fun k => PyData.str (tk k))] = some (.tuple ((ks.map tk).map .str)) := by
    rw [List.filter_eq_self.mpr fun _ _ => rfl, List.map_map]; rfl
  have hc : bopV .mul (.tuple [.str (S [99])]) (.int ((ks.map PyData.str).length : Nat)) = some (.tuple ((List.replicate ps.length (S [99])).map .str)) := by
    have h2 := S0.p2
    have h7 := S0.p7
    rw [List.length_map, ← hs.len]
    show (if 1 ≤ (ps.length : Int) ∧ (ps.length : Int) ≤ 1000 ∧ [PyData.str (S [99])].length ≤ 1000 ∧ [PyData.str (S [99])] ≠ [] then Option.some (PyData.tuple (repL (ps.length : Int).toNat [.str (S [99])])) else none) = _
    rw [if_pos ⟨by omega, by omega, by simp, by simp⟩, Int.toNat_natCast]
    congr 2
    unfold repL
    generalize ps.length = m
    induction m with
    | zero => rfl
    | succ m ih => rw [List.replicate_succ, List.replicate_succ, List.flatten_cons, ih]; rfl
  have hl1 : biV .len [.tuple (ts.map encP)] = some (.int (ts.length : Nat)) := by rw [len_tup, List.length_map]
  refine ⟨p2, .v (encS ps ts w), .v (stV (encS ps ts w)), .v (.tuple (ks.map .str)), .v (.int (likeN ps ts ks : Nat)), .v (.tuple ((ks.map tk).map .str)), ?_, hp2⟩
  exact s_seq (s_asgn (e_callP rfl (a_cons e_con a_nil) rfl e1)) (s_seq (s_par (m_v (e_call (a_cons (e_var rfl) a_nil) em) (m_v (e_callP rfl (a_cons (e_var rfl) a_nil) rfl e2) m_nil)))
    (s_seq (s_asgn (e_call (a_cons (e_var rfl) (a_cons (e_var rfl) a_nil)) el))
    (s_seq (s_iff (e_not (r := true) (e_call (a_cons (e_lst (a_cons (e_call (a_cons (e_var rfl) (a_cons (e_var rfl) a_nil)) et) (a_cons (e_callK (a_cons (e_var rfl) (a_cons (e_var rfl) a_nil)) et) a_nil))) (a_cons (e_lst (a_cons (e_var rfl) (a_cons (e_var rfl) a_nil))) a_nil)) q1)) s_skip)
    (s_seq (s_asgn (e_bi (a_cons lc a_nil) ht))
    (s_seq (s_iff (e_not (r := true) (e_call (a_cons (e_lst (a_cons (e_call (a_cons (e_var rfl) (a_cons (e_var rfl) a_nil)) et2) (a_cons (e_call (a_cons (e_var rfl) (a_cons (e_bop (e_tup (a_cons e_con a_nil)) (e_bi (a_cons (e_var rfl) a_nil) len_tup) hc) a_nil)) et3) a_nil))) (a_cons (e_lst (a_cons (e_var rfl) (a_cons (e_bi (a_cons (e_idx (e_var rfl) e_con rfl) a_nil) hl1) a_nil))) a_nil)) q2)) s_skip) s_skip)))))
theorem right_at (K : TK T) (h34 : T 34 = some d__law_right_v0) (n : Nat) (hp : Pool p) : ∃ p', (callN T (n + 8)).call 34 (some p) [] = some (.bool true, p') ∧ Pool p' := by
  obtain ⟨ρ', e, p', s1, s2, s3, s4, s5, s6, s7, rfl, hp'⟩ := for_all (ρ := [.L p, .u, .u, .u, .u, .u, .u, .u]) (xs := rangeV 0 5) (step := fun x => bnd (asgM (.n 1) x) fun _ => exec (callN T (n + 7)) rightTurn) (I := fun i ρ => ∃ p' s1 s2 s3 s4 s5 s6 s7, ρ = [.L p', s1, s2, s3, s4, s5, s6, s7] ∧ Pool p') ⟨p, _, _, _, _, _, _, _, rfl, hp⟩ (fun i hi ρ hI => by
      obtain ⟨p', s1, s2, s3, s4, s5, s6, s7, rfl, hp'⟩ := hI
      obtain ⟨p2, t2, t3, t4, t5, t6, e, hp2⟩ := right_turn (s1 := .v (rangeV 0 5)[i]) (s2 := s2) (s3 := s3) (s4 := s4) (s5 := s5) (s6 := s6) (s7 := s7) K n hp'
      exact ⟨_, turn (ρ1 := [.L p', .v (rangeV 0 5)[i], s2, s3, s4, s5, s6, s7]) rfl e, p2, _, _, _, _, _, _, _, rfl, hp2⟩)
  exact ⟨p', call_pool_rt (ρ := [.L p', s1, s2, s3, s4, s5, s6, s7]) h34 rfl rfl rfl rfl (s_seq (s_for (i_range1 e_con (by decide)) e) (s_seqr (s_rt e_con))) rfl, hp'⟩
/-- the law: each lap's rights are right -/
theorem laps_at (h22 : T 22 = some d__law_pool) {f : Nat} (hf : T f = some d_law_v0) (n : Nat) (hr : ∀ p, Pool p → ∃ p', (callN T (n + 1)).call 34 (some p) [] = some (.bool true, p') ∧ Pool p') (ns : List Int) : callN T (n + 2) f none [scrV (ns.map .int)] = some (.bool true, []) := by
  have hk : ∃ k : Nat, evI (callN T (n + 1)) (.irange1 (.bi .max (.cons (.con (.int (1))) (.cons (.bi .min (.cons (.bi .len (.cons (.var 0) .nil)) (.cons (.con (.int (3))) .nil))) .nil)))) [.v (scrV (ns.map .int)), .u, .u, .u] = some (rangeV 0 k, [.v (scrV (ns.map .int)), .u, .u, .u]) := by
    refine ⟨_, i_range1 (e_bi (a_cons e_con (a_cons (e_bi (a_cons (e_bi (a_cons (e_var rfl) a_nil) rfl) (a_cons e_con a_nil)) rfl) a_nil)) rfl) ?_⟩
    constructor <;> (repeat' split) <;> omega
  obtain ⟨k, hk⟩ := hk
  obtain ⟨ρ', e, s1, s2, s3, rfl⟩ := for_all (ρ := [.v (scrV (ns.map .int)), .u, .u, .u]) (xs := rangeV 0 k) (step := fun x => bnd (asgM (.n 1) x) fun _ => exec (callN T (n + 1)) (.seq (.own 2 (.call 22 (.cons (.var 0) (.cons (.var 1) .nil)))) (.seq (.ite (.not (.bi .all (.cons (.lc (.callP 34 2 .nil) (.n 3) (.irange1 (.con (.int (4)))) .nil) .nil))) (.seq (.rt (.con (.bool false))) .skip) .skip) .skip))) (I := fun i ρ => ∃ s1 s2 s3, ρ = [.v (scrV (ns.map .int)), s1, s2, s3]) ⟨_, _, _, rfl⟩ (fun i hi ρ hI => by
      obtain ⟨s1, s2, s3, rfl⟩ := hI
      have hx : (rangeV 0 k)[i] = .int (0 + (i : Nat)) := by simp [rangeV]
      rw [hx]
      obtain ⟨l, el, hl⟩ := pool_at h22 n ns (j := 0 + (i : Nat)) (by omega)
      obtain ⟨ys, ρ2, e2, l2, rfl, hl2, rfl⟩ := loop_inv (step := lcStep (.n 3) (condM .nil (ev (callN T (n + 1)) .nil)) (ev (callN T (n + 1)) (.callP 34 2 .nil))) (xs := rangeV 0 4) (I := fun q acc ρ' => ∃ l2, ρ' = [.v (scrV (ns.map .int)), .v (.int (0 + (i : Nat))), .L l2, .u] ∧ Pool l2 ∧ acc = (List.range q).map fun _ => .bool true) (ρ := [.v (scrV (ns.map .int)), .v (.int (0 + (i : Nat))), .L l, .u]) ⟨l, rfl, hl, rfl⟩ (fun i' hi' acc ρ _ hI => by
          obtain ⟨l2, rfl, hl2, rfl⟩ := hI
          obtain ⟨l3, e3, hl3⟩ := hr l2 hl2
          refine ⟨some (.bool true), _, st_yes (ρ1 := [.v (scrV (ns.map .int)), .v (.int (0 + (i : Nat))), .L l2, .v (rangeV 0 4)[i']]) rfl c_nil (e_callP rfl a_nil rfl e3), l3, rfl, hl3, ?_⟩
          rw [List.range_succ, List.map_append]
          rfl) (by simp [rangeV, line])
      exact ⟨_, turn (ρ1 := [.v (scrV (ns.map .int)), .v (.int (0 + (i : Nat))), s2, s3]) rfl (s_seq (s_own (o_call (e_call (a_cons (e_var rfl) (a_cons (e_var rfl) a_nil)) el))) (s_seq (s_if0 (e_not (e_bi (a_cons (e_lc (i_range1 e_con (by decide)) e2) a_nil) (all_true _))) rfl s_skip) s_skip)), _, _, _, rfl⟩)
  exact call_rt (ρ := [.v (scrV (ns.map .int)), s1, s2, s3]) hf rfl rfl rfl rfl rfl (s_seq (s_for hk e) (s_seqr (s_rt e_con)))
end
end PL
set_option maxHeartbeats 2000000
/-! P8: all seatings of a crowd, as the program and as the law list them. -/
namespace PL
open PySem PyProof.Rows
/-- a loop over codes, by what went ahead -/
theorem for_typed {α : Type} {enc : α → Val} {step : Val → M Out} {I : List α → PL.Env → Prop} : ∀ (xs : List α) {ρ : PL.Env}, I [] ρ → (∀ pre x post, xs = pre ++ x :: post → ∀ ρ, I pre ρ → ∃ ρ', step (enc x) ρ = some (.nx, ρ') ∧ I (pre ++ [x]) ρ') → ∃ ρ', forLoop step (xs.map enc) ρ = some (.nx, ρ') ∧ I xs ρ' := by
  intro xs ρ h0 hs
  have key : ∀ (post pre : List α) (ρ : PL.Env), xs = pre ++ post → I pre ρ → ∃ ρ', forLoop step (post.map enc) ρ = some (.nx, ρ') ∧ I xs ρ' := by
    intro post
    induction post with
    | nil => intro pre ρ e h; rw [List.append_nil] at e; subst e; exact ⟨ρ, rfl, h⟩
    | cons x post ih =>
      intro pre ρ e h
      obtain ⟨ρ1, e1, h1⟩ := hs pre x post e ρ h
      obtain ⟨ρ2, e2, h2⟩ := ih (pre ++ [x]) ρ1 (by rw [e, List.append_assoc]; rfl) h1
      exact ⟨ρ2, bnd_of e1 e2, h2⟩
  exact key xs [] ρ rfl h0
theorem cut_from {α : Type} {xs : List α} {k : Int} (h : 0 ≤ k) : cutP xs (some k) none = xs.drop k.toNat := by
  unfold cutP sIx
  simp only
  rw [if_neg (by omega)]
  by_cases hk : k.toNat ≤ xs.length
  · rw [Nat.min_eq_left hk, List.take_of_length_le (by rw [List.length_drop]; omega)]
  · rw [Nat.min_eq_right (by omega), List.drop_length, List.drop_eq_nil_of_le (by omega)]
    simp
abbrev Row := List Str × List Int
def encK (ks : List Str) : Val := .tuple (ks.map .str)
def encR (r : Row) : Val := .tuple [encK r.1, .tuple (r.2.map .int)]
def fK : List (Str × Nat) := [(S [45], 0), (S [97], 1), (S [98], 2), (S [99], 3)]
def step1 (r : Row) (p : Str × Nat) : Option Row := if 0 < r.2.getD p.2 0 then some (r.1 ++ [p.1], r.2.take p.2 ++ (r.2.getD p.2 0 - 1) :: r.2.drop (p.2 + 1)) else none
def nextR (r : Row) : List Row := fK.filterMap (step1 r)
def layerR (rows : List Row) : List Row := rows.flatMap nextR
def rowsN (l : List Row) : Nat → List Row
  | 0 => l
  | n + 1 => layerR (rowsN l n)
structure RowOk (n i : Nat) (r : Row) : Prop where
  len : r.1.length = i
  l4 : r.2.length = 4
  pos : ∀ x ∈ r.2, 0 ≤ x
  sum : r.2.sum + i = n
  kin : ∀ k ∈ r.1, k ∈ kindsL
theorem four {l : List Int} (h : l.length = 4) : ∃ a b c d, l = [a, b, c, d] := by
  match l, h with
  | [a, b, c, d], _ => exact ⟨a, b, c, d, rfl⟩
theorem step1_ok {n i : Nat} {r q : Row} {p : Str × Nat} (hr : RowOk n i r) (hp : p ∈ fK) (h : step1 r p = some q) : RowOk n (i + 1) q := by
  obtain ⟨ks, l⟩ := r
  obtain ⟨h1, h2, h3, h4, h5⟩ := hr
  obtain ⟨a, b, c, d, e⟩ := four h2
  dsimp only at e h1 h3 h4 h5
  subst e
  unfold step1 at h
  split at h
  · rename_i hpos
    have hq := Option.some.inj h
    simp only [List.mem_cons, List.not_mem_nil, or_false, forall_eq_or_imp, forall_eq] at h3
    obtain ⟨a0, b0, c0, d0⟩ := h3
    simp only [List.sum_cons, List.sum_nil] at h4
    have hk : ∀ s ∈ kindsL, ∀ k ∈ ks ++ [s], k ∈ kindsL := fun s hs k hk => by
      rcases List.mem_append.mp hk with hk | hk
      · exact h5 k hk
      · rw [List.mem_singleton.mp hk]; exact hs
    simp only [fK, List.mem_cons, List.not_mem_nil, or_false] at hp
    rcases hp with rfl | rfl | rfl | rfl <;> subst hq <;> simp at hpos <;> refine ⟨by simp [h1], by simp, ?_, ?_, hk _ (by decide)⟩ <;> simp <;> omega
  · cases h
theorem next_ok {n i : Nat} {r q : Row} (hr : RowOk n i r) (h : q ∈ nextR r) : RowOk n (i + 1) q := by
  obtain ⟨p, hp, e⟩ := List.mem_filterMap.mp h
  exact step1_ok hr hp e
theorem next_some {n i : Nat} {r : Row} (hr : RowOk n i r) (hi : i < n) : nextR r ≠ [] := by
  obtain ⟨ks, l⟩ := r
  obtain ⟨h1, h2, h3, h4, h5⟩ := hr
  obtain ⟨a, b, c, d, e⟩ := four h2
  dsimp only at e h1 h3 h4 h5
  subst e
  simp only [List.sum_cons, List.sum_nil] at h4
  intro hn
  have hn' := List.filterMap_eq_nil_iff.mp hn
  have key : ∀ p ∈ fK, [a, b, c, d].getD p.2 0 ≤ 0 := fun p hp => by
    have := hn' p hp
    unfold step1 at this
    split at this
    · cases this
    · rename_i h; exact Int.not_lt.mp h
  have k0 := key (S [45], 0) (by simp [fK])
  have k1 := key (S [97], 1) (by simp [fK])
  have k2 := key (S [98], 2) (by simp [fK])
  have k3 := key (S [99], 3) (by simp [fK])
  simp at k0 k1 k2 k3
  omega
theorem next_len (r : Row) : (nextR r).length ≤ 4 := List.length_filterMap_le _ _
theorem layer_len : ∀ rows : List Row, (layerR rows).length ≤ 4 * rows.length
  | [] => Nat.le_refl _
  | r :: rows => by
    have := layer_len rows
    have h := next_len r
    unfold layerR at this ⊢
    rw [List.flatMap_cons, List.length_append, List.length_cons]
    omega
theorem rows_ok {n : Nat} {l : List Row} (h : ∀ r ∈ l, RowOk n 0 r) : ∀ i, ∀ r ∈ rowsN l i, RowOk n i r
  | 0 => h
  | i + 1 => fun q hq => by
    obtain ⟨r, hr, hq⟩ := List.mem_flatMap.mp hq
    exact next_ok (rows_ok h i r hr) hq
theorem rows_some {n : Nat} {l : List Row} (h : ∀ r ∈ l, RowOk n 0 r) (hl : l ≠ []) : ∀ i, i ≤ n → rowsN l i ≠ []
  | 0, _ => hl
  | i + 1, hi => fun e => by
    obtain ⟨r, rs, er⟩ := List.exists_cons_of_ne_nil (rows_some h hl i (by omega))
    have hr : r ∈ rowsN l i := by rw [er]; exact List.mem_cons_self
    refine next_some (rows_ok h i r hr) (by omega) (List.eq_nil_iff_forall_not_mem.mpr fun q hq => ?_)
    have : q ∈ rowsN l (i + 1) := List.mem_flatMap.mpr ⟨r, hr, hq⟩
    rw [e] at this; cases this
theorem rows_len {l : List Row} : ∀ i, (rowsN l i).length ≤ 4 ^ i * l.length
  | 0 => by simp [rowsN]
  | i + 1 => by
    have h1 := layer_len (rowsN l i)
    have h2 := rows_len (l := l) i
    show (layerR (rowsN l i)).length ≤ _
    calc (layerR (rowsN l i)).length ≤ 4 * (rowsN l i).length := h1
      _ ≤ 4 * (4 ^ i * l.length) := Nat.mul_le_mul_left 4 h2
      _ = 4 ^ (i + 1) * l.length := by rw [Nat.pow_succ, ← Nat.mul_assoc, Nat.mul_comm 4 (4 ^ i)]
/-- how many there are of each kind -/
def encC (cs : Int × Int × Int) : Val := .tuple [.int cs.1, .int cs.2.1, .int cs.2.2]
structure Crowd (n : Nat) (cs : Int × Int × Int) : Prop where
  a0 : 0 ≤ cs.1
  b0 : 0 ≤ cs.2.1
  c0 : 0 ≤ cs.2.2
  s1 : 1 ≤ cs.1 + cs.2.1 + cs.2.2
  sn : cs.1 + cs.2.1 + cs.2.2 ≤ n
def sumC (cs : Int × Int × Int) : Int := [cs.1, cs.2.1, cs.2.2].sum
def row0 (n : Nat) (cs : Int × Int × Int) : List Row := [([], [(n : Int) - sumC cs, cs.1, cs.2.1, cs.2.2])]
theorem row0_ok {n : Nat} {cs : Int × Int × Int} (h : Crowd n cs) : ∀ r ∈ row0 n cs, RowOk n 0 r := by
  intro r hr
  rw [List.mem_singleton.mp hr]
  obtain ⟨h1, h2, h3, h4, h5⟩ := h
  refine ⟨rfl, rfl, ?_, ?_, by simp⟩
  · simp [sumC]; omega
  · simp [sumC]
    try omega
/-- all seatings of a crowd -/
def seatsOf (n : Nat) (cs : Int × Int × Int) : List (List Str) := (rowsN (row0 n cs) n).map (·.1)
theorem seats_in {n : Nat} {cs : Int × Int × Int} (h : Crowd n cs) {ks : List Str} (hk : ks ∈ seatsOf n cs) : ks.length = n ∧ ∀ k ∈ ks, k ∈ kindsL := by
  obtain ⟨r, hr, rfl⟩ := List.mem_map.mp hk
  have := rows_ok (row0_ok h) n r hr
  exact ⟨this.len, this.kin⟩
theorem seats_some {n : Nat} {cs : Int × Int × Int} (h : Crowd n cs) : seatsOf n cs ≠ [] := fun e => rows_some (row0_ok h) (by simp [row0]) n (Nat.le_refl _) (List.map_eq_nil_iff.mp e)
theorem rows7 {n i : Nat} (hn : n ≤ 7) (hi : i ≤ n) (cs : Int × Int × Int) : (rowsN (row0 n cs) i).length ≤ 16384 := by
  have h := rows_len (l := row0 n cs) i
  have : 4 ^ i ≤ 4 ^ 7 := Nat.pow_le_pow_right (by decide) (by omega)
  have e1 : (row0 n cs).length = 1 := rfl
  have e : 4 ^ 7 = 16384 := rfl
  rw [e1, Nat.mul_one] at h
  exact Nat.le_trans h (e ▸ this)
theorem seats_len {n : Nat} (hn : n ≤ 7) (cs : Int × Int × Int) : (seatsOf n cs).length ≤ 16384 := by
  unfold seatsOf
  rw [List.length_map]
  exact rows7 hn (Nat.le_refl _) cs
section
variable {C : Sem} {ρ : PL.Env}
theorem left_idx {l : List Int} (hl : l.length = 4) {k : Nat} (hk : k < 4) : idxV (.tuple (l.map .int)) (.int (k : Nat)) = some (.int (l.getD k 0)) := by
  show atP (l.map PyData.int) (k : Nat) = _
  unfold atP ixP
  rw [if_pos (by omega), if_pos (by rw [List.length_map]; omega)]
  simp [List.getD_eq_getElem?_getD, List.getElem?_eq_getElem (show k < l.length by omega)]
theorem fK_lt : ∀ p ∈ fK, p.2 < 4 := by decide
/-- the program's way to a longer row -/
theorem longer_p {n i : Nat} (hn : n ≤ 7) {r : Row} (hr : RowOk n i r) {p : Str × Nat} (hp : p ∈ fK) {xl xr xk xs : Nat} (er : gs ρ xr = .v (encK r.1)) (el : gs ρ xl = .v (.tuple (r.2.map .int))) (ek : gs ρ xk = .v (.int (p.2 : Nat))) (es : gs ρ xs = .v (.str p.1)) (hi : i < n) :
    ev C (.tup (.cons (.tup (.star (.var xr) (.cons (.var xs) .nil))) (.cons (.tup (.star (.slc (.var xl) .nil (.var xk)) (.cons (.bop .sub (.idx (.var xl) (.var xk)) (.con (.int (1)))) (.star (.slc (.var xl) (.bop .add (.var xk) (.con (.int (1)))) .nil) .nil)))) .nil))) ρ = some (encR (r.1 ++ [p.1], r.2.take p.2 ++ (r.2.getD p.2 0 - 1) :: r.2.drop (p.2 + 1)), ρ) := by
  have hk := fK_lt p hp
  have c1 : slcV none (some (p.2 : Nat)) (.tuple (r.2.map PyData.int)) = some (.tuple ((r.2.take p.2).map .int)) := by
    show some (PyData.tuple (cutP (r.2.map PyData.int) none (some (p.2 : Nat)))) = _
    rw [cut_to (by omega), Int.toNat_natCast, List.map_take]
  have c2 : slcV (some ((p.2 : Nat) + 1)) none (.tuple (r.2.map PyData.int)) = some (.tuple ((r.2.drop (p.2 + 1)).map .int)) := by
    show some (PyData.tuple (cutP (r.2.map PyData.int) (some ((p.2 : Nat) + 1)) none)) = _
    rw [cut_from (by omega), List.map_drop]
    rfl
  have e := e_tup (C := C) (ρ := ρ) (a_cons (e_tup (a_star (e_var er) rfl (a_cons (e_var es) a_nil)) (by have := hr.len; simp [line]; omega)) (a_cons (e_tup (a_star (e_slc (e_var el) p_nil (p_int (e_var ek)) c1) rfl (a_cons (e_bop (e_idx (e_var el) (e_var ek) (left_idx hr.l4 hk)) (e_con (x := .int 1)) sub_ok) (a_star (e_slc (e_var el) (p_int (e_bop (e_var ek) (e_con (x := .int 1)) add_ok)) p_nil c2) rfl a_nil))) (by have := hr.l4; simp [line]; omega)) a_nil))
  rw [e]
  simp [encR, encK]
/-- the law's way -/
theorem longer_l {n i : Nat} (hn : n ≤ 7) {r : Row} (hr : RowOk n i r) {p : Str × Nat} (hp : p ∈ fK) {xl xr xk xs : Nat} (er : gs ρ xr = .v (encK r.1)) (el : gs ρ xl = .v (.tuple (r.2.map .int))) (ek : gs ρ xk = .v (.int (p.2 : Nat))) (es : gs ρ xs = .v (.str p.1)) (hi : i < n) :
    ev C (.tup (.cons (.bop .add (.var xr) (.tup (.cons (.var xs) .nil))) (.cons (.bop .add (.bop .add (.slc (.var xl) .nil (.var xk)) (.tup (.cons (.bop .sub (.idx (.var xl) (.var xk)) (.con (.int (1)))) .nil))) (.slc (.var xl) (.bop .add (.var xk) (.con (.int (1)))) .nil)) .nil))) ρ = some (encR (r.1 ++ [p.1], r.2.take p.2 ++ (r.2.getD p.2 0 - 1) :: r.2.drop (p.2 + 1)), ρ) := by
  have hk := fK_lt p hp
  have c1 : slcV none (some (p.2 : Nat)) (.tuple (r.2.map PyData.int)) = some (.tuple ((r.2.take p.2).map .int)) := by
    show some (PyData.tuple (cutP (r.2.map PyData.int) none (some (p.2 : Nat)))) = _
    rw [cut_to (by omega), Int.toNat_natCast, List.map_take]
  have c2 : slcV (some ((p.2 : Nat) + 1)) none (.tuple (r.2.map PyData.int)) = some (.tuple ((r.2.drop (p.2 + 1)).map .int)) := by
    show some (PyData.tuple (cutP (r.2.map PyData.int) (some ((p.2 : Nat) + 1)) none)) = _
    rw [cut_from (by omega), List.map_drop]
    rfl
  have add_t : ∀ {xs ys : List Val}, xs.length + ys.length ≤ line → bopV .add (.tuple xs) (.tuple ys) = some (.tuple (xs ++ ys)) := fun {xs ys} h => if_pos h
  have e := e_tup (C := C) (ρ := ρ) (a_cons (e_bop (e_var er) (e_tup (a_cons (e_var es) a_nil)) (add_t (by have := hr.len; simp [line]; omega))) (a_cons (e_bop (e_bop (e_slc (e_var el) p_nil (p_int (e_var ek)) c1) (e_tup (a_cons (e_bop (e_idx (e_var el) (e_var ek) (left_idx hr.l4 hk)) (e_con (x := .int 1)) sub_ok) a_nil)) (add_t (by have := hr.l4; simp [line]; omega))) (e_slc (e_var el) (p_int (e_bop (e_var ek) (e_con (x := .int 1)) add_ok)) p_nil c2) (add_t (by have := hr.l4; simp [line]; omega))) a_nil))
  rw [e]
  simp [encR, encK]
end
end PL
set_option maxHeartbeats 2000000
/-! P9: both lists of all seatings. -/
namespace PL
open PySem PyProof.Rows
def elP : Ex := .tup (.cons (.tup (.star (.var 6) (.cons (.var 9) .nil))) (.cons (.tup (.star (.slc (.var 7) .nil (.var 8)) (.cons (.bop .sub (.idx (.var 7) (.var 8)) (.con (.int (1)))) (.star (.slc (.var 7) (.bop .add (.var 8) (.con (.int (1)))) .nil) .nil)))) .nil))
def elL : Ex := .tup (.cons (.bop .add (.var 5) (.tup (.cons (.var 8) .nil))) (.cons (.bop .add (.bop .add (.slc (.var 6) .nil (.var 7)) (.tup (.cons (.bop .sub (.idx (.var 6) (.var 7)) (.con (.int (1)))) .nil))) (.slc (.var 6) (.bop .add (.var 7) (.con (.int (1)))) .nil)) .nil))
def inP : St := .seq (.ite (.cmp .gt (.idx (.var 7) (.var 8)) (.con (.int (0)))) (.seq (.append 5 elP) .skip) .skip) .skip
def inL : St := .seq (.ite (.cmp .gt (.idx (.var 6) (.var 7)) (.con (.int (0)))) (.seq (.append 4 elL) .skip) .skip) .skip
def itP : Ex := .ienum (.tup (.cons (.glob (S [70, 82, 69, 69]) (.str (S [45]))) (.star (.glob (S [75, 73, 78, 68, 83]) (ctV [(.str (S [97])), (.str (S [98])), (.str (S [99]))])) .nil)))
def itL : Ex := .ienum (.con (.str (S [45, 97, 98, 99])))
def mdP : St := .seq (.for_ (.cons (.n 8) (.cons (.n 9) .nil)) itP inP) .skip
def mdL : St := .seq (.for_ (.cons (.n 7) (.cons (.n 8) .nil)) itL inL) .skip
def outP : St := .seq (.own 5 (.lst .nil)) (.seq (.for_ (.cons (.n 6) (.cons (.n 7) .nil)) (.iseq (.var 3)) mdP) (.seq (.asg (.n 3) (.var 5)) .skip))
def outL : St := .seq (.own 4 (.lst .nil)) (.seq (.for_ (.cons (.n 5) (.cons (.n 6) .nil)) (.iseq (.var 2)) mdL) (.seq (.asg (.n 2) (.var 4)) .skip))
def encF (p : Str × Nat) : Val := .tuple [.int (p.2 : Nat), .str p.1]
section
variable {C : Sem} {st cr : Val} {n i : Nat} {rows : List Row} {lap : Slot}
abbrev enP (st cr : Val) (n : Nat) (rows : List Row) (lap : Slot) (acc : List Row) (a b c d : Slot) : PL.Env := [.v st, .v cr, .v (.int (n : Nat)), .v (.list (rows.map encR)), lap, .L (acc.map encR), a, b, c, d]
theorem in_p (hn : n ≤ 7) {r : Row} (hr : RowOk n i r) (hi : i < n) {acc : List Row} (ha : acc.length ≤ 1000000) {c d : Slot} :
    ∃ c' d', exec C mdP (enP st cr n rows lap acc (.v (encK r.1)) (.v (.tuple (r.2.map .int))) c d) = some (.nx, enP st cr n rows lap (acc ++ nextR r) (.v (encK r.1)) (.v (.tuple (r.2.map .int))) c' d') := by
  have i1 : evI C itP (enP st cr n rows lap acc (.v (encK r.1)) (.v (.tuple (r.2.map .int))) c d) = some (fK.map encF, enP st cr n rows lap acc (.v (encK r.1)) (.v (.tuple (r.2.map .int))) c d) := by
    have := i_enum (C := C) (ρ := enP st cr n rows lap acc (.v (encK r.1)) (.v (.tuple (r.2.map .int))) c d) (e_tup (a_cons (e_glob (s := S [70, 82, 69, 69]) (x := .str (S [45]))) (a_star (e_glob (s := S [75, 73, 78, 68, 83]) (x := ctV [(.str (S [97])), (.str (S [98])), (.str (S [99]))])) rfl a_nil))) rfl
    exact this
  obtain ⟨ρ', e, c', d', rfl⟩ := for_typed (enc := encF) (step := fun x => bnd (asgM (.cons (.n 8) (.cons (.n 9) .nil)) x) fun _ => exec C inP) (I := fun pre ρ => ∃ c d, ρ = enP st cr n rows lap (acc ++ pre.filterMap (step1 r)) (.v (encK r.1)) (.v (.tuple (r.2.map .int))) c d) fK (ρ := enP st cr n rows lap acc (.v (encK r.1)) (.v (.tuple (r.2.map .int))) c d) ⟨c, d, by simp⟩ (fun pre p post he ρ hI => by
      obtain ⟨c, d, rfl⟩ := hI
      have hp : p ∈ fK := by rw [he]; simp
      have hpre : pre.length ≤ 4 := by
        have := congrArg List.length he
        simp [fK] at this
        omega
      have hk := fK_lt p hp
      refine ⟨enP st cr n rows lap (acc ++ (pre ++ [p]).filterMap (step1 r)) (.v (encK r.1)) (.v (.tuple (r.2.map .int))) (.v (.int (p.2 : Nat))) (.v (.str p.1)), turn (ρ1 := enP st cr n rows lap (acc ++ pre.filterMap (step1 r)) (.v (encK r.1)) (.v (.tuple (r.2.map .int))) (.v (.int (p.2 : Nat))) (.v (.str p.1))) rfl ?_, _, _, rfl⟩
      have c1 : ev C (.cmp .gt (.idx (.var 7) (.var 8)) (.con (.int (0)))) (enP st cr n rows lap (acc ++ pre.filterMap (step1 r)) (.v (encK r.1)) (.v (.tuple (r.2.map .int))) (.v (.int (p.2 : Nat))) (.v (.str p.1))) = some (.bool (decide (0 < r.2.getD p.2 0)), enP st cr n rows lap (acc ++ pre.filterMap (step1 r)) (.v (encK r.1)) (.v (.tuple (r.2.map .int))) (.v (.int (p.2 : Nat))) (.v (.str p.1))) := e_cmp (e_idx (e_var rfl) (e_var rfl) (left_idx hr.l4 hk)) e_con gt_int
      have hf : ∀ l : List Row, acc ++ (pre ++ [p]).filterMap (step1 r) = (acc ++ pre.filterMap (step1 r)) ++ (step1 r p).toList := fun _ => by
        rw [List.filterMap_append, List.append_assoc]
        congr 2
      rw [hf []]
      by_cases h : 0 < r.2.getD p.2 0
      · have hs : step1 r p = some (r.1 ++ [p.1], r.2.take p.2 ++ (r.2.getD p.2 0 - 1) :: r.2.drop (p.2 + 1)) := if_pos h
        have hl : ((acc ++ pre.filterMap (step1 r)).map encR).length < line := by
          have := List.length_filterMap_le (step1 r) pre
          simp [line]; omega
        have ap := s_append (C := C) (n := 5) (e := elP) (xs := (acc ++ pre.filterMap (step1 r)).map encR) (ys := (acc ++ pre.filterMap (step1 r)).map encR) (ρ := enP st cr n rows lap (acc ++ pre.filterMap (step1 r)) (.v (encK r.1)) (.v (.tuple (r.2.map .int))) (.v (.int (p.2 : Nat))) (.v (.str p.1))) rfl (longer_p hn hr hp rfl rfl rfl rfl hi) rfl hl
        rw [hs]
        refine s_seq (s_if1 c1 (decide_eq_true h) (s_seq ap s_skip)) ?_
        show some _ = some _
        congr 2
        unfold enP
        rw [List.map_append (l₂ := Option.toList _)]
        rfl
      · have hs : step1 r p = none := if_neg h
        rw [hs]
        refine s_seq (s_if0 c1 (decide_eq_false h) s_skip) ?_
        rw [Option.toList_none, List.append_nil]
        exact s_skip)
  exact ⟨c', d', s_seq (s_for i1 e) s_skip⟩
theorem md_p (hn : n ≤ 7) (hr : ∀ r ∈ rows, RowOk n i r) (hi : i < n) (hl : rows.length ≤ 16384) {s5 a b c d : Slot} :
    ∃ a' b' c' d', exec C outP [.v st, .v cr, .v (.int (n : Nat)), .v (.list (rows.map encR)), lap, s5, a, b, c, d] = some (.nx, [.v st, .v cr, .v (.int (n : Nat)), .v (.list ((layerR rows).map encR)), lap, .v (.list ((layerR rows).map encR)), a', b', c', d']) := by
  obtain ⟨ρ', e, a', b', c', d', rfl⟩ := for_typed (enc := encR) (step := fun x => bnd (asgM (.cons (.n 6) (.cons (.n 7) .nil)) x) fun _ => exec C mdP) (I := fun pre ρ => ∃ a b c d, ρ = enP st cr n rows lap (layerR pre) a b c d) rows (ρ := enP st cr n rows lap [] a b c d) ⟨a, b, c, d, rfl⟩ (fun pre r post he ρ hI => by
      obtain ⟨a, b, c, d, rfl⟩ := hI
      have hm : r ∈ rows := by rw [he]; simp
      have hp : (layerR pre).length ≤ 1000000 := by
        have h1 := layer_len pre
        have h2 := congrArg List.length he
        simp at h2
        omega
      obtain ⟨c', d', e⟩ := in_p (C := C) (st := st) (cr := cr) (rows := rows) (lap := lap) hn (hr r hm) hi hp (c := c) (d := d)
      refine ⟨_, turn (ρ1 := enP st cr n rows lap (layerR pre) (.v (encK r.1)) (.v (.tuple (r.2.map .int))) c d) rfl e, .v (encK r.1), .v (.tuple (r.2.map .int)), c', d', ?_⟩
      have : layerR (pre ++ [r]) = layerR pre ++ nextR r := by
        unfold layerR
        rw [List.flatMap_append]
        simp
      rw [this])
  exact ⟨a', b', c', d', s_seq (s_own (o_lst (e_lst a_nil))) (s_seq (s_for (i_seq (e_var rfl) rfl) e) (s_seq (s_asgn (e_frzL rfl)) s_skip))⟩
end
section
variable {T : Tbl} {ps : List Str} {ts : List (Str × Str)} {w : Int × Int} {cs : Int × Int × Int}
theorem sum_crowd : biV .sum [encC cs] = some (.int (sumC cs)) := rfl
theorem seatings_at (h : T 38 = some d_seatings_by) (n : Nat) (S0 : Strt ps ts w) (hc : Crowd ps.length cs) : (callN T (n + 1)).call 38 none [stV (encS ps ts w), encC cs] = some (.list ((seatsOf ps.length cs).map encK), []) := by
  have h7 := S0.p7
  obtain ⟨ρ', e, s4, s5, s6, s7, s8, s9, rfl⟩ := for_all (ρ := [.v (stV (encS ps ts w)), .v (encC cs), .v (.int (ps.length : Nat)), .v (.list ((row0 ps.length cs).map encR)), .u, .u, .u, .u, .u, .u]) (xs := rangeV 0 ps.length) (step := fun x => bnd (asgM (.n 4) x) fun _ => exec (callN T n) outP)
    (I := fun i ρ => ∃ s4 s5 s6 s7 s8 s9, ρ = [.v (stV (encS ps ts w)), .v (encC cs), .v (.int (ps.length : Nat)), .v (.list ((rowsN (row0 ps.length cs) i).map encR)), s4, s5, s6, s7, s8, s9]) ⟨_, _, _, _, _, _, rfl⟩ (fun i hi ρ hI => by
      obtain ⟨s4, s5, s6, s7, s8, s9, rfl⟩ := hI
      have hi' : i < ps.length := by simpa [rangeV] using hi
      obtain ⟨a, b, c, d, e⟩ := md_p (C := callN T n) (st := stV (encS ps ts w)) (cr := encC cs) (lap := .v (rangeV 0 ps.length)[i]) h7 (rows_ok (row0_ok hc) i) hi' (rows7 h7 (Nat.le_of_lt hi') cs) (s5 := s5) (a := s6) (b := s7) (c := s8) (d := s9)
      exact ⟨_, turn (ρ1 := [.v (stV (encS ps ts w)), .v (encC cs), .v (.int (ps.length : Nat)), .v (.list ((rowsN (row0 ps.length cs) i).map encR)), .v (rangeV 0 ps.length)[i], s5, s6, s7, s8, s9]) rfl e, _, _, _, _, _, _, rfl⟩)
  have hlen : (rangeV 0 ps.length).length = ps.length := by simp [rangeV]
  rw [hlen] at e
  have hl : biV .len [.tuple (ps.map .str)] = some (.int (ps.length : Nat)) := by rw [len_tup, List.length_map]
  have x1 : ev (callN T n) (.lst (.cons (.tup (.cons (.tup .nil) (.cons (.tup (.cons (.bop .sub (.var 2) (.bi .sum (.cons (.var 1) .nil))) (.star (.var 1) .nil))) .nil))) .nil)) [.v (stV (encS ps ts w)), .v (encC cs), .v (.int (ps.length : Nat)), .u, .u, .u, .u, .u, .u, .u] = some (.list ((row0 ps.length cs).map encR), [.v (stV (encS ps ts w)), .v (encC cs), .v (.int (ps.length : Nat)), .u, .u, .u, .u, .u, .u, .u]) :=
    e_lst (xs := [encR ([], [(ps.length : Int) - sumC cs, cs.1, cs.2.1, cs.2.2])]) (a_cons (e_tup (xs := [.tuple [], .tuple [.int ((ps.length : Int) - sumC cs), .int cs.1, .int cs.2.1, .int cs.2.2]]) (a_cons (e_tup a_nil) (a_cons (e_tup (xs := [.int ((ps.length : Int) - sumC cs), .int cs.1, .int cs.2.1, .int cs.2.2]) (a_cons (e_bop (e_var rfl) (e_bi (a_cons (e_var rfl) a_nil) sum_crowd) sub_ok) (a_star (ys := [.int cs.1, .int cs.2.1, .int cs.2.2]) (e_var rfl) rfl a_nil))) a_nil))) a_nil)
  have lc : ev (callN T n) (.lc (.var 6) (.cons (.n 6) (.cons (.n 4) .nil)) (.iseq (.var 3)) .nil) [.v (stV (encS ps ts w)), .v (encC cs), .v (.int (ps.length : Nat)), .v (.list ((rowsN (row0 ps.length cs) ps.length).map encR)), s4, s5, s6, s7, s8, s9] = some (.list (((rowsN (row0 ps.length cs) ps.length).filter fun _ => true).map fun r => encK r.1), [.v (stV (encS ps ts w)), .v (encC cs), .v (.int (ps.length : Nat)), .v (.list ((rowsN (row0 ps.length cs) ps.length).map encR)), .u, s5, .u, s7, s8, s9]) :=
    e_lct (rowsN (row0 ps.length cs) ps.length) encR (fun _ => true) (fun r => encK r.1) (i_seq (e_var rfl) rfl) rfl (by have := rows7 h7 (Nat.le_refl _) cs; simp [line]; omega) fun r hr => ⟨[.v (stV (encS ps ts w)), .v (encC cs), .v (.int (ps.length : Nat)), .v (.list ((rowsN (row0 ps.length cs) ps.length).map encR)), .v (.tuple (r.2.map .int)), s5, .v (encK r.1), s7, s8, s9], rfl, rfl, c_nil, fun _ => e_var rfl⟩
  rw [List.filter_eq_self.mpr fun _ _ => rfl] at lc
  have he : (seatsOf ps.length cs).map encK = (rowsN (row0 ps.length cs) ps.length).map fun r => encK r.1 := by
    unfold seatsOf
    rw [List.map_map]; rfl
  rw [he]
  exact call_rt (ρ := [.v (stV (encS ps ts w)), .v (encC cs), .v (.int (ps.length : Nat)), .v (.list ((rowsN (row0 ps.length cs) ps.length).map encR)), .u, s5, .u, s7, s8, s9]) h rfl rfl rfl rfl rfl (s_seq (s_asgn (e_bi (a_cons (e_prop (e_var rfl) rfl) a_nil) hl)) (s_seq (s_asgn x1) (s_seq (s_for (i_range1 (e_var rfl) (by omega)) (by rw [Int.toNat_natCast]; exact e)) (s_seqr (s_rt lc)))))
end
end PL
set_option maxHeartbeats 2000000
/-! P10: the law's list of all seatings; crowds. -/
namespace PL
open PySem PyProof.Rows
section
variable {C : Sem} {st cr : Val} {n i : Nat} {rows : List Row} {lap : Slot}
abbrev enL (st cr : Val) (rows : List Row) (lap : Slot) (acc : List Row) (a b c d : Slot) : PL.Env := [.v st, .v cr, .v (.list (rows.map encR)), lap, .L (acc.map encR), a, b, c, d]
theorem in_l (hn : n ≤ 7) {r : Row} (hr : RowOk n i r) (hi : i < n) {acc : List Row} (ha : acc.length ≤ 1000000) {c d : Slot} :
    ∃ c' d', exec C mdL (enL st cr rows lap acc (.v (encK r.1)) (.v (.tuple (r.2.map .int))) c d) = some (.nx, enL st cr rows lap (acc ++ nextR r) (.v (encK r.1)) (.v (.tuple (r.2.map .int))) c' d') := by
  have i1 : evI C itL (enL st cr rows lap acc (.v (encK r.1)) (.v (.tuple (r.2.map .int))) c d) = some (fK.map encF, enL st cr rows lap acc (.v (encK r.1)) (.v (.tuple (r.2.map .int))) c d) := by
    have := i_enum (C := C) (ρ := enL st cr rows lap acc (.v (encK r.1)) (.v (.tuple (r.2.map .int))) c d) (e_con (x := .str (S [45, 97, 98, 99]))) rfl
    exact this
  obtain ⟨ρ', e, c', d', rfl⟩ := for_typed (enc := encF) (step := fun x => bnd (asgM (.cons (.n 7) (.cons (.n 8) .nil)) x) fun _ => exec C inL) (I := fun pre ρ => ∃ c d, ρ = enL st cr rows lap (acc ++ pre.filterMap (step1 r)) (.v (encK r.1)) (.v (.tuple (r.2.map .int))) c d) fK (ρ := enL st cr rows lap acc (.v (encK r.1)) (.v (.tuple (r.2.map .int))) c d) ⟨c, d, by simp⟩ (fun pre p post he ρ hI => by
      obtain ⟨c, d, rfl⟩ := hI
      have hp : p ∈ fK := by rw [he]; simp
      have hpre : pre.length ≤ 4 := by
        have := congrArg List.length he
        simp [fK] at this
        omega
      have hk := fK_lt p hp
      refine ⟨enL st cr rows lap (acc ++ (pre ++ [p]).filterMap (step1 r)) (.v (encK r.1)) (.v (.tuple (r.2.map .int))) (.v (.int (p.2 : Nat))) (.v (.str p.1)), turn (ρ1 := enL st cr rows lap (acc ++ pre.filterMap (step1 r)) (.v (encK r.1)) (.v (.tuple (r.2.map .int))) (.v (.int (p.2 : Nat))) (.v (.str p.1))) rfl ?_, _, _, rfl⟩
      have c1 : ev C (.cmp .gt (.idx (.var 6) (.var 7)) (.con (.int (0)))) (enL st cr rows lap (acc ++ pre.filterMap (step1 r)) (.v (encK r.1)) (.v (.tuple (r.2.map .int))) (.v (.int (p.2 : Nat))) (.v (.str p.1))) = some (.bool (decide (0 < r.2.getD p.2 0)), enL st cr rows lap (acc ++ pre.filterMap (step1 r)) (.v (encK r.1)) (.v (.tuple (r.2.map .int))) (.v (.int (p.2 : Nat))) (.v (.str p.1))) := e_cmp (e_idx (e_var rfl) (e_var rfl) (left_idx hr.l4 hk)) e_con gt_int
      have hf : ∀ l : List Row, acc ++ (pre ++ [p]).filterMap (step1 r) = (acc ++ pre.filterMap (step1 r)) ++ (step1 r p).toList := fun _ => by
        rw [List.filterMap_append, List.append_assoc]
        congr 2
      rw [hf []]
      by_cases h : 0 < r.2.getD p.2 0
      · have hs : step1 r p = some (r.1 ++ [p.1], r.2.take p.2 ++ (r.2.getD p.2 0 - 1) :: r.2.drop (p.2 + 1)) := if_pos h
        have hl : ((acc ++ pre.filterMap (step1 r)).map encR).length < line := by
          have := List.length_filterMap_le (step1 r) pre
          simp [line]; omega
        have ap := s_append (C := C) (n := 4) (e := elL) (xs := (acc ++ pre.filterMap (step1 r)).map encR) (ys := (acc ++ pre.filterMap (step1 r)).map encR) (ρ := enL st cr rows lap (acc ++ pre.filterMap (step1 r)) (.v (encK r.1)) (.v (.tuple (r.2.map .int))) (.v (.int (p.2 : Nat))) (.v (.str p.1))) rfl (longer_l hn hr hp rfl rfl rfl rfl hi) rfl hl
        rw [hs]
        refine s_seq (s_if1 c1 (decide_eq_true h) (s_seq ap s_skip)) ?_
        show some _ = some _
        congr 2
        unfold enL
        rw [List.map_append (l₂ := Option.toList _)]
        rfl
      · have hs : step1 r p = none := if_neg h
        rw [hs]
        refine s_seq (s_if0 c1 (decide_eq_false h) s_skip) ?_
        rw [Option.toList_none, List.append_nil]
        exact s_skip)
  exact ⟨c', d', s_seq (s_for i1 e) s_skip⟩
theorem md_l (hn : n ≤ 7) (hr : ∀ r ∈ rows, RowOk n i r) (hi : i < n) (hl : rows.length ≤ 16384) {s5 a b c d : Slot} :
    ∃ a' b' c' d', exec C outL [.v st, .v cr, .v (.list (rows.map encR)), lap, s5, a, b, c, d] = some (.nx, [.v st, .v cr, .v (.list ((layerR rows).map encR)), lap, .v (.list ((layerR rows).map encR)), a', b', c', d']) := by
  obtain ⟨ρ', e, a', b', c', d', rfl⟩ := for_typed (enc := encR) (step := fun x => bnd (asgM (.cons (.n 5) (.cons (.n 6) .nil)) x) fun _ => exec C mdL) (I := fun pre ρ => ∃ a b c d, ρ = enL st cr rows lap (layerR pre) a b c d) rows (ρ := enL st cr rows lap [] a b c d) ⟨a, b, c, d, rfl⟩ (fun pre r post he ρ hI => by
      obtain ⟨a, b, c, d, rfl⟩ := hI
      have hm : r ∈ rows := by rw [he]; simp
      have hp : (layerR pre).length ≤ 1000000 := by
        have h1 := layer_len pre
        have h2 := congrArg List.length he
        simp at h2
        omega
      obtain ⟨c', d', e⟩ := in_l (C := C) (st := st) (cr := cr) (rows := rows) (lap := lap) hn (hr r hm) hi hp (c := c) (d := d)
      refine ⟨_, turn (ρ1 := enL st cr rows lap (layerR pre) (.v (encK r.1)) (.v (.tuple (r.2.map .int))) c d) rfl e, .v (encK r.1), .v (.tuple (r.2.map .int)), c', d', ?_⟩
      have : layerR (pre ++ [r]) = layerR pre ++ nextR r := by
        unfold layerR
        rw [List.flatMap_append]
        simp
      rw [this])
  exact ⟨a', b', c', d', s_seq (s_own (o_lst (e_lst a_nil))) (s_seq (s_for (i_seq (e_var rfl) rfl) e) (s_seq (s_asgn (e_frzL rfl)) s_skip))⟩
end
section
variable {T : Tbl} {ps ks : List Str} {ts : List (Str × Str)} {w : Int × Int} {cs : Int × Int × Int}
theorem law_seatings_at (h : T 48 = some d__law_seatings) (n : Nat) (S0 : Strt ps ts w) (hc : Crowd ps.length cs) : (callN T (n + 1)).call 48 none [encS ps ts w, encC cs] = some (.list ((seatsOf ps.length cs).map encK), []) := by
  have h7 := S0.p7
  obtain ⟨ρ', e, s4, s5, s6, s7, s8, s9, rfl⟩ := for_all (ρ := [.v (encS ps ts w), .v (encC cs), .v (.list ((row0 ps.length cs).map encR)), .u, .u, .u, .u, .u, .u]) (xs := ps.map .str) (step := fun x => bnd (asgM (.n 3) x) fun _ => exec (callN T n) outL)
    (I := fun i ρ => ∃ s4 s5 s6 s7 s8 s9, ρ = [.v (encS ps ts w), .v (encC cs), .v (.list ((rowsN (row0 ps.length cs) i).map encR)), s4, s5, s6, s7, s8, s9]) ⟨_, _, _, _, _, _, rfl⟩ (fun i hi ρ hI => by
      obtain ⟨s4, s5, s6, s7, s8, s9, rfl⟩ := hI
      have hi' : i < ps.length := by simpa using hi
      obtain ⟨a, b, c, d, e⟩ := md_l (C := callN T n) (st := encS ps ts w) (cr := encC cs) (lap := .v (ps.map PyData.str)[i]) h7 (rows_ok (row0_ok hc) i) hi' (rows7 h7 (Nat.le_of_lt hi') cs) (s5 := s5) (a := s6) (b := s7) (c := s8) (d := s9)
      exact ⟨_, turn (ρ1 := [.v (encS ps ts w), .v (encC cs), .v (.list ((rowsN (row0 ps.length cs) i).map encR)), .v (ps.map PyData.str)[i], s5, s6, s7, s8, s9]) rfl e, _, _, _, _, _, _, rfl⟩)
  rw [List.length_map] at e
  have hl : biV .len [.tuple (ps.map .str)] = some (.int (ps.length : Nat)) := by rw [len_tup, List.length_map]
  have x1 : ev (callN T n) (.lst (.cons (.tup (.cons (.tup .nil) (.cons (.bop .add (.tup (.cons (.bop .sub (.bi .len (.cons (.idx (.var 0) (.con (.int (0)))) .nil)) (.bi .sum (.cons (.var 1) .nil))) .nil)) (.var 1)) .nil))) .nil)) [.v (encS ps ts w), .v (encC cs), .u, .u, .u, .u, .u, .u, .u] = some (.list ((row0 ps.length cs).map encR), [.v (encS ps ts w), .v (encC cs), .u, .u, .u, .u, .u, .u, .u]) :=
    e_lst (xs := [encR ([], [(ps.length : Int) - sumC cs, cs.1, cs.2.1, cs.2.2])]) (a_cons (e_tup (xs := [.tuple [], .tuple [.int ((ps.length : Int) - sumC cs), .int cs.1, .int cs.2.1, .int cs.2.2]]) (a_cons (e_tup a_nil) (a_cons (e_bop (e_tup (a_cons (e_bop (e_bi (a_cons (e_idx (e_var rfl) e_con rfl) a_nil) hl) (e_bi (a_cons (e_var rfl) a_nil) sum_crowd) sub_ok) a_nil)) (e_var rfl) rfl) a_nil))) a_nil)
  have lc : ev (callN T n) (.lc (.var 5) (.cons (.n 5) (.cons (.n 6) .nil)) (.iseq (.var 2)) .nil) [.v (encS ps ts w), .v (encC cs), .v (.list ((rowsN (row0 ps.length cs) ps.length).map encR)), s4, s5, s6, s7, s8, s9] = some (.list (((rowsN (row0 ps.length cs) ps.length).filter fun _ => true).map fun r => encK r.1), [.v (encS ps ts w), .v (encC cs), .v (.list ((rowsN (row0 ps.length cs) ps.length).map encR)), s4, s5, .u, .u, s8, s9]) :=
    e_lct (rowsN (row0 ps.length cs) ps.length) encR (fun _ => true) (fun r => encK r.1) (i_seq (e_var rfl) rfl) rfl (by have := rows7 h7 (Nat.le_refl _) cs; simp [line]; omega) fun r hr => ⟨[.v (encS ps ts w), .v (encC cs), .v (.list ((rowsN (row0 ps.length cs) ps.length).map encR)), s4, s5, .v (encK r.1), .v (.tuple (r.2.map .int)), s8, s9], rfl, rfl, c_nil, fun _ => e_var rfl⟩
  rw [List.filter_eq_self.mpr fun _ _ => rfl] at lc
  have he : (seatsOf ps.length cs).map encK = (rowsN (row0 ps.length cs) ps.length).map fun r => encK r.1 := by
    unfold seatsOf
    rw [List.map_map]; rfl
  rw [he]
  exact call_rt (ρ := [.v (encS ps ts w), .v (encC cs), .v (.list ((rowsN (row0 ps.length cs) ps.length).map encR)), s4, s5, .u, .u, s8, s9]) h rfl rfl rfl rfl rfl (s_seq (s_asgn x1) (s_seq (s_for (i_seq (e_idx (e_var rfl) e_con rfl) rfl) e) (s_seqr (s_rt lc))))
/-! ### the crowd of a seating -/
def cnt (ks : List Str) (k : Str) : Nat := (ks.filter fun x => decide (x = k)).length
def crowdOf (ks : List Str) : Int × Int × Int := (cnt ks (S [97]), cnt ks (S [98]), cnt ks (S [99]))
theorem cnt_sum : ∀ ks : List Str, (∀ k ∈ ks, k ∈ kindsL) → cnt ks (S [97]) + cnt ks (S [98]) + cnt ks (S [99]) + cnt ks free = ks.length
  | [], _ => rfl
  | k :: ks, h => by
    have ih := cnt_sum ks fun x hx => h x (List.mem_cons_of_mem _ hx)
    have hk := h k List.mem_cons_self
    have one : ∀ k ∈ kindsL, (if k = S [97] then 1 else 0) + (if k = S [98] then 1 else 0) + (if k = S [99] then 1 else 0) + (if k = free then 1 else 0) = 1 := by decide +kernel
    have o := one k hk
    have cc : ∀ y, cnt (k :: ks) y = (if k = y then 1 else 0) + cnt ks y := fun y => by
      unfold cnt
      rw [List.filter_cons]
      by_cases e : k = y
      · simp [e, Nat.add_comm]
      · simp [e]
    rw [cc, cc, cc, cc, List.length_cons]
    omega
theorem crowd_ok (hs : Seat ps ks) : Crowd ps.length (crowdOf ks) := by
  have h := cnt_sum ks hs.kin
  have hl := hs.len
  have hf : cnt ks free < ks.length := by
    obtain ⟨k, mk, hk⟩ := hs.some
    have h1 : cnt ks free ≤ ks.length := List.length_filter_le _ _
    have h2 : cnt ks free ≠ ks.length := fun e => by
      have := List.length_filter_eq_length_iff.mp e k mk
      exact hk (of_decide_eq_true this)
    omega
  refine ⟨?_, ?_, ?_, ?_, ?_⟩ <;> simp only [crowdOf] <;> omega
theorem crowd_at (h : T 47 = some d__law_crowd) (n : Nat) (h7 : ks.length ≤ 7) : (callN T (n + 1)).call 47 none [encK ks] = some (encC (crowdOf ks), []) := by
  have inner : ∀ (k : Str) (s2 : Slot), ev (callN T n) (.bi .len (.cons (.lc (.con (.int (1))) (.n 2) (.iseq (.var 0)) (.cmp .eq (.var 2) (.var 1))) .nil)) [.v (encK ks), .v (.str k), s2] = some (.int (cnt ks k : Nat), [.v (encK ks), .v (.str k), .u]) := fun k s2 => by
    have lc : ev (callN T n) (.lc (.con (.int (1))) (.n 2) (.iseq (.var 0)) (.cmp .eq (.var 2) (.var 1))) [.v (encK ks), .v (.str k), s2] = some (.list ((ks.filter fun x => decide (x = k)).map fun _ => .int 1), [.v (encK ks), .v (.str k), .u]) :=
      e_lct ks PyData.str (fun x => decide (x = k)) (fun _ => .int 1) (i_seq (e_var rfl) rfl) rfl (by simp [line]; omega) fun x hx => ⟨[.v (encK ks), .v (.str k), .v (.str x)], rfl, rfl, c_ex (e_cmp (e_var rfl) (e_var rfl) eq_str), fun _ => e_con⟩
    exact e_bi (a_cons lc a_nil) len_map
  have outer : ev (callN T n) (.lc (.bi .len (.cons (.lc (.con (.int (1))) (.n 2) (.iseq (.var 0)) (.cmp .eq (.var 2) (.var 1))) .nil)) (.n 1) (.iseq (.con (.str (S [97, 98, 99])))) .nil) [.v (encK ks), .u, .u] = some (.list ((([97, 98, 99] : List Nat).filter fun _ => true).map fun c => .int (cnt ks (S [c]) : Nat)), [.v (encK ks), .u, .u]) :=
    e_lct ([97, 98, 99] : List Nat) (fun c => .str (S [c])) (fun _ => true) (fun c => .int (cnt ks (S [c]) : Nat)) (i_seq e_con rfl) rfl (by simp [line]) fun c hc => ⟨[.v (encK ks), .v (.str (S [c])), .u], rfl, rfl, c_nil, fun _ => inner (S [c]) .u⟩
  exact call_rt (ρ := [.v (encK ks), .u, .u]) h rfl rfl rfl rfl rfl (s_seqr (s_rt (e_bi (a_cons outer a_nil) rfl)))
end
end PL
set_option maxHeartbeats 2000000
/-! P11: least and most like ties of a crowd. -/
namespace PL
open PySem PyProof.Rows
theorem minD_in : ∀ (xs : List Val) (x : Val), PySem.W.minD x xs ∈ x :: xs
  | [], x => by simp [PySem.W.minD]
  | y :: xs, x => by
    have h := minD_in xs (if PySem.W.dataLt y x then y else x)
    have e : PySem.W.minD x (y :: xs) = PySem.W.minD (if PySem.W.dataLt y x then y else x) xs := rfl
    rw [e]
    rcases List.mem_cons.mp h with h | h
    · rw [h]; split <;> simp
    · exact List.mem_cons_of_mem _ (List.mem_cons_of_mem _ h)
theorem maxD_in : ∀ (xs : List Val) (x : Val), PySem.W.maxD x xs ∈ x :: xs
  | [], x => by simp [PySem.W.maxD]
  | y :: xs, x => by
    have h := maxD_in xs (if PySem.W.dataLt x y then y else x)
    have e : PySem.W.maxD x (y :: xs) = PySem.W.maxD (if PySem.W.dataLt x y then y else x) xs := rfl
    rw [e]
    rcases List.mem_cons.mp h with h | h
    · rw [h]; split <;> simp
    · exact List.mem_cons_of_mem _ (List.mem_cons_of_mem _ h)
theorem like_all {α : Type} {f : α → Val} {l : List α} (h1 : ∀ a, pk 8 (f a) = true) (h2 : ∀ a b, PySem.W.alike (f a) (f b) = true) (h3 : ∀ a, notNone (f a) = true) : allLike (l.map f) = true := by
  unfold allLike
  simp only [Bool.and_eq_true, List.all_eq_true]
  refine ⟨⟨fun x hx => ?_, fun x hx y hy => ?_⟩, fun x hx => ?_⟩
  · obtain ⟨a, _, rfl⟩ := List.mem_map.mp hx
    exact h1 a
  · obtain ⟨a, _, rfl⟩ := List.mem_map.mp hx
    obtain ⟨b, _, rfl⟩ := List.mem_map.mp hy
    exact h2 a b
  · obtain ⟨a, _, rfl⟩ := List.mem_map.mp hx
    exact h3 a
theorem min_map {α : Type} {f : α → Val} {l : List α} (ha : allLike (l.map f) = true) (h : l ≠ []) : ∃ a ∈ l, biV .min [.list (l.map f)] = some (f a) := by
  obtain ⟨x, r, rfl⟩ := List.exists_cons_of_ne_nil h
  have hm := minD_in (r.map f) (f x)
  obtain ⟨a, ma, ea⟩ := List.mem_map.mp (show PySem.W.minD (f x) (r.map f) ∈ (x :: r).map f from hm)
  refine ⟨a, ma, ?_⟩
  rw [List.map_cons] at ha
  show (if allLike (f x :: r.map f) then some (PySem.W.minD (f x) (r.map f)) else none) = _
  rw [ha, ea]; rfl
theorem max_map {α : Type} {f : α → Val} {l : List α} (ha : allLike (l.map f) = true) (h : l ≠ []) : ∃ a ∈ l, biV .max [.list (l.map f)] = some (f a) := by
  obtain ⟨x, r, rfl⟩ := List.exists_cons_of_ne_nil h
  have hm := maxD_in (r.map f) (f x)
  obtain ⟨a, ma, ea⟩ := List.mem_map.mp (show PySem.W.maxD (f x) (r.map f) ∈ (x :: r).map f from hm)
  refine ⟨a, ma, ?_⟩
  rw [List.map_cons] at ha
  show (if allLike (f x :: r.map f) then some (PySem.W.maxD (f x) (r.map f)) else none) = _
  rw [ha, ea]; rfl
theorem alike_strs : ∀ us vs : List Str, PySem.W.alikeAll (us.map .str) (vs.map .str) = true
  | [], _ => by simp only [List.map_nil, PySem.W.alikeAll]
  | _ :: _, [] => by simp only [List.map_nil, List.map_cons, PySem.W.alikeAll]
  | u :: us, v :: vs => by
    rw [List.map_cons, List.map_cons]
    simp only [PySem.W.alikeAll, PySem.W.alike, alike_strs us vs, Bool.and_true]
theorem alike_K (us vs : List Str) : PySem.W.alike (encK us) (encK vs) = true := by
  unfold encK
  simp only [PySem.W.alike, alike_strs us vs]
theorem pk_K (us : List Str) : pk 7 (encK us) = true := by
  show (us.map PyData.str).all (pk 6) = true
  rw [List.all_map]
  exact List.all_eq_true.mpr fun x _ => rfl
theorem ok_K {us : List Str} (h : us.length ≤ 7) : okS 1 (encK us) = true := by
  show (decide ((us.map PyData.str).length ≤ 1000) && (us.map PyData.str).all (okS 0)) = true
  rw [List.length_map, decide_eq_true (by omega), List.all_map]
  exact List.all_eq_true.mpr fun x _ => rfl
/-- a number of like ties and a seating -/
def encM (m : Nat) (ks : List Str) : Val := .tuple [.int (m : Nat), encK ks]
theorem like_ints {α : Type} {f : α → Nat} {l : List α} : allLike (l.map fun a => PyData.int (f a : Nat)) = true := like_all (fun _ => rfl) (fun _ _ => by simp only [PySem.W.alike]) fun _ => rfl
theorem like_encM {f : List Str → Nat} {l : List (List Str)} : allLike (l.map fun ks => encM (f ks) ks) = true := by
  refine like_all (fun ks => ?_) (fun us vs => ?_) fun _ => rfl
  · show ([PyData.int (f ks : Nat), encK ks].all (pk 7)) = true
    simp only [List.all_cons, List.all_nil, pk_K, Bool.and_true]
    rfl
  · unfold encM
    simp only [PySem.W.alike, PySem.W.alikeAll, alike_K, Bool.and_true]
/-- the first of a list that has something -/
theorem filter_cons {α : Type} {l : List α} {b : α → Bool} {a : α} (h : a ∈ l) (hb : b a = true) : ∃ x r, l.filter b = x :: r ∧ x ∈ l ∧ b x = true := by
  have hm : a ∈ l.filter b := List.mem_filter.mpr ⟨h, hb⟩
  obtain ⟨x, r, e⟩ := List.exists_cons_of_ne_nil (List.ne_nil_of_mem hm)
  have := List.mem_filter.mp (show x ∈ l.filter b by rw [e]; exact List.mem_cons_self)
  exact ⟨x, r, e, this.1, this.2⟩
section
variable {T : Tbl} {ps ks : List Str} {ts : List (Str × Str)} {w : Int × Int} {cs : Int × Int × Int}
structure TC (T : Tbl) : Prop where
  B : TB T
  t17 : T 17 = some d_like_by
  t36 : T 36 = some d_is_number
  t37 : T 37 = some d_wrong_in_crowd
  t38 : T 38 = some d_seatings_by
  t42 : T 42 = some d_check_crowd
theorem number_at (K : TC T) (n : Nat) {i : Int} (h : 0 ≤ i) : (callN T (n + 2)).call 36 none [.int i] = some (.bool true, []) := by
  have c1 : cmpV .ge (.int i) (.int 0) = some true := by rw [ge_int, decide_eq_true h]
  exact call_rt (ρ := [.v (.int i)]) K.t36 rfl rfl rfl rfl rfl (s_seqr (s_rt (e_andt (e_call (a_cons (e_var rfl) a_nil) (whole_at K.B n i)) (e_cmp (e_var rfl) e_con c1))))
theorem wrong_crowd_at (K : TC T) (n : Nat) (hc : Crowd ps.length cs) : (callN T (n + 4)).call 37 none [stV (encS ps ts w), encC cs] = some (.list [], []) := by
  have e := wrong_all_at K.B n (g := 36) (xs := [.int cs.1, .int cs.2.1, .int cs.2.2]) fun x hx => by
    simp only [List.mem_cons, List.not_mem_nil, or_false] at hx
    rcases hx with rfl | rfl | rfl
    · exact number_at K n hc.a0
    · exact number_at K n hc.b0
    · exact number_at K n hc.c0
  have hl : biV .len [.tuple (ps.map .str)] = some (.int (ps.length : Nat)) := by rw [len_tup, List.length_map]
  have s1 := hc.s1
  have sn := hc.sn
  have es : sumC cs = cs.1 + (cs.2.1 + (cs.2.2 + 0)) := rfl
  have c1 : cmpV .le (.int 1) (.int (sumC cs)) = some true := by rw [le_int, decide_eq_true (by omega)]
  have c2 : cmpV .le (.int (sumC cs)) (.int (ps.length : Nat)) = some true := by rw [le_int, decide_eq_true (by omega)]
  exact call_rt (ρ := [.v (stV (encS ps ts w)), .v (encC cs), .v (.list [])]) K.t37 rfl rfl rfl rfl rfl (s_seq (s_asgn (e_call (a_cons (e_var rfl) (a_cons (e_bi (a_cons e_glob a_nil) rfl) (a_cons e_glob a_nil))) e)) (s_seq (s_iff (e_cmp (e_var rfl) (e_lst a_nil) (ne_nil (us := []))) s_skip) (s_seqr (s_rt (e_ift (e_cmp2t e_con (e_bi (a_cons (e_var rfl) a_nil) sum_crowd) c1 (e_bi (a_cons (e_prop (e_var rfl) rfl) a_nil) hl) c2) (e_lst a_nil))))))
theorem check_crowd_at (K : TC T) (n : Nat) (hc : Crowd ps.length cs) : (callN T (n + 5)).call 42 none [stV (encS ps ts w), encC cs] = some (.none, []) :=
  call_nx (ρ := [.v (stV (encS ps ts w)), .v (encC cs), .u]) K.t42 rfl rfl rfl rfl rfl (s_seq (s_ex (e_call (a_cons (e_var rfl) a_nil) (check_street_at K.B (n + 3)))) (s_seq (s_for (i_seq (e_call (a_cons (e_var rfl) (a_cons (e_var rfl) a_nil)) (wrong_crowd_at K n hc)) rfl) rfl) s_skip))
theorem likes_at (K : TC T) (h : T 39 = some d_likes_of) (n : Nat) (S0 : Strt ps ts w) (hc : Crowd ps.length cs) : (callN T (n + 2)).call 39 none [stV (encS ps ts w), encC cs] = some (.list ((seatsOf ps.length cs).map fun ks => encM (likeN ps ts ks) ks), []) := by
  have lc : ev (callN T (n + 1)) (.lc (.tup (.cons (.call 17 (.cons (.var 0) (.cons (.var 2) .nil))) (.cons (.var 2) .nil))) (.n 2) (.iseq (.call 38 (.cons (.var 0) (.cons (.var 1) .nil)))) .nil) [.v (stV (encS ps ts w)), .v (encC cs), .u] = some (.list (((seatsOf ps.length cs).filter fun _ => true).map fun ks => encM (likeN ps ts ks) ks), [.v (stV (encS ps ts w)), .v (encC cs), .u]) :=
    e_lct (seatsOf ps.length cs) encK (fun _ => true) (fun ks => encM (likeN ps ts ks) ks) (i_seq (e_call (a_cons (e_var rfl) (a_cons (e_var rfl) a_nil)) (seatings_at K.t38 n S0 hc)) rfl) rfl (by have := seats_len S0.p7 cs; simp [line]; omega) fun ks hk => ⟨[.v (stV (encS ps ts w)), .v (encC cs), .v (encK ks)], rfl, rfl, c_nil, fun _ => e_tup (a_cons (e_call (a_cons (e_var rfl) (a_cons (e_var rfl) a_nil)) (like_by_at K.t17 n S0 (seats_in hc hk).1.symm)) (a_cons (e_var rfl) a_nil))⟩
  rw [List.filter_eq_self.mpr fun _ _ => rfl] at lc
  exact call_rt (ρ := [.v (stV (encS ps ts w)), .v (encC cs), .u]) h rfl rfl rfl rfl rfl (s_seqr (s_rt lc))
/-- the least, the most, the first that has it -/
structure Ext (ps : List Str) (ts : List (Str × Str)) (cs : Int × Int × Int) (k0 k1 : List Str) (M : Nat) : Prop where
  in0 : k0 ∈ seatsOf ps.length cs
  in1 : k1 ∈ seatsOf ps.length cs
  mn : biV .min [.list ((seatsOf ps.length cs).map fun ks => encM (likeN ps ts ks) ks)] = some (encM (likeN ps ts k0) k0)
  mx : biV .max [.list ((seatsOf ps.length cs).map fun ks => .int (likeN ps ts ks : Nat))] = some (.int (M : Nat))
  m1 : likeN ps ts k1 = M
  fst : ∃ r, (seatsOf ps.length cs).filter (fun ks => decide ((likeN ps ts ks : Int) = (M : Nat))) = k1 :: r
theorem ext_of (hc : Crowd ps.length cs) : ∃ k0 k1 M, Ext ps ts cs k0 k1 M := by
  obtain ⟨k0, m0, e0⟩ := min_map (l := seatsOf ps.length cs) (like_encM (f := likeN ps ts)) (seats_some hc)
  obtain ⟨kx, mx, ex⟩ := max_map (l := seatsOf ps.length cs) (like_ints (f := likeN ps ts)) (seats_some hc)
  obtain ⟨k1, r, e1, h1, h2⟩ := filter_cons (l := seatsOf ps.length cs) (b := fun ks => decide ((likeN ps ts ks : Int) = (likeN ps ts kx : Nat))) mx (by simp)
  exact ⟨k0, k1, _, m0, h1, e0, ex, by have := of_decide_eq_true h2; omega, r, e1⟩
end
end PL
set_option maxHeartbeats 2000000
/-! P12: the law of least and most like ties holds. -/
namespace PL
open PySem PyProof.Rows
section
variable {T : Tbl} {p : List Val} {ps ks k0 k1 : List Str} {M : Nat} {ts : List (Str × Str)} {w : Int × Int} {cs : Int × Int × Int}
/-- a law's laps, so many rights in each -/
def lapsB (q : Nat) : St := .seq (.for_ (.n 1) (.irange1 (.bi .max (.cons (.con (.int (1))) (.cons (.bi .min (.cons (.bi .len (.cons (.var 0) .nil)) (.cons (.con (.int (3))) .nil))) .nil)))) (.seq (.own 2 (.call 22 (.cons (.var 0) (.cons (.var 1) .nil)))) (.seq (.ite (.not (.bi .all (.cons (.lc (.callP 34 2 .nil) (.n 3) (.irange1 (.con (.int (q : Nat)))) .nil) .nil))) (.seq (.rt (.con (.bool false))) .skip) .skip) .skip))) (.seq (.rt (.con (.bool true))) .skip)
theorem laps_gen {d : FDef} {q : Nat} (hq : q ≤ 1000) (h22 : T 22 = some d__law_pool) {f : Nat} (hf : T f = some d) (d1 : d.hi = false) (d2 : d.pool = false) (d3 : d.slf = false) (d4 : d.ps.length = 1) (d5 : d.N.length = 4) (d6 : d.body = lapsB q) (n : Nat) (hr : ∀ p, Pool p → ∃ p', (callN T (n + 1)).call 34 (some p) [] = some (.bool true, p') ∧ Pool p') (ns : List Int) : callN T (n + 2) f none [scrV (ns.map .int)] = some (.bool true, []) := by
  have hk : ∃ k : Nat, evI (callN T (n + 1)) (.irange1 (.bi .max (.cons (.con (.int (1))) (.cons (.bi .min (.cons (.bi .len (.cons (.var 0) .nil)) (.cons (.con (.int (3))) .nil))) .nil)))) [.v (scrV (ns.map .int)), .u, .u, .u] = some (rangeV 0 k, [.v (scrV (ns.map .int)), .u, .u, .u]) := by
    refine ⟨_, i_range1 (e_bi (a_cons e_con (a_cons (e_bi (a_cons (e_bi (a_cons (e_var rfl) a_nil) rfl) (a_cons e_con a_nil)) rfl) a_nil)) rfl) ?_⟩
    constructor <;> (repeat' split) <;> omega
  obtain ⟨k, hk⟩ := hk
  obtain ⟨ρ', e, s1, s2, s3, rfl⟩ := for_all (ρ := [.v (scrV (ns.map .int)), .u, .u, .u]) (xs := rangeV 0 k) (step := fun x => bnd (asgM (.n 1) x) fun _ => exec (callN T (n + 1)) (.seq (.own 2 (.call 22 (.cons (.var 0) (.cons (.var 1) .nil)))) (.seq (.ite (.not (.bi .all (.cons (.lc (.callP 34 2 .nil) (.n 3) (.irange1 (.con (.int (q : Nat)))) .nil) .nil))) (.seq (.rt (.con (.bool false))) .skip) .skip) .skip))) (I := fun i ρ => ∃ s1 s2 s3, ρ = [.v (scrV (ns.map .int)), s1, s2, s3]) ⟨_, _, _, rfl⟩ (fun i hi ρ hI => by
      obtain ⟨s1, s2, s3, rfl⟩ := hI
      have hx : (rangeV 0 k)[i] = .int (0 + (i : Nat)) := by simp [rangeV]
      rw [hx]
      obtain ⟨l, el, hl⟩ := pool_at h22 n ns (j := 0 + (i : Nat)) (by omega)
      obtain ⟨ys, ρ2, e2, l2, rfl, hl2, rfl⟩ := loop_inv (step := lcStep (.n 3) (condM .nil (ev (callN T (n + 1)) .nil)) (ev (callN T (n + 1)) (.callP 34 2 .nil))) (xs := rangeV 0 q) (I := fun q acc ρ' => ∃ l2, ρ' = [.v (scrV (ns.map .int)), .v (.int (0 + (i : Nat))), .L l2, .u] ∧ Pool l2 ∧ acc = (List.range q).map fun _ => .bool true) (ρ := [.v (scrV (ns.map .int)), .v (.int (0 + (i : Nat))), .L l, .u]) ⟨l, rfl, hl, rfl⟩ (fun i' hi' acc ρ _ hI => by
          obtain ⟨l2, rfl, hl2, rfl⟩ := hI
          obtain ⟨l3, e3, hl3⟩ := hr l2 hl2
          refine ⟨some (.bool true), _, st_yes (ρ1 := [.v (scrV (ns.map .int)), .v (.int (0 + (i : Nat))), .L l2, .v (rangeV 0 q)[i']]) rfl c_nil (e_callP rfl a_nil rfl e3), l3, rfl, hl3, ?_⟩
          rw [List.range_succ, List.map_append]
          rfl) (by simp [rangeV, line]; omega)
      have i4 : evI (callN T (n + 1)) (.irange1 (.con (.int (q : Nat)))) [.v (scrV (ns.map .int)), .v (.int (0 + (i : Nat))), .L l, s3] = some (rangeV 0 q, [.v (scrV (ns.map .int)), .v (.int (0 + (i : Nat))), .L l, s3]) := i_range1 e_con (by omega)
      exact ⟨_, turn (ρ1 := [.v (scrV (ns.map .int)), .v (.int (0 + (i : Nat))), s2, s3]) rfl (s_seq (s_own (o_call (e_call (a_cons (e_var rfl) (a_cons (e_var rfl) a_nil)) el))) (s_seq (s_if0 (e_not (e_bi (a_cons (e_lc i4 e2) a_nil) (all_true _))) rfl s_skip) s_skip)), _, _, _, rfl⟩)
  refine call_rt (ρ0 := [.v (scrV (ns.map .int)), .u, .u, .u]) (ρ := [.v (scrV (ns.map .int)), s1, s2, s3]) hf d1 d2 d3 (by rw [d4]; rfl) (by rw [d5]; rfl) ?_
  rw [d6]
  exact s_seq (s_for hk e) (s_seqr (s_rt e_con))
theorem own_ok1 (h : T 27 = some d__law_own_v1) : OwnOk T 1 := by
  refine ⟨Txt.split (S [97, 32, 97, 98, 32, 97, 98, 99]) (S [32]), fun m => ?_⟩
  refine call_rt (ρ := []) h rfl rfl rfl rfl rfl (s_seqr (s_rt (e_me e_con (a_cons e_con a_nil) ?_)))
  show (if ((S [32]).length == 0) = false ∧ (S [97, 32, 97, 98, 32, 97, 98, 99]).length + 2 ≤ line then some (PyData.list ((Txt.split (S [97, 32, 97, 98, 32, 97, 98, 99]) (S [32])).map .str)) else none) = _
  rw [if_pos]
  rw [S_len, S_len]
  simp [line]
/-- what draws a law's things -/
structure TD (T : Tbl) : Prop where
  C : TC T
  t22 : T 22 = some d__law_pool
  t23 : T 23 = some d__law_below
  t24 : T 24 = some d__law_one
  t25 : T 25 = some d__law_same
  t26 : T 26 = some d__law_words
  t27 : OwnOk T 1
  t28 : T 28 = some d__law_name
  t29 : T 29 = some d__law_street
  t30 : T 30 = some d__law_made
  t31 : T 31 = some d__law_seating
  t32 : T 32 = some d__law_ends
  t33 : T 33 = some d__law_like
structure TM (T : Tbl) : Prop where
  D : TD T
  t39 : T 39 = some d_likes_of
  t40 : T 40 = some d_least_by
  t41 : T 41 = some d_most_by
  t43 : T 43 = some d_least_like
  t44 : T 44 = some d_most_like
  t45 : T 45 = some d_least_seating
  t46 : T 46 = some d_most_seating
  t47 : T 47 = some d__law_crowd
  t48 : T 48 = some d__law_seatings
theorem least_by_at (K : TM T) (n : Nat) (S0 : Strt ps ts w) (hc : Crowd ps.length cs) (E : Ext ps ts cs k0 k1 M) : (callN T (n + 3)).call 40 none [stV (encS ps ts w), encC cs] = some (encM (likeN ps ts k0) k0, []) :=
  call_rt (ρ := [.v (stV (encS ps ts w)), .v (encC cs)]) K.t40 rfl rfl rfl rfl rfl (s_seqr (s_rt (e_bi (a_cons (e_call (a_cons (e_var rfl) (a_cons (e_var rfl) a_nil)) (likes_at K.D.C K.t39 n S0 hc)) a_nil) E.mn)))
theorem most_by_at (K : TM T) (n : Nat) (S0 : Strt ps ts w) (hc : Crowd ps.length cs) (E : Ext ps ts cs k0 k1 M) : (callN T (n + 3)).call 41 none [stV (encS ps ts w), encC cs] = some (encM M k1, []) := by
  have hl : (seatsOf ps.length cs).length < line := by have := seats_len S0.p7 cs; simp [line]; omega
  let R : Val := .list ((seatsOf ps.length cs).map fun ks => encM (likeN ps ts ks) ks)
  have l1 : ev (callN T (n + 2)) (.lc (.var 4) (.cons (.n 4) (.cons (.n 5) .nil)) (.iseq (.var 2)) .nil) [.v (stV (encS ps ts w)), .v (encC cs), .v R, .u, .u, .u, .u] = some (.list (((seatsOf ps.length cs).filter fun _ => true).map fun ks => .int (likeN ps ts ks : Nat)), [.v (stV (encS ps ts w)), .v (encC cs), .v R, .u, .u, .u, .u]) :=
    e_lct (seatsOf ps.length cs) (fun ks => encM (likeN ps ts ks) ks) (fun _ => true) (fun ks => .int (likeN ps ts ks : Nat)) (i_seq (e_var rfl) rfl) rfl hl fun ks hk => ⟨[.v (stV (encS ps ts w)), .v (encC cs), .v R, .u, .v (.int (likeN ps ts ks : Nat)), .v (encK ks), .u], rfl, rfl, c_nil, fun _ => e_var rfl⟩
  rw [List.filter_eq_self.mpr fun _ _ => rfl] at l1
  have l2 : ev (callN T (n + 2)) (.lc (.tup (.cons (.var 4) (.cons (.var 6) .nil))) (.cons (.n 4) (.cons (.n 6) .nil)) (.iseq (.var 2)) (.cmp .eq (.var 4) (.var 3))) [.v (stV (encS ps ts w)), .v (encC cs), .v R, .v (.int (M : Nat)), .u, .u, .u] = some (.list (((seatsOf ps.length cs).filter fun ks => decide ((likeN ps ts ks : Int) = (M : Nat))).map fun ks => encM (likeN ps ts ks) ks), [.v (stV (encS ps ts w)), .v (encC cs), .v R, .v (.int (M : Nat)), .u, .u, .u]) :=
    e_lct (seatsOf ps.length cs) (fun ks => encM (likeN ps ts ks) ks) (fun ks => decide ((likeN ps ts ks : Int) = (M : Nat))) (fun ks => encM (likeN ps ts ks) ks) (i_seq (e_var rfl) rfl) rfl hl fun ks hk => ⟨[.v (stV (encS ps ts w)), .v (encC cs), .v R, .v (.int (M : Nat)), .v (.int (likeN ps ts ks : Nat)), .u, .v (encK ks)], rfl, rfl, c_ex (e_cmp (e_var rfl) (e_var rfl) eq_int), fun _ => e_tup (a_cons (e_var rfl) (a_cons (e_var rfl) a_nil))⟩
  obtain ⟨r, hr⟩ := E.fst
  rw [hr, List.map_cons, E.m1] at l2
  exact call_rt (ρ := [.v (stV (encS ps ts w)), .v (encC cs), .v R, .v (.int (M : Nat)), .u, .u, .u]) K.t41 rfl rfl rfl rfl rfl (s_seq (s_asgn (e_call (a_cons (e_var rfl) (a_cons (e_var rfl) a_nil)) (likes_at K.D.C K.t39 n S0 hc))) (s_seq (s_asgn (e_bi (a_cons l1 a_nil) E.mx)) (s_seqr (s_rt (e_idx l2 e_con idx_head)))))
theorem idx2 {x y : Val} : idxV (.tuple [x, y]) (.int 0) = some x ∧ idxV (.tuple [x, y]) (.int 1) = some y := ⟨rfl, rfl⟩
section
variable (K : TM T) (n : Nat) (S0 : Strt ps ts w) (hc : Crowd ps.length cs) (E : Ext ps ts cs k0 k1 M)
include K S0 hc E
theorem least_like_at : (callN T (n + 6)).call 43 none [stV (encS ps ts w), encC cs] = some (.int (likeN ps ts k0 : Nat), []) :=
  call_rt (ρ := [.v (stV (encS ps ts w)), .v (encC cs)]) K.t43 rfl rfl rfl rfl rfl (s_seq (s_ex (e_call (a_cons (e_var rfl) (a_cons (e_var rfl) a_nil)) (check_crowd_at K.D.C n hc))) (s_seqr (s_rt (e_idx (e_call (a_cons (e_var rfl) (a_cons (e_var rfl) a_nil)) (least_by_at K (n + 2) S0 hc E)) e_con idx2.1))))
theorem most_like_at : (callN T (n + 6)).call 44 none [stV (encS ps ts w), encC cs] = some (.int (M : Nat), []) :=
  call_rt (ρ := [.v (stV (encS ps ts w)), .v (encC cs)]) K.t44 rfl rfl rfl rfl rfl (s_seq (s_ex (e_call (a_cons (e_var rfl) (a_cons (e_var rfl) a_nil)) (check_crowd_at K.D.C n hc))) (s_seqr (s_rt (e_idx (e_call (a_cons (e_var rfl) (a_cons (e_var rfl) a_nil)) (most_by_at K (n + 2) S0 hc E)) e_con idx2.1))))
theorem least_seating_at : (callN T (n + 6)).call 45 none [stV (encS ps ts w), encC cs] = some (encK k0, []) :=
  call_rt (ρ := [.v (stV (encS ps ts w)), .v (encC cs)]) K.t45 rfl rfl rfl rfl rfl (s_seq (s_ex (e_call (a_cons (e_var rfl) (a_cons (e_var rfl) a_nil)) (check_crowd_at K.D.C n hc))) (s_seqr (s_rt (e_idx (e_call (a_cons (e_var rfl) (a_cons (e_var rfl) a_nil)) (least_by_at K (n + 2) S0 hc E)) e_con idx2.2))))
theorem most_seating_at : (callN T (n + 6)).call 46 none [stV (encS ps ts w), encC cs] = some (encK k1, []) :=
  call_rt (ρ := [.v (stV (encS ps ts w)), .v (encC cs)]) K.t46 rfl rfl rfl rfl rfl (s_seq (s_ex (e_call (a_cons (e_var rfl) (a_cons (e_var rfl) a_nil)) (check_crowd_at K.D.C n hc))) (s_seqr (s_rt (e_idx (e_call (a_cons (e_var rfl) (a_cons (e_var rfl) a_nil)) (most_by_at K (n + 2) S0 hc E)) e_con idx2.2))))
end
def right1 : St := .seq (.asg (.n 2) (.callP 29 0 (.cons (.con (.int (7))) .nil))) (.seq (.par [(3, false), (4, false)] (.cons (.call 30 (.cons (.var 2) .nil)) (.cons (.call 47 (.cons (.callP 31 0 (.cons (.var 2) .nil)) .nil)) .nil))) (.seq (.asg (.n 5) (.lc (.tup (.cons (.call 33 (.cons (.var 2) (.cons (.var 10) .nil))) (.cons (.var 10) .nil))) (.n 10) (.iseq (.call 48 (.cons (.var 2) (.cons (.var 4) .nil)))) .nil)) (.seq (.asg (.cons (.n 6) (.cons (.n 7) .nil)) (.tup (.cons (.bi .min (.cons (.var 5) .nil)) (.cons (.bi .max (.cons (.lc (.var 11) (.cons (.n 11) (.cons (.n 10) .nil)) (.iseq (.var 5)) .nil) .nil)) .nil)))) (.seq (.asg (.n 8) (.idx (.lc (.var 10) (.cons (.n 11) (.cons (.n 10) .nil)) (.iseq (.var 5)) (.cmp .eq (.var 11) (.var 7))) (.con (.int (0))))) (.seq (.ite (.not (.call 25 (.cons (.lst (.cons (.call 43 (.cons (.var 3) (.cons (.var 4) .nil))) (.cons (.call 44 (.cons (.var 3) (.cons (.var 4) .nil))) (.cons (.call 45 (.cons (.var 3) (.cons (.var 4) .nil))) (.cons (.call 46 (.cons (.var 3) (.cons (.var 4) .nil))) .nil))))) (.cons (.lst (.cons (.idx (.var 6) (.con (.int (0)))) (.cons (.var 7) (.cons (.idx (.var 6) (.con (.int (1)))) (.cons (.var 8) .nil))))) .nil)))) (.seq (.rt (.con (.bool false))) .skip) .skip) (.seq (.asg (.n 9) (.lst (.cons (.callK 43 [1, 0] (.cons (.var 4) (.cons (.var 3) .nil))) (.cons (.callK 44 [1, 0] (.cons (.var 4) (.cons (.var 3) .nil))) (.cons (.callK 45 [1, 0] (.cons (.var 4) (.cons (.var 3) .nil))) .nil))))) (.seq (.asg (.n 9) (.bop .add (.var 9) (.lst (.cons (.callK 46 [1, 0] (.cons (.var 4) (.cons (.var 3) .nil))) .nil)))) (.seq (.ite (.not (.call 25 (.cons (.var 9) (.cons (.lst (.cons (.idx (.var 6) (.con (.int (0)))) (.cons (.var 7) (.cons (.idx (.var 6) (.con (.int (1)))) (.cons (.var 8) .nil))))) .nil)))) (.seq (.rt (.con (.bool false))) .skip) .skip) .skip))))))))
abbrev env1 (p : List Val) (s1 : Slot) (st : Val) (a b c d e f g : Slot) : PL.Env := [.L p, s1, .v st, a, b, c, d, e, f, g, .u, .u]
theorem right1_turn (K : TM T) (n : Nat) (hp : Pool p) {s1 s2 s3 s4 s5 s6 s7 s8 s9 s10 s11 : Slot} : ∃ p' t2 t3 t4 t5 t6 t7 t8 t9, exec (callN T (n + 7)) right1 [.L p, s1, s2, s3, s4, s5, s6, s7, s8, s9, s10, s11] = some (.nx, [.L p', s1, t2, t3, t4, t5, t6, t7, t8, t9, .u, .u]) ∧ Pool p' := by
  obtain ⟨ps, ts, w, p1, e1, hp1, S0, -⟩ := street_at (n := n + 3) K.D.t23 K.D.t24 K.D.t26 K.D.t28 K.D.t29 K.D.t27 (by omega) hp (most := 7) (by decide) (by decide)
  obtain ⟨ks, p2, e2, hp2, hs⟩ := seating_at K.D.t23 K.D.t24 K.D.t31 (n + 4) hp1 S0
  have em := made_at K.D.C.B K.D.t30 n S0
  have h7 := S0.p7
  have ec := crowd_at K.t47 (n + 6) (ks := ks) (by have := hs.len; omega)
  have hc := crowd_ok hs
  generalize crowdOf ks = cs at ec hc
  obtain ⟨k0, k1, M, E⟩ := ext_of (ts := ts) hc
  have eq := law_seatings_at K.t48 (n + 6) S0 hc
  have f1 := least_like_at K (n + 1) S0 hc E
  have f2 := most_like_at K (n + 1) S0 hc E
  have f3 := least_seating_at K (n + 1) S0 hc E
  have f4 := most_seating_at K (n + 1) S0 hc E
  have hl : (seatsOf ps.length cs).length < line := by have := seats_len S0.p7 cs; simp [line]; omega
  let R : Val := .list ((seatsOf ps.length cs).map fun ks => encM (likeN ps ts ks) ks)
  have l1 : ev (callN T (n + 7)) (.lc (.tup (.cons (.call 33 (.cons (.var 2) (.cons (.var 10) .nil))) (.cons (.var 10) .nil))) (.n 10) (.iseq (.call 48 (.cons (.var 2) (.cons (.var 4) .nil)))) .nil) [.L p2, s1, .v (encS ps ts w), .v (stV (encS ps ts w)), .v (encC cs), s5, s6, s7, s8, s9, s10, s11] = some (.list (((seatsOf ps.length cs).filter fun _ => true).map fun ks => encM (likeN ps ts ks) ks), [.L p2, s1, .v (encS ps ts w), .v (stV (encS ps ts w)), .v (encC cs), s5, s6, s7, s8, s9, .u, s11]) :=
    e_lct (seatsOf ps.length cs) encK (fun _ => true) (fun ks => encM (likeN ps ts ks) ks) (i_seq (e_call (a_cons (e_var rfl) (a_cons (e_var rfl) a_nil)) eq) rfl) rfl hl fun ks hk => ⟨[.L p2, s1, .v (encS ps ts w), .v (stV (encS ps ts w)), .v (encC cs), s5, s6, s7, s8, s9, .v (encK ks), s11], rfl, rfl, c_nil, fun _ => e_tup (a_cons (e_call (a_cons (e_var rfl) (a_cons (e_var rfl) a_nil)) (like_at K.D.t32 K.D.t33 (n + 5) S0 (seats_in hc hk).1.symm)) (a_cons (e_var rfl) a_nil))⟩
  rw [List.filter_eq_self.mpr fun _ _ => rfl] at l1
  have l2 : ev (callN T (n + 7)) (.lc (.var 11) (.cons (.n 11) (.cons (.n 10) .nil)) (.iseq (.var 5)) .nil) [.L p2, s1, .v (encS ps ts w), .v (stV (encS ps ts w)), .v (encC cs), .v R, s6, s7, s8, s9, .u, s11] = some (.list (((seatsOf ps.length cs).filter fun _ => true).map fun ks => .int (likeN ps ts ks : Nat)), [.L p2, s1, .v (encS ps ts w), .v (stV (encS ps ts w)), .v (encC cs), .v R, s6, s7, s8, s9, .u, .u]) :=
    e_lct (seatsOf ps.length cs) (fun ks => encM (likeN ps ts ks) ks) (fun _ => true) (fun ks => .int (likeN ps ts ks : Nat)) (i_seq (e_var rfl) rfl) rfl hl fun ks hk => ⟨[.L p2, s1, .v (encS ps ts w), .v (stV (encS ps ts w)), .v (encC cs), .v R, s6, s7, s8, s9, .v (encK ks), .v (.int (likeN ps ts ks : Nat))], rfl, rfl, c_nil, fun _ => e_var rfl⟩
  rw [List.filter_eq_self.mpr fun _ _ => rfl] at l2
  have l3 : ev (callN T (n + 7)) (.lc (.var 10) (.cons (.n 11) (.cons (.n 10) .nil)) (.iseq (.var 5)) (.cmp .eq (.var 11) (.var 7))) [.L p2, s1, .v (encS ps ts w), .v (stV (encS ps ts w)), .v (encC cs), .v R, .v (encM (likeN ps ts k0) k0), .v (.int (M : Nat)), s8, s9, .u, .u] = some (.list (((seatsOf ps.length cs).filter fun ks => decide ((likeN ps ts ks : Int) = (M : Nat))).map fun ks => encK ks), [.L p2, s1, .v (encS ps ts w), .v (stV (encS ps ts w)), .v (encC cs), .v R, .v (encM (likeN ps ts k0) k0), .v (.int (M : Nat)), s8, s9, .u, .u]) :=
    e_lct (seatsOf ps.length cs) (fun ks => encM (likeN ps ts ks) ks) (fun ks => decide ((likeN ps ts ks : Int) = (M : Nat))) (fun ks => encK ks) (i_seq (e_var rfl) rfl) rfl hl fun ks hk => ⟨[.L p2, s1, .v (encS ps ts w), .v (stV (encS ps ts w)), .v (encC cs), .v R, .v (encM (likeN ps ts k0) k0), .v (.int (M : Nat)), s8, s9, .v (encK ks), .v (.int (likeN ps ts ks : Nat))], rfl, rfl, c_ex (e_cmp (e_var rfl) (e_var rfl) eq_int), fun _ => e_var rfl⟩
  obtain ⟨r, hr⟩ := E.fst
  rw [hr, List.map_cons] at l3
  have o0 : okS 1 (encK k0) = true := ok_K (by have := (seats_in hc E.in0).1; omega)
  have o1 : okS 1 (encK k1) = true := ok_K (by have := (seats_in hc E.in1).1; omega)
  have q1 := same_at K.D.t25 2 (n + 6) (.list [.int (likeN ps ts k0 : Nat), .int (M : Nat), encK k0, encK k1]) (by
    show (decide (4 ≤ 1000) && [PyData.int (likeN ps ts k0 : Nat), .int (M : Nat), encK k0, encK k1].all (okS 1)) = true
    simp only [List.all_cons, List.all_nil, o0, o1, Bool.and_true]
    rfl) (by omega)
  refine ⟨p2, .v (encS ps ts w), .v (stV (encS ps ts w)), .v (encC cs), .v R, .v (encM (likeN ps ts k0) k0), .v (.int (M : Nat)), .v (encK k1), .v (.list [.int (likeN ps ts k0 : Nat), .int (M : Nat), encK k0, encK k1]), ?_, hp2⟩
  have x1 : exec (callN T (n + 7)) (.asg (.n 2) (.callP 29 0 (.cons (.con (.int (7))) .nil))) [.L p, s1, s2, s3, s4, s5, s6, s7, s8, s9, s10, s11] = some (.nx, [.L p1, s1, .v (encS ps ts w), s3, s4, s5, s6, s7, s8, s9, s10, s11]) := s_asgn (e_callP rfl (a_cons e_con a_nil) rfl e1)
  have x2 : exec (callN T (n + 7)) (.par [(3, false), (4, false)] (.cons (.call 30 (.cons (.var 2) .nil)) (.cons (.call 47 (.cons (.callP 31 0 (.cons (.var 2) .nil)) .nil)) .nil))) [.L p1, s1, .v (encS ps ts w), s3, s4, s5, s6, s7, s8, s9, s10, s11] = some (.nx, [.L p2, s1, .v (encS ps ts w), .v (stV (encS ps ts w)), .v (encC cs), s5, s6, s7, s8, s9, s10, s11]) :=
    s_par (m_v (e_call (a_cons (e_var rfl) a_nil) em) (m_v (e_call (a_cons (e_callP rfl (a_cons (e_var rfl) a_nil) rfl e2) a_nil) ec) m_nil))
  have x4 : exec (callN T (n + 7)) (.asg (.cons (.n 6) (.cons (.n 7) .nil)) (.tup (.cons (.bi .min (.cons (.var 5) .nil)) (.cons (.bi .max (.cons (.lc (.var 11) (.cons (.n 11) (.cons (.n 10) .nil)) (.iseq (.var 5)) .nil) .nil)) .nil)))) [.L p2, s1, .v (encS ps ts w), .v (stV (encS ps ts w)), .v (encC cs), .v R, s6, s7, s8, s9, .u, s11] = some (.nx, [.L p2, s1, .v (encS ps ts w), .v (stV (encS ps ts w)), .v (encC cs), .v R, .v (encM (likeN ps ts k0) k0), .v (.int (M : Nat)), s8, s9, .u, .u]) :=
    s_asg (e_tup (a_cons (e_bi (a_cons (e_var rfl) a_nil) E.mn) (a_cons (e_bi (a_cons l2 a_nil) E.mx) a_nil))) (t_cons rfl rfl t_n (ts_cons t_n ts_nil))
  exact s_seq x1 (s_seq x2 (s_seq (s_asgn l1) (s_seq x4 (s_seq (s_asgn (e_idx l3 e_con idx_head))
    (s_seq (s_iff (e_not (r := true) (e_call (a_cons (e_lst (a_cons (e_call (a_cons (e_var rfl) (a_cons (e_var rfl) a_nil)) f1) (a_cons (e_call (a_cons (e_var rfl) (a_cons (e_var rfl) a_nil)) f2) (a_cons (e_call (a_cons (e_var rfl) (a_cons (e_var rfl) a_nil)) f3) (a_cons (e_call (a_cons (e_var rfl) (a_cons (e_var rfl) a_nil)) f4) a_nil))))) (a_cons (e_lst (a_cons (e_idx (e_var rfl) e_con idx2.1) (a_cons (e_var rfl) (a_cons (e_idx (e_var rfl) e_con idx2.2) (a_cons (e_var rfl) a_nil))))) a_nil)) q1)) s_skip)
    (s_seq (s_asgn (e_lst (a_cons (e_callK (a_cons (e_var rfl) (a_cons (e_var rfl) a_nil)) f1) (a_cons (e_callK (a_cons (e_var rfl) (a_cons (e_var rfl) a_nil)) f2) (a_cons (e_callK (a_cons (e_var rfl) (a_cons (e_var rfl) a_nil)) f3) a_nil)))))
    (s_seq (s_asgn (e_bop (e_var rfl) (e_lst (a_cons (e_callK (a_cons (e_var rfl) (a_cons (e_var rfl) a_nil)) f4) a_nil)) rfl))
    (s_seq (s_iff (e_not (r := true) (e_call (a_cons (e_var rfl) (a_cons (e_lst (a_cons (e_idx (e_var rfl) e_con idx2.1) (a_cons (e_var rfl) (a_cons (e_idx (e_var rfl) e_con idx2.2) (a_cons (e_var rfl) a_nil))))) a_nil)) q1)) s_skip) s_skip))))))))
theorem right1_at (K : TM T) (h34 : T 34 = some d__law_right_v1) (n : Nat) (hp : Pool p) : ∃ p', (callN T (n + 8)).call 34 (some p) [] = some (.bool true, p') ∧ Pool p' := by
  obtain ⟨ρ', e, p', s1, s2, s3, s4, s5, s6, s7, s8, s9, s10, s11, rfl, hp'⟩ := for_all (ρ := [.L p, .u, .u, .u, .u, .u, .u, .u, .u, .u, .u, .u]) (xs := rangeV 0 2) (step := fun x => bnd (asgM (.n 1) x) fun _ => exec (callN T (n + 7)) right1) (I := fun i ρ => ∃ p' s1 s2 s3 s4 s5 s6 s7 s8 s9 s10 s11, ρ = [.L p', s1, s2, s3, s4, s5, s6, s7, s8, s9, s10, s11] ∧ Pool p') ⟨p, _, _, _, _, _, _, _, _, _, _, _, rfl, hp⟩ (fun i hi ρ hI => by
      obtain ⟨p', s1, s2, s3, s4, s5, s6, s7, s8, s9, s10, s11, rfl, hp'⟩ := hI
      obtain ⟨p2, t2, t3, t4, t5, t6, t7, t8, t9, e, hp2⟩ := right1_turn (s1 := .v (rangeV 0 2)[i]) (s2 := s2) (s3 := s3) (s4 := s4) (s5 := s5) (s6 := s6) (s7 := s7) (s8 := s8) (s9 := s9) (s10 := s10) (s11 := s11) K n hp'
      exact ⟨_, turn (ρ1 := [.L p', .v (rangeV 0 2)[i], s2, s3, s4, s5, s6, s7, s8, s9, s10, s11]) rfl e, p2, _, _, _, _, _, _, _, _, _, _, _, rfl, hp2⟩)
  exact ⟨p', call_pool_rt (ρ := [.L p', s1, s2, s3, s4, s5, s6, s7, s8, s9, s10, s11]) h34 rfl rfl rfl rfl (s_seq (s_for (i_range1 e_con (by decide)) e) (s_seqr (s_rt e_con))) rfl, hp'⟩
end
end PL
set_option maxHeartbeats 0
namespace GL
open PySem PySem.Spec PyProof.Rows L2 PL
def top (i : Nat) : Stmt := PySem.Challenge.pw_ownkinds_k51_whole_least_and_most_like_t.main.body.getD i (.Pass ⟨0, 0, 0, 0⟩)
def ist : Stmt := (C8.clsBody (top 41)).getD 0 (.Pass ⟨0, 0, 0, 0⟩)
def gl : List (Str × Val) := [((S [76, 69, 84, 84, 69, 82, 83]), (.str (S [97, 98, 99, 100, 101, 102, 103, 104, 105, 106, 107, 108, 109, 110, 111, 112, 113, 114, 115, 116, 117, 118, 119, 120, 121, 122]))), ((S [77, 79, 83, 84, 95, 76, 69, 84, 84, 69, 82, 83]), (.int (8))), ((S [87, 79, 82, 68, 83]), (.tuple [(.str (S [97, 108, 108])), (.str (S [97, 108, 105, 107, 101])), (.str (S [97, 112, 97, 114, 116])), (.str (S [98, 97, 99, 107])), (.str (S [98, 101, 115, 105, 100, 101])), (.str (S [98, 111, 111, 107])), (.str (S [99, 97, 115, 101])), (.str (S [99, 111, 110, 116, 101, 110, 116])), (.str (S [102, 114, 101, 101])), (.str (S [104, 111, 109, 101])), (.str (S [105, 110])), (.str (S [107, 105, 110, 100])), (.str (S [108, 105, 107, 101])), (.str (S [108, 111, 116])), (.str (S [109, 105, 120, 101, 100])), (.str (S [109, 111, 118, 101])), (.str (S [110, 101, 119])), (.str (S [110, 111, 110, 101])), (.str (S [111, 102])), (.str (S [111, 112, 101, 110])), (.str (S [111, 117, 116])), (.str (S [112, 97, 114, 116])), (.str (S [112, 108, 97, 99, 101])), (.str (S [113, 117, 105, 116])), (.str (S [114, 101, 115, 116])), (.str (S [114, 117, 108, 101])), (.str (S [115, 101, 97, 116])), (.str (S [115, 116, 97, 110, 100])), (.str (S [115, 116, 101, 112])), (.str (S [115, 116, 114, 101, 101, 116])), (.str (S [115, 119, 97, 112])), (.str (S [116, 97, 107, 101])), (.str (S [116, 105, 101])), (.str (S [117, 110, 100, 111])), (.str (S [119, 97, 110, 116])), (.str (S [119, 101, 98])), (.str (S [121, 101, 115]))])), ((S [76, 69, 65, 83, 84, 95, 80, 76, 65, 67, 69, 83]), (.int (2))), ((S [77, 79, 83, 84, 95, 80, 76, 65, 67, 69, 83]), (.int (7))), ((S [75, 73, 78, 68, 83]), (ctV [(.str (S [97])), (.str (S [98])), (.str (S [99]))])), ((S [70, 82, 69, 69]), (.str (S [45]))), ((S [105, 115, 95, 110, 117, 109, 98, 101, 114]), gfV 36)]
def n_is_whole : Ent := ⟨1, d_is_whole, top 5⟩
def n_is_one_of : Ent := ⟨2, d_is_one_of, top 6⟩
def n_is_word : Ent := ⟨3, d_is_word, top 7⟩
def n_is_name : Ent := ⟨4, d_is_name, top 8⟩
def n_is_tuple_of : Ent := ⟨5, d_is_tuple_of, top 9⟩
def n_is_pair : Ent := ⟨6, d_is_pair, top 10⟩
def n_wrong_in : Ent := ⟨7, d_wrong_in, top 11⟩
def n_wrong_in_all : Ent := ⟨8, d_wrong_in_all, top 12⟩
def n_are_below : Ent := ⟨9, d_are_below, top 13⟩
def n_is_fraction : Ent := ⟨10, d_is_fraction, top 15⟩
def n_is_part : Ent := ⟨11, d_is_part, top 16⟩
def n_wrong_in_places : Ent := ⟨12, d_wrong_in_places, top 22⟩
def n_is_tie : Ent := ⟨13, d_is_tie, top 23⟩
def n_wrong_in_ties : Ent := ⟨14, d_wrong_in_ties, top 24⟩
def n_is_number : Ent := ⟨36, d_is_number, top 25⟩
def n_wrong_in_crowd : Ent := ⟨37, d_wrong_in_crowd, top 26⟩
def n_seatings_by : Ent := ⟨38, d_seatings_by, top 27⟩
def n_like_by : Ent := ⟨17, d_like_by, top 29⟩
def n_likes_of : Ent := ⟨39, d_likes_of, top 30⟩
def n_least_by : Ent := ⟨40, d_least_by, top 31⟩
def n_most_by : Ent := ⟨41, d_most_by, top 32⟩
def n_check_want : Ent := ⟨18, d_check_want, top 42⟩
def n_check_street : Ent := ⟨19, d_check_street, top 43⟩
def n_check_crowd : Ent := ⟨42, d_check_crowd, top 44⟩
def n_least_like : Ent := ⟨43, d_least_like, top 46⟩
def n_most_like : Ent := ⟨44, d_most_like, top 47⟩
def n_least_seating : Ent := ⟨45, d_least_seating, top 48⟩
def n_most_seating : Ent := ⟨46, d_most_seating, top 49⟩
def n__law_pool : Ent := ⟨22, d__law_pool, top 51⟩
def n__law_below : Ent := ⟨23, d__law_below, top 52⟩
def n__law_one : Ent := ⟨24, d__law_one, top 53⟩
def n__law_same : Ent := ⟨25, d__law_same, top 54⟩
def n__law_words : Ent := ⟨26, d__law_words, top 55⟩
def n__law_own : Ent := ⟨27, d__law_own_v1, top 56⟩
def n__law_name : Ent := ⟨28, d__law_name, top 57⟩
def n__law_street : Ent := ⟨29, d__law_street, top 58⟩
def n__law_made : Ent := ⟨30, d__law_made, top 59⟩
def n__law_seating : Ent := ⟨31, d__law_seating, top 60⟩
def n__law_crowd : Ent := ⟨47, d__law_crowd, top 61⟩
def n__law_seatings : Ent := ⟨48, d__law_seatings, top 62⟩
def n__law_ends : Ent := ⟨32, d__law_ends, top 63⟩
def n__law_like : Ent := ⟨33, d__law_like, top 64⟩
def n__law_right : Ent := ⟨34, d__law_right_v1, top 65⟩
def n_law : Ent := ⟨35, d_law_v1, top 66⟩
def es : List Ent := [n_is_whole, n_is_one_of, n_is_word, n_is_name, n_is_tuple_of, n_is_pair, n_wrong_in, n_wrong_in_all, n_are_below, n_is_fraction, n_is_part, n_wrong_in_places, n_is_tie, n_wrong_in_ties, n_is_number, n_wrong_in_crowd, n_seatings_by, n_like_by, n_likes_of, n_least_by, n_most_by, n_check_want, n_check_street, n_check_crowd, n_least_like, n_most_like, n_least_seating, n_most_seating, n__law_pool, n__law_below, n__law_one, n__law_same, n__law_words, n__law_own, n__law_name, n__law_street, n__law_made, n__law_seating, n__law_crowd, n__law_seatings, n__law_ends, n__law_like, n__law_right, n_law]
abbrev tb : Tbl := tblOf d_init es
theorem c_is_whole : EntOk tb gl true n_is_whole := ⟨fun _ => by kernel_rfl, AllP.all (P := KwOk (defArgs (top 5)) d_is_whole.ps) (l := d_is_whole.kw) True.intro⟩
theorem c_is_one_of : EntOk tb gl true n_is_one_of := ⟨fun _ => by kernel_rfl, AllP.all (P := KwOk (defArgs (top 6)) d_is_one_of.ps) (l := d_is_one_of.kw) True.intro⟩
theorem c_is_word : EntOk tb gl true n_is_word := ⟨fun _ => by kernel_rfl, AllP.all (P := KwOk (defArgs (top 7)) d_is_word.ps) (l := d_is_word.kw) True.intro⟩
theorem c_is_name : EntOk tb gl true n_is_name := ⟨fun _ => by kernel_rfl, AllP.all (P := KwOk (defArgs (top 8)) d_is_name.ps) (l := d_is_name.kw) True.intro⟩
theorem c_is_tuple_of : EntOk tb gl true n_is_tuple_of := ⟨fun _ => by kernel_rfl, AllP.all (P := KwOk (defArgs (top 9)) d_is_tuple_of.ps) (l := d_is_tuple_of.kw) True.intro⟩
theorem c_is_pair : EntOk tb gl true n_is_pair := ⟨fun _ => by kernel_rfl, AllP.all (P := KwOk (defArgs (top 10)) d_is_pair.ps) (l := d_is_pair.kw) True.intro⟩
theorem c_wrong_in : EntOk tb gl true n_wrong_in := ⟨fun _ => by kernel_rfl, AllP.all (P := KwOk (defArgs (top 11)) d_wrong_in.ps) (l := d_wrong_in.kw) True.intro⟩
theorem c_wrong_in_all : EntOk tb gl true n_wrong_in_all := ⟨fun _ => by kernel_rfl, AllP.all (P := KwOk (defArgs (top 12)) d_wrong_in_all.ps) (l := d_wrong_in_all.kw) True.intro⟩
theorem c_are_below : EntOk tb gl true n_are_below := ⟨fun _ => by kernel_rfl, AllP.all (P := KwOk (defArgs (top 13)) d_are_below.ps) (l := d_are_below.kw) True.intro⟩
theorem c_is_fraction : EntOk tb gl true n_is_fraction := ⟨fun _ => by kernel_rfl, AllP.all (P := KwOk (defArgs (top 15)) d_is_fraction.ps) (l := d_is_fraction.kw) True.intro⟩
theorem c_is_part : EntOk tb gl true n_is_part := ⟨fun _ => by kernel_rfl, AllP.all (P := KwOk (defArgs (top 16)) d_is_part.ps) (l := d_is_part.kw) True.intro⟩
theorem c_wrong_in_places : EntOk tb gl true n_wrong_in_places := ⟨fun _ => by kernel_rfl, AllP.all (P := KwOk (defArgs (top 22)) d_wrong_in_places.ps) (l := d_wrong_in_places.kw) True.intro⟩
theorem c_is_tie : EntOk tb gl true n_is_tie := ⟨fun _ => by kernel_rfl, AllP.all (P := KwOk (defArgs (top 23)) d_is_tie.ps) (l := d_is_tie.kw) True.intro⟩
theorem c_wrong_in_ties : EntOk tb gl true n_wrong_in_ties := ⟨fun _ => by kernel_rfl, AllP.all (P := KwOk (defArgs (top 24)) d_wrong_in_ties.ps) (l := d_wrong_in_ties.kw) True.intro⟩
theorem c_is_number : EntOk tb gl true n_is_number := ⟨fun _ => by kernel_rfl, AllP.all (P := KwOk (defArgs (top 25)) d_is_number.ps) (l := d_is_number.kw) True.intro⟩
theorem c_wrong_in_crowd : EntOk tb gl true n_wrong_in_crowd := ⟨fun _ => by kernel_rfl, AllP.all (P := KwOk (defArgs (top 26)) d_wrong_in_crowd.ps) (l := d_wrong_in_crowd.kw) True.intro⟩
theorem c_seatings_by : EntOk tb gl true n_seatings_by := ⟨fun _ => by kernel_rfl, AllP.all (P := KwOk (defArgs (top 27)) d_seatings_by.ps) (l := d_seatings_by.kw) True.intro⟩
theorem c_like_by : EntOk tb gl true n_like_by := ⟨fun _ => by kernel_rfl, AllP.all (P := KwOk (defArgs (top 29)) d_like_by.ps) (l := d_like_by.kw) True.intro⟩
theorem c_likes_of : EntOk tb gl true n_likes_of := ⟨fun _ => by kernel_rfl, AllP.all (P := KwOk (defArgs (top 30)) d_likes_of.ps) (l := d_likes_of.kw) True.intro⟩
theorem c_least_by : EntOk tb gl true n_least_by := ⟨fun _ => by kernel_rfl, AllP.all (P := KwOk (defArgs (top 31)) d_least_by.ps) (l := d_least_by.kw) True.intro⟩
theorem c_most_by : EntOk tb gl true n_most_by := ⟨fun _ => by kernel_rfl, AllP.all (P := KwOk (defArgs (top 32)) d_most_by.ps) (l := d_most_by.kw) True.intro⟩
theorem c_check_want : EntOk tb gl true n_check_want := ⟨fun _ => by kernel_rfl, AllP.all (P := KwOk (defArgs (top 42)) d_check_want.ps) (l := d_check_want.kw) True.intro⟩
theorem c_check_street : EntOk tb gl true n_check_street := ⟨fun _ => by kernel_rfl, AllP.all (P := KwOk (defArgs (top 43)) d_check_street.ps) (l := d_check_street.kw) True.intro⟩
theorem c_check_crowd : EntOk tb gl true n_check_crowd := ⟨fun _ => by kernel_rfl, AllP.all (P := KwOk (defArgs (top 44)) d_check_crowd.ps) (l := d_check_crowd.kw) True.intro⟩
theorem kw_least_like_0 : KwOk (defArgs (top 46)) d_least_like.ps ([(S [99, 114, 111, 119, 100]), (S [115, 116, 114, 101, 101, 116])], [1, 0]) := fun _ _ _ _ _ _ _ _ _ _ ws h => match ws, h with
  | [x0, x1], _ => rfl
theorem c_least_like : EntOk tb gl true n_least_like := ⟨fun _ => by kernel_rfl, AllP.all (P := KwOk (defArgs (top 46)) d_least_like.ps) (l := d_least_like.kw) ⟨kw_least_like_0, True.intro⟩⟩
theorem kw_most_like_0 : KwOk (defArgs (top 47)) d_most_like.ps ([(S [99, 114, 111, 119, 100]), (S [115, 116, 114, 101, 101, 116])], [1, 0]) := fun _ _ _ _ _ _ _ _ _ _ ws h => match ws, h with
  | [x0, x1], _ => rfl
theorem c_most_like : EntOk tb gl true n_most_like := ⟨fun _ => by kernel_rfl, AllP.all (P := KwOk (defArgs (top 47)) d_most_like.ps) (l := d_most_like.kw) ⟨kw_most_like_0, True.intro⟩⟩
theorem kw_least_seating_0 : KwOk (defArgs (top 48)) d_least_seating.ps ([(S [99, 114, 111, 119, 100]), (S [115, 116, 114, 101, 101, 116])], [1, 0]) := fun _ _ _ _ _ _ _ _ _ _ ws h => match ws, h with
  | [x0, x1], _ => rfl
theorem c_least_seating : EntOk tb gl true n_least_seating := ⟨fun _ => by kernel_rfl, AllP.all (P := KwOk (defArgs (top 48)) d_least_seating.ps) (l := d_least_seating.kw) ⟨kw_least_seating_0, True.intro⟩⟩
theorem kw_most_seating_0 : KwOk (defArgs (top 49)) d_most_seating.ps ([(S [99, 114, 111, 119, 100]), (S [115, 116, 114, 101, 101, 116])], [1, 0]) := fun _ _ _ _ _ _ _ _ _ _ ws h => match ws, h with
  | [x0, x1], _ => rfl
theorem c_most_seating : EntOk tb gl true n_most_seating := ⟨fun _ => by kernel_rfl, AllP.all (P := KwOk (defArgs (top 49)) d_most_seating.ps) (l := d_most_seating.kw) ⟨kw_most_seating_0, True.intro⟩⟩
theorem c__law_pool : EntOk tb gl true n__law_pool := ⟨fun _ => by kernel_rfl, AllP.all (P := KwOk (defArgs (top 51)) d__law_pool.ps) (l := d__law_pool.kw) True.intro⟩
theorem c__law_below : EntOk tb gl true n__law_below := ⟨fun _ => by kernel_rfl, AllP.all (P := KwOk (defArgs (top 52)) d__law_below.ps) (l := d__law_below.kw) True.intro⟩
theorem c__law_one : EntOk tb gl true n__law_one := ⟨fun _ => by kernel_rfl, AllP.all (P := KwOk (defArgs (top 53)) d__law_one.ps) (l := d__law_one.kw) True.intro⟩
theorem c__law_same : EntOk tb gl true n__law_same := ⟨fun _ => by kernel_rfl, AllP.all (P := KwOk (defArgs (top 54)) d__law_same.ps) (l := d__law_same.kw) True.intro⟩
theorem c__law_words : EntOk tb gl true n__law_words := ⟨fun _ => by kernel_rfl, AllP.all (P := KwOk (defArgs (top 55)) d__law_words.ps) (l := d__law_words.kw) True.intro⟩
theorem c__law_own : EntOk tb gl true n__law_own := ⟨fun _ => by kernel_rfl, AllP.all (P := KwOk (defArgs (top 56)) d__law_own_v1.ps) (l := d__law_own_v1.kw) True.intro⟩
theorem c__law_name : EntOk tb gl true n__law_name := ⟨fun _ => by kernel_rfl, AllP.all (P := KwOk (defArgs (top 57)) d__law_name.ps) (l := d__law_name.kw) True.intro⟩
theorem c__law_street : EntOk tb gl true n__law_street := ⟨fun _ => by kernel_rfl, AllP.all (P := KwOk (defArgs (top 58)) d__law_street.ps) (l := d__law_street.kw) True.intro⟩
theorem c__law_made : EntOk tb gl true n__law_made := ⟨fun _ => by kernel_rfl, AllP.all (P := KwOk (defArgs (top 59)) d__law_made.ps) (l := d__law_made.kw) True.intro⟩
theorem c__law_seating : EntOk tb gl true n__law_seating := ⟨fun _ => by kernel_rfl, AllP.all (P := KwOk (defArgs (top 60)) d__law_seating.ps) (l := d__law_seating.kw) True.intro⟩
theorem c__law_crowd : EntOk tb gl true n__law_crowd := ⟨fun _ => by kernel_rfl, AllP.all (P := KwOk (defArgs (top 61)) d__law_crowd.ps) (l := d__law_crowd.kw) True.intro⟩
theorem c__law_seatings : EntOk tb gl true n__law_seatings := ⟨fun _ => by kernel_rfl, AllP.all (P := KwOk (defArgs (top 62)) d__law_seatings.ps) (l := d__law_seatings.kw) True.intro⟩
theorem c__law_ends : EntOk tb gl true n__law_ends := ⟨fun _ => by kernel_rfl, AllP.all (P := KwOk (defArgs (top 63)) d__law_ends.ps) (l := d__law_ends.kw) True.intro⟩
theorem c__law_like : EntOk tb gl true n__law_like := ⟨fun _ => by kernel_rfl, AllP.all (P := KwOk (defArgs (top 64)) d__law_like.ps) (l := d__law_like.kw) True.intro⟩
theorem c__law_right : EntOk tb gl true n__law_right := ⟨fun _ => by kernel_rfl, AllP.all (P := KwOk (defArgs (top 65)) d__law_right_v1.ps) (l := d__law_right_v1.kw) True.intro⟩
theorem c_law : EntOk tb gl true n_law := ⟨fun _ => by kernel_rfl, AllP.all (P := KwOk (defArgs (top 66)) d_law_v1.ps) (l := d_law_v1.kw) True.intro⟩
theorem c_all : ∀ e ∈ es, EntOk tb gl true e := AllP.all ⟨c_is_whole, c_is_one_of, c_is_word, c_is_name, c_is_tuple_of, c_is_pair, c_wrong_in, c_wrong_in_all, c_are_below, c_is_fraction, c_is_part, c_wrong_in_places, c_is_tie, c_wrong_in_ties, c_is_number, c_wrong_in_crowd, c_seatings_by, c_like_by, c_likes_of, c_least_by, c_most_by, c_check_want, c_check_street, c_check_crowd, c_least_like, c_most_like, c_least_seating, c_most_seating, c__law_pool, c__law_below, c__law_one, c__law_same, c__law_words, c__law_own, c__law_name, c__law_street, c__law_made, c__law_seating, c__law_crowd, c__law_seatings, c__law_ends, c__law_like, c__law_right, c_law, True.intro⟩
theorem c_init : ∀ lv, initB tb gl true d_init ist lv = true := fun _ => by kernel_rfl
def tf : List He.Defn := [((S [119, 114, 111, 110, 103, 95, 105, 110, 95, 97, 108, 108]), none), ((S [119, 114, 111, 110, 103, 95, 105, 110, 95, 112, 108, 97, 99, 101, 115]), none), ((S [119, 114, 111, 110, 103, 95, 105, 110, 95, 116, 105, 101, 115]), none)]
theorem tf_all : ∀ e ∈ es, e.d.lam = true → (e.d.nm, none) ∈ tf := by
  have h : (es.all fun e => !e.d.lam || tf.contains (e.d.nm, none)) = true := by kernel_rfl
  intro e he hl
  have := List.all_eq_true.mp h e he
  rw [hl] at this
  exact List.contains_iff_mem.mp (by simpa using this)
abbrev R : PySem.W.OpenRow := PySem.W.OpenLaw.row PySem.Challenge.rw_ownkinds_k51_whole_least_and_most_like_t
abbrev hk : PySem.W.Hook := He.hookX 6 (faOf es) (fnOfE es d_init ist) [] tf (exB tb gl tf)
def ob (s : PySem.W.SharedT) : He.AlX := He.obsX 6 (faOf es) (fnOfE es d_init ist) [] tf (exB tb gl tf) (HandSHeadRun.getT s)
theorem ob_eq (s : PySem.W.SharedT) : ob s = hk.obs s.abs := He.obsX_eq (HandSHeadRun.getT_eq s)
def loose : List PySem.Str := (["__name__", "LETTERS", "MOST_LETTERS", "WORDS", "is_whole", "is_one_of", "is_word", "is_name", "is_tuple_of", "is_pair", "wrong_in", "wrong_in_all", "are_below", "is_fraction", "is_part", "LEAST_PLACES", "MOST_PLACES", "KINDS", "FREE", "wrong_in_places", "is_tie", "wrong_in_ties", "is_number", "wrong_in_crowd", "seatings_by", "like_by", "likes_of", "least_by", "most_by", "KindError"] : List PySem.Str) ++ (["InvalidFraction", "NotAStreet", "InvalidPlaces", "InvalidTies", "InvalidCrowd", "Street", "check_want", "check_street", "check_crowd", "least_like", "most_like", "least_seating", "most_seating", "_law_pool", "_law_below", "_law_one", "_law_same", "_law_words", "_law_own", "_law_name", "_law_street", "_law_made", "_law_seating", "_law_crowd", "_law_seatings", "_law_ends", "_law_like", "_law_right"] : List PySem.Str)
abbrev qv : Program := PySem.W.view R.prog [0, 66]
theorem run (w : World) : HandSHeadRun.RunEqI R qv hk ob 20000 loose w := by
  unfold HandSHeadRun.RunEqI
  kernel_rfl
end GL
set_option maxHeartbeats 0
namespace GL
open PySem PySem.Spec PyProof.Rows L2 PL
-- needs P12
theorem tB : TB tb := ⟨rfl, rfl, rfl, rfl, rfl, rfl, rfl, rfl, rfl, rfl, rfl, rfl, rfl, rfl, rfl, rfl, rfl⟩
theorem tC : TC tb := ⟨tB, rfl, rfl, rfl, rfl, rfl⟩
theorem tD : TD tb := ⟨tC, rfl, rfl, rfl, rfl, rfl, own_ok1 rfl, rfl, rfl, rfl, rfl, rfl, rfl⟩
theorem tM : TM tb := ⟨tD, rfl, rfl, rfl, rfl, rfl, rfl, rfl, rfl, rfl⟩
theorem plain (ns : List Int) : callN tb 9 35 none [scrV (ns.map PyData.int)] = some (.bool true, []) := laps_gen (q := 3) (by decide) rfl (f := 35) rfl rfl rfl rfl rfl rfl rfl 7 (fun p hp => right1_at tM rfl 0 hp) ns
end GL
open PySem PySem.W PyProof.Rows
theorem PySem.Challenge.cw_ownkinds_k51_whole_least_and_most_like_t_holds : PySem.Challenge.rw_ownkinds_k51_whole_least_and_most_like_t.Holds := by
  w_on; o_law
  refine HandSHeadRun.head_imp (r := GL.R) (q := GL.qv) (H := GL.hk) (ob := GL.ob) (M := 20000) (loose := GL.loose) (d := HandSHeadRun.topDef GL.R.prog 66) (kwd := []) GL.ob_eq GL.run
    (by kernel_rfl) (by kernel_rfl) (by kernel_rfl) (by rfl) (by first | assumption | decide +kernel) (by decide +kernel) ⟨rfl, rfl, rfl, rfl, rfl, by decide +kernel⟩ ?hw ?hc
  case hw => w_witness2
  case hc =>
    refine LamX.walk_ofTsE (l := PySem.Challenge.rw_ownkinds_k51_whole_least_and_most_like_t) (n := 63) (k := PL.lvl 9) (x := "script") (CX := fun _ => L2.CX0) rfl (by decide) (by kernel_rfl) ⟨rfl, by decide, by decide⟩ ?F (fun _ _ _ _ _ z => z)
    intro w mg fa h Y G hmg0
    obtain ⟨K, KX, c⟩ := Y
    have hmg : mg ("law" : PySem.Str) = some (.ref fa) := by
      have e : (HandSHeadRun.topDef GL.R.prog 66).name = ("law" : PySem.Str) := by kernel_rfl
      rw [← e]
      exact hmg0
    exact ⟨K, KX, PL.law_at (n := 63) (N := 9) (L := 35) (eL := GL.n_law) KX G hmg c GL.c_all GL.tf_all GL.c_init (List.mem_of_getElem? (i := 43) rfl) rfl rfl rfl rfl rfl fun ns _ _ => ⟨_, GL.plain ns⟩⟩
