import PyProof.Rows.All
import HandS.ForMost
import HandS.TupSets
import HandS.Strs
import HandS.TupMul
import KE.DatumOrd
import HandS.Deep
import KE.DataCmp
import KE.SortData
import HandS.TupAny
import HandS.Style
import HandS.Dict
import HandS.Iter
import HandS.Text
import HandS.IsInst
import HandS.StrMore
import HandS.SetFor
import HandS.SetIn
import KE.KDictWalk
import KE.KDictSum
import HandS.CallLocal
import PyProof.SeqIndex
import HandS.RevRange
import HandS.Conv
import HandS.SortKw
import HandS.NoneIn
import KE.KDictDisplayH
import HandS.Defaults
import HandS.EndBits
import HandS.Head0
import HandS.Head1
import HandS.Head2
import HandS.HeadEnd
import HandS.HeadHook1
import HandS.HeadHook2
import HandS.Ends
import KE.KStateDown
import HandS.Words
import HandS.WordsExc
import PySem.Challenge.RW_backforth_k94_truth_by_tables
set_option Elab.async false
set_option linter.all false
set_option autoImplicit false
/-! MiniPy: an evaluator over plain values for the part of Python that the program uses. -/
namespace MP
open PySem (Str)

/-- a value, written out: tuples by content; lists, dicts, sets that nobody changes any more by content; ref n: the n-th shared object; fn f: a def -/
inductive PV where
  | non | bl (b : Bool) | int (i : Int) | str (s : Str)
  | tup (xs : List PV) | lst (xs : List PV) | dct (kvs : List (PV × PV)) | pst (xs : List PV)
  | ref (n : Nat) | fn (f : Nat)

def b2i (b : Bool) : Int := if b then 1 else 0

/-! ### data: equality, order -/
mutual
def PV.dat : PV → Bool
  | .non => true | .bl _ => true | .int _ => true | .str _ => true
  | .tup xs => datAll xs | .lst xs => datAll xs
  | .dct _ => false | .pst _ => false | .ref _ => false | .fn _ => false
def datAll : List PV → Bool
  | [] => true
  | x :: xs => x.dat && datAll xs
end
mutual
def PV.dep : PV → Nat
  | .tup xs => depAll xs + 1 | .lst xs => depAll xs + 1
  | .non => 0 | .bl _ => 0 | .int _ => 0 | .str _ => 0 | .dct _ => 0 | .pst _ => 0 | .ref _ => 0 | .fn _ => 0
def depAll : List PV → Nat
  | [] => 0
  | x :: xs => max x.dep (depAll xs)
end
mutual
/-- no list, dict or set within -/
def PV.lf : PV → Bool
  | .tup xs => lfAll xs
  | .lst _ => false | .dct _ => false | .pst _ => false
  | .non => true | .bl _ => true | .int _ => true | .str _ => true | .ref _ => true | .fn _ => true
def lfAll : List PV → Bool
  | [] => true
  | x :: xs => x.lf && lfAll xs
end
mutual
/-- every shared object named within stands below n -/
def PV.rb (n : Nat) : PV → Bool
  | .tup xs => rbAll n xs | .lst xs => rbAll n xs | .pst xs => rbAll n xs
  | .dct kvs => rbKv n kvs
  | .ref m => decide (m < n)
  | .non => true | .bl _ => true | .int _ => true | .str _ => true | .fn _ => true
def rbAll (n : Nat) : List PV → Bool
  | [] => true
  | x :: xs => x.rb n && rbAll n xs
def rbKv (n : Nat) : List (PV × PV) → Bool
  | [] => true
  | (k, v) :: r => k.rb n && v.rb n && rbKv n r
end
mutual
/-- a == b -/
def eqP : PV → PV → Bool
  | .non, y => match y with | .non => true | _ => false
  | .bl a, y => match y with | .bl b => a == b | .int j => b2i a == j | _ => false
  | .int i, y => match y with | .bl b => i == b2i b | .int j => i == j | _ => false
  | .str x, y => match y with | .str z => x == z | _ => false
  | .tup xs, y => match y with | .tup ys => eqAll xs ys | _ => false
  | .lst xs, y => match y with | .lst ys => eqAll xs ys | _ => false
  | .dct _, _ => false | .pst _, _ => false | .ref _, _ => false | .fn _, _ => false
def eqAll : List PV → List PV → Bool
  | [], ys => match ys with | [] => true | _ :: _ => false
  | x :: xs, ys => match ys with | [] => false | y :: ys => eqP x y && eqAll xs ys
end
mutual
/-- of one kind, place by place -/
def alk : PV → PV → Bool
  | .non, y => match y with | .non => true | _ => false
  | .bl _, y => match y with | .bl _ => true | _ => false
  | .int _, y => match y with | .int _ => true | _ => false
  | .str _, y => match y with | .str _ => true | _ => false
  | .tup xs, y => match y with | .tup ys => alkAll xs ys | _ => false
  | .lst xs, y => match y with | .lst ys => alkAll xs ys | _ => false
  | .dct _, _ => false | .pst _, _ => false | .ref _, _ => false | .fn _, _ => false
def alkAll : List PV → List PV → Bool
  | [], _ => true
  | x :: xs, ys => match ys with | [] => true | y :: ys => alk x y && alkAll xs ys
end
mutual
/-- a < b, of alike data -/
def ltP : PV → PV → Bool
  | .bl a, y => match y with | .bl b => decide (b2i a < b2i b) | _ => false
  | .int i, y => match y with | .int j => decide (i < j) | _ => false
  | .str x, y => match y with | .str z => decide (x.cps.toList < z.cps.toList) | _ => false
  | .tup xs, y => match y with | .tup ys => ltAll xs ys | _ => false
  | .lst xs, y => match y with | .lst ys => ltAll xs ys | _ => false
  | .non, _ => false | .dct _, _ => false | .pst _, _ => false | .ref _, _ => false | .fn _, _ => false
def ltAll : List PV → List PV → Bool
  | [], ys => match ys with | [] => false | _ :: _ => true
  | x :: xs, ys => match ys with | [] => false | y :: ys => if eqP x y = true then ltAll xs ys else ltP x y
end

/-! ### the text -/
inductive Bop where
  | add | sub | mul | fdiv | mod | pow | shl | shr | band
  deriving DecidableEq
inductive Cop where
  | eq | ne | lt | le | gt | ge | isin | nin | is | isnt
  deriving DecidableEq
inductive Ty where
  | int | bool | str | tuple | list | dict
  deriving DecidableEq
inductive Bfn where
  | len | int | sorted | set | tuple | list | sum | max | min | all | any | abs | str
  deriving DecidableEq
inductive Mth where
  | index | get
  deriving DecidableEq
/-- a target: a name's slot, or a tuple of targets -/
inductive Tg where
  | nm (i : Nat) | tp (ts : Tg) | nil | cons (t ts : Tg)
  deriving DecidableEq
/-- what a for walks: a value, or range(..), reversed(range(..)) of arguments -/
inductive Ik where
  | val | rng | rrng
  deriving DecidableEq
inductive ME where
  | var (i : Nat) | glb (g : Nat) | fnv (f : Nat)
  | non | bl (b : Bool) | int (i : Int) | str (s : Str)
  | nil | cons (e es : ME)
  | tup (es : ME) | lst (es : ME) | edct | dsp (k v : ME)
  | bin (op : Bop) (a b : ME) | neg (a : ME) | not (a : ME) | and (a b : ME) | or (a b : ME)
  | cmp (op : Cop) (a b : ME) | chn (op op' : Cop) (a b c : ME) | ife (c a b : ME)
  | call (f : Nat) (es : ME) | bcl (f : Bfn) (es : ME) | isi (a : ME) (t : Ty) | mth (m : Mth) (o es : ME)
  | idx (a i : ME) | slc (a lo hi : ME) | rev (a : ME)
  | lc (elt : ME) (t : Tg) (k : Ik) (it c : ME) | lc2 (elt : ME) (t : Tg) (k : Ik) (it c : ME) (t1 : Tg) (k1 : Ik) (it1 c1 : ME)
  | hp (e : ME)
  | rngx (tp : Bool) (es : ME) | mxd (a d : ME) | callv (i : Nat) (es : ME)
  deriving DecidableEq
inductive MS where
  | nil | cons (s r : MS)
  | asg (t : Tg) (e : ME) | aug (i : Nat) (op : Bop) (e : ME)
  | seti (o i e : ME) | app (i : Nat) (e : ME) | ext (i : Nat) (e : ME) | pop (t i : Nat) (e : ME)
  | popa (t i : Nat) (e : ME) | apx (o e : ME) | sda (i : Nat) (k d e : ME) | fors (t : Tg) (it : ME) (b : MS) | rse | mov (i j : Nat)
  | ife (c : ME) (a b : MS) | whl (c : ME) (b : MS) | for_ (t : Tg) (k : Ik) (it : ME) (b : MS)
  | ret (e : ME) | retn | brk | cnt | pas | exp (e : ME)
  deriving DecidableEq

/-! ### operations on values -/
abbrev LINE : Nat := PySem.sizeLine
abbrev Hs := List PV
/-- a result: own (a new list, dict or set that nothing else holds), or a value -/
abbrev Rv := Bool × PV
abbrev Env := List (Option PV)
abbrev FEnv := List (Option Rv)

def big (i : Int) : Bool := decide (-(2 ^ 64) < i ∧ i < 2 ^ 64)
def okEq (a b : PV) : Bool := a.dat && b.dat && decide (min a.dep b.dep ≤ 60)
def okLt (a b : PV) : Bool := alk a b && a.dat && b.dat && decide (min a.dep b.dep ≤ 60) && !eqP a .non

instance (xs : List PV) : Decidable (xs ≠ []) := match xs with
  | [] => isFalse fun h => h rfl
  | _ :: _ => isTrue fun h => nomatch h
def binP : Bop → PV → PV → Option Rv
  | .add, .int i, .int j => some (false, .int (i + j))
  | .add, .str x, .str y => if x.length + y.length ≤ LINE then some (false, .str (x ++ y)) else none
  | .add, .tup xs, .tup ys => if xs.length + ys.length ≤ LINE then some (false, .tup (xs ++ ys)) else none
  | .add, .lst xs, .lst ys => if xs.length + ys.length ≤ LINE then some (true, .lst (xs ++ ys)) else none
  | .sub, .int i, .int j => some (false, .int (i - j))
  | .mul, .int i, .int j => if big i || big j then some (false, .int (i * j)) else none
  | .mul, .lst xs, .int k => if xs.length * k.toNat ≤ LINE ∧ -(2 ^ 63) ≤ k ∧ k < 2 ^ 63 then some (true, .lst (List.replicate k.toNat xs).flatten) else none
  | .mul, .tup xs, .int k => if xs ≠ [] ∧ 1 ≤ k ∧ k ≤ 1000 ∧ xs.length ≤ 1000 then some (false, .tup (List.replicate k.toNat xs).flatten) else none
  | .fdiv, .int i, .int j => if j ≠ 0 ∧ j.natAbs < 1073741824 then some (false, .int (i.fdiv j)) else none
  | .mod, .int i, .int j => if j ≠ 0 then some (false, .int (i.fmod j)) else none
  | .pow, .int i, .int j => if 0 ≤ j ∧ j ≤ 1000000 ∧ i.natAbs < 2 ^ 64 then some (false, .int (i ^ j.toNat)) else none
  | .shl, .int i, .int j => if 0 ≤ j ∧ j ≤ 1000000 ∧ i.natAbs < 2 ^ 64 then some (false, .int (i * 2 ^ j.toNat)) else none
  | .shr, .int i, .int j => if 0 ≤ j then some (false, .int (i / 2 ^ j.toNat)) else none
  | .band, .int i, .int j => some (false, .int (PySem.Builtin.bitAnd i j))
  | _, _, _ => none

/-- one sign -/
def chr1 (c : Nat) : PV := .str ⟨#[c]⟩
def strIn (x y : Str) : Bool := !(PySem.Builtin.Str.occurrences y x 0 y.length 1).isEmpty
def memP (x : PV) (xs : List PV) : Bool := xs.any fun y => eqP y x
def okMem (x : PV) (xs : List PV) : Bool := x.dat && datAll xs && decide (min x.dep (depAll xs) ≤ 60)
def keysP (kvs : List (PV × PV)) : List PV := kvs.map (·.1)
/-- keys: ints and texts, or tuples of these; all of one dict are of one kind -/
def isKey : PV → Bool
  | .int _ => true | .str _ => true | _ => false
def isTKey : PV → Bool
  | .tup xs => xs.all isKey | _ => false
def okKey (k : PV) (kvs : List (PV × PV)) : Bool := (isKey k && (keysP kvs).all isKey) || (isTKey k && (keysP kvs).all isTKey)
def inP (x y : PV) : Option Bool := match y with
  | .lst ys => if okMem x ys then some (memP x ys) else none
  | .tup ys => if okMem x ys then some (memP x ys) else none
  | .dct kvs => if okKey x kvs then some (memP x (keysP kvs)) else none
  | .str z => (match x with | .str w => some (strIn w z) | _ => none)
  | _ => none
def isNon : PV → Bool
  | .non => true | _ => false
def isP (x y : PV) : Option Bool := match y with
  | .non => some (isNon x)
  | .bl b => (match x with | .bl c => some (c == b) | _ => none)
  | _ => none
def cmpP : Cop → PV → PV → Option Bool
  | .eq, x, y => if okEq x y then some (eqP x y) else none
  | .ne, x, y => if okEq x y then some (!eqP x y) else none
  | .lt, x, y => if okLt x y then some (ltP x y) else none
  | .gt, x, y => if okLt x y then some (ltP y x) else none
  | .le, x, y => if okLt x y then some (!ltP y x) else none
  | .ge, x, y => if okLt x y then some (!ltP x y) else none
  | .isin, x, y => inP x y
  | .nin, x, y => (inP x y).map not
  | .is, x, y => isP x y
  | .isnt, x, y => (isP x y).map not

def atP {α : Type} (xs : List α) (i : Int) : Option α :=
  if 0 ≤ i then xs[i.toNat]? else if -(xs.length : Int) ≤ i then xs[(i + xs.length).toNat]? else none
def getKv (k : PV) : List (PV × PV) → Option PV
  | [] => none
  | (k', v) :: r => if eqP k' k = true then some v else getKv k r
def setKv (k v : PV) : List (PV × PV) → List (PV × PV)
  | [] => [(k, v)]
  | (k', v') :: r => if eqP k' k = true then (k', v) :: r else (k', v') :: setKv k v r
def idxP (a i : PV) : Option PV := match a with
  | .tup xs => (match i with | .int i => atP xs i | _ => none)
  | .lst xs => (match i with | .int i => atP xs i | _ => none)
  | .str z => (match i with | .int i => if z.length ≤ LINE then (atP z.cps.toList i).map chr1 else none | _ => none)
  | .dct kvs => if okKey i kvs then getKv i kvs else none
  | _ => none
def clipI (n d : Nat) : Option Int → Nat
  | none => d
  | some i => if i < 0 then (i + (n : Int)).toNat else min i.toNat n
def cutL {α : Type} (xs : List α) (lo hi : Option Int) : List α :=
  (xs.drop (clipI xs.length 0 lo)).take (clipI xs.length xs.length hi - clipI xs.length 0 lo)
def slcP (a : PV) (lo hi : Option Int) : Option Rv := match a with
  | .tup xs => some (false, .tup (cutL xs lo hi))
  | .lst xs => some (true, .lst (cutL xs lo hi))
  | .str z => if z.length ≤ LINE then some (false, .str ⟨(cutL z.cps.toList lo hi).toArray⟩) else none
  | _ => none
def revP (a : PV) : Option Rv := match a with
  | .tup xs => some (false, .tup xs.reverse)
  | .lst xs => some (true, .lst xs.reverse)
  | _ => none

def intsP : List PV → Option (List Int)
  | [] => some []
  | .int i :: r => (intsP r).map (i :: ·)
  | _ :: _ => none
def boolsP : List PV → Option (List Bool)
  | [] => some []
  | .bl b :: r => (boolsP r).map (b :: ·)
  | _ :: _ => none
def seqP : PV → Option (List PV)
  | .tup xs => some xs | .lst xs => some xs | _ => none
def intKey : PV → Bool
  | .int _ => true
  | .tup xs => (intsP xs).isSome
  | _ => false
/-- what a for walks -/
def itemsP : PV → Option (List PV)
  | .tup xs => some xs | .lst xs => some xs
  | .str z => some (z.cps.toList.map chr1)
  | .dct kvs => if (keysP kvs).all intKey = true then some (keysP kvs) else none
  | _ => none
def dedup : List PV → List PV → List PV
  | acc, [] => acc
  | acc, x :: xs => if memP x acc = true then dedup acc xs else dedup (acc ++ [x]) xs
def leP (a b : PV) : Bool := !ltP b a
def notTup0 : PV → Bool
  | .tup [] => false | .non => false | _ => true
def isTup : PV → Bool
  | .tup _ => true | _ => false
def okSort (xs : List PV) : Bool :=
  (xs.all fun x => xs.all fun y => alk x y) && xs.all notTup0 && xs.all (fun x => decide (x.dep ≤ 60)) && decide (xs.length ≤ PySem.sizeLine)
/-- one item, or none: nothing is compared -/
def okSort1 (xs : List PV) : Bool := decide (xs.length ≤ 1) && xs.all (fun x => x.dat && decide (x.dep ≤ 60) && !eqP x .non)
def sortP (xs : List PV) : Option (List PV) := if okSort xs then some (xs.mergeSort leP) else if okSort1 xs then some xs else none
/-- tuples of ints, small sets -/
def okSet (xs : List PV) : Bool := decide (xs.length < 64) && (xs.all fun x => match x with | .tup ys => (intsP ys).isSome | _ => false)
/-- a tuple of d ints, none negative or huge -/
def okRow (d : Nat) : PV → Bool
  | .tup ys => decide (ys.length = d) && (match intsP ys with | some is => is.all fun i => decide (0 ≤ i ∧ i < 2 ^ 30) | none => false)
  | _ => false
def widthP : List PV → Nat
  | .tup ys :: _ => ys.length
  | _ => 1
def okRows (xs : List PV) : Bool := decide (1 ≤ widthP xs) && xs.all (okRow (widthP xs))
/-- ints, not too many -/
def okInts (xs : List PV) : Bool := (intsP xs).isSome && decide (xs.length < 1000)
def setP (xs : List PV) : Option (Bool × PV) := if okSet xs = true then some (true, .pst (dedup [] xs)) else if okInts xs = true then some (true, .pst (dedup [] xs)) else none
def maxI : List Int → Option Int
  | [] => none
  | i :: r => some (r.foldl max i)
def minI : List Int → Option Int
  | [] => none
  | i :: r => some (r.foldl min i)
/-- max(x, default=d) of a tuple -/
def mxdP : PV → PV → Option PV
  | .tup xs, .int d => (intsP xs).map fun is => .int ((maxI is).getD d)
  | _, _ => none
def bclP : Bfn → List PV → Option Rv
  | .len, [x] => (match x with
    | .tup xs => some (false, .int xs.length) | .lst xs => some (false, .int xs.length)
    | .dct kvs => some (false, .int kvs.length)
    | .str z => if z.length ≤ LINE then some (false, .int z.length) else none
    | _ => none)
  | .int, [x] => (match x with | .int i => some (false, .int i) | .bl b => some (false, .int (b2i b)) | _ => none)
  | .abs, [x] => (match x with | .int i => some (false, .int (if i < 0 then -i else i)) | _ => none)
  | .str, [x] => (match x with | .int i => if i.natAbs.log2 < 1920 then some (false, .str (PySem.Str.ofString (toString i))) else none | _ => none)
  | .tuple, [x] => (match x with | .tup xs => some (false, .tup xs) | .lst xs => some (false, .tup xs) | _ => none)
  | .list, [x] => (match x with | .tup xs => some (true, .lst xs) | .lst xs => some (true, .lst xs) | _ => none)
  | .set, [x] => (match x with
    | .lst xs => setP xs
    | .tup xs => setP xs
    | _ => none)
  | .sorted, [x] => (match x with
    | .lst xs => (sortP xs).map fun ys => (true, .lst ys)
    | .tup xs => (sortP xs).map fun ys => (true, .lst ys)
    | .dct kvs => if ((keysP kvs).all intKey && okSort (keysP kvs)) = true then some (true, .lst ((keysP kvs).mergeSort leP)) else none
    | .pst xs => if okRows xs = true ∧ xs ≠ [] then some (true, .lst (xs.mergeSort leP)) else if okInts xs = true ∧ xs.length < 64 then some (true, .lst (xs.mergeSort leP)) else none
    | _ => none)
  | .sum, [x] => (match x with | .lst xs => (intsP xs).map fun is => (false, .int is.sum) | _ => none)
  | .all, [x] => (match x with | .lst xs => (boolsP xs).map fun bs => (false, .bl (bs.all id)) | _ => none)
  | .any, [x] => (match x with | .lst xs => (boolsP xs).map fun bs => (false, .bl (bs.any id)) | _ => none)
  | .max, [x] => (match x with | .lst xs => (intsP xs).bind fun is => (maxI is).map fun m => (false, .int m) | .tup xs => (intsP xs).bind fun is => (maxI is).map fun m => (false, .int m) | _ => none)
  | .min, [x] => (match x with | .lst xs => (intsP xs).bind fun is => (minI is).map fun m => (false, .int m) | .tup xs => (intsP xs).bind fun is => (minI is).map fun m => (false, .int m) | _ => none)
  | .max, [.int i, .int j] => some (false, .int (if j > i then j else i))
  | .min, [.int i, .int j] => some (false, .int (if j < i then j else i))
  | _, _ => none
def isiP : PV → Ty → Option Bool
  | .non, _ => some false
  | .bl _, t => some (match t with | .int => true | .bool => true | _ => false)
  | .int _, t => some (match t with | .int => true | _ => false)
  | .str _, t => some (match t with | .str => true | _ => false)
  | .tup _, t => some (match t with | .tuple => true | _ => false)
  | .lst _, t => some (match t with | .list => true | _ => false)
  | .dct _, t => some (match t with | .dict => true | _ => false)
  | _, _ => none
def findP (x : PV) : List PV → Option Nat
  | [] => none
  | y :: ys => if eqP y x = true then some 0 else (findP x ys).map (· + 1)
def mthP : Mth → PV → List PV → Option PV
  | .index, .lst xs, [y] => if okMem y xs then (findP y xs).map fun (n : Nat) => .int n else none
  | .index, .tup xs, [y] => if okMem y xs then (findP y xs).map fun (n : Nat) => .int n else none
  | .index, .str z, [.str y] => (PySem.Builtin.Str.occurrences z y 0 z.length 1).head?.map fun (n : Nat) => .int n
  | .get, .dct kvs, [k] => if okKey k kvs then some ((getKv k kvs).getD .non) else none
  | .get, .dct kvs, [k, d] => if okKey k kvs then some ((getKv k kvs).getD d) else none
  | _, _, _ => none
def okRng (i : Int) : Bool := decide (-(2 ^ 62) ≤ i ∧ i < 2 ^ 62)
def upTo (lo : Int) (n : Nat) : List PV := (List.range n).map fun (k : Nat) => .int (lo + k)
def rngP : List PV → Option (List PV)
  | [.int j] => if okRng j then some (upTo 0 j.toNat) else none
  | [.int i, .int j] => if okRng i && okRng j then some (upTo i (j - i).toNat) else none
  | _ => none

/-! ### stores -/
def Tg.slots : Tg → List Nat
  | .nm i => [i]
  | .tp ts => ts.slots
  | .nil => []
  | .cons t ts => t.slots ++ ts.slots
/-- the length of a tuple of targets -/
def Tg.len : Tg → Nat
  | .cons _ ts => ts.len + 1
  | _ => 0
mutual
/-- target = value -/
def setTg : Tg → PV → Env → Option Env
  | .nm i, v, env => some (env.set i (some v))
  | .tp ts, v, env => (seqP v).bind fun xs => setTgs ts xs env
  | .nil, _, _ => none
  | .cons _ _, _, _ => none
def setTgs : Tg → List PV → Env → Option Env
  | .nil, [], env => some env
  | .cons t ts, x :: xs, env => (setTg t x env).bind fun env1 => setTgs ts xs env1
  | _, _, _ => none
end
def wipeE (env : Env) : List Nat → Env
  | [] => env
  | v :: vs => (wipeE env vs).set v none

/-! ### expressions -/
abbrev CallT := Nat → List PV → Hs → Option (Rv × Hs)
/-- an operand's value, then f -/
def bnd {β : Type} (r : Option (Rv × Hs)) (f : PV → Hs → Option β) : Option β := r.bind fun p => f p.1.2 p.2
def bndL {β : Type} (r : Option (List PV × Hs)) (f : List PV → Hs → Option β) : Option β := r.bind fun p => f p.1 p.2
/-- one turn after another of a comprehension: f gives what the item at hand adds -/
def lcE (f : PV → Hs → Option (List PV × Hs)) : List PV → Hs → Option (List PV × Hs)
  | [], hp => some ([], hp)
  | x :: xs, hp => bndL (f x hp) fun ys hp1 => bndL (lcE f xs hp1) fun zs hp2 => some (ys ++ zs, hp2)
def asB : PV → Option Bool
  | .bl b => some b | _ => none
def asI : PV → Option Int
  | .int i => some i | _ => none
def ME.isNil : ME → Bool
  | .nil => true | _ => false
/-- a shared object: what it holds now -/
def drf (x : PV) (hp : Hs) : PV := match x with
  | .ref n => (hp[n]?).getD x
  | _ => x
/-- a shared list: what it holds now -/
def drfL (x : PV) (hp : Hs) : PV := match x with
  | .ref n => (match hp[n]? with | some (.lst xs) => .lst xs | _ => x)
  | _ => x
def drfA : List PV → Hs → List PV
  | [], _ => []
  | x :: r, hp => drfL x hp :: r
def drfC (op : Cop) (y : PV) (hp : Hs) : PV := match op with
  | .isin => drfL y hp | .nin => drfL y hp | _ => y
/-- a new list, tuple of a comprehension or display -/
def mk (own : Bool) (c : List PV → PV) (r : Option (List PV × Hs)) : Option (Rv × Hs) := bndL r fun vs hp => if vs.length ≤ LINE then some ((own, c vs), hp) else none
/-- what is walked: a value's items, a range, a range from behind -/
def wK (k : Ik) (rv : Option (Rv × Hs)) (rl : Option (List PV × Hs)) : Option (List PV × Hs) := match k with
  | .val => bnd rv fun x hp => (itemsP x).map fun xs => (xs, hp)
  | .rng => bndL rl fun vs hp => (rngP vs).map fun xs => (xs, hp)
  | .rrng => bndL rl fun vs hp => (rngP vs).map fun xs => (xs.reverse, hp)
/-- a test, then f -/
def bndB {β : Type} (r : Option (Rv × Hs)) (f : Bool → Hs → Option β) : Option β := bnd r fun x hp => (asB x).bind fun b => f b hp
def one (r : Option (Rv × Hs)) : Option (List PV × Hs) := bnd r fun y hp => some ([y], hp)
/-- what a list, dict, set holds has no list .. within; another value has none itself -/
def clean : Rv → Bool
  | (false, v) => v.lf
  | (true, .lst xs) => lfAll xs
  | (true, .pst xs) => lfAll xs
  | (true, .dct kvs) => kvs.all fun p => p.1.lf && p.2.lf
  | (true, _) => false
section
variable (gl : Nat → Option PV) (call : CallT)
mutual
def ev : ME → Env → Hs → Option (Rv × Hs)
  | .var i, env, hp => (env[i]?.bind id).map fun v => ((false, v), hp)
  | .glb g, _, hp => (gl g).map fun v => ((false, v), hp)
  | .fnv f, _, hp => some ((false, .fn f), hp)
  | .non, _, hp => some ((false, .non), hp)
  | .bl b, _, hp => some ((false, .bl b), hp)
  | .int i, _, hp => some ((false, .int i), hp)
  | .str s, _, hp => some ((false, .str s), hp)
  | .nil, _, _ => none
  | .cons _ _, _, _ => none
  | .tup es, env, hp => mk false .tup (evL es env hp)
  | .lst es, env, hp => mk true .lst (evL es env hp)
  | .edct, _, hp => some ((true, .dct []), hp)
  | .dsp k v, env, hp => bnd (ev k env hp) fun x hp1 => bnd (ev v env hp1) fun y hp2 => if (isKey x || isTKey x) = true then some ((true, .dct [(x, y)]), hp2) else none
  | .bin op a b, env, hp => bnd (ev a env hp) fun x hp1 => bnd (ev b env hp1) fun y hp2 => (binP op x y).map fun r => (r, hp2)
  | .neg a, env, hp => bnd (ev a env hp) fun x hp1 => (asI x).map fun i => ((false, .int (-i)), hp1)
  | .not a, env, hp => bndB (ev a env hp) fun b hp1 => some ((false, .bl !b), hp1)
  | .and a b, env, hp => bndB (ev a env hp) fun c hp1 => if c = true then bndB (ev b env hp1) fun d hp2 => some ((false, .bl d), hp2) else some ((false, .bl false), hp1)
  | .or a b, env, hp => bndB (ev a env hp) fun c hp1 => if c = true then some ((false, .bl true), hp1) else bndB (ev b env hp1) fun d hp2 => some ((false, .bl d), hp2)
  | .cmp op a b, env, hp => bnd (ev a env hp) fun x hp1 => bnd (ev b env hp1) fun y hp2 => (cmpP op x (drfC op y hp2)).map fun c => ((false, .bl c), hp2)
  | .chn op op' a b c, env, hp => bnd (ev a env hp) fun x hp1 => bnd (ev b env hp1) fun y hp2 => (cmpP op x y).bind fun k =>
      if k = true then bnd (ev c env hp2) fun z hp3 => (cmpP op' y z).map fun k' => ((false, .bl k'), hp3) else some ((false, .bl false), hp2)
  | .ife c a b, env, hp => bndB (ev c env hp) fun k hp1 => if k = true then ev a env hp1 else ev b env hp1
  | .call f es, env, hp => bndL (evL es env hp) fun vs hp1 => call f vs hp1
  | .callv i es, env, hp => (env[i]?.bind id).bind fun v => (match v with
    | .fn f => bndL (evL es env hp) fun vs hp1 => call f vs hp1
    | _ => none)
  | .bcl f es, env, hp => bndL (evL es env hp) fun vs hp1 => (bclP f (drfA vs hp1)).map fun r => (r, hp1)
  | .isi a t, env, hp => bnd (ev a env hp) fun x hp1 => (isiP x t).map fun b => ((false, .bl b), hp1)
  | .mth m o es, env, hp => bnd (ev o env hp) fun x hp1 => bndL (evL es env hp1) fun vs hp2 => (mthP m x vs).map fun v => ((false, v), hp2)
  | .idx a i, env, hp => bnd (ev a env hp) fun x hp1 => bnd (ev i env hp1) fun y hp2 => (idxP (drf x hp2) y).map fun v => ((false, v), hp2)
  | .slc a lo hi, env, hp => bnd (ev a env hp) fun x hp1 =>
      (if lo.isNil then some (none, hp1) else bnd (ev lo env hp1) fun l hp2 => (asI l).map fun i => (some i, hp2)).bind fun p =>
      (if hi.isNil then some (none, p.2) else bnd (ev hi env p.2) fun h hp3 => (asI h).map fun i => (some i, hp3)).bind fun q =>
      (slcP x p.1 q.1).map fun r => (r, q.2)
  | .rev a, env, hp => bnd (ev a env hp) fun x hp1 => (revP x).map fun r => (r, hp1)
  | .lc elt t k it c, env, hp => bndL (wK k (ev it env hp) (evL it env hp)) fun xs hp1 =>
      mk true .lst (lcE (fun x hp => (setTg t x (wipeE env t.slots)).bind fun env1 => bndB (ev c env1 hp) fun b hp1 =>
        if b = true then one (ev elt env1 hp1) else some ([], hp1)) xs hp1)
  | .lc2 elt t k it c t1 k1 it1 c1, env, hp => bndL (wK k (ev it env hp) (evL it env hp)) fun xs hp1 =>
      mk true .lst (lcE (fun x hp => (setTg t x (wipeE env (t.slots ++ t1.slots))).bind fun env1 => bndB (ev c env1 hp) fun b hp1 =>
        if b = true then bndL (wK k1 (ev it1 env1 hp1) (evL it1 env1 hp1)) fun xs1 hp2 =>
          lcE (fun x1 hp => (setTg t1 x1 (wipeE env1 t1.slots)).bind fun env2 => bndB (ev c1 env2 hp) fun b1 hp1 =>
            if b1 = true then one (ev elt env2 hp1) else some ([], hp1)) xs1 hp2
        else some ([], hp1)) xs hp1)
  | .mxd a d, env, hp => bnd (ev a env hp) fun x hp1 => bnd (ev d env hp1) fun y hp2 => (mxdP x y).map fun v => ((false, v), hp2)
  | .rngx tp es, env, hp => bndL (evL es env hp) fun vs hp1 => (rngP vs).bind fun xs => if xs.length ≤ LINE then some (if tp = true then (false, .tup xs) else (true, .lst xs), hp1) else none
  | .hp e, env, hp => (ev e env hp).bind fun p => if (p.1.1 && clean p.1) = true then some ((false, .ref p.2.length), p.2 ++ [p.1.2]) else none
def evL : ME → Env → Hs → Option (List PV × Hs)
  | .nil, _, hp => some ([], hp)
  | .cons e es, env, hp => bnd (ev e env hp) fun x hp1 => bndL (evL es env hp1) fun vs hp2 => some (x :: vs, hp2)
  | _, _, _ => none
end

/-! ### statements -/
inductive Flow where
  | nx | rt (r : Rv) | bk | ct
abbrev XR := Option (Flow × FEnv × Hs)
def unf (env : FEnv) : Env := env.map fun o => o.map (·.2)
def frz1 : Option Rv → Option Rv
  | some (_, v) => some (false, v)
  | none => none
/-- nothing is own any more -/
def frz (env : FEnv) : FEnv := env.map frz1
def frzAt (i : Nat) (env : FEnv) : FEnv := match env[i]? with
  | some o => env.set i (frz1 o)
  | none => env
/-- the slots that hold no object of one's own -/
def vis1 : Option Rv → Option PV
  | some (false, v) => some v
  | _ => none
def vis (env : FEnv) : Env := env.map vis1
/-- the slots that an expression reads -/
def ME.vars : ME → List Nat
  | .var i => [i]
  | .glb _ => [] | .fnv _ => [] | .non => [] | .bl _ => [] | .int _ => [] | .str _ => [] | .nil => [] | .edct => []
  | .cons a b => a.vars ++ b.vars | .dsp a b => a.vars ++ b.vars | .bin _ a b => a.vars ++ b.vars | .and a b => a.vars ++ b.vars | .or a b => a.vars ++ b.vars
  | .callv i a => i :: a.vars
  | .mxd a b => a.vars ++ b.vars | .cmp _ a b => a.vars ++ b.vars | .idx a b => a.vars ++ b.vars | .mth _ a b => a.vars ++ b.vars
  | .tup a => a.vars | .lst a => a.vars | .neg a => a.vars | .not a => a.vars | .call _ a => a.vars | .bcl _ a => a.vars | .isi a _ => a.vars | .rev a => a.vars | .hp a => a.vars | .rngx _ a => a.vars
  | .chn _ _ a b c => a.vars ++ (b.vars ++ c.vars) | .ife a b c => a.vars ++ (b.vars ++ c.vars) | .slc a b c => a.vars ++ (b.vars ++ c.vars)
  | .lc e _ _ it c => e.vars ++ (it.vars ++ c.vars)
  | .lc2 e _ _ it c _ _ it1 c1 => e.vars ++ (it.vars ++ (c.vars ++ (it1.vars ++ c1.vars)))
/-- the slots named are own no more -/
def frzV : List Nat → FEnv → FEnv
  | [], env => env
  | i :: is, env => frzV is (match env[i]? with
    | some (some _) => frzAt i env
    | _ => env)
/-- behind an expression whose value is r -/
def keep (r : Rv) (env : FEnv) : FEnv := if clean r = true then env else frz env
mutual
def setF : Tg → PV → FEnv → Option FEnv
  | .nm i, v, env => some (env.set i (some (false, v)))
  | .tp ts, v, env => (seqP v).bind fun xs => setFs ts xs env
  | .nil, _, _ => none
  | .cons _ _, _, _ => none
def setFs : Tg → List PV → FEnv → Option FEnv
  | .nil, [], env => some env
  | .cons t ts, x :: xs, env => (setF t x env).bind fun env1 => setFs ts xs env1
  | _, _, _ => none
end
/-- an object's new content behind o[i] = v, x.append(v), x.extend(v), x.pop(i) -/
def putP (o i v : PV) : Option PV := match o with
  | .dct kvs => if okKey i kvs && decide (kvs.length < LINE) then some (.dct (setKv i v kvs)) else none
  | .lst xs => (match i with
    | .int k => if 0 ≤ k then (if k.toNat < xs.length then some (.lst (xs.set k.toNat v)) else none) else none
    | _ => none)
  | _ => none
def appP (v o : PV) : Option PV := match o with
  | .lst xs => if xs.length < LINE then some (.lst (xs ++ [v])) else none
  | _ => none
def extP (v o : PV) : Option PV := match o with
  | .lst xs => (match v with
    | .lst ys => if xs.length + ys.length ≤ LINE then some (.lst (xs ++ ys)) else none
    | _ => none)
  | _ => none
def isRefL (x : PV) (hp : Hs) : Bool := match x with
  | .ref n => (match hp[n]? with | some (.lst _) => true | _ => false)
  | _ => false
/-- behind d.setdefault(k, w) -/
def sdKv (k w : PV) (kvs : List (PV × PV)) : List (PV × PV) := match getKv k kvs with
  | some _ => kvs
  | none => setKv k w kvs
def popP (i o : PV) : Option (PV × PV) := match o with
  | .lst xs => (match i with
    | .int k => if 0 ≤ k ∧ k < 2 ^ 63 then (xs[k.toNat]?).map fun v => (v, .lst (xs.eraseIdx k.toNat)) else none
    | _ => none)
  | _ => none
/-- the object of a slot is changed: an own one, or a shared one -/
def mutF (i : Nat) (f : PV → Option PV) (env : FEnv) (hp : Hs) : XR := match env[i]? with
  | some (some (true, v)) => (f v).map fun v' => (.nx, env.set i (some (true, v')), hp)
  | some (some (false, .ref n)) => (hp[n]?.bind f).map fun v' => (.nx, env, hp.set n v')
  | _ => none
/-- .. an own one; .. a shared one -/
def ownF (i : Nat) (f : PV → Option PV) (env : FEnv) (hp : Hs) : XR := match env[i]? with
  | some (some (true, v)) => (f v).map fun v' => (.nx, env.set i (some (true, v')), hp)
  | _ => none
def refF (x : PV) (f : PV → Option PV) (env : FEnv) (hp : Hs) : XR := match x with
  | .ref n => (hp[n]?.bind f).map fun v' => (.nx, env, hp.set n v')
  | _ => none
/-- behind a turn's body -/
def turnE (next : FEnv → Hs → XR) (r : Flow × FEnv × Hs) : XR := match r.1 with
  | .nx => next r.2.1 r.2.2
  | .ct => next r.2.1 r.2.2
  | .bk => some (.nx, r.2.1, r.2.2)
  | .rt v => some (.rt v, r.2.1, r.2.2)
def forE (tg : Tg) (body : FEnv → Hs → XR) : List PV → FEnv → Hs → XR
  | [], env, hp => some (.nx, env, hp)
  | x :: xs, env, hp => (setF tg x env).bind fun env1 => (body env1 hp).bind (turnE (forE tg body xs))
/-- .. over a shared list, as it stands at each turn -/
def forS (tg : Tg) (body : FEnv → Hs → XR) (n : Nat) : Nat → Nat → FEnv → Hs → XR
  | 0, _, _, _ => none
  | f + 1, i, env, hp => (match hp[n]? with
    | some (.lst xs) => (match xs[i]? with
      | some x => (setF tg x env).bind fun env1 => (body env1 hp).bind (turnE (forS tg body n f (i + 1)))
      | none => some (.nx, env, hp))
    | _ => none)
def whlE (c : FEnv → Hs → Option (Rv × Hs)) (body : FEnv → Hs → XR) : Nat → FEnv → Hs → XR
  | 0, _, _ => none
  | n + 1, env, hp => bndB (c env hp) fun b hp1 => if b = true then (body env hp1).bind (turnE (whlE c body n)) else some (.nx, env, hp1)
def ME.varOf : ME → Option Nat
  | .var i => some i | _ => none
def augP : Bop → PV → PV → Option PV
  | .add, .int i, .int j => some (.int (i + j))
  | .sub, .int i, .int j => some (.int (i - j))
  | _, _, _ => none
/-- behind one statement: the rest -/
def seqE (rest : FEnv → Hs → XR) (r : Flow × FEnv × Hs) : XR := match r.1 with
  | .nx => rest r.2.1 r.2.2
  | f => some (f, r.2.1, r.2.2)
def nxE (r : Option (FEnv × Hs)) : XR := r.map fun p => (.nx, p.1, p.2)
/-- an expression's value, and what is left own -/
def evK (e : ME) (env : FEnv) (hp : Hs) : Option (Rv × FEnv × Hs) := match e.varOf with
  | some i => (env[i]?.bind id).map fun r => ((false, r.2), frzAt i env, hp)
  | none => (ev gl call e (unf env) hp).map fun p => (p.1, keep p.1 env, p.2)
/-- what is walked, and what is left own -/
def evIK (k : Ik) (it : ME) (env : FEnv) (hp : Hs) : Option (List PV × FEnv × Hs) := match k with
  | .val => (evK gl call it env hp).bind fun p => (itemsP p.1.2).map fun xs => (xs, p.2.1, p.2.2)
  | .rng => bndL (evL gl call it (unf env) hp) fun vs hp1 => (rngP vs).map fun xs => (xs, env, hp1)
  | .rrng => bndL (evL gl call it (unf env) hp) fun vs hp1 => (rngP vs).map fun xs => (xs.reverse, env, hp1)
variable (wf : Nat)
def exec : MS → FEnv → Hs → XR
  | .nil, env, hp => some (.nx, env, hp)
  | .cons s r, env, hp => (exec s env hp).bind (seqE (exec r))
  | .asg t e, env, hp => (evK gl call e env hp).bind fun p => (match t with
    | .nm i => some (.nx, p.2.1.set i (some p.1), p.2.2)
    | t => (setF t p.1.2 p.2.1).map fun env2 => (.nx, env2, p.2.2))
  | .aug i op e, env, hp => (env[i]?.bind id).bind fun x => bnd (ev gl call e (unf env) hp) fun y hp1 => (augP op x.2 y).map fun v => (.nx, env.set i (some (false, v)), hp1)
  | .seti o i e, env, hp => bnd (ev gl call e (unf env) hp) fun v hp1 => (match o.varOf with
    | some n => bnd (ev gl call i (unf env) hp1) fun j hp2 => if (v.lf && j.lf) = true then mutF n (fun c => putP c j v) env hp2 else none
    | none => bnd (ev gl call o (unf env) hp1) fun x hp2 => bnd (ev gl call i (unf env) hp2) fun j hp3 => if (v.lf && j.lf) = true then refF x (fun c => putP c j v) env hp3 else none)
  | .app n e, env, hp => bnd (ev gl call e (unf env) hp) fun v hp1 => if v.lf = true then ownF n (appP v) env hp1
      else bnd (ev gl call e (vis (frzV e.vars env)) hp) fun v hp1 => ownF n (appP v) (frzV e.vars env) hp1
  | .ext n e, env, hp => (ev gl call e (unf env) hp).bind fun p => if (p.1.1 && clean p.1) = true then ownF n (extP p.1.2) env p.2 else none
  | .apx o e, env, hp => bnd (ev gl call o (unf env) hp) fun x hp1 => if isRefL x hp1 = true then bnd (ev gl call e (unf env) hp1) fun v hp2 => if v.lf = true then refF x (appP v) env hp2 else none else none
  | .sda n k d e, env, hp => bnd (ev gl call k (unf env) hp) fun j hp1 => bnd (ev gl call d (unf env) hp1) fun w hp2 => if (j.lf && w.lf) = true then (match env[n]? with
    | some (some (true, .dct kvs)) => if (isTKey j && (keysP kvs).all isTKey) && decide (kvs.length < LINE) then (if isRefL ((getKv j kvs).getD w) hp2 = true then
        bnd (ev gl call e (unf (env.set n (some (true, .dct (sdKv j w kvs))))) hp2) fun v hp3 => if v.lf = true then refF ((getKv j kvs).getD w) (appP v) (env.set n (some (true, .dct (sdKv j w kvs)))) hp3 else none else none) else none
    | _ => none) else none
  | .popa t n e, env, hp => bnd (ev gl call e (unf env) hp) fun j hp1 => (match env[n]? with
    | some (some (true, c)) => (popP j c).bind fun q => (match env[t]? with
      | some (some (false, .tup xs)) => if xs.length + 1 ≤ LINE then some (.nx, (env.set n (some (true, q.2))).set t (some (false, .tup (xs ++ [q.1]))), hp1) else none
      | _ => none)
    | _ => none)
  | .fors t it b, env, hp => (evK gl call it env hp).bind fun p => (match p.1.2 with
    | .ref n => forS t (exec b) n wf 0 p.2.1 p.2.2
    | _ => none)
  | .rse, _, _ => none
  | .mov i j, env, hp => (env[j]?.bind id).map fun r => (.nx, (if r.1 = true then env.set j none else env).set i (some r), hp)
  | .pop t n e, env, hp => bnd (ev gl call e (unf env) hp) fun j hp1 => (match env[n]? with
    | some (some (true, c)) => (popP j c).map fun q => (.nx, (env.set n (some (true, q.2))).set t (some (false, q.1)), hp1)
    | _ => none)
  | .ife c a b, env, hp => bndB (ev gl call c (unf env) hp) fun k hp1 => if k = true then exec a env hp1 else exec b env hp1
  | .whl c b, env, hp => whlE (fun env hp => ev gl call c (unf env) hp) (exec b) wf env hp
  | .for_ t k it b, env, hp => (evIK gl call k it env hp).bind fun p => forE t (exec b) p.1 p.2.1 p.2.2
  | .ret e, env, hp => (match e.varOf with
    | some i => (env[i]?.bind id).map fun r => (.rt r, env, hp)
    | none => (ev gl call e (unf env) hp).map fun p => (.rt p.1, env, p.2))
  | .retn, env, hp => some (.rt (false, .non), env, hp)
  | .brk, env, hp => some (.bk, env, hp)
  | .cnt, env, hp => some (.ct, env, hp)
  | .pas, env, hp => some (.nx, env, hp)
  | .exp e, env, hp => (evK gl call e env hp).map fun p => (.nx, p.2.1, p.2.2)
end

/-! ### defs -/
structure Fd where
  np : Nat
  ns : Nat
  body : MS
  dfl : List PV := []
structure Gl where
  fns : Nat → Option Fd
  cst : Nat → Option PV
def WF : Nat := 1000000
/-- what is made in a call and named by nothing behind it is forgotten -/
def trim (n : Nat) (r : Rv) (hp : Hs) : Rv × Hs :=
  if hp.length = n then (r, hp) else if (r.2.rb n && rbAll n (hp.take n)) = true then (r, hp.take n) else (r, hp)
def endF (n : Nat) (r : Flow × FEnv × Hs) : Option (Rv × Hs) := match r.1 with
  | .rt v => some (trim n v r.2.2)
  | .nx => some (trim n (false, .non) r.2.2)
  | _ => none
def startE (fd : Fd) (as : List PV) : FEnv := (as.map fun v => some (false, v)) ++ List.replicate (fd.ns - fd.np) none
def fillA (fd : Fd) (args : List PV) : List PV := args ++ fd.dfl.drop (fd.dfl.length - (fd.np - args.length))
def callF (G : Gl) : Nat → CallT
  | 0, _, _, _ => none
  | k + 1, f, args, hp => (G.fns f).bind fun fd =>
      if (fillA fd args).length = fd.np then (exec G.cst (callF G k) WF fd.body (startE fd (fillA fd args)) hp).bind (endF hp.length) else none
theorem t0 (gl call) : ev gl call (.bin .add (.int 3) (.int 4)) [] [] = some ((false, .int 7), []) := rfl
theorem t1 (gl call) : ev gl call (.lc (.bin .mul (.var 0) (.int 4)) (.nm 0) .rng (.cons (.int 3) .nil) (.bl true)) [none] [] = some ((true, .lst [.int 0, .int 4, .int 8]), []) := rfl
end MP
set_option maxRecDepth 100000
/-! MiniPy: what a plain value stands for in the abstract heap. -/
namespace MP
open PySem PySem.Spec PyProof.Rows L2

/-- a key of a dict whose keys are ints and texts -/
def keyOf : PV → Option Key
  | .int i => some (.inl i)
  | .str s => some (.inr s)
  | _ => none
def keysOf : List PV → Option (List Key)
  | [] => some []
  | x :: xs => (keyOf x).bind fun k => (keysOf xs).map (k :: ·)
def tkeyOf : PV → Option (List Key)
  | .tup xs => keysOf xs
  | _ => none
/-- a tuple of the written part -/
def KTup (K : PySem.W.Frag) (a : Addr) (xs : List V) : Prop :=
  ∃ (o : Obj) (its : Array Value) (n : Nat), K.lookup a = some o ∧ o.cls = .type "tuple" ∧ o.data = .seq its n ∧ its.size ≤ sizeLine ∧ Vals xs its.toList
/-- what never changes while the proof runs: the program, the world, the written part, the defs' places -/
structure Wd where
  P : Program
  w : World
  K : PySem.W.Frag
  fa : Nat → Option Addr

/-- a dict's object, known to the bit -/
def dctO (a : Addr) (ob : Obj) : HO := .ext fun h => h.get? a = some ob
/-- a dict's entry has the key x -/
inductive KeyR (W : Wd) (F : Hp) : PV → Int → Value → Prop
  | scal {x : PV} {k : Key} {u : Value} : keyOf x = some k → keyIs k u = true → KeyR W F x (keyH W.w k) u
  | tup {x : PV} {ks : List Key} {b : Addr} : tkeyOf x = some ks → (F b = some (.tup (ks.map kV)) ∨ KTup W.K b (ks.map kV)) → KeyR W F x (tupleKeyHash (mixKind W.P W.w) ks) (.ref b)
mutual
inductive Rep (W : Wd) (F : Hp) (ph : List Addr) : PV → V → Prop
  | non : Rep W F ph .non .non
  | bl (b : Bool) : Rep W F ph (.bl b) (.bl b)
  | int (i : Int) : Rep W F ph (.int i) (.int i)
  | str (s : Str) : PyData.strOk s = true → Rep W F ph (.str s) (.str s)
  | tup {a : Addr} {xs : List PV} {vs : List V} : F a = some (.tup vs) → RepA W F ph xs vs → Rep W F ph (.tup xs) (.ref a)
  | ktup {a : Addr} {xs : List PV} {vs : List V} : KTup W.K a vs → RepA W F ph xs vs → Rep W F ph (.tup xs) (.ref a)
  | obj {a : Addr} {v : PV} {o : HO} : F a = some o → ORep W F ph a v o → Rep W F ph v (.ref a)
  | ref {n : Nat} {a : Addr} : ph[n]? = some a → Rep W F ph (.ref n) (.ref a)
  | fn {f : Nat} {a : Addr} : W.fa f = some a → Rep W F ph (.fn f) (.ref a)
inductive RepA (W : Wd) (F : Hp) (ph : List Addr) : List PV → List V → Prop
  | nil : RepA W F ph [] []
  | cons {x : PV} {v : V} {xs : List PV} {vs : List V} : Rep W F ph x v → RepA W F ph xs vs → RepA W F ph (x :: xs) (v :: vs)
inductive RepD (W : Wd) (F : Hp) (ph : List Addr) : List (PV × PV) → List DictEntry → Prop
  | nil : RepD W F ph [] []
  | cons {x y : PV} {e : DictEntry} {v : V} {xs : List (PV × PV)} {es : List DictEntry} : KeyR W F x e.hash e.key → Rep W F ph y v → RelV v e.val → RepD W F ph xs es → RepD W F ph ((x, y) :: xs) (e :: es)
inductive ORep (W : Wd) (F : Hp) (ph : List Addr) : Addr → PV → HO → Prop
  | lst {a : Addr} {xs : List PV} {vs : List V} : RepA W F ph xs vs → ORep W F ph a (.lst xs) (.lst vs)
  | dct {a : Addr} {xs : List (PV × PV)} {ob : Obj} {es : Array DictEntry} {ep : Nat} : (a == sysModules) = false → ob.ExactDict → ob.data = .dict es ep → es.size ≤ sizeLine →
      (xs.map (·.1)).Pairwise (fun x y => eqP x y = false) → RepD W F ph xs es.toList → ORep W F ph a (.dct xs) (dctO a ob)
  | psI {a : Addr} {ns : List Int} {S : Int → Bool} {n : Nat} : (∀ i, S i = true ↔ i ∈ ns) → ns.Nodup → n = ns.length → ORep W F ph a (.pst (ns.map PV.int)) (SetO W.w a S n)
  | psT {a : Addr} {ns : List (List Int)} {L : List (Addr × List Int)} : (L.map (·.2)).Perm ns → ns.Nodup → (∀ p ∈ L, F p.1 = some (.tup (p.2.map V.int)) ∨ KTup W.K p.1 (p.2.map V.int)) →
      ORep W F ph a (.pst (ns.map fun r => .tup (r.map PV.int))) (SetTO W.P W.w a L)
end

section
variable {W : Wd} {F F' H H' : Hp} {ph ph' : List Addr}
theorem KeyR.mono (hF : ∀ a o, F a = some o → F' a = some o) {x : PV} {i : Int} {u : Value} (h : KeyR W F x i u) : KeyR W F' x i u := by
  cases h with
  | scal h1 h2 => exact .scal h1 h2
  | tup h1 h2 => exact .tup h1 (h2.imp (hF _ _) id)
mutual
theorem Rep.mono (hF : ∀ a o, F a = some o → F' a = some o) (hp : ∀ (n : Nat) (a : Addr), ph[n]? = some a → ph'[n]? = some a) : ∀ {v : PV} {x : V}, Rep W F ph v x → Rep W F' ph' v x
  | _, _, .non => .non
  | _, _, .bl b => .bl b
  | _, _, .int i => .int i
  | _, _, .str s h => .str s h
  | _, _, .tup h r => .tup (hF _ _ h) (RepA.mono hF hp r)
  | _, _, .ktup h r => .ktup h (RepA.mono hF hp r)
  | _, _, .obj h r => .obj (hF _ _ h) (ORep.mono hF hp r)
  | _, _, .ref h => .ref (hp _ _ h)
  | _, _, .fn h => .fn h
theorem RepA.mono (hF : ∀ a o, F a = some o → F' a = some o) (hp : ∀ (n : Nat) (a : Addr), ph[n]? = some a → ph'[n]? = some a) : ∀ {v : List PV} {x : List V}, RepA W F ph v x → RepA W F' ph' v x
  | _, _, .nil => .nil
  | _, _, .cons h r => .cons (Rep.mono hF hp h) (RepA.mono hF hp r)
theorem RepD.mono (hF : ∀ a o, F a = some o → F' a = some o) (hp : ∀ (n : Nat) (a : Addr), ph[n]? = some a → ph'[n]? = some a) : ∀ {v : List (PV × PV)} {x : List DictEntry}, RepD W F ph v x → RepD W F' ph' v x
  | _, _, .nil => .nil
  | _, _, .cons k h r t => .cons (k.mono hF) (Rep.mono hF hp h) r (RepD.mono hF hp t)
theorem ORep.mono (hF : ∀ a o, F a = some o → F' a = some o) (hp : ∀ (n : Nat) (a : Addr), ph[n]? = some a → ph'[n]? = some a) : ∀ {a : Addr} {v : PV} {x : HO}, ORep W F ph a v x → ORep W F' ph' a v x
  | _, _, _, .lst r => .lst (RepA.mono hF hp r)
  | _, _, _, .dct h1 h2 h3 h4 h5 r => .dct h1 h2 h3 h4 h5 (RepD.mono hF hp r)
  | _, _, _, .psI h1 h2 h3 => .psI h1 h2 h3
  | _, _, _, .psT h1 h2 h3 => .psT h1 h2 fun p hm => (h3 p hm).imp (hF _ _) id
end
/-! a value without lists leans on tuples alone -/
mutual
theorem Rep.tups (hF : ∀ a vs, F a = some (.tup vs) → F' a = some (.tup vs)) : ∀ {v : PV} {x : V}, v.lf = true → Rep W F ph v x → Rep W F' ph v x
  | _, _, _, .non => .non
  | _, _, _, .bl b => .bl b
  | _, _, _, .int i => .int i
  | _, _, _, .str s h => .str s h
  | _, _, l, .tup h r => .tup (hF _ _ h) (RepA.tups hF (by simpa [PV.lf] using l) r)
  | _, _, l, .ktup h r => .ktup h (RepA.tups hF (by simpa [PV.lf] using l) r)
  | _, _, l, .obj h r => by cases r <;> simp [PV.lf] at l
  | _, _, _, .ref h => .ref h
  | _, _, _, .fn h => .fn h
theorem RepA.tups (hF : ∀ a vs, F a = some (.tup vs) → F' a = some (.tup vs)) : ∀ {v : List PV} {x : List V}, lfAll v = true → RepA W F ph v x → RepA W F' ph v x
  | _, _, _, .nil => .nil
  | _, _, l, .cons h r => by
    simp only [lfAll, Bool.and_eq_true] at l
    exact .cons (Rep.tups hF l.1 h) (RepA.tups hF l.2 r)
end
theorem RepA.length : ∀ {xs : List PV} {vs : List V}, RepA W F ph xs vs → xs.length = vs.length
  | _, _, .nil => rfl
  | _, _, .cons _ r => congrArg Nat.succ (RepA.length r)
theorem RepD.length : ∀ {xs : List (PV × PV)} {vs : List DictEntry}, RepD W F ph xs vs → xs.length = vs.length
  | _, _, .nil => rfl
  | _, _, .cons _ _ _ r => congrArg Nat.succ (RepD.length r)
theorem RepA.get : ∀ {xs : List PV} {vs : List V} {i : Nat} {x : PV}, RepA W F ph xs vs → xs[i]? = some x → ∃ v, vs[i]? = some v ∧ Rep W F ph x v
  | _, _, _, _, .nil, h => by simp at h
  | _, _, 0, _, .cons r _, h => by simp at h; subst h; exact ⟨_, rfl, r⟩
  | _, _, i + 1, _, .cons _ t, h => by
    obtain ⟨v, h1, h2⟩ := RepA.get (i := i) t (by simpa using h)
    exact ⟨v, by simpa using h1, h2⟩
theorem RepA.append : ∀ {xs ys : List PV} {vs ws : List V}, RepA W F ph xs vs → RepA W F ph ys ws → RepA W F ph (xs ++ ys) (vs ++ ws)
  | _, _, _, _, .nil, s => s
  | _, _, _, _, .cons r t, s => .cons r (RepA.append t s)
theorem RepA.take : ∀ {xs : List PV} {vs : List V} (n : Nat), RepA W F ph xs vs → RepA W F ph (xs.take n) (vs.take n)
  | _, _, 0, _ => .nil
  | _, _, _ + 1, .nil => .nil
  | _, _, n + 1, .cons r t => .cons r (RepA.take n t)
theorem RepA.drop : ∀ {xs : List PV} {vs : List V} (n : Nat), RepA W F ph xs vs → RepA W F ph (xs.drop n) (vs.drop n)
  | _, _, 0, r => r
  | _, _, _ + 1, .nil => .nil
  | _, _, n + 1, .cons _ t => RepA.drop n t
theorem RepA.reverse {xs : List PV} {vs : List V} (r : RepA W F ph xs vs) : RepA W F ph xs.reverse vs.reverse := by
  induction xs generalizing vs with
  | nil => cases r; exact .nil
  | cons x xs ih =>
    cases r with
    | cons h t =>
      rw [List.reverse_cons, List.reverse_cons]
      exact (ih t).append (.cons h .nil)
theorem RepA.rep {xs : List PV} {vs : List V} (r : RepA W F ph xs vs) : ∀ n : Nat, RepA W F ph (List.replicate n xs).flatten (List.replicate n vs).flatten
  | 0 => .nil
  | n + 1 => by
    rw [List.replicate_succ, List.replicate_succ, List.flatten_cons, List.flatten_cons]
    exact r.append (r.rep n)
theorem RepA.set {x : PV} {v : V} (r : Rep W F ph x v) : ∀ {xs : List PV} {vs : List V} (i : Nat), RepA W F ph xs vs → RepA W F ph (xs.set i x) (vs.set i v)
  | _, _, _, .nil => .nil
  | _, _, 0, .cons _ t => .cons r t
  | _, _, i + 1, .cons q t => .cons q (RepA.set r i t)
theorem RepA.eraseIdx : ∀ {xs : List PV} {vs : List V} (i : Nat), RepA W F ph xs vs → RepA W F ph (xs.eraseIdx i) (vs.eraseIdx i)
  | _, _, _, .nil => .nil
  | _, _, 0, .cons _ t => t
  | _, _, i + 1, .cons q t => .cons q (RepA.eraseIdx i t)
theorem RepA.of_ints : ∀ (ns : List Int), RepA W F ph (ns.map PV.int) (ns.map V.int)
  | [] => .nil
  | n :: ns => .cons (.int n) (RepA.of_ints ns)
theorem RepA.ints : ∀ {xs : List PV} {vs : List V} {ns : List Int}, RepA W F ph xs vs → intsP xs = some ns → vs = ns.map V.int
  | _, _, ns, .nil, h => by
    have e : ns = [] := by simpa [intsP] using h.symm
    subst e; rfl
  | _, _, ns, .cons r t, h => by
    cases r with
    | int i =>
      simp only [intsP, Option.map_eq_some_iff] at h
      obtain ⟨ms, h1, rfl⟩ := h
      rw [RepA.ints t h1]; rfl
    | obj e q => cases q <;> simp [intsP] at h
    | _ => simp [intsP] at h
theorem RepA.bools : ∀ {xs : List PV} {vs : List V} {ns : List Bool}, RepA W F ph xs vs → boolsP xs = some ns → vs = ns.map V.bl
  | _, _, ns, .nil, h => by
    have e : ns = [] := by simpa [boolsP] using h.symm
    subst e; rfl
  | _, _, ns, .cons r t, h => by
    cases r with
    | bl i =>
      simp only [boolsP, Option.map_eq_some_iff] at h
      obtain ⟨ms, h1, rfl⟩ := h
      rw [RepA.bools t h1]; rfl
    | obj e q => cases q <;> simp [boolsP] at h
    | _ => simp [boolsP] at h
end

theorem ORep.no_tup {W : Wd} {F : Hp} {ph : List Addr} {a : Addr} {v : PV} {o : HO} (r : ORep W F ph a v o) (vs : List V) : o ≠ .tup vs := by
  intro h
  cases r with
  | lst _ => cases h
  | dct _ _ _ _ _ _ => exact nomatch (show HO.ext _ = HO.tup vs from h)
  | psI _ _ _ => exact nomatch (show HO.ext _ = HO.tup vs from h)
  | psT _ _ _ => exact nomatch (show HO.ext _ = HO.tup vs from h)
/-! ### states -/
/-- the shared objects and the frozen ones -/
structure RelH (W : Wd) (F : Hp) (ph : List Addr) (hp : Hs) (H : Hp) : Prop where
  sub : ∀ a o, F a = some o → Rd H a o
  len : ph.length = hp.length
  nd : ph.Nodup
  sh : ∀ (n : Nat) (a : Addr) (v : PV), ph[n]? = some a → hp[n]? = some v → F a = none ∧ ∃ o, H a = some o ∧ ORep W F ph a v o
  cl : ∀ (n : Nat) (v : PV), hp[n]? = some v → clean (true, v) = true
  td : ∀ (a : Addr) (vs : List V), F a = some (.tup vs) → ∃ ob : Obj, H a = some (.frz ob (.tup vs)) ∧ ob.dict = none
/-- what may have come about: more is frozen and shared, all of it new; what was tracked stands, but for the shared -/
structure Ext (F : Hp) (ph : List Addr) (H F' : Hp) (ph' : List Addr) (H' : Hp) : Prop where
  le : ∀ a o, F a = some o → F' a = some o
  new : ∀ a, F' a ≠ none → F a ≠ none ∨ H a = none
  pre : ∀ (n : Nat) (a : Addr), ph[n]? = some a → ph'[n]? = some a
  pnew : ∀ a ∈ ph', a ∈ ph ∨ H a = none
  pres : ∀ a o, H a = some o → a ∉ ph → H' a = some o
  dom : ∀ a, H a ≠ none → H' a ≠ none
structure RelE (W : Wd) (F : Hp) (ph : List Addr) (env : Env) (σ : L2.St) : Prop where
  len : env.length = σ.length
  at_ : ∀ (i : Nat) (v : PV), env[i]? = some (some v) → ∃ x, σ[i]? = some (some x) ∧ Rep W F ph v x
/-- a result; own: its object is new, tracked, neither frozen nor shared -/
def RRep (W : Wd) (F : Hp) (ph : List Addr) (H0 H : Hp) (r : Rv) (x : V) : Prop :=
  if r.1 = true then ∃ a o, x = .ref a ∧ F a = none ∧ a ∉ ph ∧ H0 a = none ∧ H a = some o ∧ ORep W F ph a r.2 o else Rep W F ph r.2 x
section
variable {W : Wd} {F F1 F2 H H1 H2 : Hp} {ph ph1 ph2 : List Addr} {hp : Hs}
theorem Ext.refl : Ext F ph H F ph H := ⟨fun _ _ h => h, fun _ h => .inl h, fun _ _ h => h, fun _ h => .inl h, fun _ _ h _ => h, fun _ h => h⟩
theorem Ext.trans (a : Ext F ph H F1 ph1 H1) (b : Ext F1 ph1 H1 F2 ph2 H2) : Ext F ph H F2 ph2 H2 where
  le := fun x o h => b.le x o (a.le x o h)
  new := fun x h => by
    rcases b.new x h with h | h
    · exact a.new x h
    · exact .inr (Classical.byContradiction fun q => a.dom x q h)
  pre := fun n x h => b.pre n x (a.pre n x h)
  pnew := fun x h => by
    rcases b.pnew x h with h | h
    · exact a.pnew x h
    · exact .inr (Classical.byContradiction fun q => a.dom x q h)
  pres := fun x o h hn => by
    refine b.pres x o (a.pres x o h hn) fun hm => ?_
    rcases a.pnew x hm with q | q
    · exact hn q
    · rw [h] at q; cases q
  dom := fun x h => b.dom x (a.dom x h)
theorem Rep.ext {v : PV} {x : V} (r : Rep W F ph v x) (e : Ext F ph H F1 ph1 H1) : Rep W F1 ph1 v x := r.mono e.le e.pre
theorem RepA.ext {v : List PV} {x : List V} (r : RepA W F ph v x) (e : Ext F ph H F1 ph1 H1) : RepA W F1 ph1 v x := r.mono e.le e.pre
theorem RelE.ext {env : Env} {σ : L2.St} (r : RelE W F ph env σ) (e : Ext F ph H F1 ph1 H1) : RelE W F1 ph1 env σ :=
  ⟨r.len, fun i v h => let ⟨x, h1, h2⟩ := r.at_ i v h; ⟨x, h1, h2.ext e⟩⟩
theorem RelH.tup {a : Addr} {vs : List V} (h : RelH W F ph hp H) (e : F a = some (.tup vs)) (K : PySem.W.Frag) : SqT K H a vs := .inl (h.sub _ _ e)
theorem KTup.sq {K : PySem.W.Frag} {a : Addr} {vs : List V} (h : KTup K a vs) (H : Hp) : SqT K H a vs := .inr h
/-- a tuple, to be read -/
theorem Rep.tupAt {xs : List PV} {x : V} (h : RelH W F ph hp H) (r : Rep W F ph (.tup xs) x) : ∃ a vs, x = .ref a ∧ SqT W.K H a vs ∧ RepA W F ph xs vs := by
  cases r with
  | tup e q => exact ⟨_, _, rfl, .inl (h.sub _ _ e), q⟩
  | ktup e q => exact ⟨_, _, rfl, .inr e, q⟩
  | obj e q => cases q
theorem Rep.lstAt {xs : List PV} {x : V} (h : RelH W F ph hp H) (r : Rep W F ph (.lst xs) x) : ∃ a vs, x = .ref a ∧ F a = some (.lst vs) ∧ SqL W.K H a vs ∧ RepA W F ph xs vs := by
  cases r with
  | obj e q => cases q with | lst q => exact ⟨_, _, rfl, e, .inl (h.sub _ _ e), q⟩
theorem Rep.intV {i : Int} {x : V} (r : Rep W F ph (.int i) x) : x = .int i := by
  cases r with
  | int => rfl
  | obj e q => cases q
theorem Rep.blV {i : Bool} {x : V} (r : Rep W F ph (.bl i) x) : x = .bl i := by
  cases r with
  | bl => rfl
  | obj e q => cases q
theorem Rep.strV {i : Str} {x : V} (r : Rep W F ph (.str i) x) : x = .str i ∧ PyData.strOk i = true := by
  cases r with
  | str _ h => exact ⟨rfl, h⟩
  | obj e q => cases q
theorem Rep.nonV {x : V} (r : Rep W F ph .non x) : x = .non := by
  cases r with
  | non => rfl
  | obj e q => cases q
theorem shared_not_new (h : RelH W F ph hp H) {a : Addr} (n : H a = none) : a ∉ ph ∧ F a = none := by
  constructor
  · intro hm
    obtain ⟨i, hi⟩ := List.getElem?_of_mem hm
    have hl : i < hp.length := by rw [← h.len]; exact (List.getElem?_eq_some_iff.mp hi).1
    obtain ⟨_, o, e, _⟩ := h.sh i a hp[i] hi (List.getElem?_eq_getElem hl)
    rw [n] at e; cases e
  · cases q : F a with
    | none => rfl
    | some o =>
      rcases h.sub a o q with e | ⟨_, e⟩ <;> (rw [n] at e; cases e)
/-- a new object is laid -/
theorem RelH.laid (h : RelH W F ph hp H) {p : Addr} {o : HO} (n : H p = none) : RelH W F ph hp (upd H p o) ∧ Ext F ph H F ph (upd H p o) := by
  obtain ⟨np, nF⟩ := shared_not_new h n
  have st : ∀ a q, H a = some q → upd H p o a = some q := fun a q e => by rw [upd_ne (ne_of_none e n)]; exact e
  refine ⟨⟨fun a q e => ?_, h.len, h.nd, fun i a v e1 e2 => ?_, h.cl, fun a vs e => let ⟨ob, e1, e2⟩ := h.td a vs e; ⟨ob, st _ _ e1, e2⟩⟩, ⟨fun _ _ e => e, fun _ e => .inl e, fun _ _ e => e, fun _ e => .inl e, fun a q e _ => st a q e, fun a e => ?_⟩⟩
  · rcases h.sub a q e with e | ⟨b, e⟩
    · exact .inl (st _ _ e)
    · exact .inr ⟨b, st _ _ e⟩
  · obtain ⟨f, q, e3, r⟩ := h.sh i a v e1 e2
    exact ⟨f, q, st _ _ e3, r⟩
  · cases q : H a with
    | none => exact absurd q e
    | some u => rw [st a u q]; simp
/-- an object that is tracked, neither frozen nor shared, is frozen -/
theorem RelH.freeze (h : RelH W F ph hp H) {p : Addr} {o : HO} (e : Rd H p o) (n : F p = none) (ns : p ∉ ph) (ht : ∀ vs, o = .tup vs → ∃ ob : Obj, H p = some (.frz ob (.tup vs)) ∧ ob.dict = none) : RelH W (upd F p o) ph hp H := by
  have le : ∀ a q, F a = some q → upd F p o a = some q := fun a q e => by rw [upd_ne (ne_of_none e n)]; exact e
  refine ⟨fun a q e2 => ?_, h.len, h.nd, fun i a v e1 e2 => ?_, h.cl, fun a vs e2 => ?_⟩
  rotate_left 2
  · by_cases ha : a = p
    · subst ha; rw [upd_same] at e2; exact ht vs (Option.some.inj e2)
    · rw [upd_ne ha] at e2; exact h.td a vs e2
  · by_cases ha : a = p
    · subst ha; rw [upd_same] at e2; cases e2; exact e
    · rw [upd_ne ha] at e2; exact h.sub a q e2
  · obtain ⟨f, q, e3, r⟩ := h.sh i a v e1 e2
    have hne : a ≠ p := fun z => ns (z ▸ List.mem_of_getElem? e1)
    exact ⟨by rw [upd_ne hne]; exact f, q, e3, r.mono le fun _ _ z => z⟩
theorem le_upd {p : Addr} {o : HO} (n : F p = none) : ∀ a q, F a = some q → upd F p o a = some q := fun a q e => by rw [upd_ne (ne_of_none e n)]; exact e
/-- a result is a value from here on -/
theorem RRep.val {r : Rv} {x : V} (e : Ext F ph H F1 ph1 H1) (h : RelH W F1 ph1 hp H1) (q : RRep W F1 ph1 H H1 r x) : ∃ F2, Ext F ph H F2 ph1 H1 ∧ RelH W F2 ph1 hp H1 ∧ Rep W F2 ph1 r.2 x := by
  unfold RRep at q
  by_cases c : r.1 = true
  · rw [if_pos c] at q
    obtain ⟨a, o, rfl, n, ns, n0, ho, ro⟩ := q
    refine ⟨upd F1 a o, ⟨fun b u hb => le_upd n b u (e.le b u hb), fun b hb => ?_, e.pre, e.pnew, e.pres, e.dom⟩, h.freeze (.inl ho) n ns (fun vs z => absurd z (ro.no_tup vs)), .obj upd_same (ro.mono (le_upd n) fun _ _ z => z)⟩
    by_cases hba : b = a
    · subst hba; exact .inr n0
    · rw [upd_ne hba] at hb; exact e.new b hb
  · rw [if_neg c] at q
    exact ⟨F1, e, h, q⟩
theorem RRep.of {v : PV} {x : V} {H0 : Hp} (r : Rep W F ph v x) : RRep W F ph H0 H (false, v) x := by
  unfold RRep; rw [if_neg (by simp)]; exact r
theorem RRep.own {v : PV} {a : Addr} {o : HO} {H0 : Hp} (n : F a = none) (ns : a ∉ ph) (n0 : H0 a = none) (ho : H a = some o) (r : ORep W F ph a v o) : RRep W F ph H0 H (true, v) (.ref a) := by
  unfold RRep; rw [if_pos rfl]; exact ⟨a, o, rfl, n, ns, n0, ho, r⟩
/-- relative to an earlier heap -/
theorem RRep.back {r : Rv} {x : V} (e : Ext F ph H F1 ph1 H1) (q : RRep W F2 ph2 H1 H2 r x) : RRep W F2 ph2 H H2 r x := by
  unfold RRep at q ⊢
  split at q
  · rename_i c
    rw [if_pos c]
    obtain ⟨a, o, rfl, n, ns, n0, ho, ro⟩ := q
    exact ⟨a, o, rfl, n, ns, Classical.byContradiction fun z => e.dom a z n0, ho, ro⟩
  · rename_i c
    rw [if_neg c]; exact q
end
end MP
set_option maxRecDepth 100000
/-! MiniPy: the operations by values. -/
namespace MP
open PySem PySem.Spec PyProof.Rows L2

/-! ### data, as the library has it -/
mutual
def toD : PV → PyData
  | .non => .none | .bl b => .bool b | .int i => .int i | .str s => .str s
  | .tup xs => .tuple (toDs xs) | .lst xs => .list (toDs xs)
  | .dct _ => .none | .pst _ => .none | .ref _ => .none | .fn _ => .none
def toDs : List PV → List PyData
  | [] => []
  | x :: xs => toD x :: toDs xs
end
mutual
theorem toD_dep : ∀ v : PV, (toD v).depth = v.dep
  | .non => rfl | .bl _ => rfl | .int _ => rfl | .str _ => rfl
  | .tup xs => by simp only [toD, PyData.depth, PV.dep, toDs_dep xs]
  | .lst xs => by simp only [toD, PyData.depth, PV.dep, toDs_dep xs]
  | .dct _ => rfl | .pst _ => rfl | .ref _ => rfl | .fn _ => rfl
theorem toDs_dep : ∀ v : List PV, PyData.depthAll (toDs v) = depAll v
  | [] => rfl
  | x :: xs => by simp only [toDs, PyData.depthAll, depAll, toD_dep x, toDs_dep xs]
end
mutual
theorem toD_eqv : ∀ a b : PV, a.dat = true → b.dat = true → PyData.eqv (toD a) (toD b) = eqP a b
  | .non, b, _, hb => by cases b <;> simp [PV.dat] at hb <;> simp [toD, PyData.eqv, eqP]
  | .bl x, b, _, hb => by cases b <;> simp [PV.dat] at hb <;> simp [toD, PyData.eqv, eqP, b2i]
  | .int x, b, _, hb => by cases b <;> simp [PV.dat] at hb <;> simp [toD, PyData.eqv, eqP, b2i]
  | .str x, b, _, hb => by cases b <;> simp [PV.dat] at hb <;> simp [toD, PyData.eqv, eqP]
  | .tup xs, b, ha, hb => by
    have ih := toDs_eqv xs
    cases b <;> simp [PV.dat] at ha hb <;> simp [toD, PyData.eqv, eqP]
    exact ih _ ha hb
  | .lst xs, b, ha, hb => by
    have ih := toDs_eqv xs
    cases b <;> simp [PV.dat] at ha hb <;> simp [toD, PyData.eqv, eqP]
    exact ih _ ha hb
  | .dct _, _, h, _ => by simp [PV.dat] at h
  | .pst _, _, h, _ => by simp [PV.dat] at h
  | .ref _, _, h, _ => by simp [PV.dat] at h
  | .fn _, _, h, _ => by simp [PV.dat] at h
theorem toDs_eqv : ∀ a b : List PV, datAll a = true → datAll b = true → PyData.eqvAll (toDs a) (toDs b) = eqAll a b
  | [], b, _, _ => by cases b <;> simp [toDs, PyData.eqvAll, eqAll]
  | x :: xs, b, ha, hb => by
    cases b with
    | nil => simp [toDs, PyData.eqvAll, eqAll]
    | cons y ys =>
      simp only [datAll, Bool.and_eq_true] at ha hb
      simp only [toDs, PyData.eqvAll, eqAll, toD_eqv x y ha.1 hb.1, toDs_eqv xs ys ha.2 hb.2]
end
mutual
theorem toD_alk : ∀ a b : PV, alk a b = true → PySem.W.alike (toD a) (toD b) = true
  | .non, b, h => by cases b <;> simp [alk] at h <;> simp [toD, PySem.W.alike]
  | .bl x, b, h => by cases b <;> simp [alk] at h <;> simp [toD, PySem.W.alike]
  | .int x, b, h => by cases b <;> simp [alk] at h <;> simp [toD, PySem.W.alike]
  | .str x, b, h => by cases b <;> simp [alk] at h <;> simp [toD, PySem.W.alike]
  | .tup xs, b, h => by
    have ih := toDs_alk xs
    cases b <;> simp [alk] at h <;> simp [toD, PySem.W.alike]
    exact ih _ h
  | .lst xs, b, h => by
    have ih := toDs_alk xs
    cases b <;> simp [alk] at h <;> simp [toD, PySem.W.alike]
    exact ih _ h
  | .dct _, _, h => by simp [alk] at h
  | .pst _, _, h => by simp [alk] at h
  | .ref _, _, h => by simp [alk] at h
  | .fn _, _, h => by simp [alk] at h
theorem toDs_alk : ∀ a b : List PV, alkAll a b = true → PySem.W.alikeAll (toDs a) (toDs b) = true
  | [], b, _ => by cases b <;> simp [toDs, PySem.W.alikeAll]
  | x :: xs, b, h => by
    cases b with
    | nil => simp [toDs, PySem.W.alikeAll]
    | cons y ys =>
      simp only [alkAll, Bool.and_eq_true] at h
      simp only [toDs, PySem.W.alikeAll, toD_alk x y h.1, toDs_alk xs ys h.2, Bool.and_self]
end
mutual
theorem alk_eqv : ∀ a b : PV, alk a b = true → PyData.eqv (toD a) (toD b) = eqP a b
  | .non, b, h => by cases b <;> simp [alk] at h <;> simp [toD, PyData.eqv, eqP]
  | .bl x, b, h => by cases b <;> simp [alk] at h <;> simp [toD, PyData.eqv, eqP, b2i]
  | .int x, b, h => by cases b <;> simp [alk] at h <;> simp [toD, PyData.eqv, eqP, b2i]
  | .str x, b, h => by cases b <;> simp [alk] at h <;> simp [toD, PyData.eqv, eqP]
  | .tup xs, b, h => by
    have ih := alkAll_eqv xs
    cases b <;> simp [alk] at h <;> simp [toD, PyData.eqv, eqP]
    exact ih _ h
  | .lst xs, b, h => by
    have ih := alkAll_eqv xs
    cases b <;> simp [alk] at h <;> simp [toD, PyData.eqv, eqP]
    exact ih _ h
  | .dct _, _, h => by simp [alk] at h
  | .pst _, _, h => by simp [alk] at h
  | .ref _, _, h => by simp [alk] at h
  | .fn _, _, h => by simp [alk] at h
theorem alkAll_eqv : ∀ a b : List PV, alkAll a b = true → PyData.eqvAll (toDs a) (toDs b) = eqAll a b
  | [], b, _ => by cases b <;> simp [toDs, PyData.eqvAll, eqAll]
  | x :: xs, b, h => by
    cases b with
    | nil => simp [toDs, PyData.eqvAll, eqAll]
    | cons y ys =>
      simp only [alkAll, Bool.and_eq_true] at h
      simp only [toDs, PyData.eqvAll, eqAll, alk_eqv x y h.1, alkAll_eqv xs ys h.2]
end


mutual
theorem alk_lt : ∀ a b : PV, alk a b = true → PySem.W.dataLt (toD a) (toD b) = ltP a b
  | .non, b, h => by
    cases b <;> simp [alk] at h
    simp only [toD, ltP]
    first | rfl | decide +kernel
  | .bl x, b, h => by cases b <;> simp [alk] at h; exact PySem.W.dataLt_bool _ _
  | .int x, b, h => by cases b <;> simp [alk] at h; exact PySem.W.dataLt_int _ _
  | .str x, b, h => by cases b <;> simp [alk] at h; exact PySem.W.dataLt_str _ _
  | .tup xs, b, h => by
    have ih := alkAll_lt xs
    cases b <;> simp [alk] at h
    rw [toD, toD, PySem.W.dataLt_tuple, ltP]
    exact ih _ h
  | .lst xs, b, h => by
    have ih := alkAll_lt xs
    cases b <;> simp [alk] at h
    rw [toD, toD, PySem.W.dataLt_list, ltP]
    exact ih _ h
  | .dct _, _, h => by simp [alk] at h
  | .pst _, _, h => by simp [alk] at h
  | .ref _, _, h => by simp [alk] at h
  | .fn _, _, h => by simp [alk] at h
theorem alkAll_lt : ∀ a b : List PV, alkAll a b = true → PyProof.Rows.lexLt PyProof.Rows.itemOrd (PySem.W.keyToksAll (toDs a)) (PySem.W.keyToksAll (toDs b)) = ltAll a b
  | [], b, _ => by
    cases b with
    | nil => simp only [toDs, ltAll]; decide +kernel
    | cons y ys =>
      simp only [toDs, ltAll, PySem.W.keyToksAll]
      exact (PyProof.Rows.lex_diff (O := PyProof.Rows.itemOrd) (by simp)).trans (by decide +kernel)
  | x :: xs, b, h => by
    cases b with
    | nil =>
      simp only [toDs, ltAll, PySem.W.keyToksAll]
      exact (PyProof.Rows.lex_diff (O := PyProof.Rows.itemOrd) (by simp)).trans (by decide +kernel)
    | cons y ys =>
      simp only [alkAll, Bool.and_eq_true] at h
      rw [toDs, toDs, PySem.W.dataLt_cons (toD_alk x y h.1), alk_eqv x y h.1, alkAll_lt xs ys h.2, alk_lt x y h.1]
      simp only [ltAll]
end
theorem toDs_map : ∀ xs : List PV, toDs xs = xs.map toD
  | [] => rfl
  | x :: xs => by rw [toDs, toDs_map xs]; rfl
theorem datAll_iff : ∀ {xs : List PV}, datAll xs = true ↔ ∀ x ∈ xs, x.dat = true
  | [] => by simp [datAll]
  | x :: xs => by simp [datAll, datAll_iff (xs := xs)]
mutual
theorem alk_dat : ∀ a : PV, alk a a = true → a.dat = true
  | .non, _ => rfl | .bl _, _ => rfl | .int _, _ => rfl | .str _, _ => rfl
  | .tup xs, h => by rw [PV.dat]; exact alkAll_dat xs (by simpa [alk] using h)
  | .lst xs, h => by rw [PV.dat]; exact alkAll_dat xs (by simpa [alk] using h)
  | .dct _, h => by simp [alk] at h
  | .pst _, h => by simp [alk] at h
  | .ref _, h => by simp [alk] at h
  | .fn _, h => by simp [alk] at h
theorem alkAll_dat : ∀ a : List PV, alkAll a a = true → datAll a = true
  | [], _ => rfl
  | x :: xs, h => by
    simp only [alkAll, Bool.and_eq_true] at h
    simp only [datAll, alk_dat x h.1, alkAll_dat xs h.2, Bool.and_self]
end

/-! ### what is read -/
section
variable {W : Wd} {F H : Hp} {ph : List Addr} {hp : Hs}
mutual
theorem Rep.dp (h : RelH W F ph hp H) : ∀ (v : PV) {x : V}, v.dat = true → Rep W F ph v x → Dp W.K H x (toD v)
  | .non, _, _, r => by rw [r.nonV]; exact .non
  | .bl b, _, _, r => by rw [r.blV]; exact .bl b
  | .int i, _, _, r => by rw [r.intV]; exact .int i
  | .str s, _, _, r => by rw [r.strV.1]; exact .str s
  | .tup xs, _, d, r => by
    obtain ⟨a, vs, rfl, ha, ra⟩ := r.tupAt h
    exact .tup ha (RepA.dp h xs (by simpa [PV.dat] using d) ra)
  | .lst xs, _, d, r => by
    obtain ⟨a, vs, rfl, _, ha, ra⟩ := r.lstAt h
    exact .lst ha (RepA.dp h xs (by simpa [PV.dat] using d) ra)
  | .dct _, _, d, _ => by simp [PV.dat] at d
  | .pst _, _, d, _ => by simp [PV.dat] at d
  | .ref _, _, d, _ => by simp [PV.dat] at d
  | .fn _, _, d, _ => by simp [PV.dat] at d
theorem RepA.dp (h : RelH W F ph hp H) : ∀ (v : List PV) {x : List V}, datAll v = true → RepA W F ph v x → DpAll W.K H x (toDs v)
  | [], _, _, r => by cases r; exact .nil
  | y :: ys, _, d, r => by
    simp only [datAll, Bool.and_eq_true] at d
    cases r with
    | cons r t => exact .cons (Rep.dp h y d.1 r) (RepA.dp h ys d.2 t)
end
/-- a value, or a shared list's content -/
def RepXL (W : Wd) (F : Hp) (ph : List Addr) (H : Hp) (v : PV) (x : V) : Prop := Rep W F ph v x ∨ ∃ xs a o, v = .lst xs ∧ x = .ref a ∧ H a = some o ∧ ORep W F ph a v o
theorem RepXL.lstAt {xs : List PV} {x : V} (r : RepXL W F ph H (.lst xs) x) (h : RelH W F ph hp H) : ∃ a vs, x = .ref a ∧ True ∧ SqL W.K H a vs ∧ RepA W F ph xs vs := by
  rcases r with r | ⟨ys, a, o, ey, rfl, e, r⟩
  · obtain ⟨a, vs, e1, _, e2, e3⟩ := r.lstAt h
    exact ⟨a, vs, e1, trivial, e2, e3⟩
  · cases r with | lst r => exact ⟨a, _, rfl, trivial, .inl (.inl e), r⟩
theorem RepXL.rep {v : PV} {x : V} (r : RepXL W F ph H v x) (n : ∀ ys, v ≠ .lst ys) : Rep W F ph v x := by
  rcases r with r | ⟨ys, _, _, e, _⟩
  · exact r
  · exact absurd e (n ys)
theorem RepXL.tupAt {xs : List PV} {x : V} (r : RepXL W F ph H (.tup xs) x) (h : RelH W F ph hp H) : ∃ a vs, x = .ref a ∧ SqT W.K H a vs ∧ RepA W F ph xs vs := (r.rep fun _ e => nomatch e).tupAt h
theorem RepXL.intV {i : Int} {x : V} (r : RepXL W F ph H (.int i) x) : x = .int i := (r.rep fun _ e => nomatch e).intV
theorem RepXL.blV {i : Bool} {x : V} (r : RepXL W F ph H (.bl i) x) : x = .bl i := (r.rep fun _ e => nomatch e).blV
theorem RepXL.strV {i : Str} {x : V} (r : RepXL W F ph H (.str i) x) : x = .str i ∧ PyData.strOk i = true := (r.rep fun _ e => nomatch e).strV
theorem RepXL.nonV {x : V} (r : RepXL W F ph H .non x) : x = .non := (r.rep fun _ e => nomatch e).nonV
theorem RepXL.dp (h : RelH W F ph hp H) (v : PV) {x : V} (d : v.dat = true) (r : RepXL W F ph H v x) : Dp W.K H x (toD v) := by
  rcases r with r | ⟨ys, a, o, rfl, rfl, e, r⟩
  · exact r.dp h v d
  · cases r with | lst r => exact .lst (.inl (.inl e)) (RepA.dp h ys (by simpa [PV.dat] using d) r)
theorem Rep.tup' {xs : List PV} {x : V} (r : Rep W F ph (.tup xs) x) : ∃ vs, RepA W F ph xs vs := by
  cases r with
  | tup e q => exact ⟨_, q⟩
  | ktup e q => exact ⟨_, q⟩
  | obj e q => cases q
theorem Rep.lst' {xs : List PV} {x : V} (r : Rep W F ph (.lst xs) x) : ∃ vs, RepA W F ph xs vs := by
  cases r with
  | obj e q => cases q with | lst q => exact ⟨_, q⟩
mutual
theorem Rep.lay : ∀ (v : PV) {x : V}, v.dat = true → Rep W F ph v x → PyData.canLay0 (toD v) = true
  | .non, _, _, _ => rfl
  | .bl b, _, _, _ => rfl
  | .int i, _, _, _ => rfl
  | .str s, _, _, r => r.strV.2
  | .tup xs, _, d, r => by
    obtain ⟨vs, q⟩ := r.tup'
    rw [toD, PyData.canLay0]
    exact RepA.lay xs (by simpa [PV.dat] using d) q
  | .lst xs, _, d, r => by
    obtain ⟨vs, q⟩ := r.lst'
    rw [toD, PyData.canLay0]
    exact RepA.lay xs (by simpa [PV.dat] using d) q
  | .dct _, _, d, _ => by simp [PV.dat] at d
  | .pst _, _, d, _ => by simp [PV.dat] at d
  | .ref _, _, d, _ => by simp [PV.dat] at d
  | .fn _, _, d, _ => by simp [PV.dat] at d
theorem RepA.lay : ∀ (v : List PV) {x : List V}, datAll v = true → RepA W F ph v x → PyData.canLayAll0 (toDs v) = true
  | [], _, _, _ => rfl
  | y :: ys, _, d, r => by
    simp only [datAll, Bool.and_eq_true] at d
    cases r with
    | cons r t => rw [toDs, PyData.canLayAll0, Rep.lay y d.1 r, RepA.lay ys d.2 t]; rfl
end
end

/-! ### contexts that fit -/
structure Fit (W : Wd) (X : Cx) : Prop where
  P : X.prog = W.P
  w : X.w = W.w
  K : X.K = W.K
  un : X.A.units + 64 < cLine
  calm : X.calm = true
  kd : ∀ (a : Addr) (o : Obj), W.K.lookup a = some o → o.cls = .type "tuple" → o.dict = none
/-- what a result r is to bring about -/
def Res (W : Wd) (F : Hp) (ph : List Addr) (hp : Hs) (H : Hp) (r : Rv) (Q : VK) : Prop :=
  ∀ F' x H', Ext F ph H F' ph H' → RelH W F' ph hp H' → RRep W F' ph H H' r x → Q x H'
section
variable {W : Wd} {F H : Hp} {ph : List Addr} {hp : Hs} {Q : VK}
theorem Res.at_ (h : RelH W F ph hp H) {v : PV} {x : V} (q : Res W F ph hp H (false, v) Q) (r : Rep W F ph v x) : Q x H := q F x H Ext.refl h (RRep.of r)
/-- a new tuple, known to the object -/
theorem Res.tup (h : RelH W F ph hp H) {xs : List PV} {vs : List V} (q : Res W F ph hp H (false, .tup xs) Q) (r : RepA W F ph xs vs) {p : Addr} {ob : Obj} (hd : ob.dict = none) (n : H p = none) : Q (.ref p) (upd H p (.frz ob (.tup vs))) := by
  obtain ⟨np, nF⟩ := shared_not_new h n
  obtain ⟨h1, e1⟩ := h.laid (o := .frz ob (.tup vs)) n
  refine q (upd F p (.tup vs)) _ _ ⟨le_upd nF, fun a ha => ?_, e1.pre, e1.pnew, e1.pres, e1.dom⟩ (h1.freeze (.inr ⟨ob, upd_same⟩) nF np fun vs' z => ⟨ob, by cases z; exact upd_same, hd⟩) (RRep.of (.tup upd_same (r.mono (le_upd nF) fun _ _ z => z)))
  by_cases hap : a = p
  · subst hap; exact .inr n
  · rw [upd_ne hap] at ha; exact .inl ha
/-- a new object of one's own -/
theorem Res.new (h : RelH W F ph hp H) {v : PV} {o : HO} {p : Addr} (q : Res W F ph hp H (true, v) Q) (r : ORep W F ph p v o) (n : H p = none) : Q (.ref p) (upd H p o) := by
  obtain ⟨np, nF⟩ := shared_not_new h n
  obtain ⟨h1, e1⟩ := h.laid (o := o) n
  exact q F _ _ e1 h1 (RRep.own nF np n upd_same r)
end
/-- an operation on two values -/
def r2 (W : Wd) (f : PV → PV → Option Rv) : R2 := fun x y H Q => ∃ F ph hp vx vy r, RelH W F ph hp H ∧ Rep W F ph vx x ∧ Rep W F ph vy y ∧ f vx vy = some r ∧ Res W F ph hp H r Q
def opOf : Bop → Operator
  | .add => .Add | .sub => .Sub | .mul => .Mult | .fdiv => .FloorDiv | .mod => .Mod | .pow => .Pow | .shl => .LShift | .shr => .RShift | .band => .BitAnd
def cmpOf : Cop → CmpOp
  | .eq => .Eq | .ne => .NotEq | .lt => .Lt | .le => .LtE | .gt => .Gt | .ge => .GtE | .isin => .In | .nin => .NotIn | .is => .Is | .isnt => .IsNot
theorem big_iff {i : Int} (h : big i = true) : -(2 ^ 64) < i ∧ i < 2 ^ 64 := by simpa [big] using h
theorem strOk_append {x y : Str} (hx : PyData.strOk x = true) (hy : PyData.strOk y = true) : PyData.strOk (x ++ y) = true := by
  unfold PyData.strOk at *
  show (x.cps ++ y.cps).all _ = true
  rw [Array.all_append, hx, hy]; rfl
section
variable {X : Cx} {pins : List (Addr × Obj)} {σ : L2.St} {H : Hp} {s : Shared}
/-- a list to be read, as it lies in the heap -/
theorem rdL (I : Inv X pins σ H s) {l : Addr} {xs : List V} (h : Rd H l (.lst xs)) : ∃ (its : List Value) (n : Nat), Vals xs its ∧ xs.length = its.length ∧ its.length ≤ sizeLine ∧ s.heap.get? l = some { cls := .type "list", data := .seq its.toArray n } := by
  obtain ⟨z, its, n, r, e⟩ := h.ok I.hok
  exact ⟨its, n, r, r.length, by rw [← r.length]; exact z, e⟩
/-- the object of a new tuple -/
abbrev tupOb (its : List Value) : Obj := { cls := .type "tuple", data := .seq its.toArray }
theorem lay_tup {t : Nat} (I : Inv X pins σ H s) {xs : List V} {its : List Value} (r : Vals xs its) (hz : xs.length ≤ sizeLine) : Inv X pins σ (upd H s.heap.objs.size (.frz (tupOb its) (.tup xs))) { s with heap := s.heap.push (tupOb its), toks := t } :=
  I.laid (t' := t) (fun _ _ e => Heap.get?_push_of_some _ e) (Nat.le_refl _) ⟨Heap.get?_push_size _ rfl, hz, its, r, IsTup.new _ _⟩
/-- tuple + tuple, a new one known to the object -/
def rCatM (K : PySem.W.Frag) : R2 := fun x y H Q => ∃ a b xs ys, x = .ref a ∧ y = .ref b ∧ SqT K H a xs ∧ SqT K H b ys ∧ xs.length + ys.length ≤ sizeLine ∧
  (xs = [] → Q (.ref b) H) ∧ (xs ≠ [] → ys = [] → Q (.ref a) H) ∧ ∀ p (ob : Obj), ob.dict = none → H p = none → Q (.ref p) (upd H p (.frz ob (.tup (xs ++ ys))))
theorem op_catM : OpR X (binaryOp .Add) (rCatM X.K) := by
  intro pins s σ H x y v u Q I rx ry ⟨a, b, xs, ys, ex, ey, ha, hb, hz, q0, q1, q2⟩
  subst ex ey
  cases rx; cases ry
  obtain ⟨is1, r1, p1, _⟩ := I.tuple ha
  obtain ⟨is2, r2, p2, _⟩ := I.tuple hb
  by_cases hx : xs = []
  · subst hx; cases r1
    exact cat_tup0 p1 p2 ⟨.ref b, H, I, rfl, q0 rfl⟩
  · refine HT.cat_tup p1 p2 (fun z => hx (r1.nil_iff.mp z)) (fun z => ⟨.ref a, H, I, rfl, q1 hx (r2.nil_iff.mp z)⟩) (fun _ => ?_) (by rw [← r1.length, ← r2.length]; exact hz)
    have hl : (xs ++ ys).length ≤ sizeLine := by rw [List.length_append]; exact hz
    exact ⟨.ref _, _, lay_tup (t := s.toks) I (r1.append r2) hl, rfl, q2 _ _ rfl (I.hok.fresh (Nat.le_refl _))⟩
/-- list + list -/
def rCatR : R2 := fun x y H Q => ∃ l b xs zs, x = .ref l ∧ y = .ref b ∧ Rd H l (.lst xs) ∧ Rd H b (.lst zs) ∧ xs.length + zs.length ≤ sizeLine ∧ ∀ p, H p = none → Q (.ref p) (upd H p (.lst (xs ++ zs)))
theorem op_catR : OpR X (binaryOp .Add) rCatR := by
  intro pins s σ H x y v u Q I rx ry ⟨l, b, xs, zs, ex, ey, h1, h2, hz, q⟩
  subst ex ey
  cases rx; cases ry
  obtain ⟨is1, n1, r1, l1, _, g1⟩ := rdL I h1
  obtain ⟨is2, n2, r2, l2, _, g2⟩ := rdL I h2
  have hsum : is1.toArray.size + is2.toArray.size ≤ sizeLine := by simp only [List.size_toArray]; omega
  refine PySem.P.add_list g1 g2 ?_ hsum
  rw [show is1.toArray ++ is2.toArray = (is1 ++ is2).toArray by simp]
  have hl : (xs ++ zs).length ≤ sizeLine := by rw [List.length_append]; exact hz
  exact ⟨.ref _, _, I.lnew (t' := s.toks) (r1.append r2) hl, rfl, q _ I.fresh⟩
/-- list * int -/
def rRepR : R2 := fun x y H Q => ∃ l k xs, x = .ref l ∧ y = .int k ∧ Rd H l (.lst xs) ∧ -(2 ^ 63) ≤ k ∧ k < 2 ^ 63 ∧ xs.length * k.toNat ≤ sizeLine ∧
  ∀ p, H p = none → Q (.ref p) (upd H p (.lst (List.replicate k.toNat xs).flatten))
theorem op_repR : OpR X (binaryOp .Mult) rRepR := by
  intro pins s σ H x y v u Q I rx ry ⟨l, k, xs, ex, ey, h1, klo, khi, hz, q⟩
  subst ex ey
  cases rx
  obtain ⟨tk, rfl⟩ := ry
  obtain ⟨is1, n1, r1, l1, _, g1⟩ := rdL I h1
  have small : is1.toArray.size * k.toNat ≤ sizeLine := by simp only [List.size_toArray, ← l1]; exact hz
  have c1 : ¬ (!Builtin.List.listFitsIndex k) = true := by rw [fitsIndex_both klo khi]; simp
  have c2 : ¬ is1.toArray.size * k.toNat > (2 ^ 63 - 1) / 8 := by
    have line : (sizeLine : Nat) ≤ (2 ^ 63 - 1) / 8 := by decide
    exact Nat.not_lt.mpr (Nat.le_trans small line)
  have c3 : ¬ Builtin.List.listTooLong (is1.toArray.size * k.toNat) = true := by rw [notLongL small]; simp
  have all : ∀ m : Nat, List.foldl (fun a b => a ++ b) #[] (List.replicate m is1.toArray) = (List.replicate m is1).flatten.toArray := fun m => (foldl_rep is1 m []).trans (by rw [List.nil_append])
  have made : List.foldl (fun a b => a ++ b) #[] (List.replicate (if is1.toArray.isEmpty = true then 0 else k.toNat) is1.toArray) = (List.replicate k.toNat is1).flatten.toArray := by
    rw [all]
    cases is1 with
    | nil => simp
    | cons _ _ => simp
  have fin : wpAny (model X.prog X.w) X.A (binaryOp .Mult (.ref l) (.int k tk)) (EP X pins σ Q) X.xe s := by
    refine wpAny_binaryOp_repeat_ref (T := "list") (U := "int") (by decide) ⟨_, g1, rfl⟩ (fun s' => typeIs_int s' k tk) noFill_list_mul F.fills_int_mul F.slot_int_rmul repeat_list F.slot_int_index.lookup ?_
    refine call_meets F.slot_int_rmul (typeIs_int s k tk) F.entry_int_rmul (F.args_int_rmul_2 _ _) (int___rmul___int_list k tk l is1.toArray n1) ⟨g1, rfl, ⟨_, g1, rfl⟩, ?_⟩
    refine call_meets F.slot_list_mul ⟨_, g1, rfl⟩ F.entry_list_mul (F.args_list_mul_2 _ _) (AutoListH.list___mul___list_int_3 l is1.toArray n1 k tk c1 c2 c3) ⟨g1, ?_⟩
    rw [made]
    have hl : ((List.replicate k.toNat xs).flatten).length ≤ sizeLine := by rw [PyProof.Rows.lm_len_rep_flat, Nat.mul_comm]; exact hz
    exact ⟨.ref _, _, I.lnew (t' := s.toks) (r1.rep k.toNat) hl, rfl, q _ I.fresh⟩
  exact fin
/-- tuple * 1: the tuple itself -/
theorem tup_mul1 (l : Addr) (its : Array Value) (n : Nat) (dd : Option Addr) (sl : Array (Option Value)) (u : Tok) :
    Meets (Builtin.«tuple.__mul__» ⟨[.ref l, .int 1 u], []⟩) (fun _ R s => s.heap.get? l = some { cls := .type "tuple", dict := dd, data := .seq its n, slots := sl } ∧ R (.ok (.ret (Value.ref l))) s) :=
  .of_wp fun prog w A R s h => by
    obtain ⟨hp, g, d, tk, os⟩ := s
    obtain ⟨hl, hr⟩ := h
    have f1 := AutoSeq1.idx_int
    wp_walk using wpAny_loadPart' hl
    exact ⟨_, rfl, hr⟩
/-- tuple * int -/
def rRepTM (K : PySem.W.Frag) : R2 := fun x y H Q => ∃ l k xs, x = .ref l ∧ y = .int k ∧ SqT K H l xs ∧ xs ≠ [] ∧ 1 ≤ k ∧ k ≤ 1000 ∧ xs.length ≤ 1000 ∧
  (k = 1 → Q (.ref l) H) ∧ ∀ p (ob : Obj), ob.dict = none → H p = none → Q (.ref p) (upd H p (.frz ob (.tup (List.replicate k.toNat xs).flatten)))
theorem op_repTM : OpR X (binaryOp .Mult) (rRepTM X.K) := by
  intro pins s σ H x y v u Q I rx ry ⟨l, k, xs, ex, ey, hT, hne, k1, k2, hz, q1, q⟩
  subst ex ey
  cases rx
  obtain ⟨tk, rfl⟩ := ry
  obtain ⟨its, r, ⟨ob, ho, hc, n, hd⟩, hs⟩ := I.tuple hT
  obtain ⟨cls, dd, data, sl⟩ := ob
  simp only at hc hd
  subst hc hd
  have hle : its.length = xs.length := r.length.symm
  have e0 : its.toArray.isEmpty = false := by
    cases its with
    | nil => exact absurd (List.eq_nil_of_length_eq_zero hle.symm) hne
    | cons _ _ => rfl
  have e1 : its.toArray.size = xs.length := by rw [List.size_toArray, hle]
  refine wpAny_binaryOp_repeat_ref (T := "tuple") (U := "int") (by decide) ⟨_, ho, rfl⟩ (fun s' => typeIs_int s' k tk) L2.noFill_tuple_mul F.fills_int_mul F.slot_int_rmul L2.repeat_tuple F.slot_int_index.lookup ?_
  refine call_meets F.slot_int_rmul (typeIs_int s k tk) F.entry_int_rmul (F.args_int_rmul_2 _ _) (L2.int_rmul_tuple k tk l its.toArray n dd sl) ⟨ho, rfl, ⟨_, ho, rfl⟩, ?_⟩
  by_cases hk : k = 1
  · subst hk
    exact call_meets F.slot_tuple_mul ⟨_, ho, rfl⟩ F.entry_tuple_mul (F.args_tuple_mul_2 _ _) (tup_mul1 l its.toArray n dd sl tk) ⟨ho, .ref l, H, I, rfl, q1 rfl⟩
  · have hb : ((its.toArray.size : Nat) : Int) * k ≤ 1000000 := by
      rw [e1]
      have := Int.mul_le_mul_of_nonneg_right (show ((xs.length : Nat) : Int) ≤ 1000 by omega) (show (0 : Int) ≤ k by omega)
      omega
    have hfl : ((List.replicate k.toNat xs).flatten).length ≤ sizeLine := by
      rw [PyProof.Rows.lm_len_rep_flat, sizeLine_eq]
      have : k.toNat * xs.length ≤ 1000 * 1000 := Nat.mul_le_mul (by omega) hz
      omega
    have hfi : (List.replicate k.toNat its).flatten.length ≤ sizeLine := by
      rw [PyProof.Rows.lm_len_rep_flat, hle, ← PyProof.Rows.lm_len_rep_flat]
      exact hfl
    have b0 : (decide (k < -(2 ^ 63)) || decide (k ≥ 2 ^ 63)) = false := by
      rw [Bool.or_eq_false_iff]
      exact ⟨decide_eq_false (by omega), decide_eq_false (by omega)⟩
    have b1 : (its.toArray.isEmpty || k == 1) = false := by rw [e0]; simpa using hk
    have b2 : (decide (k ≤ 0) || its.toArray.isEmpty) = false := by rw [e0]; simp; omega
    have b4 : Builtin.Tuple.tupleTooMany (((its.toArray.size : Nat) : Int) * k) = false := by
      unfold Builtin.Tuple.tupleTooMany
      rw [sizeLine_eq]
      exact decide_eq_false (by omega)
    refine call_meets F.slot_tuple_mul ⟨_, ho, rfl⟩ F.entry_tuple_mul (F.args_tuple_mul_2 _ _) (L2.tuple_mulW l its.toArray n dd sl k tk b0 b1 b2 (by omega) b4 (by rw [L2.size_rep, List.size_toArray]; exact hfi)) ⟨ho, ?_⟩
    rw [L2.size_rep]
    exact ⟨.ref _, _, lay_tup (t := s.toks) I (r.rep k.toNat) hfl, rfl, q _ _ rfl (I.hok.fresh (Nat.le_refl _))⟩
end
section
variable {W : Wd} {X : Cx}
theorem op_bin (fit : Fit W X) (op : Bop) (hop : op ≠ .mul ∨ True) : OpR X (binaryOp (opOf op)) (r2 W (binP op)) := by
  obtain ⟨hP, hw, hK, hu, hc, _⟩ := fit
  intro pins s σ H x y v u Q I rx ry ⟨F, ph, hp, vx, vy, r, hR, qx, qy, e, hQ⟩
  unfold binP at e
  split at e
  · cases e; cases qx.intV; cases qy.intV
    exact op_add pins s σ H _ _ v u Q I rx ry ⟨_, _, rfl, rfl, hQ.at_ hR (.int _)⟩
  · rename_i i j
    split at e
    · rename_i hl
      cases e
      obtain ⟨rfl, ox⟩ := qx.strV
      obtain ⟨rfl, oy⟩ := qy.strV
      exact op_add_str pins s σ H _ _ v u Q I rx ry ⟨_, _, rfl, rfl, hl, hQ.at_ hR (.str _ (strOk_append ox oy))⟩
    · cases e
  · rename_i xs ys
    split at e
    · rename_i hl
      cases e
      obtain ⟨a, vs, rfl, ha, ra⟩ := qx.tupAt hR
      obtain ⟨b, ws, rfl, hb, rb⟩ := qy.tupAt hR
      rw [← hK] at ha hb
      refine op_catM pins s σ H _ _ v u Q I rx ry ⟨a, b, vs, ws, rfl, rfl, ha, hb, by rw [← ra.length, ← rb.length]; exact hl, fun z => ?_, fun _ z => ?_, fun p ob hd n => hQ.tup hR (ra.append rb) hd n⟩
      · subst z; cases ra; exact hQ.at_ hR qy
      · subst z; cases rb; rw [List.append_nil] at hQ; exact hQ.at_ hR qx
    · cases e
  · rename_i xs ys
    split at e
    · rename_i hl
      cases e
      obtain ⟨a, vs, rfl, fa, _, ra⟩ := qx.lstAt hR
      obtain ⟨b, ws, rfl, fb, _, rb⟩ := qy.lstAt hR
      exact op_catR pins s σ H _ _ v u Q I rx ry ⟨a, b, vs, ws, rfl, rfl, hR.sub _ _ fa, hR.sub _ _ fb, by rw [← ra.length, ← rb.length]; exact hl, fun p n => hQ.new hR (.lst (ra.append rb)) n⟩
    · cases e
  · cases e; cases qx.intV; cases qy.intV
    exact op_sub pins s σ H _ _ v u Q I rx ry ⟨_, _, rfl, rfl, hQ.at_ hR (.int _)⟩
  · split at e
    · rename_i hb
      cases e; cases qx.intV; cases qy.intV
      rw [Bool.or_eq_true] at hb
      exact op_mul pins s σ H _ _ v u Q I rx ry ⟨_, _, rfl, rfl, hb.imp big_iff big_iff, hQ.at_ hR (.int _)⟩
    · cases e
  · rename_i xs k
    split at e
    · rename_i hb
      cases e; cases qy.intV
      obtain ⟨a, vs, rfl, fa, _, ra⟩ := qx.lstAt hR
      exact op_repR pins s σ H _ _ v u Q I rx ry ⟨a, k, vs, rfl, rfl, hR.sub _ _ fa, hb.2.1, hb.2.2, by rw [← ra.length]; exact hb.1, fun p n => hQ.new hR (.lst (ra.rep _)) n⟩
    · cases e
  · rename_i xs k
    split at e
    · rename_i hb
      cases e; cases qy.intV
      obtain ⟨a, vs, rfl, ha, ra⟩ := qx.tupAt hR
      rw [← hK] at ha
      refine op_repTM pins s σ H _ _ v u Q I rx ry ⟨a, k, vs, rfl, rfl, ha, fun z => hb.1 ?_, hb.2.1, hb.2.2.1, by rw [← ra.length]; exact hb.2.2.2, fun z => ?_, fun p ob hd n => hQ.tup hR (ra.rep _) hd n⟩
      · subst z; cases ra; rfl
      · subst z
        have : (List.replicate (1 : Int).toNat xs).flatten = xs := by simp
        rw [this] at hQ
        exact hQ.at_ hR qx
    · cases e
  · split at e
    · rename_i hb
      cases e; cases qx.intV; cases qy.intV
      exact op_fdivN pins s σ H _ _ v u Q I rx ry ⟨_, _, rfl, rfl, hb, hQ.at_ hR (.int _)⟩
    · cases e
  · split at e
    · rename_i hb
      cases e; cases qx.intV; cases qy.intV
      exact op_modN pins s σ H _ _ v u Q I rx ry ⟨_, _, rfl, rfl, hb, hQ.at_ hR (.int _)⟩
    · cases e
  · split at e
    · rename_i hb
      cases e; cases qx.intV; cases qy.intV
      exact op_pow pins s σ H _ _ v u Q I rx ry ⟨_, _, rfl, rfl, hb, hQ.at_ hR (.int _)⟩
    · cases e
  · split at e
    · rename_i hb
      cases e; cases qx.intV; cases qy.intV
      exact op_shl pins s σ H _ _ v u Q I rx ry ⟨_, _, rfl, rfl, hb, hQ.at_ hR (.int _)⟩
    · cases e
  · split at e
    · rename_i hb
      cases e; cases qx.intV; cases qy.intV
      exact op_shr pins s σ H _ _ v u Q I rx ry ⟨_, _, rfl, rfl, hb, hQ.at_ hR (.int _)⟩
    · cases e
  · cases e; cases qx.intV; cases qy.intV
    exact op_and pins s σ H _ _ v u Q I rx ry ⟨_, _, rfl, rfl, hQ.at_ hR (.int _)⟩
  · cases e
/-- a comparison of two values -/
def r2b (W : Wd) (f : PV → PV → Option Bool) : R2 := fun x y H Q => ∃ F ph hp vx vy b, RelH W F ph hp H ∧ Rep W F ph vx x ∧ RepXL W F ph H vy y ∧ f vx vy = some b ∧ Q (.bl b) H
theorem okEq_iff {a b : PV} (h : okEq a b = true) : a.dat = true ∧ b.dat = true ∧ min a.dep b.dep ≤ 60 := by
  simpa [okEq, Bool.and_eq_true, and_assoc] using h
theorem okLt_all {a b : PV} (h : okLt a b = true) : alk a b = true ∧ min a.dep b.dep ≤ 60 ∧ eqP a .non = false ∧ a.dat = true ∧ b.dat = true := by
  have q : (((alk a b = true ∧ a.dat = true) ∧ b.dat = true) ∧ min a.dep b.dep ≤ 60) ∧ eqP a .non = false := by simpa only [okLt, Bool.and_eq_true, decide_eq_true_eq, Bool.not_eq_true'] using h
  exact ⟨q.1.1.1.1, q.1.2, q.2, q.1.1.1.2, q.1.1.2⟩
/-- two data, as they read in the heap -/
theorem two_reads (fit : Fit W X) {pins : List (Addr × Obj)} {σ : L2.St} {H F : Hp} {s : Shared} {ph : List Addr} {hp : Hs} {x y : V} {v u : Value} {vx vy : PV} (I : Inv X pins σ H s) (rx : RelV x v) (ry : RelV y u) (hR : RelH W F ph hp H)
    (qx : Rep W F ph vx x) (qy : Rep W F ph vy y) (dx : vx.dat = true) (dy : vy.dat = true) : (∃ as, Reads s.heap v (toD vx) as) ∧ ∃ bs, Reads s.heap u (toD vy) bs := by
  have h1 := qx.dp hR vx dx
  have h2 := qy.dp hR vy dy
  rw [← fit.K] at h1 h2
  exact ⟨h1.reads I _ _ _ rx, h2.reads I _ _ _ ry⟩
end
end MP
set_option maxRecDepth 100000
/-! MiniPy: comparisons, items, slices, built-ins by values. -/
namespace MP
open PySem PySem.Spec PyProof.Rows L2
mutual
theorem alk_symm : ∀ a b : PV, alk a b = true → alk b a = true
  | .non, b, h => by cases b <;> simp [alk] at h ⊢
  | .bl _, b, h => by cases b <;> simp [alk] at h ⊢
  | .int _, b, h => by cases b <;> simp [alk] at h ⊢
  | .str _, b, h => by cases b <;> simp [alk] at h ⊢
  | .tup xs, b, h => by
    have ih := alkAll_symm xs
    cases b <;> simp [alk] at h ⊢
    exact ih _ h
  | .lst xs, b, h => by
    have ih := alkAll_symm xs
    cases b <;> simp [alk] at h ⊢
    exact ih _ h
  | .dct _, _, h => by simp [alk] at h
  | .pst _, _, h => by simp [alk] at h
  | .ref _, _, h => by simp [alk] at h
  | .fn _, _, h => by simp [alk] at h
theorem alkAll_symm : ∀ a b : List PV, alkAll a b = true → alkAll b a = true
  | [], b, _ => by cases b <;> simp [alkAll]
  | x :: xs, b, h => by
    cases b with
    | nil => simp [alkAll]
    | cons y ys =>
      simp only [alkAll, Bool.and_eq_true] at h ⊢
      exact ⟨alk_symm x y h.1, alkAll_symm xs ys h.2⟩
end
theorem toD_none {a : PV} (h : eqP a .non = false) (d : a.dat = true) : toD a ≠ .none := by
  cases a <;> simp [eqP, PV.dat] at h d <;> simp [toD]
section
variable {W : Wd} {X : Cx}
theorem room60 {n m : Nat} {A : Around} (hu : A.units + 64 < cLine) (h : min n m ≤ 60) : A.units + min n m < cLine := by omega
theorem room61 {n m : Nat} {A : Around} (hu : A.units + 64 < cLine) (h : min n m ≤ 60) : A.units + 1 + min n m < cLine := by omega
theorem any_eqv {x : PV} (hx : x.dat = true) : ∀ {ys : List PV}, datAll ys = true → ((toDs ys).any fun y => PyData.eqv y (toD x)) = memP x ys
  | [], _ => rfl
  | y :: ys, h => by
    simp only [datAll, Bool.and_eq_true] at h
    simp only [toDs, List.any_cons, toD_eqv y x h.1 hx, any_eqv hx h.2, memP]
theorem okMem_iff {x : PV} {xs : List PV} (h : okMem x xs = true) : x.dat = true ∧ datAll xs = true ∧ min (depAll xs) x.dep ≤ 60 := by
  have q : (x.dat = true ∧ datAll xs = true) ∧ min x.dep (depAll xs) ≤ 60 := by simpa [okMem, Bool.and_eq_true] using h
  exact ⟨q.1.1, q.1.2, by rw [Nat.min_comm]; exact q.2⟩
/-- the keys of a dict, as the layer has them -/
theorem keyOf_rel {F : Hp} {ph : List Addr} {x : PV} {k : Key} {v : V} (h : keyOf x = some k) (r : Rep W F ph x v) : v = kV k := by
  cases x <;> simp [keyOf] at h
  · subst h; exact r.intV
  · subst h; exact r.strV.1
theorem keysOf_rel {F : Hp} {ph : List Addr} : ∀ {xs : List PV} {ks : List Key} {vs : List V}, keysOf xs = some ks → RepA W F ph xs vs → vs = ks.map kV
  | [], ks, vs, h, r => by
    cases r
    have e : ks = [] := by simpa [keysOf] using h.symm
    subst e; rfl
  | x :: xs, ks, vs, h, r => by
    cases r with
    | cons r t =>
      simp only [keysOf, Option.bind_eq_some_iff, Option.map_eq_some_iff] at h
      obtain ⟨k, h1, ms, h2, rfl⟩ := h
      rw [keyOf_rel h1 r, keysOf_rel h2 t]; rfl
theorem eqP_key {x y : PV} {k j : Key} (hx : keyOf x = some k) (hy : keyOf y = some j) : eqP x y = decide (k = j) := by
  cases x <;> simp [keyOf] at hx <;> cases y <;> simp [keyOf] at hy <;> subst hx <;> subst hy <;> simp [eqP]
  · rw [Bool.beq_eq_decide_eq]
  · rw [Bool.beq_eq_decide_eq]
theorem eqAll_keys : ∀ {xs ys : List PV} {k j : List Key}, keysOf xs = some k → keysOf ys = some j → eqAll xs ys = decide (k = j)
  | [], ys, k, j, hx, hy => by
    have e : k = [] := by simpa [keysOf] using hx.symm
    subst e
    cases ys with
    | nil =>
      have e : j = [] := by simpa [keysOf] using hy.symm
      subst e; rfl
    | cons y ys =>
      simp only [keysOf, Option.bind_eq_some_iff, Option.map_eq_some_iff] at hy
      obtain ⟨k, h1, ms, h2, rfl⟩ := hy
      simp [eqAll]
  | x :: xs, ys, k, j, hx, hy => by
    simp only [keysOf, Option.bind_eq_some_iff, Option.map_eq_some_iff] at hx
    obtain ⟨k1, h1, ms, h2, rfl⟩ := hx
    cases ys with
    | nil =>
      have e : j = [] := by simpa [keysOf] using hy.symm
      subst e; simp [eqAll]
    | cons y ys =>
      simp only [keysOf, Option.bind_eq_some_iff, Option.map_eq_some_iff] at hy
      obtain ⟨k2, h3, ns, h4, rfl⟩ := hy
      rw [eqAll, eqP_key h1 h3, eqAll_keys h2 h4]
      by_cases e1 : k1 = k2
      · by_cases e2 : ms = ns
        · simp [e1, e2]
        · simp [e1, e2]
      · simp [e1]
theorem eqP_tkey {x y : PV} {k j : List Key} (hx : tkeyOf x = some k) (hy : tkeyOf y = some j) : eqP x y = decide (k = j) := by
  cases x <;> simp [tkeyOf] at hx
  cases y <;> simp [tkeyOf] at hy
  rw [eqP]; exact eqAll_keys hx hy
end
end MP
set_option maxRecDepth 100000
/-! MiniPy: dicts by values. -/
namespace MP
open PySem PySem.Spec PyProof.Rows L2
section
variable {W : Wd} {F : Hp} {ph : List Addr}
inductive EK (W : Wd) (F : Hp) (ph : List Addr) : List (PV × PV) → List (Key × Value) → Prop
  | nil : EK W F ph [] []
  | cons {x y : PV} {k : Key} {v : V} {u : Value} {xs : List (PV × PV)} {us : List (Key × Value)} : keyOf x = some k → Rep W F ph y v → RelV v u → EK W F ph xs us → EK W F ph ((x, y) :: xs) ((k, u) :: us)
def TKey (W : Wd) (F : Hp) (b : Addr) (ks : List Key) : Prop := F b = some (.tup (ks.map kV)) ∨ KTup W.K b (ks.map kV)
inductive ET (W : Wd) (F : Hp) (ph : List Addr) : List (PV × PV) → List (List Key × Addr × Value) → Prop
  | nil : ET W F ph [] []
  | cons {x y : PV} {k : List Key} {b : Addr} {v : V} {u : Value} {xs : List (PV × PV)} {us : List (List Key × Addr × Value)} : tkeyOf x = some k → TKey W F b k → Rep W F ph y v → RelV v u → ET W F ph xs us → ET W F ph ((x, y) :: xs) ((k, b, u) :: us)
theorem isKey_some {x : PV} (h : isKey x = true) : ∃ k, keyOf x = some k := by cases x <;> simp [isKey] at h <;> exact ⟨_, rfl⟩
theorem keys_some : ∀ {xs : List PV}, xs.all isKey = true → ∃ ks, keysOf xs = some ks
  | [], _ => ⟨[], rfl⟩
  | x :: xs, h => by
    simp only [List.all_cons, Bool.and_eq_true] at h
    obtain ⟨k, hk⟩ := isKey_some h.1
    obtain ⟨ks, hks⟩ := keys_some h.2
    exact ⟨k :: ks, by simp [keysOf, hk, hks]⟩
theorem isTKey_some {x : PV} (h : isTKey x = true) : ∃ k, tkeyOf x = some k := by
  cases x <;> simp [isTKey] at h
  obtain ⟨ks, e⟩ := keys_some (List.all_eq_true.mpr h)
  exact ⟨ks, e⟩
theorem scal_not_tup {x : PV} {k : Key} {ks : List Key} (h : keyOf x = some k) (h' : tkeyOf x = some ks) : False := by
  cases x <;> simp [keyOf, tkeyOf] at h h'
theorem RepD.scal : ∀ {kvs : List (PV × PV)} {es : List DictEntry}, RepD W F ph kvs es → (keysP kvs).all isKey = true →
    ∃ us, Pairs (mixKind W.P W.w) es us ∧ (∀ e ∈ es, ∃ k, (mixKind W.P W.w).is k e.key = true ∧ e.hash = (mixKind W.P W.w).hash k) ∧ EK W F ph kvs us
  | _, _, .nil, _ => ⟨[], .nil, fun _ h => by simp at h, .nil⟩
  | _, _, .cons (x := x) (e := e) hk r rv t, h => by
    simp only [keysP, List.map_cons, List.all_cons, Bool.and_eq_true] at h
    obtain ⟨us, p, q, z⟩ := RepD.scal t h.2
    obtain ⟨k, hx⟩ := isKey_some h.1
    obtain ⟨hh, ky, vl⟩ := e
    cases hk with
    | scal h1 h2 =>
      refine ⟨_, .cons (kv := (_, vl)) h2 rfl p, fun e he => ?_, .cons h1 r rv z⟩
      rcases List.mem_cons.mp he with rfl | he
      · exact ⟨_, h2, rfl⟩
      · exact q e he
    | tup h1 h2 => exact (scal_not_tup hx h1).elim
theorem RepD.tupk : ∀ {kvs : List (PV × PV)} {es : List DictEntry}, RepD W F ph kvs es → (keysP kvs).all isTKey = true →
    ∃ us, es = us.map (entryOfKey (tupleKind (mixKind W.P W.w))) ∧ ET W F ph kvs us
  | _, _, .nil, _ => ⟨[], rfl, .nil⟩
  | _, _, .cons (x := x) (e := e) hk r rv t, h => by
    simp only [keysP, List.map_cons, List.all_cons, Bool.and_eq_true] at h
    obtain ⟨us, p, z⟩ := RepD.tupk t h.2
    obtain ⟨k, hx⟩ := isTKey_some h.1
    obtain ⟨hh, ky, vl⟩ := e
    cases hk with
    | scal h1 h2 => exact (scal_not_tup h1 hx).elim
    | tup h1 h2 => exact ⟨(_, _, vl) :: us, by rw [p]; rfl, .cons h1 h2 r rv z⟩
theorem EK.look {x : PV} {k : Key} (hx : keyOf x = some k) : ∀ {kvs : List (PV × PV)} {us : List (Key × Value)}, EK W F ph kvs us →
    (∀ y, getKv x kvs = some y → ∃ v u, valueAt us k = some u ∧ RelV v u ∧ Rep W F ph y v) ∧ (getKv x kvs = none → valueAt us k = none)
  | _, _, .nil => ⟨fun y h => by simp [getKv] at h, fun _ => rfl⟩
  | _, _, .cons (x := x') (k := k') (us := us) hk r rv t => by
    obtain ⟨i1, i2⟩ := EK.look hx t
    have e := eqP_key hk hx
    by_cases c : k' = k
    · have e' : eqP x' x = true := by rw [e]; simp [c]
      refine ⟨fun y h => ?_, fun h => ?_⟩
      · simp only [getKv, if_pos e'] at h
        cases h
        exact ⟨_, _, by simp [valueAt, List.find?_cons, c], rv, r⟩
      · simp [getKv, e'] at h
    · have e' : eqP x' x = false := by rw [e]; simp [c]
      have q : ∀ u, valueAt ((k', u) :: us) k = valueAt us k := fun u => by simp [valueAt, List.find?_cons, c]
      refine ⟨fun y h => ?_, fun h => ?_⟩
      · simp only [getKv, e', Bool.false_eq_true, if_false] at h
        rw [q]; exact i1 y h
      · simp only [getKv, e', Bool.false_eq_true, if_false] at h
        rw [q]; exact i2 h
theorem ET.look {x : PV} {k : List Key} (hx : tkeyOf x = some k) : ∀ {kvs : List (PV × PV)} {us : List (List Key × Addr × Value)}, ET W F ph kvs us →
    (∀ y, getKv x kvs = some y → ∃ v b u, atKey us k = some (b, u) ∧ RelV v u ∧ Rep W F ph y v) ∧ (getKv x kvs = none → atKey us k = none)
  | _, _, .nil => ⟨fun y h => by simp [getKv] at h, fun _ => rfl⟩
  | _, _, .cons (x := x') (k := k') (b := b') (u := u') (us := us) hk hb r rv t => by
    obtain ⟨i1, i2⟩ := ET.look hx t
    have e := eqP_tkey hk hx
    by_cases c : k' = k
    · have e' : eqP x' x = true := by rw [e]; simp [c]
      refine ⟨fun y h => ?_, fun h => ?_⟩
      · simp only [getKv, if_pos e'] at h
        cases h
        exact ⟨_, b', u', by simp [atKey, List.find?_cons, c], rv, r⟩
      · simp [getKv, e'] at h
    · have e' : eqP x' x = false := by rw [e]; simp [c]
      have q : ∀ u, atKey ((k', u) :: us) k = atKey us k := fun u => by simp [atKey, List.find?_cons, c]
      refine ⟨fun y h => ?_, fun h => ?_⟩
      · simp only [getKv, e', Bool.false_eq_true, if_false] at h
        rw [q]; exact i1 y h
      · simp only [getKv, e', Bool.false_eq_true, if_false] at h
        rw [q]; exact i2 h
theorem getKv_isSome (x : PV) : ∀ kvs : List (PV × PV), memP x (keysP kvs) = (getKv x kvs).isSome
  | [] => rfl
  | (k, v) :: r => by
    have ih := getKv_isSome x r
    simp only [keysP, List.map_cons, memP, List.any_cons, getKv] at ih ⊢
    cases eqP k x <;> simp [ih]
theorem EK.mem {k : Key} : ∀ {kvs : List (PV × PV)} {us : List (Key × Value)}, EK W F ph kvs us → k ∈ us.map (·.1) → ∃ x ∈ keysP kvs, keyOf x = some k
  | _, _, .nil, h => by simp at h
  | _, _, .cons (x := x') hk r rv t, h => by
    rw [List.map_cons] at h
    rcases List.mem_cons.mp h with rfl | h
    · exact ⟨x', by simp [keysP], hk⟩
    · obtain ⟨x, h1, h2⟩ := EK.mem t h
      exact ⟨x, by rw [keysP, List.map_cons]; exact List.mem_cons_of_mem _ h1, h2⟩
theorem EK.nodup : ∀ {kvs : List (PV × PV)} {us : List (Key × Value)}, EK W F ph kvs us → (kvs.map (·.1)).Pairwise (fun x y => eqP x y = false) → (us.map (·.1)).Nodup
  | _, _, .nil, _ => List.nodup_nil
  | _, _, .cons (x := x') hk r rv t, h => by
    rw [List.map_cons] at h ⊢
    obtain ⟨h1, h2⟩ := List.pairwise_cons.mp h
    refine List.nodup_cons.mpr ⟨fun hm => ?_, EK.nodup t h2⟩
    obtain ⟨x, hx, e⟩ := EK.mem t hm
    have q := h1 x hx
    rw [eqP_key hk e] at q
    simp at q
theorem ET.mem {k : List Key} : ∀ {kvs : List (PV × PV)} {us : List (List Key × Addr × Value)}, ET W F ph kvs us → k ∈ us.map (·.1) → ∃ x ∈ keysP kvs, tkeyOf x = some k
  | _, _, .nil, h => by simp at h
  | _, _, .cons (x := x') hk hb r rv t, h => by
    rw [List.map_cons] at h
    rcases List.mem_cons.mp h with rfl | h
    · exact ⟨x', by simp [keysP], hk⟩
    · obtain ⟨x, h1, h2⟩ := ET.mem t h
      exact ⟨x, by rw [keysP, List.map_cons]; exact List.mem_cons_of_mem _ h1, h2⟩
theorem ET.nodup : ∀ {kvs : List (PV × PV)} {us : List (List Key × Addr × Value)}, ET W F ph kvs us → (kvs.map (·.1)).Pairwise (fun x y => eqP x y = false) → (us.map (·.1)).Nodup
  | _, _, .nil, _ => List.nodup_nil
  | _, _, .cons (x := x') hk hb r rv t, h => by
    rw [List.map_cons] at h ⊢
    obtain ⟨h1, h2⟩ := List.pairwise_cons.mp h
    refine List.nodup_cons.mpr ⟨fun hm => ?_, ET.nodup t h2⟩
    obtain ⟨x, hx, e⟩ := ET.mem t hm
    have q := h1 x hx
    rw [eqP_tkey hk e] at q
    simp at q
theorem EK.put {x y : PV} {k : Key} {v : V} {u : Value} (hx : keyOf x = some k) (ry : Rep W F ph y v) (rv : RelV v u) : ∀ {kvs : List (PV × PV)} {us : List (Key × Value)}, EK W F ph kvs us → (us.map (·.1)).Nodup →
    EK W F ph (setKv x y kvs) (stored us k u)
  | _, _, .nil, _ => .cons hx ry rv .nil
  | _, _, .cons (x := x') (k := k') (u := u') (us := us) hk r rv' t, h => by
    rw [List.map_cons, List.nodup_cons] at h
    have ih := EK.put hx ry rv t h.2
    have e := eqP_key hk hx
    by_cases c : k' = k
    · have e' : eqP x' x = true := by rw [e]; simp [c]
      have no : us.map (fun kv => if kv.1 = k then (kv.1, u) else kv) = us := by
        have : ∀ kv ∈ us, (if kv.1 = k then (kv.1, u) else kv) = kv := fun kv hm => if_neg fun z => h.1 (by rw [c, ← z]; exact List.mem_map.mpr ⟨kv, hm, rfl⟩)
        rw [List.map_congr_left this, List.map_id']
      have q : stored ((k', u') :: us) k u = (k', u) :: us := by
        simp only [stored, List.any_cons, c, decide_true, Bool.true_or, if_true, List.map_cons]
        rw [no]
      rw [q]
      simp only [setKv, if_pos e']
      exact .cons hk ry rv t
    · have e' : eqP x' x = false := by rw [e]; simp [c]
      have q : stored ((k', u') :: us) k u = (k', u') :: stored us k u := by
        simp only [stored, List.any_cons, c, decide_false, Bool.false_or, List.map_cons, if_false]
        split <;> rfl
      rw [q]
      simp only [setKv, e', Bool.false_eq_true, if_false]
      exact .cons hk r rv' ih
theorem ET.put {x y : PV} {k : List Key} {b : Addr} {v : V} {u : Value} (hx : tkeyOf x = some k) (hb : TKey W F b k) (ry : Rep W F ph y v) (rv : RelV v u) : ∀ {kvs : List (PV × PV)} {us : List (List Key × Addr × Value)}, ET W F ph kvs us → (us.map (·.1)).Nodup →
    ET W F ph (setKv x y kvs) (storedH us k b u)
  | _, _, .nil, _ => .cons hx hb ry rv .nil
  | _, _, .cons (x := x') (k := k') (b := b') (u := u') (us := us) hk hb' r rv' t, h => by
    rw [List.map_cons, List.nodup_cons] at h
    have ih := ET.put hx hb ry rv t h.2
    have e := eqP_tkey hk hx
    by_cases c : k' = k
    · have e' : eqP x' x = true := by rw [e]; simp [c]
      have no : us.map (putAt k u) = us := by
        have : ∀ kv ∈ us, putAt k u kv = kv := fun kv hm => if_neg fun z => h.1 (by rw [c, ← z]; exact List.mem_map.mpr ⟨kv, hm, rfl⟩)
        rw [List.map_congr_left this, List.map_id']
      have q : storedH ((k', b', u') :: us) k b u = (k', b', u) :: us := by
        have a1 : atKey ((k', b', u') :: us) k = some (b', u') := by simp [atKey, List.find?_cons, c]
        rw [storedH_old a1, List.map_cons, no]
        simp [putAt, c]
      rw [q]
      simp only [setKv, if_pos e']
      exact .cons hk hb' ry rv t
    · have e' : eqP x' x = false := by rw [e]; simp [c]
      have q : storedH ((k', b', u') :: us) k b u = (k', b', u') :: storedH us k b u := by
        have a1 : atKey ((k', b', u') :: us) k = atKey us k := by simp [atKey, List.find?_cons, c]
        unfold storedH
        rw [a1]
        split
        · rw [List.map_cons]; simp [putAt, c]
        · rfl
      rw [q]
      simp only [setKv, e', Bool.false_eq_true, if_false]
      exact .cons hk hb' r rv' ih
theorem EK.back : ∀ {kvs : List (PV × PV)} {us : List (Key × Value)} {es : List DictEntry}, EK W F ph kvs us → Pairs (mixKind W.P W.w) es us →
    (∀ e ∈ es, ∃ k, (mixKind W.P W.w).is k e.key = true ∧ e.hash = (mixKind W.P W.w).hash k) → RepD W F ph kvs es
  | _, _, _, .nil, p, _ => by cases p; exact .nil
  | _, _, _, .cons (k := k) hk r rv t, p, q => by
    cases p with
    | @cons e _ es _ h1 h2 p' =>
      obtain ⟨j, hj, hh⟩ := q e List.mem_cons_self
      have ej : j = k := (mixKind W.P W.w).inj _ _ _ hj h1
      subst ej
      exact .cons (by rw [hh]; exact .scal hk h1) r (by rw [h2]; exact rv) (EK.back t p' fun e he => q e (List.mem_cons_of_mem _ he))
theorem ET.back : ∀ {kvs : List (PV × PV)} {us : List (List Key × Addr × Value)}, ET W F ph kvs us → RepD W F ph kvs (us.map (entryOfKey (tupleKind (mixKind W.P W.w))))
  | _, _, .nil => .nil
  | _, _, .cons hk hb r rv t => .cons (.tup hk hb) r rv (ET.back t)
theorem pairwise_put {x y : PV} : ∀ {kvs : List (PV × PV)}, (kvs.map (·.1)).Pairwise (fun x y => eqP x y = false) → ((setKv x y kvs).map (·.1)).Pairwise (fun x y => eqP x y = false)
  | [], _ => by simp [setKv]
  | (k, v) :: r, h => by
    rw [List.map_cons, List.pairwise_cons] at h
    unfold setKv
    by_cases c : eqP k x = true
    · rw [if_pos c, List.map_cons, List.pairwise_cons]; exact h
    · rw [if_neg c, List.map_cons, List.pairwise_cons]
      refine ⟨fun z hz => ?_, pairwise_put h.2⟩
      have : ∀ r : List (PV × PV), ∀ z ∈ (setKv x y r).map (·.1), z = x ∨ z ∈ r.map (·.1) := by
        intro r
        induction r with
        | nil => intro z hz; simp [setKv] at hz; exact .inl hz
        | cons p r ih =>
          intro z hz
          obtain ⟨k', v'⟩ := p
          unfold setKv at hz
          split at hz
          · exact .inr hz
          · rw [List.map_cons] at hz ⊢
            rcases List.mem_cons.mp hz with rfl | hz
            · exact .inr List.mem_cons_self
            · exact (ih z hz).imp id (List.mem_cons_of_mem _)
      rcases this r z hz with rfl | hm
      · simpa using c
      · exact h.1 z hm
theorem ET.keys {us : List (List Key × Addr × Value)} {kvs : List (PV × PV)} (h : ET W F ph kvs us) : ∀ z ∈ us, TKey W F z.2.1 z.1 := by
  induction h with
  | nil => intro z hz; simp at hz
  | cons hk hb r rv t ih =>
    intro z hz
    rcases List.mem_cons.mp hz with rfl | hz
    · exact hb
    · exact ih z hz
theorem setKv_length (x y : PV) : ∀ kvs : List (PV × PV), (setKv x y kvs).length ≤ kvs.length + 1
  | [] => by simp [setKv]
  | (k, v) :: r => by
    have ih := setKv_length x y r
    unfold setKv
    split <;> simp <;> omega
end
end MP
set_option maxRecDepth 100000
/-! MiniPy: comparisons, items, dicts over the machine. -/
namespace MP
open PySem PySem.Spec PyProof.Rows L2
section
variable {W : Wd} {X : Cx} {pins : List (Addr × Obj)} {σ : L2.St} {H F : Hp} {s : Shared} {ph : List Addr} {hp : Hs}
theorem Fit.u1 (fit : Fit W X) : X.A.units + 1 < cLine := by have := fit.un; omega
theorem TKey.at_ (fit : Fit W X) (I : Inv X pins σ H s) (hR : RelH W F ph hp H) {b : Addr} {ks : List Key} (h : TKey W F b ks) : (tupleKind (mixKind W.P W.w)).is s.heap ks b := by
  have q : SqT X.K H b (ks.map kV) := by
    rw [fit.K]
    exact h.elim (fun e => .inl (hR.sub _ _ e)) fun e => .inr e
  obtain ⟨its, rv, ⟨o, h1, h2, n, h3⟩, _⟩ := I.tuple q
  exact ⟨o, its.toArray, n, h1, h2, h3, by simpa using items_are rv⟩
theorem tkey_of {x : PV} {ks : List Key} {v : V} (hx : tkeyOf x = some ks) (r : Rep W F ph x v) : ∃ b, v = .ref b ∧ TKey W F b ks := by
  cases x <;> simp [tkeyOf] at hx
  cases r with
  | tup e q => rw [keysOf_rel hx q] at e; exact ⟨_, rfl, .inl e⟩
  | ktup e q => rw [keysOf_rel hx q] at e; exact ⟨_, rfl, .inr e⟩
  | obj e q => cases q
theorem obj_at (I : Inv X pins σ H s) {a : Addr} {ob : Obj} (h : Rd H a (dctO a ob)) : s.heap.get? a = some ob := by
  have q := h.ok I.hok
  exact q.1
theorem okKey_iff {k : PV} {kvs : List (PV × PV)} (h : okKey k kvs = true) : (isKey k = true ∧ (keysP kvs).all isKey = true) ∨ (isTKey k = true ∧ (keysP kvs).all isTKey = true) := by
  simpa only [okKey, Bool.or_eq_true, Bool.and_eq_true] using h
/-- the dict as the library's rules want it -/
theorem dict_of (fit : Fit W X) (I : Inv X pins σ H s) (hR : RelH W F ph hp H) {a : Addr} {o : HO} {kvs : List (PV × PV)} (ho : Rd H a o) (r : ORep W F ph a (.dct kvs) o) {k : PV} (ok : okKey k kvs = true) :
    (a == sysModules) = false ∧ (kvs.map (·.1)).Pairwise (fun x y => eqP x y = false) ∧ kvs.length ≤ sizeLine ∧
    ((∃ kk us, keyOf k = some kk ∧ s.heap.DictOf (mixKind X.prog X.w) a us ∧ EK W F ph kvs us ∧ us.length = kvs.length) ∨
     ∃ kk us, tkeyOf k = some kk ∧ s.heap.DictOfH (tupleKind (mixKind X.prog X.w)) a us ∧ ET W F ph kvs us ∧ us.length = kvs.length) := by
  cases r with
  | dct h1 h2 h3 h4 h5 r =>
    have e := obj_at I ho
    have hl : kvs.length ≤ sizeLine := by rw [r.length]; simpa using h4
    refine ⟨h1, h5, hl, ?_⟩
    rcases okKey_iff ok with ⟨k1, k2⟩ | ⟨k1, k2⟩
    · obtain ⟨kk, hk⟩ := isKey_some k1
      obtain ⟨us, p, q, z⟩ := r.scal k2
      refine .inl ⟨kk, us, hk, ?_, z, by rw [← p.length, r.length]⟩
      rw [fit.P, fit.w]
      exact ⟨_, _, _, e, h2, h3, fun en hm => q en (by simpa using hm), p, z.nodup h5⟩
    · obtain ⟨kk, hk⟩ := isTKey_some k1
      obtain ⟨us, p, z⟩ := r.tupk k2
      refine .inr ⟨kk, us, hk, ?_, z, by rw [r.length, p, List.length_map]⟩
      rw [fit.P, fit.w]
      exact ⟨_, _, _, e, h2, h3, p, fun x hx => TKey.at_ fit I hR (z.keys x hx), z.nodup h5⟩
theorem Rep.dctAt {kvs : List (PV × PV)} {x : V} (h : RelH W F ph hp H) (r : Rep W F ph (.dct kvs) x) : ∃ a o, x = .ref a ∧ F a = some o ∧ Rd H a o ∧ ORep W F ph a (.dct kvs) o := by
  cases r with
  | obj e q => exact ⟨_, _, rfl, e, h.sub _ _ e, q⟩
/-- k in d -/
theorem dict_in (fit : Fit W X) (neg : Bool) (I : Inv X pins σ H s) (hR : RelH W F ph hp H) {kvs : List (PV × PV)} {k : PV} {x y : V} {u v : Value} {Q : VK} (ok : okKey k kvs = true)
    (rx : RelV x u) (ry : RelV y v) (qx : Rep W F ph k x) (qy : Rep W F ph (.dct kvs) y) (q : Q (.bl (if neg then !memP k (keysP kvs) else memP k (keysP kvs))) H) :
    wpAny (model X.prog X.w) X.A (compareOp (if neg then .NotIn else .In) u v) (EP X pins σ Q) X.xe s := by
  obtain ⟨a, o, rfl, e, ho, r⟩ := qy.dctAt hR
  obtain rfl : v = Value.ref a := ry
  obtain ⟨h1, h5, hl, c⟩ := dict_of fit I hR ho r ok
  rw [getKv_isSome] at q
  rcases c with ⟨kk, us, hk, dd, ek, _⟩ | ⟨kk, us, hk, dd, ek, _⟩
  · obtain ⟨i1, i2⟩ := ek.look hk
    have some_eq : (valueAt us kk).isSome = (getKv k kvs).isSome := by
      cases g : getKv k kvs with
      | none => rw [i2 g]; rfl
      | some y => obtain ⟨_, _, e, _⟩ := i1 y g; rw [e]; rfl
    have kis : (mixKind X.prog X.w).is kk u = true := by rw [keyOf_rel hk qx] at rx; exact kV_is rx
    cases neg with
    | true => exact wpAny_notIn_of kis h1 dd.mapOf ⟨.bl _, H, I.tok _, by rw [some_eq]; rfl, q⟩
    | false => exact wpAny_in_of kis h1 dd.mapOf ⟨.bl _, H, I.tok _, by rw [some_eq]; rfl, q⟩
  · obtain ⟨i1, i2⟩ := ek.look hk
    have some_eq : (atKey us kk).isSome = (getKv k kvs).isSome := by
      cases g : getKv k kvs with
      | none => rw [i2 g]; rfl
      | some y => obtain ⟨_, _, _, e, _⟩ := i1 y g; rw [e]; rfl
    obtain ⟨b, rfl, tb⟩ := tkey_of hk qx
    obtain rfl : u = Value.ref b := rx
    have kis := TKey.at_ fit I hR tb
    rw [← fit.P, ← fit.w] at kis
    cases neg with
    | true => exact wpAny_notIn_heap (tupleKind_room_in1 fit.u1) kis h1 dd ⟨.bl _, H, I.tok _, by rw [some_eq]; rfl, q⟩
    | false => exact wpAny_in_heap (tupleKind_room_in1 fit.u1) kis h1 dd ⟨.bl _, H, I.tok _, by rw [some_eq]; rfl, q⟩
/-- a value, or what a tracked object holds -/
def RepX (W : Wd) (F : Hp) (ph : List Addr) (H : Hp) (v : PV) (x : V) : Prop := Rep W F ph v x ∨ ∃ a o, x = .ref a ∧ H a = some o ∧ ORep W F ph a v o
theorem RepX.lstAt {xs : List PV} {x : V} (h : RelH W F ph hp H) (r : RepX W F ph H (.lst xs) x) : ∃ a vs, x = .ref a ∧ SqL W.K H a vs ∧ RepA W F ph xs vs := by
  rcases r with r | ⟨a, o, rfl, e, r⟩
  · obtain ⟨a, vs, e1, _, e2, e3⟩ := r.lstAt h
    exact ⟨a, vs, e1, e2, e3⟩
  · cases r with | lst r => exact ⟨a, _, rfl, .inl (.inl e), r⟩
theorem RepX.tupR {xs : List PV} {x : V} (r : RepX W F ph H (.tup xs) x) : Rep W F ph (.tup xs) x := by
  rcases r with r | ⟨a, o, rfl, e, r⟩
  · exact r
  · cases r
theorem RepX.strR {xs : Str} {x : V} (r : RepX W F ph H (.str xs) x) : Rep W F ph (.str xs) x := by
  rcases r with r | ⟨a, o, rfl, e, r⟩
  · exact r
  · cases r
theorem RepX.dctAt {kvs : List (PV × PV)} {x : V} (h : RelH W F ph hp H) (r : RepX W F ph H (.dct kvs) x) : ∃ a o, x = .ref a ∧ Rd H a o ∧ ORep W F ph a (.dct kvs) o := by
  rcases r with r | ⟨a, o, rfl, e, r⟩
  · obtain ⟨a, o, e1, _, e2, e3⟩ := r.dctAt h
    exact ⟨a, o, e1, e2, e3⟩
  · exact ⟨a, o, rfl, .inl e, r⟩
/-- d[k], there -/
theorem dict_get (fit : Fit W X) (I : Inv X pins σ H s) (hR : RelH W F ph hp H) {kvs : List (PV × PV)} {k y : PV} {x d : V} {u v : Value} {Q : VK} (ok : okKey k kvs = true) (g : getKv k kvs = some y)
    (rx : RelV d v) (ry : RelV x u) (qx : RepX W F ph H (.dct kvs) d) (qy : Rep W F ph k x) (q : ∀ z, Rep W F ph y z → Q z H) :
    wpAny (model X.prog X.w) X.A (getItem v u) (EP X pins σ Q) X.xe s := by
  obtain ⟨a, o, rfl, ho, r⟩ := qx.dctAt hR
  obtain rfl : v = Value.ref a := rx
  obtain ⟨h1, h5, hl, c⟩ := dict_of fit I hR ho r ok
  rcases c with ⟨kk, us, hk, dd, ek, _⟩ | ⟨kk, us, hk, dd, ek, _⟩
  · obtain ⟨i1, i2⟩ := ek.look hk
    obtain ⟨z, w', e, rz, rep⟩ := i1 y g
    have kis : (mixKind X.prog X.w).is kk u = true := by rw [keyOf_rel hk qy] at ry; exact kV_is ry
    exact wpAny_getItem_of kis dd.mapOf e ⟨z, H, I.tok _, rz, q z rep⟩
  · obtain ⟨i1, i2⟩ := ek.look hk
    obtain ⟨z, b', w', e, rz, rep⟩ := i1 y g
    obtain ⟨b, rfl, tb⟩ := tkey_of hk qy
    obtain rfl : u = Value.ref b := ry
    have kis := TKey.at_ fit I hR tb
    rw [← fit.P, ← fit.w] at kis
    exact wpAny_getItem_heap (tupleKind_room_in1 fit.u1) kis dd e ⟨z, H, I.tok _, rz, q z rep⟩
theorem ext_ok {h : Heap} {a : Addr} {ob : Obj} {P : Program} {w : World} {H : Hp} (e : h.get? a = some ob) : ObjOk P w H h a (dctO a ob) := ⟨e, ⟨ob, e⟩, fun _ _ p k => k _ p⟩
theorem exact_mut {a : Addr} {ob : Obj} : Mut (some (dctO a ob)) := trivial
/-- d[k] = v, d's object changed -/
theorem dict_put (fit : Fit W X) (I : Inv X pins σ H s) (hR : RelH W F ph hp H) {a : Addr} {o : HO} {kvs : List (PV × PV)} {k y : PV} {x d : V} {u r : Value} {Q : Unit → Shared → Prop} (ok : okKey k kvs = true) (hl : kvs.length < sizeLine)
    (ho : H a = some o) (ro : ORep W F ph a (.dct kvs) o) (rx : RelV x u) (rd : RelV d r) (qx : Rep W F ph k x) (qd : Rep W F ph y d)
    (q : ∀ o' s', Inv X pins σ (upd H a o') s' → ORep W F ph a (.dct (setKv k y kvs)) o' → Q () s') : wpAny (model X.prog X.w) X.A (setItem (.ref a) u r) Q X.xe s := by
  obtain ⟨h1, h5, hl', c⟩ := dict_of fit I hR (.inl ho) ro ok
  have mu : Mut (H a) := by rw [ho]; cases ro; trivial
  have len := setKv_length k y kvs
  rcases c with ⟨kk, us, hk, dd, ek, lu⟩ | ⟨kk, us, hk, dd, ek, lu⟩
  · have kis : (mixKind X.prog X.w).is kk u = true := by rw [keyOf_rel hk qx] at rx; exact kV_is rx
    refine wpAny_setItem_pairs (hsz := by rw [lu]; exact hl') kis dd fun h' dd' hs => ?_
    obtain ⟨o', es', ep', g', x', dt', ko', pr', nd'⟩ := dd'
    rw [fit.P, fit.w] at ko' pr'
    have ek' := ek.put hk qd rd (ek.nodup h5)
    have back := ek'.back pr' fun en hm => ko' en (by simpa using hm)
    refine q (dctO a o') _ (d_write I mu hs ⟨o', g'⟩ (ext_ok g')) (.dct h1 x' dt' ?_ (pairwise_put h5) back)
    have l2 : (setKv k y kvs).length = es'.size := by rw [back.length]; simp
    omega
  · obtain ⟨b, rfl, tb⟩ := tkey_of hk qx
    obtain rfl : u = Value.ref b := rx
    have kis := TKey.at_ fit I hR tb
    rw [← fit.P, ← fit.w] at kis
    refine wpAny_setItem_heap (hsz := by rw [lu]; exact hl') (tupleKind_room_in1 fit.u1) kis dd fun h' dd' hs => ?_
    obtain ⟨o', es', ep', g', x', dt', pr', _, nd'⟩ := dd'
    rw [fit.P, fit.w] at pr'
    have ek' := ek.put hk tb qd rd (ek.nodup h5)
    have back := ek'.back
    rw [← pr'] at back
    refine q (dctO a o') _ (d_write I mu hs ⟨o', g'⟩ (ext_ok g')) (.dct h1 x' dt' ?_ (pairwise_put h5) back)
    have l2 : (setKv k y kvs).length = es'.size := by rw [back.length]; simp
    omega
/-- {} -/
theorem pe_edct {pos : Pos} (fit : Fit W X) : PE X (.Dict [] [] pos) (fun _ H Q => ∀ p ob, H p = none → (∀ F ph, ORep W F ph p (.dct []) (dctO p ob)) → Q (.ref p) (upd H p (dctO p ob))) := by
  refine ⟨fun pins s σ H Q I h => wpAny_Dict_empty ?_⟩
  have g : (s.heap.push { cls := .type "dict", data := .dict #[] }).get? s.heap.objs.size = some { cls := .type "dict", data := .dict #[] } := Heap.get?_push_size _ rfl
  refine ⟨.ref _, _, I.laid (t' := s.toks) (fun _ _ q => Heap.get?_push_of_some _ q) (Nat.le_refl _) (ext_ok g), rfl, h _ _ I.fresh fun F ph => ?_⟩
  exact .dct (es := #[]) (ep := 0) (beq_eq_false_iff_ne.mpr (Ne.symm (Nat.ne_of_lt I.big))) ⟨rfl, rfl, rfl⟩ rfl (Nat.zero_le _) List.Pairwise.nil .nil
end
/-! ### comparisons -/
section
variable {W : Wd} {X : Cx}

theorem Rep.isNon {F : Hp} {ph : List Addr} {v : PV} {x : V} (r : Rep W F ph v x) : decide (x = V.non) = MP.isNon v := by
  cases r <;> simp [MP.isNon]
  rename_i e q; cases q <;> simp
theorem lift_bl {pins : List (Addr × Obj)} {σ : L2.St} {H : Hp} {s : Shared} {Q : VK} {b b' : Bool} (I : Inv X pins σ H s) (q : Q (.bl b) H) (e : b' = b) : EP X pins σ Q (.bool b') s := by
  subst e; exact ⟨.bl _, H, I, rfl, q⟩
/-- the two data read in the heap, and can be laid -/
theorem reads2 (fit : Fit W X) {pins : List (Addr × Obj)} {σ : L2.St} {H F : Hp} {s : Shared} {ph : List Addr} {hp : Hs} {x : V} {v : Value} {vx : PV} (I : Inv X pins σ H s) (rx : RelV x v) (hR : RelH W F ph hp H)
    (qx : Rep W F ph vx x) (dx : vx.dat = true) : (∃ as, Reads s.heap v (toD vx) as) ∧ PyData.canLay0 (toD vx) = true := by
  have h1 := qx.dp hR vx dx
  rw [← fit.K] at h1
  exact ⟨h1.reads I _ _ _ rx, qx.lay vx dx⟩
theorem reads2X (fit : Fit W X) {pins : List (Addr × Obj)} {σ : L2.St} {H F : Hp} {s : Shared} {ph : List Addr} {hp : Hs} {x : V} {v : Value} {vx : PV} (I : Inv X pins σ H s) (rx : RelV x v) (hR : RelH W F ph hp H)
    (qx : RepXL W F ph H vx x) (dx : vx.dat = true) : (∃ as, Reads s.heap v (toD vx) as) ∧ PyData.canLay0 (toD vx) = true := by
  have h1 := qx.dp hR vx dx
  rw [← fit.K] at h1
  refine ⟨h1.reads I _ _ _ rx, ?_⟩
  rcases qx with r | ⟨ys, a, o, rfl, rfl, e, r⟩
  · exact r.lay vx dx
  · cases r with | lst r => simpa [toD, PyData.canLay0] using RepA.lay ys (by simpa [PV.dat] using dx) r
theorem op_cmp (fit : Fit W X) (op : Cop) : OpR X (compareOp (cmpOf op)) (r2b W (cmpP op)) := by
  intro pins s σ H x y v u Q I rx ry ⟨F, ph, hp, vx, vy, b, hR, qx, qy, e, hQ⟩
  have hu := fit.un
  cases op with
  | eq =>
    simp only [cmpP] at e
    split at e <;> cases e
    rename_i h
    obtain ⟨dx, dy, m⟩ := okEq_iff h
    obtain ⟨⟨as, r1⟩, l1⟩ := reads2 fit I rx hR qx dx
    obtain ⟨⟨bs, r2⟩, l2⟩ := reads2X fit I ry hR qy dy
    exact SeqAt.compareEq_reads r1 r2 l1 l2 (by rw [toD_dep, toD_dep]; exact room60 hu m) (lift_bl I hQ (toD_eqv _ _ dx dy))
  | ne =>
    simp only [cmpP] at e
    split at e <;> cases e
    rename_i h
    obtain ⟨dx, dy, m⟩ := okEq_iff h
    obtain ⟨⟨as, r1⟩, l1⟩ := reads2 fit I rx hR qx dx
    obtain ⟨⟨bs, r2⟩, l2⟩ := reads2X fit I ry hR qy dy
    exact SeqAt.compareNe_reads r1 r2 l1 l2 (by rw [toD_dep, toD_dep]; exact room60 hu m) (lift_bl I hQ (by rw [toD_eqv _ _ dx dy]))
  | lt =>
    simp only [cmpP] at e
    split at e <;> cases e
    rename_i h
    obtain ⟨a, m, n, dx, dy⟩ := okLt_all h
    obtain ⟨⟨as, r1⟩, l1⟩ := reads2 fit I rx hR qx dx
    obtain ⟨⟨bs, r2⟩, l2⟩ := reads2X fit I ry hR qy dy
    exact PySem.W.lt_data r1 r2 (toD_alk _ _ a) (toD_none n dx) (by rw [toD_dep, toD_dep]; exact room60 hu m) (lift_bl I hQ (alk_lt _ _ a))
  | gt =>
    simp only [cmpP] at e
    split at e <;> cases e
    rename_i h
    obtain ⟨a, m, n, dx, dy⟩ := okLt_all h
    obtain ⟨⟨as, r1⟩, l1⟩ := reads2 fit I rx hR qx dx
    obtain ⟨⟨bs, r2⟩, l2⟩ := reads2X fit I ry hR qy dy
    exact PySem.W.gt_data r1 r2 (toD_alk _ _ a) (toD_none n dx) (by rw [toD_dep, toD_dep]; exact room60 hu m) (lift_bl I hQ (alk_lt _ _ (alk_symm _ _ a)))
  | le =>
    simp only [cmpP] at e
    split at e <;> cases e
    rename_i h
    obtain ⟨a, m, n, dx, dy⟩ := okLt_all h
    obtain ⟨⟨as, r1⟩, l1⟩ := reads2 fit I rx hR qx dx
    obtain ⟨⟨bs, r2⟩, l2⟩ := reads2X fit I ry hR qy dy
    exact PySem.W.le_data r1 r2 (toD_alk _ _ a) (toD_none n dx) (by rw [toD_dep, toD_dep]; exact room60 hu m) (lift_bl I hQ (by rw [alk_lt _ _ (alk_symm _ _ a)]))
  | ge =>
    simp only [cmpP] at e
    split at e <;> cases e
    rename_i h
    obtain ⟨a, m, n, dx, dy⟩ := okLt_all h
    obtain ⟨⟨as, r1⟩, l1⟩ := reads2 fit I rx hR qx dx
    obtain ⟨⟨bs, r2⟩, l2⟩ := reads2X fit I ry hR qy dy
    exact PySem.W.ge_data r1 r2 (toD_alk _ _ a) (toD_none n dx) (by rw [toD_dep, toD_dep]; exact room60 hu m) (lift_bl I hQ (by rw [alk_lt _ _ a]))
  | isin =>
    simp only [cmpP, inP] at e
    split at e
    · rename_i ys
      split at e <;> cases e
      rename_i h
      obtain ⟨dx, dy, m⟩ := okMem_iff h
      obtain ⟨⟨as, r1⟩, l1⟩ := reads2 fit I rx hR qx dx
      obtain ⟨⟨bs, r2⟩, l2⟩ := reads2X fit I ry hR qy (by simpa [PV.dat] using dy)
      exact SeqAt.in_list_reads r2 r1 (by simpa [toD, PyData.canLay0] using l2) l1 (by rw [toDs_dep, toD_dep]; exact room61 hu m) (lift_bl I hQ (any_eqv dx dy))
    · rename_i ys
      split at e <;> cases e
      rename_i h
      obtain ⟨dx, dy, m⟩ := okMem_iff h
      obtain ⟨⟨as, r1⟩, l1⟩ := reads2 fit I rx hR qx dx
      obtain ⟨⟨bs, r2⟩, l2⟩ := reads2X fit I ry hR qy (by simpa [PV.dat] using dy)
      exact SeqAt.in_tuple_reads r2 r1 (by simpa [toD, PyData.canLay0] using l2) l1 (by rw [toDs_dep, toD_dep]; exact room61 hu m) (lift_bl I hQ (any_eqv dx dy))
    · split at e <;> cases e
      rename_i h
      exact dict_in fit false I hR h rx ry qx (qy.rep fun _ e => nomatch e) hQ
    · split at e
      · cases e
        obtain ⟨rfl, _⟩ := qx.strV
        obtain ⟨rfl, _⟩ := qy.strV
        exact op_in_str pins s σ H _ _ v u Q I rx ry ⟨_, _, rfl, rfl, hQ⟩
      · cases e
    · cases e
  | nin =>
    simp only [cmpP, inP, Option.map_eq_some_iff] at e
    obtain ⟨b', e, rfl⟩ := e
    split at e
    · rename_i ys
      split at e <;> cases e
      rename_i h
      obtain ⟨dx, dy, m⟩ := okMem_iff h
      obtain ⟨⟨as, r1⟩, l1⟩ := reads2 fit I rx hR qx dx
      obtain ⟨⟨bs, r2⟩, l2⟩ := reads2X fit I ry hR qy (by simpa [PV.dat] using dy)
      exact SeqAt.notIn_list_reads r2 r1 (by simpa [toD, PyData.canLay0] using l2) l1 (by rw [toDs_dep, toD_dep]; exact room61 hu m) (lift_bl I hQ (congrArg _ (any_eqv dx dy)))
    · rename_i ys
      split at e <;> cases e
      rename_i h
      obtain ⟨dx, dy, m⟩ := okMem_iff h
      obtain ⟨⟨as, r1⟩, l1⟩ := reads2 fit I rx hR qx dx
      obtain ⟨⟨bs, r2⟩, l2⟩ := reads2X fit I ry hR qy (by simpa [PV.dat] using dy)
      exact SeqAt.notIn_tuple_reads r2 r1 (by simpa [toD, PyData.canLay0] using l2) l1 (by rw [toDs_dep, toD_dep]; exact room61 hu m) (lift_bl I hQ (congrArg _ (any_eqv dx dy)))
    · split at e <;> cases e
      rename_i h
      exact dict_in fit true I hR h rx ry qx (qy.rep fun _ e => nomatch e) hQ
    · split at e
      · cases e
        obtain ⟨rfl, _⟩ := qx.strV
        obtain ⟨rfl, _⟩ := qy.strV
        exact op_notin_str pins s σ H _ _ v u Q I rx ry ⟨_, _, rfl, rfl, hQ⟩
      · cases e
    · cases e
  | is =>
    simp only [cmpP, isP] at e
    split at e
    · cases e; cases qy.nonV
      refine op_isN pins s σ H _ _ v u Q I rx ry ⟨rfl, ?_⟩
      rw [qx.isNon]; exact hQ
    · split at e <;> cases e
      cases qy.blV; cases qx.blV
      refine op_isBl pins s σ H _ _ v u Q I rx ry ⟨_, _, rfl, rfl, ?_⟩
      rw [← Bool.beq_eq_decide_eq]; exact hQ
    · cases e
  | isnt =>
    simp only [cmpP, isP, Option.map_eq_some_iff] at e
    obtain ⟨b', e, rfl⟩ := e
    split at e
    · cases e; cases qy.nonV
      refine op_notN pins s σ H _ _ v u Q I rx ry ⟨rfl, ?_⟩
      rw [qx.isNon]; exact hQ
    · split at e <;> cases e
      cases qy.blV; cases qx.blV
      refine op_notBl pins s σ H _ _ v u Q I rx ry ⟨_, _, rfl, rfl, ?_⟩
      rw [← Bool.beq_eq_decide_eq]; exact hQ
    · cases e
end
end MP
set_option maxRecDepth 100000
/-! MiniPy: items, slices over the machine. -/
namespace MP
open PySem PySem.Spec PyProof.Rows L2
theorem clip_eq (n d : Nat) (o : Option Int) : clipI n d o = HT.sIx n d o := by cases o <;> rfl
theorem cut_eq {α : Type} (xs : List α) (lo hi : Option Int) : cutL xs lo hi = (xs.drop (HT.sIx xs.length 0 lo)).take (HT.sIx xs.length xs.length hi - HT.sIx xs.length 0 lo) := by
  unfold cutL; rw [clip_eq, clip_eq]
theorem atP_eq {α : Type} (xs : List α) (i : Int) : atP xs i = atI xs i := by
  unfold atP atI ixN
  by_cases h : 0 ≤ i
  · rw [if_pos h, if_pos h]
    by_cases h2 : i < xs.length
    · rw [if_pos h2]; rfl
    · rw [if_neg h2, List.getElem?_eq_none (by omega)]; rfl
  · rw [if_neg h, if_neg h]
    by_cases h2 : -(xs.length : Int) ≤ i
    · rw [if_pos h2, if_pos h2]; rfl
    · rw [if_neg h2, if_neg h2]; rfl
section
variable {W : Wd} {F : Hp} {ph : List Addr}
theorem RepA.at_ {xs : List PV} {vs : List V} {i : Int} {y : PV} (r : RepA W F ph xs vs) (h : atP xs i = some y) : ∃ v, atI vs i = some v ∧ Rep W F ph y v := by
  rw [atP_eq] at h
  unfold atI at h ⊢
  rw [← r.length]
  cases e : ixN xs.length i with
  | none => rw [e] at h; cases h
  | some j =>
    rw [e] at h
    exact r.get h
theorem cutA {xs : List PV} {vs : List V} (r : RepA W F ph xs vs) (lo hi : Option Int) : RepA W F ph (cutL xs lo hi) (cutV vs lo hi) := by
  rw [cut_eq]; unfold cutV
  rw [← r.length]
  exact (r.drop _).take _
theorem sIx_whole {α : Type} {xs : List α} {lo hi : Option Int} (h : HT.sIx xs.length 0 lo = 0 ∧ HT.sIx xs.length xs.length hi = xs.length) : cutL xs lo hi = xs := by
  rw [cut_eq, h.1, h.2]; simp
theorem strOk_cut {z : Str} (h : PyData.strOk z = true) (lo hi : Option Int) : PyData.strOk ⟨(cutL z.cps.toList lo hi).toArray⟩ = true := by
  unfold PyData.strOk at *
  rw [Array.all_eq_true'] at h ⊢
  intro c hc
  refine h c ?_
  have h1 : c ∈ cutL z.cps.toList lo hi := by simpa using hc
  unfold cutL at h1
  have h2 := List.mem_of_mem_drop (List.mem_of_mem_take h1)
  simpa using h2
theorem strOk_one {z : Str} (h : PyData.strOk z = true) {c : Nat} (hc : c ∈ z.cps.toList) : PyData.strOk ⟨#[c]⟩ = true := by
  unfold PyData.strOk at *
  rw [Array.all_eq_true'] at h ⊢
  intro d hd
  have : d = c := by simpa using hd
  subst this
  exact h d (by simpa using hc)
end
/-- a value out of two values -/
def r2v (W : Wd) (f : PV → PV → Option PV) : R2 := fun x y H Q => ∃ F ph hp vx vy v, RelH W F ph hp H ∧ RepX W F ph H vx x ∧ Rep W F ph vy y ∧ f vx vy = some v ∧ ∀ z, Rep W F ph v z → Q z H
theorem mem_of_atI {α : Type} {xs : List α} {i : Int} {v : α} (h : atI xs i = some v) : v ∈ xs := by
  unfold atI at h
  cases e : ixN xs.length i with
  | none => rw [e] at h; cases h
  | some j => rw [e] at h; exact List.mem_of_getElem? h
section
variable {W : Wd} {X : Cx}
theorem ix_any (fit : Fit W X) : IxR X (r2v W idxP) := by
  intro value slice pins s σ H x y v u Q I rx ry ⟨F, ph, hp, vx, vy, w, hR, qx, qy, e, hQ⟩ hs
  unfold idxP at e
  split at e
  · split at e
    · have qx := qx.tupR
      obtain ⟨a, vs, rfl, ha, ra⟩ := qx.tupAt hR
      cases qy.intV
      obtain ⟨z, hz, rz⟩ := ra.at_ e
      rw [← fit.K] at ha
      exact ix_tup value slice pins s σ H _ _ v u Q I rx ry ⟨a, vs, _, z, rfl, rfl, ha, hz, hQ z rz⟩ hs
    · cases e
  · split at e
    · obtain ⟨a, vs, rfl, ha, ra⟩ := qx.lstAt hR
      cases qy.intV
      obtain ⟨z, hz, rz⟩ := ra.at_ e
      rw [← fit.K] at ha
      exact ix_list value slice pins s σ H _ _ v u Q I rx ry ⟨a, vs, _, z, rfl, rfl, ha, hz, hQ z rz⟩ hs
    · cases e
  · split at e
    · split at e
      · rename_i hl
        have qx := qx.strR
        obtain ⟨rfl, ok⟩ := qx.strV
        cases qy.intV
        rw [atP_eq, Option.map_eq_some_iff] at e
        obtain ⟨c, hc, rfl⟩ := e
        exact ix_str value slice pins s σ H _ _ v u Q I rx ry ⟨_, _, c, rfl, rfl, hl, hc, hQ _ (.str _ (strOk_one ok (mem_of_atI hc)))⟩ hs
      · cases e
    · cases e
  · split at e
    · rename_i ok
      obtain ⟨a, o, rfl, ho, r⟩ := qx.dctAt hR
      obtain rfl : v = Value.ref a := rx
      have hT : s.TypeIs (.ref a) "dict" := by
        obtain ⟨_, _, _, c⟩ := dict_of fit I hR ho r ok
        rcases c with ⟨_, _, _, dd, _⟩ | ⟨_, _, _, dd, _⟩
        · exact dd.typeIs
        · exact dd.typeIs
      exact tail_any (ops := [.ref a, u]) hT PySem.F.slot_dict_getitem.lookup (dict_get (d := .ref a) fit I hR ok e rfl ry qx qy hQ) hs
    · cases e
  · cases e
/-- a tuple's slice: the whole of it is the tuple itself, another one is known to the object -/
def rSlM (K : PySem.W.Frag) : V → Option Int → Option Int → Hp → VK → Prop := fun x lo hi H Q => ∃ a xs, x = .ref a ∧ SqT K H a xs ∧ (HT.sIx xs.length 0 lo = 0 ∧ HT.sIx xs.length xs.length hi = xs.length → Q (.ref a) H) ∧
  ∀ p (ob : Obj), ob.dict = none → H p = none → Q (.ref p) (upd H p (.frz ob (.tup (cutV xs lo hi))))
theorem sl_tupM {X : Cx} : SlR X (rSlM X.K) := by
  intro pins s σ H x v vl vu lo hi sl Q I rx hs pl pu ⟨a, xs, ex, hx, q1, q2⟩
  subst ex
  cases rx
  obtain ⟨its, r, ht, hz⟩ := I.tuple hx
  have hlen : its.toArray.size = xs.length := by rw [List.size_toArray]; exact r.length.symm
  refine ⟨"tuple", _, PyProof.Rows.slot_tuple_getitem.lookup, ht.typeIs, ?_⟩
  by_cases hw : HT.sIx xs.length 0 lo = 0 ∧ HT.sIx xs.length xs.length hi = xs.length
  · exact getItem_tuple_whole ht hs pl pu (by rw [hlen]; exact hw) ⟨.ref a, H, I, rfl, q1 hw⟩
  · refine HT.getItem_tuple_cut ht hs pl pu (by rw [hlen]; exact hw) ?_ (by rw [hlen]; exact hz)
    rw [hlen]
    have I2 := lay_tup (t := s.toks) I ((r.drop (HT.sIx xs.length 0 lo)).take (HT.sIx xs.length xs.length hi - HT.sIx xs.length 0 lo)) (Nat.le_trans (cutV_length xs lo hi) hz)
    exact ⟨.ref s.heap.objs.size, _, I2, rfl, q2 _ _ rfl (I.hok.fresh (Nat.le_refl _))⟩
/-- a slice by values -/
def rSl (W : Wd) : V → Option Int → Option Int → Hp → VK → Prop := fun x lo hi H Q => ∃ F ph hp vx r, RelH W F ph hp H ∧ Rep W F ph vx x ∧ slcP vx lo hi = some r ∧ Res W F ph hp H r Q
theorem sl_any (fit : Fit W X) : SlR X (rSl W) := by
  intro pins s σ H x v vl vu lo hi sl Q I rx hs pl pu ⟨F, ph, hp, vx, r, hR, qx, e, hQ⟩
  unfold slcP at e
  split at e
  · cases e
    obtain ⟨a, vs, rfl, ha, ra⟩ := qx.tupAt hR
    rw [← fit.K] at ha
    have hl := ra.length
    refine sl_tupM pins s σ H _ v vl vu lo hi sl Q I rx hs pl pu ⟨a, vs, rfl, ha, fun hw => ?_, fun p ob hd n => hQ.tup hR (cutA ra lo hi) hd n⟩
    rw [← hl] at hw
    rw [sIx_whole hw] at hQ
    exact hQ.at_ hR qx
  · cases e
    obtain ⟨a, vs, rfl, _, ha, ra⟩ := qx.lstAt hR
    rw [← fit.K] at ha
    exact sl_list pins s σ H _ v vl vu lo hi sl Q I rx hs pl pu ⟨a, vs, rfl, ha, fun p n => hQ.new hR (.lst (cutA ra lo hi)) n⟩
  · split at e
    · rename_i z hl
      cases e
      obtain ⟨rfl, ok⟩ := qx.strV
      refine sl_str pins s σ H _ v vl vu lo hi sl Q I rx hs pl pu ⟨_, rfl, hl, ?_⟩
      have q : cutS z lo hi = ⟨(cutL z.cps.toList lo hi).toArray⟩ := by
        unfold cutS; rw [cut_eq]; rfl
      rw [q]
      exact hQ.at_ hR (.str _ (strOk_cut ok lo hi))
    · cases e
  · cases e
/-- t[::-1] of a tuple -/
theorem places_back (n : Nat) : Builtin.Slice.slicePlaces ((n : Int) - 1) (-1) (-1) = n := by
  unfold Builtin.Slice.slicePlaces
  rw [if_neg (by decide)]
  by_cases h : (n : Int) - 1 > -1
  · rw [if_pos h]
    have : ((n : Int) - 1 - -1 - 1) / (- -1) + 1 = n := by
      have e : (- -1 : Int) = 1 := rfl
      rw [e, Int.ediv_one]; omega
    rw [this]; exact Int.toNat_natCast n
  · rw [if_neg h]
    have : n = 0 := by omega
    subst this; rfl
theorem pick_back (xs : List Value) : ((List.range xs.length).filterMap fun (m : Nat) => xs.toArray[(((xs.length : Int) - 1) + (m : Int) * (-1)).toNat]?) = xs.reverse := by
  have e : ∀ m ∈ List.range xs.length, xs.toArray[(((xs.length : Int) - 1) + (m : Int) * (-1)).toNat]? = xs.reverse[m]? := by
    intro m hm
    have hm : m < xs.length := List.mem_range.mp hm
    rw [List.getElem?_reverse hm]
    have : (((xs.length : Int) - 1) + (m : Int) * (-1)).toNat = xs.length - 1 - m := by omega
    rw [this]; simp
  have cg : ∀ (l : List Nat) (f g : Nat → Option Value), (∀ m ∈ l, f m = g m) → l.filterMap f = l.filterMap g := by
    intro l f g
    induction l with
    | nil => intro _; rfl
    | cons a l ih =>
      intro h
      rw [List.filterMap_cons, List.filterMap_cons, h a List.mem_cons_self, ih fun m hm => h m (List.mem_cons_of_mem _ hm)]
  rw [cg _ _ _ e]
  have h : ∀ ys : List Value, (List.range ys.length).filterMap (fun m => ys[m]?) = ys := by
    intro ys
    have h1 : (List.range ys.length).filterMap (fun m => ys[m]?) = ((List.range ys.length).map fun m => ys[m]?).filterMap id := by rw [List.filterMap_map]; rfl
    have h2 : ((List.range ys.length).map fun m => ys[m]?) = ys.map some := by
      apply List.ext_getElem?
      intro i
      by_cases hi : i < ys.length
      · simp [hi]
      · simp [hi]
    rw [h1, h2, List.filterMap_map]; simp
  have := h xs.reverse
  rwa [List.length_reverse] at this
theorem getItem_tuple_back {A : Around} {E : Value → Shared → Prop} {s : Shared} {prog : Program} {w : World} {t sl : Addr} {its : List Value} {k : Tok} {Q : Value → Shared → Prop} (ht : IsTup s.heap t its.toArray) (hs : s.heap.IsSliceOf sl .none .none (.int (-1) k)) (hsz : its.length ≤ sizeLine)
    (h : Q (.ref s.heap.objs.size) { s with heap := s.heap.push { cls := .type "tuple", data := .seq its.reverse.toArray } }) : wpAny (model prog w) A (getItem (.ref t) (.ref sl)) Q E s := by
  obtain ⟨os, hos, hcs, hds⟩ := id hs
  have hTs : s.TypeIs (.ref sl) "slice" := ⟨os, hos, hcs⟩
  have small : sizeOk (.seq its.reverse.toArray) := by show its.reverse.toArray.size ≤ sizeLine; simpa using hsz
  unfold getItem
  try with_reducible refine wpAny_holding ?_
  first | refine wpAny_bind (wpAny_pure ?_) | skip
  refine wpAny_bind (wpAny_sequenceKey ht.typeIs (by decide) ?_)
  refine wpAny_bind (wpAny_callSpecial?_slot (name := Str.ofString "__getitem__") ht.typeIs PyProof.Rows.slot_tuple_getitem (wpAny_call_entry PyProof.Rows.slot_tuple_getitem ht.typeIs entry_tuple_getitem ?_ (args_tuple_getitem _ _)))
  show wpAny _ _ (Builtin.Tuple.tupleItemsOf (.ref t) >>= _) _ _ s
  refine wpAny_bind (tupleItemsOf_ ht ?_)
  refine wpAny_bind (wpAny_typeOf hTs ?_)
  rw [if_pos (by decide)]
  refine wpAny_bind (m := Builtin.Slice.sliceApplied (.ref sl) _) ?_
  unfold Builtin.Slice.sliceApplied Builtin.Slice.sliceFields
  refine wpAny_bind (wpAny_bind (wpAny_field hos hds (x := .none) rfl (wpAny_bind (wpAny_field hos hds (x := .none) rfl (wpAny_bind (wpAny_field hos hds (x := .int (-1) k) rfl (wpAny_pure ?_)))))))
  refine wpAny_bind (HT.slicePart_ (.int (-1) k) ?_)
  show wpAny _ _ (if ((-1 : Int) == 0) = true then _ else _) _ _ s
  rw [if_neg (by decide)]
  refine wpAny_bind (HT.slicePart_ .none (wpAny_bind (HT.slicePart_ .none (wpAny_bind (wpAny_pure ?_)))))
  show wpAny _ _ (pure (((its.toArray.size : Nat) : Int) - 1, (-1 : Int), Builtin.Slice.slicePlaces (((its.toArray.size : Nat) : Int) - 1) (-1) (-1))) _ _ s
  rw [places_back]
  refine wpAny_pure ?_
  have hno : ¬ ((((its.toArray.size : Nat) : Int) - 1 == 0 && (-1 : Int) == 1 && its.toArray.size == its.toArray.size) = true) := by simp
  show wpAny _ _ (if ((((its.toArray.size : Nat) : Int) - 1 == 0 && (-1 : Int) == 1 && its.toArray.size == its.toArray.size) = true) then _ else _) _ _ s
  rw [if_neg hno]
  have pk := congrArg List.toArray (pick_back its)
  rw [show its.toArray.size = its.length by simp, pk]
  first
    | exact wpAny_bind (m := Builtin.Tuple.tupleExact _) (wpAny_newObj_type (wpAny_pure ⟨_, rfl, wpAny_pure h⟩) small)
    | exact wpAny_bind (m := Builtin.Tuple.tupleExact _) (wpAny_newObj_type (wpAny_bind (wpAny_pure (wpAny_pure ⟨_, rfl, wpAny_pure h⟩))) small)
    | exact wpAny_bind (wpAny_bind (m := Builtin.Tuple.tupleExact _) (wpAny_newObj_type (wpAny_pure (wpAny_pure ⟨_, rfl, wpAny_pure h⟩)) small))
    | exact wpAny_bind (wpAny_bind (m := Builtin.Tuple.tupleExact _) (wpAny_newObj_type (wpAny_pure ⟨_, rfl, wpAny_pure h⟩) small))
/-- a[::-1] -/
def tRev (W : Wd) (te : TE) : TE := fun σ H Q => te σ H fun x H1 => ∃ F ph hp vx r, RelH W F ph hp H1 ∧ Rep W F ph vx x ∧ revP vx = some r ∧ Res W F ph hp H1 r Q
theorem pe_rev (fit : Fit W X) {e : Expr} {te : TE} {k : Nat} {p1 p2 p3 pos : Pos} (he : PE X e te) : PE X (.Subscript e (.Slice none none (some (.UnaryOp .USub (.Constant (.int 1) k p1) p2)) p3) pos) (tRev W te) := by
  refine ⟨fun pins s σ H Q I h => ?_⟩
  refine Subscript_ (thn (he.run pins s σ H _ I h) fun v s1 ⟨x, H1, I1, r1, F, ph, hp, vx, r, hR, qx, e1, hQ⟩ => ?_)
  have minus : PO X (some (.UnaryOp .USub (.Constant (.int 1) k p1) p2)) (tPart (tUn (rU fun i => .int (-i)) (tC (.int 1)))) := po_some (pe_un un_neg pe_int)
  refine wpAny_Slice (thn (po_none.run pins s1 σ H1 (fun o H2 => o = none ∧ H2 = H1) I1 ⟨rfl, rfl⟩) fun vl s2 ⟨l, H2, I2, pl, el, e2⟩ => ?_)
  subst el e2
  refine thn (po_none.run pins s2 σ H2 (fun o H3 => o = none ∧ H3 = H2) I2 ⟨rfl, rfl⟩) fun vu s3 ⟨u, H3, I3, pu, eu, e3⟩ => ?_
  subst eu e3
  refine thn (minus.run pins s3 σ H3 (fun o H4 => o = some (-1) ∧ H4 = H3) I3 ⟨1, rfl, -1, rfl, rfl, rfl⟩) fun vs s4 ⟨o, H4, I4, ps, eo, e4⟩ => ?_
  subst eo e4
  cases pl; cases pu
  obtain ⟨tk, rfl⟩ : ∃ tk, vs = Value.int (-1) tk := by cases ps; exact ⟨_, rfl⟩
  have I5 : Inv X pins σ H4 { s4 with heap := s4.heap.push { cls := .type "slice", data := .fields #[.none, .none, .int (-1) tk] } } := I4.kept (t' := s4.toks) fun b ob q => Heap.get?_push_of_some _ q
  show wpAny (model X.prog X.w) X.A (subscriptTail e (.Slice none none (some (.UnaryOp .USub (.Constant (.int 1) k p1) p2)) p3) v (.ref s4.heap.objs.size)) (EP X pins σ Q) X.xe { s4 with heap := s4.heap.push { cls := .type "slice", data := .fields #[.none, .none, .int (-1) tk] } }
  unfold revP at e1
  split at e1
  · cases e1
    obtain ⟨a, ws, rfl, ha, ra⟩ := qx.tupAt hR
    rw [← fit.K] at ha
    obtain rfl : v = Value.ref a := r1
    obtain ⟨its, r, ht, hz⟩ := I5.tuple ha
    refine tail_any (ops := [.ref a, .ref s4.heap.objs.size]) ht.typeIs PyProof.Rows.slot_tuple_getitem.lookup ?_ (by with_unfolding_all rfl)
    refine getItem_tuple_back ht (Heap.IsSliceOf.new ..) (by rw [← r.length]; exact hz) ?_
    have I6 := lay_tup (t := s4.toks) I5 r.reverse (by rw [List.length_reverse]; exact hz)
    exact ⟨.ref _, _, I6, rfl, hQ.tup hR ra.reverse rfl (I5.hok.fresh (Nat.le_refl _))⟩
  · cases e1
    obtain ⟨a, ws, rfl, _, ha, ra⟩ := qx.lstAt hR
    rw [← fit.K] at ha
    obtain rfl : v = Value.ref a := r1
    obtain ⟨its, r, ht, hz⟩ := I5.list ha
    have hlen := r.length
    refine tail_any (ops := [.ref a, .ref s4.heap.objs.size]) ht.isList.typeIs PySem.slot_list_getitem.lookup ?_ (by with_unfolding_all rfl)
    refine wpAny_getItem_list_slice ht.isList (Heap.IsSliceOf.new _ .none .none (.int (-1) tk)) .none .none ps (by decide) ?_ (by rw [List.size_toArray]; omega)
    rw [PySem.W.krv_pick]
    refine ⟨.ref _, _, I5.laid (t' := s4.toks) (o := .lst ws.reverse) (fun b ob q => Heap.get?_push_of_some _ q) (Nat.le_refl _) ?_, rfl, hQ.new hR (.lst ra.reverse) (I5.hok.fresh (Nat.le_refl _))⟩
    exact ⟨by rw [List.length_reverse]; exact hz, _, 0, r.reverse, Heap.get?_push_size _ rfl⟩
  · cases e1
end
end MP
set_option maxRecDepth 100000
/-! MiniPy: built-in functions by values. -/
namespace MP
open PySem PySem.Spec PyProof.Rows L2
def bfV : Bfn → Value
  | .len => .builtin "len" | .int => .type "int" | .sorted => .builtin "sorted" | .set => .type "set" | .tuple => .type "tuple" | .list => .type "list"
  | .sum => .builtin "sum" | .max => .builtin "max" | .min => .builtin "min" | .all => .builtin "all" | .any => .builtin "any" | .abs => .builtin "abs" | .str => .type "str"
/-- the first may be a shared list's content -/
inductive RepXA (W : Wd) (F : Hp) (ph : List Addr) (H : Hp) : List PV → List V → Prop
  | nil : RepXA W F ph H [] []
  | cons {x : PV} {v : V} {xs : List PV} {vs : List V} : RepXL W F ph H x v → RepA W F ph xs vs → RepXA W F ph H (x :: xs) (v :: vs)
def rB (W : Wd) (f : Bfn) : List V → Hp → VK → Prop := fun xs H Q => ∃ F ph hp vs r, RelH W F ph hp H ∧ RepXA W F ph H vs xs ∧ bclP f vs = some r ∧ Res W F ph hp H r Q
theorem strOk_of (x : String) : PyData.strOk (PySem.Str.ofString x) = true := by
  rw [PySem.Str.ofString_eq_toList]
  unfold PyData.strOk
  rw [Array.all_eq_true']
  intro c hc
  have h1 : c ∈ x.toList.map Char.toNat := by simpa using hc
  obtain ⟨d, _, rfl⟩ := List.mem_map.mp h1
  have h2 := d.valid
  have h3 : d.val.toNat < 0xd800 ∨ (0xdfff < d.val.toNat ∧ d.val.toNat < 0x110000) := h2
  have h4 : d.toNat = d.val.toNat := rfl
  rw [decide_eq_true_eq, h4]
  rcases h3 with h | h <;> omega
section
variable {W : Wd} {X : Cx} {F H : Hp} {ph : List Addr} {hp : Hs}
theorem RepA.one {x : PV} {xs : List V} (r : RepA W F ph [x] xs) : ∃ v, xs = [v] ∧ Rep W F ph x v := by
  cases r with
  | cons r t => cases t; exact ⟨_, rfl, r⟩
theorem RepA.two {x y : PV} {xs : List V} (r : RepA W F ph [x, y] xs) : ∃ v u, xs = [v, u] ∧ Rep W F ph x v ∧ Rep W F ph y u := by
  cases r with
  | cons r t => obtain ⟨u, rfl, q⟩ := t.one; exact ⟨_, u, rfl, r, q⟩
theorem len_dict (fit : Fit W X) {pins : List (Addr × Obj)} {s : Shared} {σ : L2.St} {Q : VK} {kvs : List (PV × PV)} {x : V} {u : Value} (I : Inv X pins σ H s) (rx : RelV x u) (hR : RelH W F ph hp H) (qx : Rep W F ph (.dct kvs) x) (q : Q (.int kvs.length) H) :
    wpAny (model X.prog X.w) X.A (call (.builtin "len") [u]) (EP X pins σ Q) X.xe s := by
  obtain ⟨a, o, rfl, _, ho, r⟩ := qx.dctAt hR
  obtain rfl : u = Value.ref a := rx
  cases r with
  | @dct _ _ ob es ep h1 h2 h3 h4 h5 r =>
    have e := obj_at I ho
    have hl := r.length
    have hz : es.size ≤ sizeLine := h4
    rw [sizeLine_eq] at hz
    have hlen : kvs.length = es.size := by rw [hl]; simp
    unfold L2.EP
    refine Calls.call_function_entry kind_len plain_len entry_len (args_len1 _) ?_
    unfold Builtin.«len»
    have hT : s.TypeIs (.ref a) "dict" := ⟨ob, e, h2.1⟩
    refine wpAny_bind (m := oneArg "len" _) (wpAny_pure ?_)
    have mt : MeetsIn X.prog X.w (Builtin.«dict.__len__» ⟨[.ref a], []⟩) (fun _ R t => t.heap.get? a = some ob ∧ R (.ok (.ret (.int es.size t.toks))) { t with toks := t.toks + 1 }) := by
      refine .of_wp fun A R t ⟨ht, h⟩ => ?_
      show wpAny _ _ (dictSize a >>= _) _ _ t
      unfold dictSize
      refine wpAny_bind (wpAny_bind (wpAny_dictEntries ht h3 (wpAny_pure ?_)))
      show wpAny _ _ (Builtin.Dict.pendingCount a >>= _) _ _ t
      refine wpAny_bind (wpAny_pendingCount_other h1 ?_)
      exact wpAny_ret_mkInt (by rw [Nat.add_zero]; exact h)
    refine wpAny_bind (m := callSpecial? (.ref a) (Str.ofString "__len__")) (wpAny_callSpecial?_slot (name := Str.ofString "__len__") hT PySem.F.slot_dict_len (call_meetsIn PySem.F.slot_dict_len hT PySem.F.entry_dict_len (PySem.F.args_dict_len_1 _) mt ⟨e, ?_⟩))
    show wpAny _ _ _ _ _ { s with toks := s.toks + 1 }
    refine wpAny_bind (wpAny_holding (wpAny_pure ?_))
    refine wpAny_bind (wpAny_letGo ?_)
    show wpAny _ _ (if ((es.size : Nat) : Int) < 0 then _ else _) _ _ _
    rw [if_neg (by omega)]
    show wpAny _ _ (if ((es.size : Nat) : Int) ≥ 2 ^ 63 then _ else _) _ _ _
    rw [if_neg (by omega)]
    refine wpAny_bind (wpAny_mkInt (wpAny_pure ⟨_, rfl, ?_⟩))
    exact ⟨.int kvs.length, H, I.tok _, ⟨_, by rw [hlen]⟩, q⟩
theorem RepXA.one {x : PV} {xs : List V} (r : RepXA W F ph H [x] xs) : ∃ v, xs = [v] ∧ RepXL W F ph H x v := by
  cases r with
  | cons r t => cases t; exact ⟨_, rfl, r⟩
theorem RepXA.two {x y : PV} {xs : List V} (r : RepXA W F ph H [x, y] xs) : ∃ v u, xs = [v, u] ∧ RepXL W F ph H x v ∧ Rep W F ph y u := by
  cases r with
  | cons r t => obtain ⟨u, rfl, q⟩ := t.one; exact ⟨_, u, rfl, r, q⟩
theorem bcl_len (fit : Fit W X) : CallR X (.builtin "len") (rB W .len) := by
  intro pins s σ H xs us Q I rs ⟨F, ph, hp, vs, r, hR, qs, e, hQ⟩
  unfold bclP at e
  split at e <;> first | cases e | skip
  all_goals first | (rename_i hc; cases hc; done) | skip
  rename_i x
  obtain ⟨v, rfl, qx⟩ := qs.one
  split at e
  · cases e
    obtain ⟨a, ws, rfl, ha, ra⟩ := qx.tupAt hR
    rw [← fit.K] at ha
    exact call_len_seq pins s σ H _ us Q I rs ⟨a, ws, rfl, .inr ha, by rw [← ra.length]; exact hQ.at_ hR (.int _)⟩
  · cases e
    obtain ⟨a, ws, rfl, _, ha, ra⟩ := qx.lstAt hR
    rw [← fit.K] at ha
    exact call_len_seq pins s σ H _ us Q I rs ⟨a, ws, rfl, .inl ha, by rw [← ra.length]; exact hQ.at_ hR (.int _)⟩
  · cases e
    obtain ⟨u, rfl, ru⟩ := vals1 rs
    exact len_dict fit I ru hR (qx.rep fun _ e => nomatch e) (hQ.at_ hR (.int _))
  · split at e <;> cases e
    rename_i hl
    obtain ⟨rfl, _⟩ := qx.strV
    exact call_len_str pins s σ H _ us Q I rs ⟨_, rfl, hl, hQ.at_ hR (.int _)⟩
  · cases e
theorem bcl_int (fit : Fit W X) : CallR X (.type "int") (rB W .int) := by
  intro pins s σ H xs us Q I rs ⟨F, ph, hp, vs, r, hR, qs, e, hQ⟩
  unfold bclP at e
  split at e <;> first | cases e | skip
  all_goals first | (rename_i hc; cases hc; done) | skip
  obtain ⟨v, rfl, qx⟩ := qs.one
  split at e <;> cases e
  · cases qx.intV
    exact call_int1 pins s σ H _ us Q I rs (.inl ⟨_, rfl, hQ.at_ hR (.int _)⟩)
  · cases qx.blV
    exact call_int1 pins s σ H _ us Q I rs (.inr ⟨_, rfl, hQ.at_ hR (.int _)⟩)
theorem bcl_abs (fit : Fit W X) : CallR X (.builtin "abs") (rB W .abs) := by
  intro pins s σ H xs us Q I rs ⟨F, ph, hp, vs, r, hR, qs, e, hQ⟩
  unfold bclP at e
  split at e <;> first | cases e | skip
  all_goals first | (rename_i hc; cases hc; done) | skip
  obtain ⟨v, rfl, qx⟩ := qs.one
  split at e <;> cases e
  cases qx.intV
  exact call_abs pins s σ H _ us Q I rs ⟨_, rfl, hQ.at_ hR (.int _)⟩
theorem bcl_str (fit : Fit W X) : CallR X (.type "str") (rB W .str) := by
  intro pins s σ H xs us Q I rs ⟨F, ph, hp, vs, r, hR, qs, e, hQ⟩
  unfold bclP at e
  split at e <;> first | cases e | skip
  all_goals first | (rename_i hc; cases hc; done) | skip
  obtain ⟨v, rfl, qx⟩ := qs.one
  split at e
  · split at e <;> cases e
    rename_i hl
    cases qx.intV
    exact call_str_int pins s σ H _ us Q I rs ⟨_, rfl, hl, hQ.at_ hR (.str _ (strOk_of _))⟩
  · cases e
/-- tuple(a list): a new one known to the object; tuple(a tuple): itself -/
theorem call_tupM : CallR X (.type "tuple") (fun xs H Q => ∃ p ys, xs = [.ref p] ∧ ((SqL X.K H p ys ∧ ∀ l (ob : Obj), ob.dict = none → H l = none → Q (.ref l) (upd H l (.frz ob (.tup ys)))) ∨ (SqT X.K H p ys ∧ Q (.ref p) H))) := by
  intro pins s σ H xs us Q I r ⟨p, ys, ex, h⟩
  subst ex
  obtain ⟨u, rfl, rx⟩ := vals1 r
  cases rx
  rcases h with ⟨hq, q⟩ | ⟨hq, q⟩
  · obtain ⟨its, r', pl, hz⟩ := I.list hq
    have hlen := r'.length
    refine call_tuple_list pl.isList (fun h' kp => ?_) (by simp only [List.size_toArray] <;> omega)
    have I1 : Inv X pins σ H { s with heap := h' } := I.kept (t' := s.toks) kp
    have I2 := lay_tup (t := s.toks) I1 r' hz
    exact ⟨.ref h'.objs.size, _, I2, rfl, q _ _ rfl (I1.hok.fresh (Nat.le_refl _))⟩
  · obtain ⟨its, r', pl, hz⟩ := I.tuple hq
    exact call_tuple_same pl ⟨.ref p, H, I, rfl, q⟩
theorem bcl_tuple (fit : Fit W X) : CallR X (.type "tuple") (rB W .tuple) := by
  intro pins s σ H xs us Q I rs ⟨F, ph, hp, vs, r, hR, qs, e, hQ⟩
  unfold bclP at e
  split at e <;> first | cases e | skip
  all_goals first | (rename_i hc; cases hc; done) | skip
  obtain ⟨v, rfl, qx⟩ := qs.one
  split at e <;> cases e
  · obtain ⟨a, ws, rfl, ha, ra⟩ := qx.tupAt hR
    rw [← fit.K] at ha
    exact call_tupM pins s σ H _ us Q I rs ⟨a, ws, rfl, .inr ⟨ha, hQ.at_ hR (qx.rep fun _ e => nomatch e)⟩⟩
  · obtain ⟨a, ws, rfl, _, ha, ra⟩ := qx.lstAt hR
    rw [← fit.K] at ha
    exact call_tupM pins s σ H _ us Q I rs ⟨a, ws, rfl, .inl ⟨ha, fun p ob hd n => hQ.tup hR ra hd n⟩⟩
theorem bcl_list (fit : Fit W X) : CallR X (.type "list") (rB W .list) := by
  intro pins s σ H xs us Q I rs ⟨F, ph, hp, vs, r, hR, qs, e, hQ⟩
  unfold bclP at e
  split at e <;> first | cases e | skip
  all_goals first | (rename_i hc; cases hc; done) | skip
  obtain ⟨v, rfl, qx⟩ := qs.one
  split at e <;> cases e
  · obtain ⟨a, ws, rfl, ha, ra⟩ := qx.tupAt hR
    rw [← fit.K] at ha
    exact call_list_of pins s σ H _ us Q I rs ⟨a, ws, rfl, .inr ha, fun p n => hQ.new hR (.lst ra) n⟩
  · obtain ⟨a, ws, rfl, _, ha, ra⟩ := qx.lstAt hR
    rw [← fit.K] at ha
    exact call_list_of pins s σ H _ us Q I rs ⟨a, ws, rfl, .inl ha, fun p n => hQ.new hR (.lst ra) n⟩
theorem bcl_sum (fit : Fit W X) : CallR X (.builtin "sum") (rB W .sum) := by
  intro pins s σ H xs us Q I rs ⟨F, ph, hp, vs, r, hR, qs, e, hQ⟩
  unfold bclP at e
  split at e <;> first | cases e | skip
  all_goals first | (rename_i hc; cases hc; done) | skip
  obtain ⟨v, rfl, qx⟩ := qs.one
  split at e
  · rw [Option.map_eq_some_iff] at e
    obtain ⟨is, hi, rfl⟩ := e
    obtain ⟨a, ws, rfl, _, ha, ra⟩ := qx.lstAt hR
    rw [ra.ints hi, ← fit.K] at ha
    exact cr_sum fit.calm pins s σ H _ us Q I rs ⟨a, is, rfl, ha, hQ.at_ hR (.int _)⟩
  · cases e
theorem bcl_all (fit : Fit W X) : CallR X (.builtin "all") (rB W .all) := by
  intro pins s σ H xs us Q I rs ⟨F, ph, hp, vs, r, hR, qs, e, hQ⟩
  unfold bclP at e
  split at e <;> first | cases e | skip
  all_goals first | (rename_i hc; cases hc; done) | skip
  obtain ⟨v, rfl, qx⟩ := qs.one
  split at e
  · rw [Option.map_eq_some_iff] at e
    obtain ⟨is, hi, rfl⟩ := e
    obtain ⟨a, ws, rfl, _, ha, ra⟩ := qx.lstAt hR
    rw [ra.bools hi, ← fit.K] at ha
    exact cr_all fit.calm pins s σ H _ us Q I rs ⟨a, is, rfl, ha, hQ.at_ hR (.bl _)⟩
  · cases e
theorem bcl_any (fit : Fit W X) : CallR X (.builtin "any") (rB W .any) := by
  intro pins s σ H xs us Q I rs ⟨F, ph, hp, vs, r, hR, qs, e, hQ⟩
  unfold bclP at e
  split at e <;> first | cases e | skip
  all_goals first | (rename_i hc; cases hc; done) | skip
  obtain ⟨v, rfl, qx⟩ := qs.one
  split at e
  · rw [Option.map_eq_some_iff] at e
    obtain ⟨is, hi, rfl⟩ := e
    obtain ⟨a, ws, rfl, _, ha, ra⟩ := qx.lstAt hR
    rw [ra.bools hi, ← fit.K] at ha
    exact cr_any fit.calm pins s σ H _ us Q I rs ⟨a, is, rfl, ha, hQ.at_ hR (.bl _)⟩
  · cases e
theorem foldl_max : ∀ (is : List Int) (a m : Int), m ∈ a :: is → (∀ y ∈ a :: is, y ≤ m) → is.foldl max a = m
  | [], a, m, h, _ => by
    have q : m = a := by simpa using h
    simp [q]
  | i :: is, a, m, h, g => by
    refine foldl_max is (max a i) m ?_ fun y hy => ?_
    · have h1 := g a (by simp); have h2 := g i (by simp)
      simp only [List.mem_cons] at h ⊢
      rcases h with h | h | h
      · left; omega
      · left; omega
      · exact .inr h
    · simp only [List.mem_cons] at hy
      rcases hy with h | h
      · have h1 := g a (by simp); have h2 := g i (by simp); omega
      · exact g y (by simp [h])
theorem foldl_min : ∀ (is : List Int) (a m : Int), m ∈ a :: is → (∀ y ∈ a :: is, m ≤ y) → is.foldl min a = m
  | [], a, m, h, _ => by
    have q : m = a := by simpa using h
    simp [q]
  | i :: is, a, m, h, g => by
    refine foldl_min is (min a i) m ?_ fun y hy => ?_
    · have h1 := g a (by simp); have h2 := g i (by simp)
      simp only [List.mem_cons] at h ⊢
      rcases h with h | h | h
      · left; omega
      · left; omega
      · exact .inr h
    · simp only [List.mem_cons] at hy
      rcases hy with h | h
      · have h1 := g a (by simp); have h2 := g i (by simp); omega
      · exact g y (by simp [h])
theorem holdAll_ints {h : Heap} : ∀ {us : List Value} {ns : List Int}, IntsAre us ns → PySem.W.HoldAll h us ns
  | _, _, .nil => ⟨[], .nil⟩
  | _, _, .cons n t r => by
    obtain ⟨as, q⟩ := holdAll_ints r
    exact ⟨[] ++ as, .cons (.int n t) q⟩
theorem maxOf_fold (i : Int) : ∀ is : List Int, PySem.W.maxOf i is = is.foldl max i := fun is => by
  unfold PySem.W.maxOf
  congr 1
  funext a y
  show (if decide (a < y) = true then y else a) = max a y
  by_cases h : a < y
  · simp [h]; omega
  · simp [h]; omega
theorem minOf_fold (i : Int) : ∀ is : List Int, PySem.W.minOf i is = is.foldl min i := fun is => by
  unfold PySem.W.minOf
  congr 1
  funext a y
  show (if decide (y < a) = true then y else a) = min a y
  by_cases h : y < a
  · simp [h]; omega
  · simp [h]; omega
theorem bcl_max (fit : Fit W X) : CallR X (.builtin "max") (rB W .max) := by
  intro pins s σ H xs us Q I rs ⟨F, ph, hp, vs, r, hR, qs, e, hQ⟩
  unfold bclP at e
  split at e <;> first | cases e | skip
  all_goals first | (rename_i hc; cases hc; done) | skip
  · obtain ⟨v, rfl, qx⟩ := qs.one
    split at e
    · simp only [Option.bind_eq_some_iff, Option.map_eq_some_iff] at e
      obtain ⟨is, hi, m, hm, rfl⟩ := e
      obtain ⟨a, ws, rfl, _, ha, ra⟩ := qx.lstAt hR
      rw [ra.ints hi, ← fit.K] at ha
      cases is with
      | nil => cases hm
      | cons i is =>
        cases hm
        exact cr_max fit.calm pins s σ H _ us Q I rs ⟨a, _, rfl, ha, Nat.succ_pos _, fun m h1 h2 => by rw [← foldl_max is i m h1 h2]; exact hQ.at_ hR (.int _)⟩
    · simp only [Option.bind_eq_some_iff, Option.map_eq_some_iff] at e
      obtain ⟨is, hi, m, hm, rfl⟩ := e
      obtain ⟨a, ws, rfl, ha, ra⟩ := qx.tupAt hR
      rw [ra.ints hi, ← fit.K] at ha
      cases is with
      | nil => cases hm
      | cons i is =>
        cases hm
        obtain ⟨its, rv, hT, _⟩ := I.tuple ha
        have hu := fit.un
        rw [Vals.ref1 rs]
        refine PySem.W.max_tuple_datum (x := i) (xs := is) (I.ok.hd fit.calm) hT (holdAll_ints rv.ints) (by show X.A.units + 1 + 0 < cLine; omega) fun j v h' tk hj hv hk => ?_
        obtain ⟨as, hv⟩ := hv
        have hv : Reads h' v (.int (PySem.W.maxOf i is)) as := hv
        rw [maxOf_fold] at hv
        cases hv with
        | int _ t => exact ⟨.int _, H, I.kept hk, ⟨t, rfl⟩, hQ.at_ hR (.int _)⟩
    · cases e
  · obtain ⟨v, u, rfl, qx, qy⟩ := qs.two
    cases qx.intV; cases qy.intV
    exact call_max2 fit.calm pins s σ H _ us Q I rs ⟨_, _, rfl, hQ.at_ hR (.int _)⟩
theorem bcl_min (fit : Fit W X) : CallR X (.builtin "min") (rB W .min) := by
  intro pins s σ H xs us Q I rs ⟨F, ph, hp, vs, r, hR, qs, e, hQ⟩
  unfold bclP at e
  split at e <;> first | cases e | skip
  all_goals first | (rename_i hc; cases hc; done) | skip
  · obtain ⟨v, rfl, qx⟩ := qs.one
    split at e
    · simp only [Option.bind_eq_some_iff, Option.map_eq_some_iff] at e
      obtain ⟨is, hi, m, hm, rfl⟩ := e
      obtain ⟨a, ws, rfl, _, ha, ra⟩ := qx.lstAt hR
      rw [ra.ints hi, ← fit.K] at ha
      cases is with
      | nil => cases hm
      | cons i is =>
        cases hm
        exact cr_min fit.calm pins s σ H _ us Q I rs ⟨a, _, rfl, ha, Nat.succ_pos _, fun m h1 h2 => by rw [← foldl_min is i m h1 h2]; exact hQ.at_ hR (.int _)⟩
    · simp only [Option.bind_eq_some_iff, Option.map_eq_some_iff] at e
      obtain ⟨is, hi, m, hm, rfl⟩ := e
      obtain ⟨a, ws, rfl, ha, ra⟩ := qx.tupAt hR
      rw [ra.ints hi, ← fit.K] at ha
      cases is with
      | nil => cases hm
      | cons i is =>
        cases hm
        obtain ⟨its, rv, hT, _⟩ := I.tuple ha
        have hu := fit.un
        rw [Vals.ref1 rs]
        refine PySem.W.min_tuple_datum (x := i) (xs := is) (I.ok.hd fit.calm) hT (holdAll_ints rv.ints) (by show X.A.units + 1 + 0 < cLine; omega) fun j v h' tk hj hv hk => ?_
        obtain ⟨as, hv⟩ := hv
        have hv : Reads h' v (.int (PySem.W.minOf i is)) as := hv
        rw [minOf_fold] at hv
        cases hv with
        | int _ t => exact ⟨.int _, H, I.kept hk, ⟨t, rfl⟩, hQ.at_ hR (.int _)⟩
    · cases e
  · obtain ⟨v, u, rfl, qx, qy⟩ := qs.two
    cases qx.intV; cases qy.intV
    exact call_min2 fit.calm pins s σ H _ us Q I rs ⟨_, _, rfl, hQ.at_ hR (.int _)⟩
end
end MP
set_option maxRecDepth 100000
set_option maxHeartbeats 4000000
/-! MiniPy: set(x) of a list of ints, of a tuple of tuples of ints. -/
namespace MP
open PySem PySem.Spec PyProof.Rows L2
/-- the object of a new set -/
abbrev freshSet (w : World) : Obj := { cls := .type "set", dict := none, data := .set #[] 0 (.fresh 0 0 (!w.params.followText "set-order")) }
section
variable {P : Program} {w : World} {A : Around} {E : Value → Shared → Prop} {s : Shared}
/-- the init's run over a fresh set is to end with G -/
def InitRun (P : Program) (w : World) (A : Around) (E : Value → Shared → Prop) (s : Shared) (l : Addr) (G : Shared → Prop) : Prop :=
  wpAny (model P w) A.in1.in1 (Builtin.«set.__init__» ⟨[.ref s.heap.objs.size, .ref l], []⟩)
    (fun fin s' => match fin with
      | .done f => wants (fun r s2 => r = .none ∧ G s2) E (.ok f) s'
      | .again c' => c'.quiet = true ∧ codeAny (model P w) A.in1 c' (wants (fun r s2 => r = .none ∧ G s2) E) s')
    (fun e s' => wants (fun r s2 => r = .none ∧ G s2) E (.error e) s') { s with heap := s.heap.push (freshSet w) }
/-- set(x): what is left is the run of the init -/
theorem set_call1 {l : Addr} {Q : Value → Shared → Prop} {G : Shared → Prop} (run : InitRun P w A E s l G)
    (fin : ∀ s', G s' → Q (.ref s.heap.objs.size) s') : wpAny (model P w) A (call (.type "set") [.ref l]) Q E s := by
  obtain ⟨c, tl, hmro⟩ := F.called_set.mro
  have g1 := F.called_set.made
  have g2 := F.called_set.sub
  refine wpAny_call (codeAny_of_tree ?_)
  show wpAny _ _ (callAny (.type "set") _) _ _ _
  refine wpAny_pure ⟨Code.quiet_builtin _ (by decide +kernel), codeAny_builtin F.entry_type_call ?_⟩
  rw [Around.under_plain (weight_type_call_type "set" [.ref l] []) rfl]
  have g3 := F.called_set.notType
  have g4 := F.called_set.canCreate
  have g5 := F.typeCall_set_1 (.ref l)
  repeat (any_goals (first | assumption | wp_step))
  refine codeAny_mono (code_set_led1 (.ref l) (E := E) (Q₁ := fun obj s1 => obj = .ref s.heap.objs.size ∧ s1 = { s with heap := s.heap.push (freshSet w) }) ⟨rfl, rfl⟩) fun r s1 hr => ?_
  match r, hr with
  | .error e, hr => exact hr
  | .ok (.ret obj), ⟨e1, e2⟩ =>
    subst e1 e2
    have hT : Shared.TypeIs { s with heap := s.heap.push (freshSet w) } (.ref s.heap.objs.size) "set" := ⟨_, Heap.get?_push_size _ rfl, rfl⟩
    have i1 := F.called_set.init.lookup
    have i2 := F.called_set.init.bind (.ref s.heap.objs.size)
    repeat (any_goals (first | assumption | wp_step))
    refine codeAny_mono (codeAny_call_builtin (R := wants (fun r s2 => r = .none ∧ G s2) E) F.called_set.init.plain F.entry_set_init (check_set_init_1 hT ?_)) fun r2 s2 hr2 => ?_
    · exact run
    · match r2, hr2 with
      | .error e, hr2 => exact hr2
      | .ok (.ret r), ⟨e1, hg⟩ =>
        subst e1
        repeat (any_goals (first | assumption | wp_step))
        exact fin _ hg
/-- .. of a tuple: the loop is left -/
theorem init_tup {l : Addr} {its : Array Value} {G : Shared → Prop} (hl : s.heap.IsTuple l its)
    (loop : ∀ R : Result → Shared → Prop, (∀ s', G s' → R (.ok (.ret .none)) s') →
      codeAny (model P w) A.in1.in1 (.builtin "set.update.loop" ⟨[.ref s.heap.objs.size, .ref (s.heap.objs.size + 1)], []⟩) R { s with heap := (s.heap.push (freshSet w)).push { cls := .type "tuple_iterator", data := .fields #[.ref l, .int 0 0] } }) :
    InitRun P w A E s l G := by
  obtain ⟨⟨oc, od, da, osl⟩, ho, hc, n, hd⟩ := hl
  simp only at hc hd
  subst hc hd
  have ho' : (s.heap.push (freshSet w)).get? l = some { cls := .type "tuple", dict := od, data := .seq its n, slots := osl } := Heap.get?_push_of_some _ ho
  have f1 := F.sub_tuple_set
  have f2 := F.sub_tuple_frozenset
  have f3 : (Value.type "tuple" == Value.type "dict") = false := by decide
  have hz : (s.heap.push (freshSet w)).objs.size = s.heap.objs.size + 1 := Heap.size_push ..
  have hT : (s.heap.push (freshSet w)).IsTuple l its := ⟨_, ho', rfl, n, rfl⟩
  have hg : (s.heap.push (freshSet w)).get? s.heap.objs.size = some (freshSet w) := Heap.get?_push_size _ rfl
  unfold InitRun Builtin.«set.__init__» noKeywords Builtin.Frozenset.updateFrom
  generalize hPI : pyIter = PI
  wp_walk
  subst hPI
  refine wpAny_pyIter_tuple hT ?_
  refine wpAny_bind (wpAny_runValue ?_)
  rw [hz]
  refine loop _ fun s' hG => ?_
  show wpAny _ _ _ _ _ _
  refine wpAny_pure ?_
  show wpAny _ _ (ret Value.none) _ _ _
  exact wpAny_pure ⟨rfl, hG⟩
/-- .. of a list -/
theorem init_lst {l : Addr} {its : Array Value} {G : Shared → Prop} (hl : s.heap.IsList l its)
    (loop : ∀ R : Result → Shared → Prop, (∀ s', G s' → R (.ok (.ret .none)) s') →
      codeAny (model P w) A.in1.in1 (.builtin "set.update.loop" ⟨[.ref s.heap.objs.size, .ref (s.heap.objs.size + 1)], []⟩) R { s with heap := (s.heap.push (freshSet w)).push { cls := .type "list_iterator", data := .fields #[.ref l, .int 0 0] } }) :
    InitRun P w A E s l G := by
  obtain ⟨⟨oc, od, da, osl⟩, ho, hc, n, hd⟩ := hl
  simp only at hc hd
  subst hc hd
  have ho' : (s.heap.push (freshSet w)).get? l = some { cls := .type "list", dict := od, data := .seq its n, slots := osl } := Heap.get?_push_of_some _ ho
  have f1 := F.sub_list_set
  have f2 := F.sub_list_frozenset
  have f3 : (Value.type "list" == Value.type "dict") = false := by decide
  have hz : (s.heap.push (freshSet w)).objs.size = s.heap.objs.size + 1 := Heap.size_push ..
  have hT : (s.heap.push (freshSet w)).IsList l its := ⟨_, ho', rfl, n, rfl⟩
  have hg : (s.heap.push (freshSet w)).get? s.heap.objs.size = some (freshSet w) := Heap.get?_push_size _ rfl
  unfold InitRun Builtin.«set.__init__» noKeywords Builtin.Frozenset.updateFrom
  generalize hPI : pyIter = PI
  wp_walk
  subst hPI
  refine wpAny_pyIter_list hT ?_
  refine wpAny_bind (wpAny_runValue ?_)
  rw [hz]
  refine loop _ fun s' hG => ?_
  show wpAny _ _ _ _ _ _
  refine wpAny_pure ?_
  show wpAny _ _ (ret Value.none) _ _ _
  exact wpAny_pure ⟨rfl, hG⟩
/-- nothing lies above the heap -/
theorem above_none {b : Addr} (hb : s.heap.objs.size ≤ b) : s.heap.get? b = none := by
  cases q : s.heap.get? b with
  | none => rfl
  | some o => exact absurd (Nat.lt_of_lt_of_le (Heap.lt_size q) hb) (Nat.lt_irrefl _)
/-- set(t) of a tuple of tuples of ints -/
theorem set_tup_rows {l : Addr} {its : Array Value} (ks : List (Addr × List Int)) {Q : Value → Shared → Prop} (hh : A.handled = none) (hl : s.heap.IsTuple l its) (hit : its.toList = ks.map fun p => Value.ref p.1)
    (hk : ∀ p ∈ ks, IsT P w s.heap p.2 p.1) (few : ks.length < 64) (hu : A.units + 3 < cLine)
    (fin : ∀ (h' : Heap) (tk : Nat) L es ep t, SetTR P w h' s.heap.objs.size L es ep t → Got ks ks.length L → (∀ b o, s.heap.get? b = some o → h'.get? b = some o) → Q (.ref s.heap.objs.size) { s with heap := h', toks := tk }) :
    wpAny (model P w) A (call (.type "set") [.ref l]) Q E s := by
  have size : its.size = ks.length := by rw [← Array.length_toList, hit, List.length_map]
  refine set_call1 (G := fun s' => ∃ h' tk L es ep t, s' = { s with heap := h', toks := tk } ∧ SetTR P w h' s.heap.objs.size L es ep t ∧ Got ks ks.length L ∧ ∀ b o, s.heap.get? b = some o → h'.get? b = some o)
    (init_tup hl fun R hR => ?_) fun s' ⟨h', tk, L, es, ep, t, e, r, g, k⟩ => by subst e; exact fin h' tk L es ep t r g k
  have lt : l < s.heap.objs.size := by obtain ⟨o, ho, _⟩ := hl; exact Heap.lt_size ho
  have h3 : A.in1.in1.in1.handled = none := by simp [hh]
  have hz : (s.heap.push (freshSet w)).objs.size = s.heap.objs.size + 1 := Heap.size_push ..
  have nl : l ≠ s.heap.objs.size + 1 := Nat.ne_of_lt (Nat.lt_succ_of_lt lt)
  have nS : s.heap.objs.size ∉ [s.heap.objs.size + 1, l] := by
    simp only [List.mem_cons, List.not_mem_nil, or_false, not_or]
    exact ⟨Nat.ne_of_lt (Nat.lt_succ_self _), Nat.ne_of_gt lt⟩
  have val : ∀ (i : Nat) (v : Value), its[i]? = some v → ∃ p, ks[i]? = some p ∧ v = .ref p.1 := fun i v hv => by
    rw [← Array.getElem?_toList, hit, List.getElem?_map, Option.map_eq_some_iff] at hv
    obtain ⟨p, hp, e⟩ := hv
    exact ⟨p, hp, e.symm⟩
  have pt : (s.heap.push (freshSet w)).IsTuple l its := by
    obtain ⟨o, ho, r⟩ := hl
    exact ⟨o, Heap.get?_push_of_some _ ho, r⟩
  refine set_update_tups ((Walks.tuple h3 (s.heap.objs.size + 1) l nl its).toS) s.heap.objs.size nS ks size few val s.heap hk (above_none (Nat.le_refl _)) (fun b hb => above_none (by rw [List.mem_singleton.mp hb]; exact Nat.le_succ _)) hu (its.size - 0) 0 _ (by omega) (Nat.zero_le _)
    ⟨⟨_, by rw [← hz]; exact Heap.get?_push_size _ rfl, rfl, rfl⟩, pt.push _⟩ (fun b o e => Heap.get?_push_of_some _ (Heap.get?_push_of_some _ e)) ?_ ?_
  · exact ⟨[], #[], 0, _, setTR_fresh (Heap.get?_push_of_some _ (Heap.get?_push_size _ rfl)), Got.zero ks⟩
  · intro s' L es ep t hm r g k
    rw [size] at g
    refine hR s' ⟨s'.heap, s'.toks, L, es, ep, t, ?_, r, g, k⟩
    have e1 := hm.gens
    have e2 := hm.drawn
    have e3 := hm.os
    cases s'
    cases s
    simp only at e1 e2 e3
    subst e1 e2 e3
    rfl
/-- set(l) of a list of ints -/
theorem set_lst_ints {l : Addr} {its : Array Value} (ns : List Int) {Q : Value → Shared → Prop} (hh : A.handled = none) (hl : s.heap.IsList l its) (hit : IntsAre its.toList ns) (few : ns.length + 1 < scanBound)
    (fin : ∀ (h' : Heap) (tk c : Nat), SetR w h' s.heap.objs.size (fun j => decide (j ∈ ns)) c → (∀ b o, s.heap.get? b = some o → h'.get? b = some o) → Q (.ref s.heap.objs.size) { s with heap := h', toks := tk }) :
    wpAny (model P w) A (call (.type "set") [.ref l]) Q E s := by
  have size : its.size = ns.length := by
    have := IntsAre.length hit
    rwa [Array.length_toList] at this
  refine set_call1 (G := fun s' => ∃ h' tk c, s' = { s with heap := h', toks := tk } ∧ SetR w h' s.heap.objs.size (fun j => decide (j ∈ ns)) c ∧ ∀ b o, s.heap.get? b = some o → h'.get? b = some o)
    (init_lst hl fun R hR => ?_) fun s' ⟨h', tk, c, e, r, k⟩ => by subst e; exact fin h' tk c r k
  have lt : l < s.heap.objs.size := by obtain ⟨o, ho, _⟩ := hl; exact Heap.lt_size ho
  have h3 : A.in1.in1.in1.handled = none := by simp [hh]
  have hz : (s.heap.push (freshSet w)).objs.size = s.heap.objs.size + 1 := Heap.size_push ..
  have nl : l ≠ s.heap.objs.size + 1 := Nat.ne_of_lt (Nat.lt_succ_of_lt lt)
  have nS : s.heap.objs.size ∉ [s.heap.objs.size + 1, l] := by
    simp only [List.mem_cons, List.not_mem_nil, or_false, not_or]
    exact ⟨Nat.ne_of_lt (Nat.lt_succ_self _), Nat.ne_of_gt lt⟩
  have val : ∀ (i : Nat) (v : Value), its[i]? = some v → ∃ k t, ns[i]? = some k ∧ v = .int k t := fun i v hv => by
    have hi : i < ns.length := by rw [← size]; exact (Array.getElem?_eq_some_iff.mp hv).1
    obtain ⟨t, e⟩ := PyProof.Rows.IntsAre.int_at hit i v (by rw [Array.getElem?_toList]; exact hv)
    exact ⟨ns[i], t, List.getElem?_eq_getElem hi, by rw [e, List.getD_eq_getElem?_getD, List.getElem?_eq_getElem hi]; rfl⟩
  have pt : (s.heap.push (freshSet w)).IsList l its := by
    obtain ⟨o, ho, r⟩ := hl
    exact ⟨o, Heap.get?_push_of_some _ ho, r⟩
  refine set_update_ints ((Walks.list h3 (s.heap.objs.size + 1) l nl its).toS) s.heap.objs.size nS ns size few val (its.size - 0) 0 _ (by omega) (Nat.zero_le _)
    ⟨⟨_, by rw [← hz]; exact Heap.get?_push_size _ rfl, rfl, rfl⟩, pt.push _⟩ ?_ ?_
  · exact ⟨0, Nat.le_refl 0, setR_new_at (Heap.get?_push_of_some _ (Heap.get?_push_size _ rfl))⟩
  · intro s' c hm _ r
    refine hR s' ⟨s'.heap, s'.toks, c, ?_, r, fun b o e => ?_⟩
    · have e1 := hm.gens
      have e2 := hm.drawn
      have e3 := hm.os
      cases s'
      cases s
      simp only at e1 e2 e3
      subst e1 e2 e3
      rfl
    · have hb := Heap.lt_size e
      refine hm.heap b o (fun hm2 => ?_) (Heap.get?_push_of_some _ (Heap.get?_push_of_some _ e))
      simp only [List.mem_cons, List.not_mem_nil, or_false] at hm2
      rcases hm2 with rfl | rfl
      · exact absurd hb (Nat.lt_irrefl _)
      · exact absurd (Nat.lt_of_succ_lt hb) (Nat.lt_irrefl _)
end
end MP
set_option maxRecDepth 100000
/-! MiniPy: sorted, set by values. -/
namespace MP
open PySem PySem.Spec PyProof.Rows L2
/-! ### rows of ints -/
def rowP (r : List Int) : PV := .tup (r.map PV.int)
theorem eqAll_ints : ∀ a b : List Int, eqAll (a.map PV.int) (b.map PV.int) = decide (a = b)
  | [], [] => by simp [eqAll]
  | [], _ :: _ => by simp [eqAll]
  | _ :: _, [] => by simp [eqAll]
  | x :: a, y :: b => by
    rw [List.map_cons, List.map_cons, eqAll, eqAll_ints a b, eqP]
    by_cases h : x = y
    · subst h; by_cases h2 : a = b <;> simp [h2]
    · simp [h]
theorem eqP_row (a b : List Int) : eqP (rowP a) (rowP b) = decide (a = b) := by
  show eqAll (a.map PV.int) (b.map PV.int) = _
  exact eqAll_ints a b
theorem ltAll_ints : ∀ a b : List Int, ltAll (a.map PV.int) (b.map PV.int) = decide (a < b)
  | [], [] => by simp [ltAll]
  | [], _ :: _ => by simp [ltAll]
  | _ :: _, [] => by simp [ltAll]
  | x :: a, y :: b => by
    rw [List.map_cons, List.map_cons, ltAll, ltAll_ints a b, eqP, ltP]
    by_cases h : x = y
    · subst h; simp [List.cons_lt_cons_iff]
    · simp [h, List.cons_lt_cons_iff]
theorem leP_row (a b : List Int) : leP (rowP a) (rowP b) = decide (a ≤ b) := by
  show (!ltAll (b.map PV.int) (a.map PV.int)) = _
  rw [ltAll_ints]
  by_cases h : b < a
  · simp [h, List.not_le]
  · simp [h, List.not_lt.mp h]
theorem memP_rows (x : List Int) (xs : List (List Int)) : memP (rowP x) (xs.map rowP) = decide (x ∈ xs) := by
  unfold memP
  rw [List.any_map]
  by_cases h : x ∈ xs
  · rw [decide_eq_true h, List.any_eq_true]
    exact ⟨x, h, by show eqP (rowP x) (rowP x) = true; rw [eqP_row]; simp⟩
  · rw [decide_eq_false h, List.any_eq_false]
    intro y hy
    show ¬ eqP (rowP y) (rowP x) = true
    rw [eqP_row]
    intro e
    exact h ((of_decide_eq_true e) ▸ hy)
/-- the rows, each once, in the order of their first places -/
def ddR : List (List Int) → List (List Int) → List (List Int)
  | acc, [] => acc
  | acc, x :: xs => if x ∈ acc then ddR acc xs else ddR (acc ++ [x]) xs
theorem dedup_rows : ∀ (xs acc : List (List Int)), dedup (acc.map rowP) (xs.map rowP) = (ddR acc xs).map rowP
  | [], acc => rfl
  | x :: xs, acc => by
    rw [List.map_cons, dedup, memP_rows, ddR]
    by_cases h : x ∈ acc
    · rw [if_pos (decide_eq_true h), if_pos h, dedup_rows xs acc]
    · rw [if_neg (by simp [h]), if_neg h, ← dedup_rows xs (acc ++ [x])]
      simp
theorem ddR_mem : ∀ (xs acc : List (List Int)) (y : List Int), y ∈ ddR acc xs ↔ y ∈ acc ∨ y ∈ xs
  | [], acc, y => by simp [ddR]
  | x :: xs, acc, y => by
    rw [ddR]
    split
    · rename_i h
      rw [ddR_mem xs acc y, List.mem_cons]
      constructor
      · rintro (q | q)
        · exact .inl q
        · exact .inr (.inr q)
      · rintro (q | rfl | q)
        · exact .inl q
        · exact .inl h
        · exact .inr q
    · rw [ddR_mem xs _ y]; simp [or_assoc]
theorem ddR_nodup : ∀ (xs acc : List (List Int)), acc.Nodup → (ddR acc xs).Nodup
  | [], acc, h => h
  | x :: xs, acc, h => by
    rw [ddR]
    split
    · exact ddR_nodup xs acc h
    · rename_i hx
      refine ddR_nodup xs _ (List.nodup_append.mpr ⟨h, by simp, fun a ha b hb => ?_⟩)
      rintro rfl
      simp at hb
      subst hb
      exact hx ha
theorem sort_rows (xs : List (List Int)) : (xs.map rowP).mergeSort leP = (xs.mergeSort fun a b => decide (a ≤ b)).map rowP := by
  rw [List.map_mergeSort]
  intro a _ b _
  exact (leP_row a b).symm
theorem rows_sorted (xs : List (List Int)) : (xs.mergeSort fun a b => decide (a ≤ b)).Pairwise (· ≤ ·) := by
  have h := List.pairwise_mergeSort (le := fun (a b : List Int) => decide (a ≤ b)) (fun a b c h1 h2 => decide_eq_true (List.le_trans (of_decide_eq_true h1) (of_decide_eq_true h2)))
    (fun a b => by simpa using List.le_total a b) xs
  exact h.imp fun h => of_decide_eq_true h
theorem rows_unique {xs ys : List (List Int)} (hp : ys.Perm xs) (h : ys.Pairwise (· ≤ ·)) : ys = xs.mergeSort fun a b => decide (a ≤ b) := by
  refine List.Perm.eq_of_pairwise (fun a b _ _ h1 h2 => List.le_antisymm h1 h2) h (rows_sorted xs) (hp.trans (List.mergeSort_perm _ _).symm)
theorem code_of_lt {B : Int} : ∀ {a b : List Int}, a.length = b.length → TS.Bd B a → TS.Bd B b → a < b → TS.code B a < TS.code B b
  | [], [], _, _, _, h => by simp at h
  | x :: a, y :: b, hl, ha, hb, h => by
    have hl2 : a.length = b.length := Nat.succ.inj hl
    rcases List.cons_lt_cons_iff.mp h with g | ⟨rfl, g⟩
    · exact TS.code_lt hl2 ha.tail hb.tail g
    · have ha' : TS.Bd B a := fun m hm => ha m (List.mem_cons_of_mem _ hm)
      have hb' : TS.Bd B b := fun m hm => hb m (List.mem_cons_of_mem _ hm)
      have h2 : TS.code B a < TS.code B b := code_of_lt hl2 ha' hb' g
      exact (TS.code_same hl2).mpr h2
  | [], _ :: _, h, _, _, _ => by simp at h
  | _ :: _, [], h, _, _, _ => by simp at h
theorem le_of_code {B : Int} {a b : List Int} (hl : a.length = b.length) (ha : TS.Bd B a) (hb : TS.Bd B b) (h : TS.code B a ≤ TS.code B b) : a ≤ b := by
  refine List.not_lt.mp fun q => ?_
  have := code_of_lt hl.symm hb ha q
  omega
theorem intsP_map : ∀ {xs : List PV} {ns : List Int}, intsP xs = some ns → xs = ns.map PV.int
  | [], ns, h => by simp [intsP] at h; subst h; rfl
  | x :: xs, ns, h => by
    cases x <;> simp [intsP] at h
    obtain ⟨m, h1, rfl⟩ := h
    rw [intsP_map h1]; rfl
theorem okRow_row {d : Nat} {r : List Int} (h : okRow d (rowP r) = true) : r.length = d ∧ TS.Bd (2 ^ 30) r := by
  unfold rowP okRow at h
  have e : intsP (r.map PV.int) = some r := by
    clear h
    induction r with
    | nil => rfl
    | cons a r ih => rw [List.map_cons, intsP, ih]; rfl
  simp only [e] at h
  simp only [Bool.and_eq_true, decide_eq_true_eq, List.length_map, List.all_eq_true] at h
  exact ⟨h.1, fun m hm => h.2 m hm⟩
section
variable {W : Wd} {X : Cx} {F H : Hp} {ph : List Addr} {hp : Hs}
/-- a list's tuples of ints, with their places -/
theorem rows_of : ∀ {xs : List PV} {vs : List V}, RepA W F ph xs vs → (xs.all fun x => match x with | .tup ys => (intsP ys).isSome | _ => false) = true →
    ∃ ks : List (Addr × List Int), vs = ks.map (fun p => V.ref p.1) ∧ xs = (ks.map (·.2)).map rowP ∧ ∀ p ∈ ks, F p.1 = some (.tup (p.2.map V.int)) ∨ KTup W.K p.1 (p.2.map V.int)
  | _, _, .nil, _ => ⟨[], rfl, rfl, fun p hp => by simp at hp⟩
  | _, _, .cons (x := x) r t, h => by
    rw [List.all_cons, Bool.and_eq_true] at h
    obtain ⟨ks, e1, e2, e3⟩ := rows_of t h.2
    have h1 := h.1
    split at h1
    · rename_i ys
      obtain ⟨ns, hn⟩ := Option.isSome_iff_exists.mp h1
      have ey := intsP_map hn
      cases r with
      | @tup a _ vs e q =>
        rw [q.ints hn] at e
        exact ⟨(a, ns) :: ks, by rw [e1]; rfl, by rw [e2, ey]; rfl, fun p hp => (List.mem_cons.mp hp).elim (fun z => by subst z; exact .inl e) (e3 p)⟩
      | @ktup a _ vs e q =>
        rw [q.ints hn] at e
        exact ⟨(a, ns) :: ks, by rw [e1]; rfl, by rw [e2, ey]; rfl, fun p hp => (List.mem_cons.mp hp).elim (fun z => by subst z; exact .inr e) (e3 p)⟩
      | obj e q => cases q
    · cases h1
/-- a set's rows -/
theorem set_rows_res (fit : Fit W X) {pins : List (Addr × Obj)} {s : Shared} {σ : L2.St} {Q : VK} {xs : List PV} (I : Inv X pins σ H s) (hR : RelH W F ph hp H) (ks : List (Addr × List Int)) (ex : xs = (ks.map (·.2)).map rowP)
    (hk : ∀ p ∈ ks, F p.1 = some (.tup (p.2.map V.int)) ∨ KTup W.K p.1 (p.2.map V.int)) (hQ : Res W F ph hp H (true, .pst (dedup [] xs)) Q) {h' : Heap} {tk : Nat} {L : List (Addr × List Int)} {es : Array (Int × Value)} {ep : Nat} {t : SetTable}
    (R : SetTR X.prog X.w h' s.heap.objs.size L es ep t) (g : Got ks ks.length L) (k : ∀ b o, s.heap.get? b = some o → h'.get? b = some o) : EP X pins σ Q (.ref s.heap.objs.size) { s with heap := h', toks := tk } := by
  refine ⟨.ref s.heap.objs.size, upd H s.heap.objs.size (SetTO X.prog X.w s.heap.objs.size L), I.laid (t' := tk) k (Nat.le_refl _) (setTO_new R.t0), rfl, ?_⟩
  refine hQ.new hR ?_ (I.hok.fresh (Nat.le_refl _))
  have ed : dedup [] xs = (ddR [] (ks.map (·.2))).map rowP := by rw [ex, ← dedup_rows]; rfl
  rw [ed, fit.P, fit.w]
  refine .psT (L := L) ?_ (ddR_nodup _ _ List.nodup_nil) fun p hm => hk p (List.mem_of_mem_take (g.sub p hm))
  refine (List.perm_ext_iff_of_nodup R.nd (ddR_nodup _ _ List.nodup_nil)).mpr fun y => ?_
  rw [ddR_mem]
  constructor
  · intro hy
    obtain ⟨p, hm, rfl⟩ := List.mem_map.mp hy
    exact .inr (List.mem_map.mpr ⟨p, List.mem_of_mem_take (g.sub p hm), rfl⟩)
  · rintro (hy | hy)
    · simp at hy
    · obtain ⟨p, hm, rfl⟩ := List.mem_map.mp hy
      exact g.all p (by rw [List.take_length]; exact hm)
/-- the ints, each once -/
def ddI : List Int → List Int → List Int
  | acc, [] => acc
  | acc, x :: xs => if x ∈ acc then ddI acc xs else ddI (acc ++ [x]) xs
theorem memP_ints (x : Int) (xs : List Int) : memP (.int x) (xs.map PV.int) = decide (x ∈ xs) := by
  unfold memP
  rw [List.any_map]
  by_cases h : x ∈ xs
  · rw [decide_eq_true h, List.any_eq_true]
    exact ⟨x, h, by show (x == x) = true; simp⟩
  · rw [decide_eq_false h, List.any_eq_false]
    intro y hy
    show ¬ (y == x) = true
    simp
    rintro rfl
    exact h hy
theorem dedup_ints : ∀ (xs acc : List Int), dedup (acc.map PV.int) (xs.map PV.int) = (ddI acc xs).map PV.int
  | [], acc => rfl
  | x :: xs, acc => by
    rw [List.map_cons, dedup, memP_ints, ddI]
    by_cases h : x ∈ acc
    · rw [if_pos (decide_eq_true h), if_pos h, dedup_ints xs acc]
    · rw [if_neg (by simp [h]), if_neg h, ← dedup_ints xs (acc ++ [x])]
      simp
theorem ddI_mem : ∀ (xs acc : List Int) (y : Int), y ∈ ddI acc xs ↔ y ∈ acc ∨ y ∈ xs
  | [], acc, y => by simp [ddI]
  | x :: xs, acc, y => by
    rw [ddI]
    split
    · rename_i h
      rw [ddI_mem xs acc y, List.mem_cons]
      constructor
      · rintro (q | q)
        · exact .inl q
        · exact .inr (.inr q)
      · rintro (q | rfl | q)
        · exact .inl q
        · exact .inl h
        · exact .inr q
    · rw [ddI_mem xs _ y]; simp [or_assoc]
theorem ddI_nodup : ∀ (xs acc : List Int), acc.Nodup → (ddI acc xs).Nodup
  | [], acc, h => h
  | x :: xs, acc, h => by
    rw [ddI]
    split
    · exact ddI_nodup xs acc h
    · rename_i hx
      refine ddI_nodup xs _ (List.nodup_append.mpr ⟨h, by simp, fun a ha b hb => ?_⟩)
      rintro rfl
      simp at hb
      subst hb
      exact hx ha
/-- a set of ints, made of a list or a tuple -/
theorem set_ints_res (fit : Fit W X) {pins : List (Addr × Obj)} {s : Shared} {σ : L2.St} {Q : VK} {xs : List PV} {ns : List Int} (I : Inv X pins σ H s) (hR : RelH W F ph hp H) (ex : xs = ns.map PV.int)
    (hQ : Res W F ph hp H (true, .pst (dedup [] xs)) Q) {h' : Heap} {tk c : Nat} (R : SetR X.w h' s.heap.objs.size (fun j => decide (j ∈ ns)) c) (k : ∀ b o, s.heap.get? b = some o → h'.get? b = some o) :
    EP X pins σ Q (.ref s.heap.objs.size) { s with heap := h', toks := tk } := by
  refine ⟨.ref s.heap.objs.size, upd H s.heap.objs.size (SetO X.w s.heap.objs.size _ c), I.laid (t' := tk) k (Nat.le_refl _) (setO_new R), rfl, ?_⟩
  refine hQ.new hR ?_ (I.hok.fresh (Nat.le_refl _))
  have ed : dedup [] xs = (ddI [] ns).map PV.int := by rw [ex, ← dedup_ints]; rfl
  rw [ed, fit.w]
  have hm : ∀ i, decide (i ∈ ns) = true ↔ i ∈ ddI [] ns := fun i => by rw [ddI_mem]; simp
  refine .psI hm (ddI_nodup _ _ List.nodup_nil) ?_
  obtain ⟨o, es, ep, t, ho, hx, hd, g, nd, hS, hb, hf, hn, _⟩ := R
  rw [← hn, ← Array.length_toList, ← List.length_map (f := L2.keyOf)]
  refine List.Perm.length_eq ((List.perm_ext_iff_of_nodup nd (ddI_nodup _ _ List.nodup_nil)).mpr fun y => ?_)
  rw [← hS y, hm y]
theorem bcl_set (fit : Fit W X) : CallR X (.type "set") (rB W .set) := by
  intro pins s σ H xs us Q I rs ⟨F, ph, hp, vs, r, hR, qs, e, hQ⟩
  unfold bclP at e
  split at e <;> first | cases e | skip
  all_goals first | (rename_i hc; cases hc; done) | skip
  obtain ⟨v, rfl, qx⟩ := qs.one
  have hu := fit.un
  split at e
  · rename_i xs
    obtain ⟨a, ws, rfl, _, ha, ra⟩ := qx.lstAt hR
    unfold setP at e
    split at e
    · rename_i ok
      cases e
      simp only [okSet, Bool.and_eq_true, decide_eq_true_eq] at ok
      obtain ⟨ks, rfl, ex, hk⟩ := rows_of ra ok.2
      rw [← fit.K] at ha
      have hl : ks.length < 64 := by have := ok.1; rw [ex] at this; simpa using this
      have hkq : ∀ p ∈ ks, SqT X.K H p.1 (p.2.map V.int) := fun p hm => by
        rw [fit.K]
        exact (hk p hm).elim (fun z => .inl (hR.sub _ _ z)) fun z => .inr z
      obtain ⟨its, rv, pl, hz⟩ := I.list ha
      rw [Vals.ref1 rs]
      exact call_set_tups (P := X.prog) (w := X.w) ks (I.ok.hd fit.calm) pl.isList (by simpa using refs_of_vals rv) (fun p hm => I.isT (hkq p hm)) hl (by omega) fun h' tk L es ep t R g k => set_rows_res fit I hR ks ex hk hQ R g k
    · split at e
      · rename_i ok
        cases e
        simp only [okInts, Bool.and_eq_true, decide_eq_true_eq] at ok
        obtain ⟨ns, hn⟩ := Option.isSome_iff_exists.mp ok.1
        have ex := intsP_map hn
        rw [ra.ints hn, ← fit.K] at ha
        obtain ⟨its, rv, pl, hz⟩ := I.list ha
        rw [Vals.ref1 rs]
        refine set_lst_ints (P := X.prog) (w := X.w) ns (I.ok.hd fit.calm) pl.isList (by simpa using rv.ints) (by have := ok.2; rw [ex, List.length_map] at this; unfold scanBound; omega) fun h' tk c R k => set_ints_res fit I hR ex hQ R k
      · cases e
  · rename_i xs
    obtain ⟨a, ws, rfl, ha, ra⟩ := qx.tupAt hR
    unfold setP at e
    split at e
    · rename_i ok
      cases e
      simp only [okSet, Bool.and_eq_true, decide_eq_true_eq] at ok
      obtain ⟨ks, rfl, ex, hk⟩ := rows_of ra ok.2
      rw [← fit.K] at ha
      have hl : ks.length < 64 := by have := ok.1; rw [ex] at this; simpa using this
      have hkq : ∀ p ∈ ks, SqT X.K H p.1 (p.2.map V.int) := fun p hm => by
        rw [fit.K]
        exact (hk p hm).elim (fun z => .inl (hR.sub _ _ z)) fun z => .inr z
      obtain ⟨its, rv, pl, hz⟩ := I.tuple ha
      rw [Vals.ref1 rs]
      exact set_tup_rows (P := X.prog) (w := X.w) ks (I.ok.hd fit.calm) pl (by simpa using refs_of_vals rv) (fun p hm => I.isT (hkq p hm)) hl (by omega) fun h' tk L es ep t R g k => set_rows_res fit I hR ks ex hk hQ R g k
    · split at e
      · rename_i ok
        cases e
        simp only [okInts, Bool.and_eq_true, decide_eq_true_eq] at ok
        obtain ⟨ns, hn⟩ := Option.isSome_iff_exists.mp ok.1
        have ex := intsP_map hn
        rw [ra.ints hn, ← fit.K] at ha
        obtain ⟨its, rv, pl, hz⟩ := I.tuple ha
        rw [Vals.ref1 rs]
        refine call_set_tupI (P := X.prog) (w := X.w) ns (I.ok.hd fit.calm) pl (by simpa using rv.ints) (by have := ok.2; rw [ex, List.length_map] at this; unfold scanBound; omega) fun h' tk c R _ k => set_ints_res fit I hR ex hQ R k
      · cases e
  · cases e
theorem hQ_of {Q : VK} {v : List PV} {vs : List V} {p : Addr} (q : Res W F ph hp H (true, .lst v) Q) (r : RepA W F ph v vs) (hR : RelH W F ph hp H) (n : H p = none) : Q (.ref p) (upd H p (.lst vs)) := q.new hR (.lst r) n
theorem okRows_all {d : Nat} {xs : List PV} (h : xs.all (okRow d) = true) : (xs.all fun x => match x with | .tup ys => (intsP ys).isSome | _ => false) = true := by
  rw [List.all_eq_true] at h ⊢
  intro x hx
  have := h x hx
  unfold okRow at this
  split at this
  · rename_i ys
    rw [Bool.and_eq_true] at this
    cases e : intsP ys with
    | none => rw [e] at this; simp at this
    | some is => simp [e]
  · cases this
/-- the sorted rows of a set -/
theorem sorted_pst (fit : Fit W X) {pins : List (Addr × Obj)} {s : Shared} {σ : L2.St} {Q : VK} {xs : List PV} {x : V} {u : Value} (I : Inv X pins σ H s) (rx : RelV x u) (hR : RelH W F ph hp H) (qx : Rep W F ph (.pst xs) x) (ok : okRows xs = true) (ne : xs ≠ [])
    (q : Res W F ph hp H (true, .lst (xs.mergeSort leP)) Q) : wpAny (model X.prog X.w) X.A (call (.builtin "sorted") [u]) (EP X pins σ Q) X.xe s := by
  cases qx with
  | @obj a _ o e r =>
    obtain rfl : u = Value.ref a := rx
    simp only [okRows, Bool.and_eq_true, decide_eq_true_eq] at ok
    cases r with
    | psI h1 h2 h3 =>
      exfalso
      rename_i ns S n
      cases ns with
      | nil => exact ne rfl
      | cons i ns => have := ok.2; simp [okRow] at this
    | @psT _ ns L h1 h2 h3 =>
      have hrow : ∀ r ∈ ns, r.length = widthP (ns.map rowP) ∧ TS.Bd (2 ^ 30) r := fun r hr => okRow_row ((List.all_eq_true.mp ok.2) (rowP r) (List.mem_map.mpr ⟨r, hr, rfl⟩))
      have hk : ∀ p ∈ L, SqT X.K H p.1 (p.2.map V.int) := fun p hm => by
        rw [fit.K]
        exact (h3 p hm).elim (fun z => .inl (hR.sub _ _ z)) fun z => .inr z
      have R0 : SetT0 X.prog X.w s.heap a L := by
        rw [fit.P, fit.w]
        have z := (hR.sub _ _ e).ok I.hok
        exact z.1
      obtain ⟨es, ep, t, R⟩ := R0.full fun p hm => I.isT (hk p hm)
      refine sorted_setT (d := widthP (ns.map rowP)) (B := 2 ^ 30) R (I.ok.hd fit.calm) ok.1 (fun p hm => hrow p.2 (h1.mem_iff.mp (List.mem_map.mpr ⟨p, hm, rfl⟩))) fun s' p out c L' k g os hpl hg hout pm pw => ?_
      have few : L'.length < 64 := by rw [pm.length_eq]; exact R.few
      have hlen : (L'.map fun q => V.ref q.1).length ≤ sizeLine := by rw [List.length_map, sizeLine_eq]; omega
      have hn : H p = none := I.hok.fresh hpl
      have hv : Vals (L'.map fun q => V.ref q.1) out.toList := by rw [hout]; exact vals_of_refs L'
      have J : Inv X pins σ (upd H p (.lst (L'.map fun q => V.ref q.1))) { s with heap := s'.heap, gens := s'.gens, drawn := s'.drawn, toks := s'.toks } :=
        I.call (ch := []) (Un.laid k hpl hn) (I.hok.laid k hpl ⟨hlen, out.toList, c, hv, hg⟩) (by rw [g]; exact I.bare) (fun _ z => nomatch z)
      have es' : s' = { s with heap := s'.heap, gens := s'.gens, drawn := s'.drawn, toks := s'.toks } := by
        cases s'; cases s; cases os; rfl
      rw [es']
      refine ⟨.ref p, _, J, rfl, hQ_of q ?_ hR hn⟩
      have hs : L'.map (·.2) = ns.mergeSort fun a b => decide (a ≤ b) := by
        refine rows_unique ((pm.map (·.2)).trans h1) ?_
        rw [List.pairwise_map]
        refine pw.imp_of_mem fun {a b} ha hb hab => ?_
        have ra := hrow a.2 (h1.mem_iff.mp ((pm.map (·.2)).mem_iff.mp (List.mem_map.mpr ⟨a, ha, rfl⟩)))
        have rb := hrow b.2 (h1.mem_iff.mp ((pm.map (·.2)).mem_iff.mp (List.mem_map.mpr ⟨b, hb, rfl⟩)))
        exact le_of_code (ra.1.trans rb.1.symm) ra.2 rb.2 hab
      show RepA W F ph ((ns.map rowP).mergeSort leP) _
      rw [sort_rows, ← hs]
      have all : ∀ l : List (Addr × List Int), (∀ z ∈ l, z ∈ L) → RepA W F ph ((l.map (·.2)).map rowP) (l.map fun q => V.ref q.1) := by
        intro l
        induction l with
        | nil => intro _; exact .nil
        | cons z l ih =>
          intro hz
          refine .cons ?_ (ih fun y hy => hz y (List.mem_cons_of_mem _ hy))
          rcases h3 z (hz z List.mem_cons_self) with w | w
          · exact .tup w (RepA.of_ints _)
          · exact .ktup w (RepA.of_ints _)
      exact all L' fun z hz => pm.mem_iff.mp hz
theorem alk_refl : ∀ y : PV, y.dat = true → alk y y = true
  | .non, _ => rfl | .bl _, _ => rfl | .int _, _ => rfl | .str _, _ => rfl
  | .tup xs, h => alkAll_refl xs (by simpa [PV.dat] using h)
  | .lst xs, h => alkAll_refl xs (by simpa [PV.dat] using h)
where alkAll_refl : ∀ xs : List PV, datAll xs = true → alkAll xs xs = true
  | [], _ => rfl
  | x :: xs, h => by
    simp only [datAll, Bool.and_eq_true] at h
    simp only [alkAll, Bool.and_eq_true]
    exact ⟨alk_refl x h.1, alkAll_refl xs h.2⟩
theorem toD_none2 {x : PV} (h : notTup0 x = true) (d : x.dat = true) : toD x ≠ .none := by
  cases x <;> simp [PV.dat] at d <;> simp [toD]
  simp [notTup0] at h
end
mutual
theorem reads_lt {h : Heap} : ∀ {v : Value} {d : PyData} {as : List Addr}, Reads h v d as → ∀ a ∈ as, ∃ o, h.get? a = some o
  | _, _, _, .none => fun a ha => nomatch ha
  | _, _, _, .bool b => fun a ha => nomatch ha
  | _, _, _, .int i t => fun a ha => nomatch ha
  | _, _, _, .str x t => fun a ha => nomatch ha
  | _, _, _, .list e _ _ r => fun a ha => (List.mem_cons.mp ha).elim (fun z => ⟨_, z ▸ e⟩) (readsAll_lt r a)
  | _, _, _, .tuple _ _ _ r => readsAll_lt r
  | _, _, _, .dict e _ _ r q => fun a ha => (List.mem_append.mp ha).elim (fun z => (List.mem_cons.mp z).elim (fun z => ⟨_, z ▸ e⟩) (readsAll_lt r a)) (readsAll_lt q a)
theorem readsAll_lt {h : Heap} : ∀ {v : List Value} {d : List PyData} {as : List Addr}, ReadsAll h v d as → ∀ a ∈ as, ∃ o, h.get? a = some o
  | _, _, _, .nil => fun a ha => nomatch ha
  | _, _, _, .cons r q => fun a ha => (List.mem_append.mp ha).elim (reads_lt r a) (readsAll_lt q a)
end
section
variable {prog : Program} {w : World} {A : Around} {E : Value → Shared → Prop} {s : Shared} {β : Type} {vs : List Value} {bs : List β} {enc : β → PyData} {R : Value → β → Prop}
theorem sorts_short {vs : List Value} {ds : List PyData} (e : PySem.W.EachIs (fun v d => ∃ as, Reads s.heap v d as) vs ds) (hal : PySem.W.AllAlike ds) (h1 : ds.length ≤ 1) (hn : ∀ d ∈ ds, d ≠ .none) (hu : ∀ d, d ∈ ds → A.units + d.depth < cLine) : PySem.W.SortsAt prog w A s (PySem.W.dataKind s.heap ds) vs := by
  refine ⟨fun v hv => ?_, general', ?_, fun h2 => ?_⟩
  · obtain ⟨d, hd, as, r⟩ := e.left v hv
    exact ⟨_, PySem.W.dataKind_some hal hd r⟩
  · intro E x y a b Q ha hb hq
    obtain ⟨d, as, hd, ra, rfl⟩ := PySem.W.dataKind_inv ha
    obtain ⟨d', as', hd', rb, rfl⟩ := PySem.W.dataKind_inv hb
    exact PySem.W.oneLt_alike (f := false) (fun z => nomatch z) ra rb (hal d hd d' hd') (hn d hd) (Nat.lt_of_le_of_lt (Nat.add_le_add_left (Nat.min_le_left _ _) _) (hu d hd)) hq
  · rw [e.length] at h2; omega
/-- list.sort of data, or of one item -/
theorem list_sort_data1 {a : Addr} {n : Nat} {Q : Value → Shared → Prop} (ho : s.heap.get? a = some (seqObj "list" vs.toArray n)) (e : PySem.W.EachIs R vs bs) (er : PySem.W.EachIs (fun v b => ∃ as, Reads s.heap v (enc b) as ∧ a ∉ as) vs bs) (hal : PySem.W.AllAlike (bs.map enc))
    (hk : PySem.W.Sortable (bs.map enc) ∨ (bs.length ≤ 1 ∧ ∀ b ∈ bs, enc b ≠ .none)) (hL : bs.length ≤ sizeLine)
    (hu : ∀ b, b ∈ bs → A.units + 1 + (enc b).depth < cLine) (h : ∀ out, out.length = bs.length → PySem.W.EachIs R out (bs.mergeSort (PySem.W.dataLe false enc)) → Q .none { s with heap := PyProof.Rows.sortedHeap s.heap a vs (List.toArray out) }) :
    wpAny (model prog w) A (call (.builtin "list.sort") [.ref a]) Q E s := by
  rcases hk with hk | ⟨h1, hn⟩
  · exact PySem.W.list_sort_data ho e er hal hk hL hu h
  · have er' : PySem.W.EachIs (fun v b => ∃ as, Reads (PySem.W.sortingHeap s.heap a vs) v (enc b) as) vs bs := PySem.W.each_keepBut (h' := PySem.W.sortingHeap s.heap a vs) (fun _ _ hb q => PySem.W.sortingHeap_old hb q) (fun o q => by rw [ho] at q; rw [← Option.some.inj q]) hal er
    refine wpAny_call_entry slot_list_sort ⟨_, ho, rfl⟩ entry_list_sort (PySem.W.list_sort_vals (κ := PySem.W.dataKind (PySem.W.sortingHeap s.heap a vs) (bs.map enc)) ho (sorts_short (s := { s with heap := PySem.W.sortingHeap s.heap a vs }) (PySem.W.each_map (R := fun v d => ∃ as, Reads (PySem.W.sortingHeap s.heap a vs) v d as) enc er') hal (by simpa using h1) (fun d hd => by
      obtain ⟨b, hb, rfl⟩ := List.mem_map.mp hd
      exact hn b hb) (PySem.W.bound_map hu)) (by rw [e.length]; exact hL) ⟨.none, rfl, ?_⟩) (args_list_sort _)
    exact h _ (by rw [PySem.W.sortVals_length false rfl]; exact e.length) (PySem.W.sortVals_data false e er' hal)
/-- sorted(x) of anything whose items are collected -/
theorem sorted_coll {x : Value} {Q : Value → Shared → Prop}
    (coll : ∀ S : List Value → Shared → Prop, (∀ h' tk, (∀ b o, s.heap.get? b = some o → h'.get? b = some o) → S vs { s with heap := h', toks := tk }) → wpAny (model prog w) A.in1 (collect x) S E s)
    (e : PySem.W.EachIs R vs bs) (er : PySem.W.EachIs (fun v b => ∃ as, Reads s.heap v (enc b) as) vs bs) (hal : PySem.W.AllAlike (bs.map enc)) (hk : PySem.W.Sortable (bs.map enc) ∨ (bs.length ≤ 1 ∧ ∀ b ∈ bs, enc b ≠ .none)) (hL : bs.length ≤ sizeLine)
    (hu : ∀ b, b ∈ bs → A.units + 2 + (enc b).depth < cLine)
    (fin : ∀ (h1 h' : Heap) (tk c : Nat) (out : List Value), (∀ b o, s.heap.get? b = some o → h1.get? b = some o) → (∀ b o, h1.get? b = some o → h'.get? b = some o) → h'.get? h1.objs.size = some (seqObj "list" out.toArray c) → out.length = bs.length → PySem.W.EachIs R out (bs.mergeSort (PySem.W.dataLe false enc)) → Q (.ref h1.objs.size) { s with heap := h', toks := tk }) :
    wpAny (model prog w) A (call (.builtin "sorted") [x]) Q E s := by
  refine Calls.call_function_entry kind_sorted plain_sorted entry_sorted (args_sorted1 _) ?_
  unfold Builtin.«sorted»
  refine wpAny_bind (m := checkCount "sorted" 1 1 _) (wpAny_pure ?_)
  refine wpAny_bind (coll _ fun h1 tk k1 => ?_)
  refine wpAny_bind (wpAny_newList ?_ (by rw [e.length]; exact hL))
  have k2 : ∀ b o, s.heap.get? b = some o → (h1.push (seqObj "list" vs.toArray 0)).get? b = some o := fun b o q => Heap.get?_push_of_some _ (k1 b o q)
  have g2 : (h1.push (seqObj "list" vs.toArray 0)).get? h1.objs.size = some (seqObj "list" vs.toArray 0) := Heap.get?_push_size _ rfl
  have er2 : PySem.W.EachIs (fun v b => ∃ as, Reads (h1.push (seqObj "list" vs.toArray 0)) v (enc b) as ∧ h1.objs.size ∉ as) vs bs := er.mono fun v b ⟨as, r⟩ => ⟨as, PyProof.Rows.Reads.keeps k2 r, fun hm => let ⟨o, ho⟩ := reads_lt r _ hm; absurd (Heap.lt_size (k1 _ o ho)) (Nat.lt_irrefl _)⟩
  show wpAny _ A.in1 _ _ _ { s with heap := h1.push (seqObj "list" vs.toArray 0), toks := tk }
  refine wpAny_bind (wpAny_holding (list_sort_data1 (s := { s with heap := h1.push (seqObj "list" vs.toArray 0), toks := tk }) (n := 0) g2 e er2 hal hk hL (fun b hb => ?_) fun out ho eo => ?_))
  · have := hu b hb
    show A.units + 1 + 1 + _ < _
    omega
  · obtain ⟨c, hc⟩ := PyProof.Rows.sortedHeap_at (out := out.toArray) g2
    refine wpAny_pure ⟨_, rfl, fin h1 _ tk c out k1 (fun b o q => ?_) hc ho eo⟩
    rw [PyProof.Rows.sortedHeap_old (Nat.ne_of_lt (Heap.lt_size q)) (Heap.lt_size (Heap.get?_push_of_some _ q))]
    exact Heap.get?_push_of_some _ q
end
section
variable {W : Wd} {X : Cx} {F H : Hp} {ph : List Addr} {hp : Hs}
/-- sorted(x) of anything whose items are collected, its data in order -/
theorem sorted_src (fit : Fit W X) {pins : List (Addr × Obj)} {s : Shared} {σ : L2.St} {Q : VK} {xs : List PV} {vs : List V} {its : List Value} {u : Value} (I : Inv X pins σ H s) (hR : RelH W F ph hp H) (ra : RepA W F ph xs vs) (rv : Vals vs its) (ok : okSort xs = true ∨ okSort1 xs = true)
    (coll : ∀ (E : Value → Shared → Prop) (S : List Value → Shared → Prop), (∀ h' tk, (∀ b o, s.heap.get? b = some o → h'.get? b = some o) → S its { s with heap := h', toks := tk }) → wpAny (model X.prog X.w) X.A.in1 (collect u) S E s)
    (q : Res W F ph hp H (true, .lst (xs.mergeSort leP)) Q) : wpAny (model X.prog X.w) X.A (call (.builtin "sorted") [u]) (EP X pins σ Q) X.xe s := by
  have alr : ∀ y : PV, y.dat = true → alk y y = true := fun y hy => alk_refl y hy
  have ok : (((∀ x ∈ xs, ∀ y ∈ xs, alk x y = true) ∧ ((∀ x ∈ xs, notTup0 x = true) ∨ (xs.length ≤ 1 ∧ ∀ x ∈ xs, eqP x .non = false))) ∧ ∀ x ∈ xs, x.dep ≤ 60) ∧ xs.length ≤ PySem.sizeLine := by
    rcases ok with ok | ok
    · simp only [okSort, Bool.and_eq_true, decide_eq_true_eq, List.all_eq_true] at ok
      obtain ⟨⟨⟨al, nt⟩, dp⟩, hl⟩ := ok
      exact ⟨⟨⟨al, .inl nt⟩, dp⟩, hl⟩
    · simp only [okSort1, Bool.and_eq_true, decide_eq_true_eq, List.all_eq_true, Bool.not_eq_true'] at ok
      refine ⟨⟨⟨fun x hx y hy => ?_, .inr ⟨ok.1, fun x hx => (ok.2 x hx).2⟩⟩, fun x hx => (ok.2 x hx).1.2⟩, Nat.le_trans ok.1 (by rw [sizeLine_eq]; decide)⟩
      have : x = y := by
        match xs, ok.1, hx, hy with
        | [z], _, hx, hy => rw [List.mem_singleton.mp hx, List.mem_singleton.mp hy]
      subst this
      exact alr x (ok.2 x hx).1.1
  obtain ⟨⟨⟨al, nt⟩, dp⟩, hl⟩ := ok
  have hdat : ∀ y ∈ xs, y.dat = true := fun y hy => alk_dat y (al y hy y hy)
  have hu := fit.un
  have e0 : ∀ (ys : List PV) (ws : List V) (us : List Value), RepA W F ph ys ws → Vals ws us → PySem.W.EachIs (fun (v : Value) (b : PV × V) => RelV b.2 v ∧ Rep W F ph b.1 b.2) us (ys.zip ws) := by
    intro ys
    induction ys with
    | nil => intro ws us r v; cases r; cases v; exact .nil
    | cons y ys ih =>
      intro ws us r v
      cases r with
      | cons r t =>
        cases v with
        | cons rv tv => exact .cons ⟨rv, r⟩ (ih _ _ t tv)
  have hm : (xs.zip vs).map (·.1) = xs := List.map_fst_zip (by rw [ra.length]; exact Nat.le_refl _)
  have mem1 : ∀ b ∈ xs.zip vs, b.1 ∈ xs := fun b hb => by rw [← hm]; exact List.mem_map.mpr ⟨b, hb, rfl⟩
  have er : PySem.W.EachIs (fun (v : Value) (b : PV × V) => ∃ as, Reads s.heap v (toD b.1) as) its (xs.zip vs) := by
    have go : ∀ (ys : List PV) (ws : List V) (us : List Value), (∀ y ∈ ys, y.dat = true) → RepA W F ph ys ws → Vals ws us → PySem.W.EachIs (fun (v : Value) (b : PV × V) => ∃ as, Reads s.heap v (toD b.1) as) us (ys.zip ws) := by
      intro ys
      induction ys with
      | nil => intro ws us _ r v; cases r; cases v; exact .nil
      | cons y ys ih =>
        intro ws us hd r v
        cases r with
        | cons r t =>
          cases v with
          | cons rv tv => exact .cons (reads2 fit I rv hR r (hd y List.mem_cons_self)).1 (ih _ _ (fun z hz => hd z (List.mem_cons_of_mem _ hz)) t tv)
    exact go xs vs its hdat ra rv
  have hal : PySem.W.AllAlike ((xs.zip vs).map fun b => toD b.1) := by
    intro d hd d' hd'
    obtain ⟨b, hb, rfl⟩ := List.mem_map.mp hd
    obtain ⟨b', hb', rfl⟩ := List.mem_map.mp hd'
    exact toD_alk _ _ (al _ (mem1 b hb) _ (mem1 b' hb'))
  have hk : PySem.W.Sortable ((xs.zip vs).map fun b => toD b.1) ∨ ((xs.zip vs).length ≤ 1 ∧ ∀ b ∈ xs.zip vs, toD b.1 ≠ .none) := by
    rcases nt with nt | ⟨h1, nn⟩
    rotate_left
    · refine .inr ⟨by rw [List.length_zip]; omega, fun b hb z => ?_⟩
      have := nn b.1 (mem1 b hb)
      have hd := hdat b.1 (mem1 b hb)
      cases hb1 : b.1 <;> rw [hb1] at z this hd <;> simp [toD, eqP, PV.dat] at z this hd
    left
    by_cases c : ∃ y ∈ xs, isTup y = true
    · obtain ⟨y, hy, ty⟩ := c
      refine .inl fun d hd => ?_
      obtain ⟨b, hb, rfl⟩ := List.mem_map.mp hd
      have h1 := al y hy b.1 (mem1 b hb)
      have h2 := nt b.1 (mem1 b hb)
      cases y <;> simp [isTup] at ty
      cases hb1 : b.1 <;> rw [hb1] at h1 h2 <;> simp [alk] at h1
      rename_i zs
      cases zs with
      | nil => simp [notTup0] at h2
      | cons z zs => exact ⟨_, _, rfl⟩
    · refine .inr fun d hd => ?_
      obtain ⟨b, hb, rfl⟩ := List.mem_map.mp hd
      refine ⟨toD_none2 (nt _ (mem1 b hb)) (hdat _ (mem1 b hb)), fun zs z => c ⟨b.1, mem1 b hb, ?_⟩⟩
      cases hb1 : b.1 <;> rw [hb1] at z <;> simp [toD] at z <;> rfl
  have hzl : (xs.zip vs).length = xs.length := by rw [List.length_zip, ra.length, Nat.min_self]
  refine sorted_coll (bs := xs.zip vs) (enc := fun b => toD b.1) (coll _) (e0 xs vs its ra rv) er hal hk (by rw [hzl]; exact hl) (fun b hb => ?_) fun h1 h' tk c out k1 k2 hD ho eo => ?_
  · have := dp b.1 (mem1 b hb)
    rw [toD_dep]
    omega
  · have srt : ((xs.zip vs).mergeSort (PySem.W.dataLe false fun b => toD b.1)).map (·.1) = xs.mergeSort leP := by
      rw [List.map_mergeSort (s := leP), hm]
      intro b hb b' hb'
      rw [PySem.W.dataLe_eq]
      show (!PySem.W.dataLt (toD b'.1) (toD b.1)) = !ltP b'.1 b.1
      rw [alk_lt _ _ (al _ (mem1 b' hb') _ (mem1 b hb))]
    generalize (xs.zip vs).mergeSort (PySem.W.dataLe false fun b => toD b.1) = bs at eo srt ho
    have two : ∀ (us : List Value) (bs : List (PV × V)), PySem.W.EachIs (fun (v : Value) (b : PV × V) => RelV b.2 v ∧ Rep W F ph b.1 b.2) us bs → Vals (bs.map (·.2)) us ∧ RepA W F ph (bs.map (·.1)) (bs.map (·.2)) := by
      intro us bs h
      induction h with
      | nil => exact ⟨.nil, .nil⟩
      | cons h _ ih => exact ⟨.cons h.1 ih.1, .cons h.2 ih.2⟩
    obtain ⟨t1, t2⟩ := two out bs eo
    rw [srt] at t2
    have hlen : (bs.map (·.2)).length ≤ sizeLine := by rw [← t2.length, List.length_mergeSort]; exact hl
    have I1 := I.kept (t' := tk) k1
    have hn : H h1.objs.size = none := I1.hok.fresh (Nat.le_refl _)
    exact ⟨.ref _, upd H h1.objs.size (.lst (bs.map (·.2))), I1.laid (t' := tk) k2 (Nat.le_refl _) ⟨hlen, out, c, t1, hD⟩, rfl, hQ_of q t2 hR hn⟩
/-- sorted(a list), sorted(a tuple) -/
theorem sorted_lst (fit : Fit W X) {pins : List (Addr × Obj)} {s : Shared} {σ : L2.St} {Q : VK} {xs : List PV} {x : V} {u : Value} (I : Inv X pins σ H s) (rx : RelV x u) (hR : RelH W F ph hp H) (qx : RepXL W F ph H (.lst xs) x) (ok : okSort xs = true ∨ okSort1 xs = true)
    (q : Res W F ph hp H (true, .lst (xs.mergeSort leP)) Q) : wpAny (model X.prog X.w) X.A (call (.builtin "sorted") [u]) (EP X pins σ Q) X.xe s := by
  obtain ⟨a, vs, rfl, _, ha, ra⟩ := qx.lstAt hR
  obtain rfl : u = Value.ref a := rx
  rw [← fit.K] at ha
  obtain ⟨its, rv, pl, hz⟩ := I.list ha
  obtain ⟨o, ho, hc, n, hd⟩ := pl.isList
  refine sorted_src fit I hR ra rv ok (fun E S hS => wpAny_collect_seq a (.inl rfl) ho hc hd (fun h' hk => ?_) (by rw [List.size_toArray, ← rv.length]; exact hz)) q
  have := hS h' s.toks hk
  simpa using this
theorem sorted_tup (fit : Fit W X) {pins : List (Addr × Obj)} {s : Shared} {σ : L2.St} {Q : VK} {xs : List PV} {x : V} {u : Value} (I : Inv X pins σ H s) (rx : RelV x u) (hR : RelH W F ph hp H) (qx : Rep W F ph (.tup xs) x) (ok : okSort xs = true ∨ okSort1 xs = true)
    (q : Res W F ph hp H (true, .lst (xs.mergeSort leP)) Q) : wpAny (model X.prog X.w) X.A (call (.builtin "sorted") [u]) (EP X pins σ Q) X.xe s := by
  obtain ⟨a, vs, rfl, ha, ra⟩ := qx.tupAt hR
  obtain rfl : u = Value.ref a := rx
  rw [← fit.K] at ha
  obtain ⟨its, rv, ⟨o, ho, hc, n, hd⟩, hz⟩ := I.tuple ha
  refine sorted_src fit I hR ra rv ok (fun E S hS => wpAny_collect_seq a (.inr rfl) ho hc hd (fun h' hk => ?_) (by rw [List.size_toArray, ← rv.length]; exact hz)) q
  have := hS h' s.toks hk
  simpa using this
theorem sort_one {xs : List PV} (ok : okSort1 xs = true) : xs.mergeSort leP = xs := by
  simp only [okSort1, Bool.and_eq_true, decide_eq_true_eq] at ok
  match xs, ok.1 with
  | [], _ => simp
  | [x], _ => simp
/-- sorted(a set of ints), or of nothing -/
theorem sorted_psI (fit : Fit W X) {pins : List (Addr × Obj)} {s : Shared} {σ : L2.St} {Q : VK} {xs : List PV} {x : V} {u : Value} (I : Inv X pins σ H s) (rx : RelV x u) (hR : RelH W F ph hp H) (qx : Rep W F ph (.pst xs) x) (ok : okInts xs = true) (few : xs.length < 64)
    (q : Res W F ph hp H (true, .lst (xs.mergeSort leP)) Q) : wpAny (model X.prog X.w) X.A (call (.builtin "sorted") [u]) (EP X pins σ Q) X.xe s := by
  simp only [okInts, Bool.and_eq_true, decide_eq_true_eq] at ok
  obtain ⟨is, hi⟩ := Option.isSome_iff_exists.mp ok.1
  have ex := intsP_map hi
  cases qx with
  | @obj a _ o e r =>
    obtain rfl : u = Value.ref a := rx
    cases r with
    | @psI _ ns S n h1 h2 h3 =>
      have en : ns = is := by
        have : ns.map PV.int = is.map PV.int := ex
        exact (List.map_inj_right fun _ _ e => by cases e; rfl).mp this
      subst en
      have R : SetR X.w s.heap a S n := by
        rw [fit.w]
        exact ((hR.sub _ _ e).ok I.hok).1
      have h64 : n < 64 := by rw [h3]; simpa using few
      refine L2.sorted_set R (I.ok.hd fit.calm) h64 fun s' p out c ms k g os hpl hg hv hs hm hl => ?_
      have hlen : (ms.map V.int).length ≤ sizeLine := by rw [List.length_map, hl, sizeLine_eq]; omega
      have hn : H p = none := I.hok.fresh hpl
      have J : Inv X pins σ (upd H p (.lst (ms.map V.int))) { s with heap := s'.heap, gens := s'.gens, drawn := s'.drawn, toks := s'.toks } :=
        I.call (ch := []) (Un.laid k hpl hn) (I.hok.laid k hpl ⟨hlen, out.toList, c, vals_of_ints hv, hg⟩) (by rw [g]; exact I.bare) (fun _ z => nomatch z)
      have es : s' = { s with heap := s'.heap, gens := s'.gens, drawn := s'.drawn, toks := s'.toks } := by
        cases s'; cases s; cases os; rfl
      rw [es]
      refine ⟨.ref p, _, J, rfl, hQ_of q ?_ hR hn⟩
      have sm : (ns.map PV.int).mergeSort leP = ms.map PV.int := by
        have e1 : (ns.map PV.int).mergeSort leP = (ns.mergeSort fun a b => decide (a ≤ b)).map PV.int := by
          rw [List.map_mergeSort]
          intro a _ b _
          show decide (a ≤ b) = !decide (b < a)
          by_cases hab : b < a
          · simp [hab]
          · simp [hab]; omega
        rw [e1]
        congr 1
        refine List.Perm.eq_of_pairwise (le := fun a b => a ≤ b) (fun a b _ _ h1 h2 => Int.le_antisymm h1 h2) ?_ ?_ ?_
        · have := List.pairwise_mergeSort (le := fun (a b : Int) => decide (a ≤ b)) (fun a b c h1 h2 => decide_eq_true (Int.le_trans (of_decide_eq_true h1) (of_decide_eq_true h2))) (fun a b => by simpa using Int.le_total a b) ns
          exact this.imp fun h => of_decide_eq_true h
        · exact hs.imp fun h => Int.le_of_lt h
        · refine (List.mergeSort_perm _ _).trans ((List.perm_ext_iff_of_nodup h2 (hs.imp fun h => Int.ne_of_lt h)).mpr fun y => ?_)
          rw [← h1 y, hm y]
      show RepA W F ph ((ns.map PV.int).mergeSort leP) (ms.map V.int)
      rw [sm]
      exact RepA.of_ints ms
    | @psT _ ns L h1 h2 h3 =>
      -- nothing is in it
      have en : ns = [] := by
        cases ns with
        | nil => rfl
        | cons r ns => simp [intsP] at hi
      subst en
      have eL : L = [] := by simpa using h1
      subst eL
      have R0 : SetT0 X.prog X.w s.heap a [] := by
        rw [fit.P, fit.w]
        exact ((hR.sub _ _ e).ok I.hok).1
      obtain ⟨es, ep, t, R⟩ := R0.full fun p hm => by simp at hm
      refine sorted_setT (d := 1) (B := 1) R (I.ok.hd fit.calm) (by decide) (fun p hm => by simp at hm) fun s' p out c L' k g os hpl hg hout pm pw => ?_
      have eL : L' = [] := by simpa using pm
      subst eL
      have hn : H p = none := I.hok.fresh hpl
      have hv : Vals (([] : List (Addr × List Int)).map fun q => V.ref q.1) out.toList := by rw [hout]; exact vals_of_refs []
      have J : Inv X pins σ (upd H p (.lst [])) { s with heap := s'.heap, gens := s'.gens, drawn := s'.drawn, toks := s'.toks } :=
        I.call (ch := []) (Un.laid k hpl hn) (I.hok.laid k hpl ⟨by simp, out.toList, c, hv, hg⟩) (by rw [g]; exact I.bare) (fun _ z => nomatch z)
      have es' : s' = { s with heap := s'.heap, gens := s'.gens, drawn := s'.drawn, toks := s'.toks } := by
        cases s'; cases s; cases os; rfl
      rw [es']
      refine ⟨.ref p, _, J, rfl, hQ_of q ?_ hR hn⟩
      show RepA W F ph (([] : List PV).mergeSort leP) []
      rw [List.mergeSort_nil]
      exact .nil
theorem RepD.get : ∀ {kvs : List (PV × PV)} {es : List DictEntry} {i : Nat} {x : PV}, RepD W F ph kvs es → (kvs.map (·.1))[i]? = some x → ∃ en, es[i]? = some en ∧ KeyR W F x en.hash en.key
  | _, _, _, _, .nil, h => by simp at h
  | _, _, 0, _, .cons k _ _ _, h => by simp at h; subst h; exact ⟨_, rfl, k⟩
  | _, _, i + 1, _, .cons _ _ _ t, h => by
    obtain ⟨en, h1, h2⟩ := RepD.get (i := i) t (by simpa using h)
    exact ⟨en, by simpa using h1, h2⟩
theorem key_rep {x : PV} {i : Int} {u : Value} (h : KeyR W F x i u) (ok : intKey x = true) : ∃ y, RelV y u ∧ Rep W F ph x y := by
  cases h with
  | @scal k _ h1 h2 =>
    cases x <;> simp [keyOf] at h1 <;> simp [intKey] at ok
    subst h1
    exact ⟨_, relV_key h2, .int _⟩
  | @tup ks b h1 h2 =>
    cases x <;> simp [tkeyOf] at h1
    rename_i xs
    obtain ⟨ns, hn⟩ := Option.isSome_iff_exists.mp (show (intsP xs).isSome = true from ok)
    have e1 := intsP_map hn
    subst e1
    have e2 : ∀ (ns : List Int) (ks : List Key), keysOf (ns.map PV.int) = some ks → ks.map kV = ns.map V.int := by
      intro ns
      induction ns with
      | nil => intro ks h; simp [keysOf] at h; subst h; rfl
      | cons n ns ih =>
        intro ks h
        simp only [List.map_cons, keysOf, keyOf, Option.bind_some, Option.map_eq_some_iff] at h
        obtain ⟨r, hr, rfl⟩ := h
        rw [List.map_cons, ih r hr]; rfl
    rw [e2 ns ks h1] at h2
    refine ⟨.ref b, rfl, ?_⟩
    rcases h2 with h2 | h2
    · exact .tup h2 (RepA.of_ints _)
    · exact .ktup h2 (RepA.of_ints _)
theorem keys_reps : ∀ {kvs : List (PV × PV)} {es : List DictEntry}, RepD W F ph kvs es → (keysP kvs).all intKey = true → ∃ ws, RepA W F ph (keysP kvs) ws ∧ Vals ws (es.map (·.key))
  | _, _, .nil, _ => ⟨[], .nil, .nil⟩
  | _, _, .cons k _ _ t, h => by
    simp only [keysP, List.map_cons, List.all_cons, Bool.and_eq_true] at h
    obtain ⟨ws, r, v⟩ := keys_reps t h.2
    obtain ⟨y, ry, rep⟩ := key_rep (ph := ph) k h.1
    exact ⟨y :: ws, .cons rep r, .cons ry v⟩
/-- a dict as a source of its keys -/
theorem src_dict {prog : Program} {w : World} {d : Addr} {es : Array DictEntry} {ep : Nat} (lo : (d == sysModules) = false) : PySem.W.KdlSrc prog w "dict" d d es.size (fun i v => ∃ hi : i < es.size, v = es[i].key) (fun h => h.DictRaw d es ep) where
  type := fun _ hm => hm.typeIs
  there := fun _ hm => let ⟨_, ho, _⟩ := hm; ⟨Heap.lt_size ho, Heap.lt_size ho⟩
  keep := fun _ _ hm hk => hm.at fun o e => hk d (.inl rfl) o e
  notList := by decide
  notTuple := by decide
  hint := fun _ _ _ _ hm hq => PySem.W.kdl_hint_dict hm.typeIs hq
  iter := fun _ _ hh hm => ⟨_, _, (fun _ _ hq => wpAny_pyIter_dict_raw lo hm hq), Walks.rawKeys hh _ d (by obtain ⟨_, ho, _⟩ := hm; exact Nat.ne_of_lt (Heap.lt_size ho)) es ep, ⟨⟨_, Heap.get?_push_size _ rfl, rfl, rfl⟩, hm.at fun _ e => Heap.get?_push_of_some _ e⟩⟩
/-- sorted(a dict) -/
theorem sorted_dct (fit : Fit W X) {pins : List (Addr × Obj)} {s : Shared} {σ : L2.St} {Q : VK} {kvs : List (PV × PV)} {x : V} {u : Value} (I : Inv X pins σ H s) (rx : RelV x u) (hR : RelH W F ph hp H) (qx : Rep W F ph (.dct kvs) x) (oki : (keysP kvs).all intKey = true) (ok : okSort (keysP kvs) = true)
    (q : Res W F ph hp H (true, .lst ((keysP kvs).mergeSort leP)) Q) : wpAny (model X.prog X.w) X.A (call (.builtin "sorted") [u]) (EP X pins σ Q) X.xe s := by
  obtain ⟨a, o, rfl, e, ho, r⟩ := qx.dctAt hR
  obtain rfl : u = Value.ref a := rx
  cases r with
  | @dct _ _ ob es ep h1 h2 h3 h4 h5 r =>
    obtain ⟨ws, ra, rv⟩ := keys_reps r oki
    have g := obj_at I ho
    refine sorted_src fit I hR ra rv (.inl ok) (fun E S hS => PySem.W.kdu_collect (src_dict (es := es) (ep := ep) h1) (by show X.A.in1.handled = none; have := I.ok.hd fit.calm; simp [this]) ⟨ob, g, h2, h3⟩ h4 fun h' tk acc hk hacc => ?_) q
    have ea : acc.toList = es.toList.map (·.key) := by
      refine List.ext_getElem (by simp [hacc.1]) fun j h1 h2 => ?_
      have hj : j < acc.size := by simpa using h1
      obtain ⟨hi, ev⟩ := hacc.2 j acc[j] (Array.getElem?_eq_getElem hj)
      simp [ev]
    rw [ea]
    exact hS h' tk hk
theorem bcl_sorted (fit : Fit W X) : CallR X (.builtin "sorted") (rB W .sorted) := by
  intro pins s σ H xs us Q I rs ⟨F, ph, hp, vs, r, hR, qs, e, hQ⟩
  unfold bclP at e
  split at e <;> first | cases e | skip
  all_goals first | (rename_i hc; cases hc; done) | skip
  obtain ⟨v, rfl, qx⟩ := qs.one
  obtain ⟨u, rfl, ru⟩ := vals1 rs
  split at e
  · rename_i ys
    simp only [sortP] at e
    split at e
    · rename_i ok
      cases e
      exact sorted_lst fit I ru hR qx (.inl ok) hQ
    · split at e
      · rename_i ok
        cases e
        rw [← sort_one ok] at hQ
        exact sorted_lst fit I ru hR qx (.inr ok) hQ
      · cases e
  · rename_i ys
    simp only [sortP] at e
    split at e
    · rename_i ok
      cases e
      exact sorted_tup fit I ru hR (qx.rep fun _ e => nomatch e) (.inl ok) hQ
    · split at e
      · rename_i ok
        cases e
        rw [← sort_one ok] at hQ
        exact sorted_tup fit I ru hR (qx.rep fun _ e => nomatch e) (.inr ok) hQ
      · cases e
  · split at e
    · rename_i ok
      cases e
      rw [Bool.and_eq_true] at ok
      exact sorted_dct fit I ru hR (qx.rep fun _ e => nomatch e) ok.1 ok.2 hQ
    · cases e
  · split at e
    · rename_i ok
      cases e
      exact sorted_pst fit I ru hR (qx.rep fun _ e => nomatch e) ok.1 ok.2 hQ
    · split at e
      · rename_i ok
        cases e
        exact sorted_psI fit I ru hR (qx.rep fun _ e => nomatch e) ok.1 ok.2 hQ
      · cases e
  · cases e
end
end MP
set_option maxRecDepth 100000
/-! MiniPy: checks of the text; expressions over the machine. -/
namespace MP
open PySem PySem.Spec PyProof.Rows L2
/-! ### what is checked -/
structure Cc where
  N : List Str
  sc : Scope
  cell : Str → Bool
  gl : Nat → Option Str
  fn : Nat → Option Str
def bname : Bfn → Str
  | .len => "len" | .int => "int" | .sorted => "sorted" | .set => "set" | .tuple => "tuple" | .list => "list"
  | .sum => "sum" | .max => "max" | .min => "min" | .all => "all" | .any => "any" | .abs => "abs" | .str => "str"
def tyname : Ty → Str
  | .int => "int" | .bool => "bool" | .str => "str" | .tuple => "tuple" | .list => "list" | .dict => "dict"
def bnames : List Str := ["len", "int", "sorted", "set", "tuple", "list", "sum", "max", "min", "all", "any", "abs", "str", "bool", "dict", "isinstance", "range", "reversed"]
def isGlB (sc : Scope) (x : Str) : Bool := decide (sc.names.lookup x = some .globalImplicit) && !(x == ("__debug__" : Str))
def visB (sc : Scope) (x : Str) : Bool := match sc.names.lookup x with
  | some .local => true | some .cell => true | some .free => true | _ => false
def locB (C : Cc) (x : Str) : Bool := match C.sc.names.lookup x with
  | some .local => true | some .cell => C.cell x | _ => false
def mname : Mth → Str
  | .index => "index" | .get => "get"
def plainO : Expr → Bool
  | .Call (.Name _ _) [] [] _ => false
  | _ => true
def noSl : Expr → Bool
  | .Slice _ _ _ _ => false
  | _ => true
def isSet : Expr → Bool
  | .Set _ _ _ => true
  | _ => false
def nameIs (C : Cc) (x : Str) : Expr → Bool
  | .Name y _ => decide (y = x) && isGlB C.sc x
  | _ => false
def CX0 : CXT := fun _ _ _ _ _ _ => False
def E0 : XK := fun _ _ _ => True
/-- what is wanted of a result, where the shared may have changed -/
def Post (W : Wd) (F : Hp) (ph : List Addr) (H : Hp) (hp1 : Hs) (r : Rv) (Q : VK) : Prop :=
  ∀ F' ph' x H', Ext F ph H F' ph' H' → RelH W F' ph' hp1 H' → RRep W F' ph' H H' r x → Q x H'
def PostL (W : Wd) (F : Hp) (ph : List Addr) (H : Hp) (hp1 : Hs) (vs : List PV) (Q : List V → Hp → Prop) : Prop :=
  ∀ F' ph' xs H', Ext F ph H F' ph' H' → RelH W F' ph' hp1 H' → RepA W F' ph' vs xs → Q xs H'
def spF (W : Wd) (G : Gl) (k f np : Nat) : Sp := fun xs H Q _ => ∃ F ph hp vs r hp1, RelH W F ph hp H ∧ RepA W F ph vs xs ∧ vs.length = np ∧ callF G k f vs hp = some (r, hp1) ∧ Post W F ph H hp1 r Q
structure XOk (W : Wd) (G : Gl) (k : Nat) (C : Cc) (X : Cx) : Prop where
  fit : Fit W X
  room : Room k X.A
  N : X.N = C.N
  nd : C.N.Nodup
  sc : X.env.scope = C.sc
  cell : ∀ x, C.cell x = true → X.fn x = true
  kind : C.sc.kind = .function
  cst : ∀ g x v, C.gl g = some x → G.cst g = some v → ∃ u y, X.mg x = some u ∧ RelV y u ∧ ∀ F ph, Rep W F ph v y
  fnv : ∀ f x, C.fn f = some x → ∃ a, X.mg x = some (.ref a) ∧ W.fa f = some a
  tot : ∀ f fdm, G.fns f = some fdm → ∃ x, C.fn f = some x
  bt : ∀ x ∈ bnames, X.mg x = none
  call : ∀ f x fdm, C.fn f = some x → G.fns f = some fdm → ∃ a fd ps, X.mg x = some (.ref a) ∧ PySem.W.keepIn X.K (.ref a) = true ∧ FnOk X.prog X.w X.K X.mg X.base CX0 k a fd ps (spF W G k f fdm.np) ∧ ps.length = fdm.np ∧
    ∀ n, n + (fdm.dfl.length - (fdm.dfl.length - (fdm.np - n))) = fdm.np → ∃ ds dvs, Binds X.K fd ps ds ∧ Vals dvs ds ∧ ∀ F ph, RepA W F ph (fdm.dfl.drop (fdm.dfl.length - (fdm.np - n))) dvs
section
variable {W : Wd} {G : Gl} {k : Nat} {C : Cc} {X : Cx} {F F1 H H1 : Hp} {ph ph1 : List Addr} {hp hp1 : Hs}
theorem Post.res {r : Rv} {Q : VK} (p : Post W F ph H hp1 r Q) (e : Ext F ph H F1 ph1 H1) : Res W F1 ph1 hp1 H1 r Q := fun F' x H' e' h' r' => p F' ph1 x H' (e.trans e') h' (r'.back e)
theorem Post.at_ {v : PV} {x : V} {Q : VK} (p : Post W F ph H hp1 (false, v) Q) (e : Ext F ph H F1 ph1 H1) (h : RelH W F1 ph1 hp1 H1) (r : Rep W F1 ph1 v x) : Q x H1 := p F1 ph1 x H1 e h (RRep.of r)
theorem Post.comp {r : Rv} {Q : VK} (p : Post W F ph H hp1 r Q) (e : Ext F ph H F1 ph1 H1) : Post W F1 ph1 H1 hp1 r Q := fun F' ph' x H' e' h' r' => p F' ph' x H' (e.trans e') h' (r'.back e)
theorem PostL.comp {r : List PV} {Q : List V → Hp → Prop} (p : PostL W F ph H hp1 r Q) (e : Ext F ph H F1 ph1 H1) : PostL W F1 ph1 H1 hp1 r Q := fun F' ph' x H' e' h' r' => p F' ph' x H' (e.trans e') h' r'
def tE (W : Wd) (G : Gl) (k : Nat) (m : ME) : TE := fun σ H Q => ∃ F ph hp env r hp1, RelH W F ph hp H ∧ RelE W F ph env σ ∧ ev G.cst (callF G k) m env hp = some (r, hp1) ∧ Post W F ph H hp1 r Q
def tL (W : Wd) (G : Gl) (k : Nat) (m : ME) : TA := fun σ H Q => ∃ F ph hp env vs hp1, RelH W F ph hp H ∧ RelE W F ph env σ ∧ evL G.cst (callF G k) m env hp = some (vs, hp1) ∧ PostL W F ph H hp1 vs Q
/-- a part's value, then the rest -/
theorem tE_val {m : ME} {σ : L2.St} {Q : VK} {env : Env} {r : Rv} (h : RelH W F ph hp H) (he : RelE W F ph env σ) (e : ev G.cst (callF G k) m env hp = some (r, hp1))
    (q : ∀ F' ph' x H', Ext F ph H F' ph' H' → RelH W F' ph' hp1 H' → RelE W F' ph' env σ → Rep W F' ph' r.2 x → Q x H') : tE W G k m σ H Q := by
  refine ⟨F, ph, hp, env, r, hp1, h, he, e, fun F' ph' x H' e' h' r' => ?_⟩
  obtain ⟨F2, e2, h2, r2⟩ := r'.val e' h'
  exact q F2 ph' x H' e2 h2 (he.ext e2) r2
theorem tL_val {m : ME} {σ : L2.St} {Q : List V → Hp → Prop} {env : Env} {vs : List PV} (h : RelH W F ph hp H) (he : RelE W F ph env σ) (e : evL G.cst (callF G k) m env hp = some (vs, hp1))
    (q : ∀ F' ph' xs H', Ext F ph H F' ph' H' → RelH W F' ph' hp1 H' → RelE W F' ph' env σ → RepA W F' ph' vs xs → Q xs H') : tL W G k m σ H Q :=
  ⟨F, ph, hp, env, vs, hp1, h, he, e, fun F' ph' x H' e' h' r' => q F' ph' x H' e' h' (he.ext e') r'⟩
theorem PE_imp {e : Expr} {t t' : TE} (h : PE X e t) (i : ∀ σ H Q, t' σ H Q → t σ H Q) : PE X e t' := ⟨fun pins s σ H Q I q => h.run pins s σ H Q I (i σ H Q q)⟩
theorem PT_imp {e : Expr} {t t' : TT} (h : PT X e t) (i : ∀ σ H Q, t' σ H Q → t σ H Q) : PT X e t' := ⟨fun pins s σ H Q I q => h.run pins s σ H Q I (i σ H Q q)⟩
theorem PA_imp {e : List Expr} {t t' : TA} (h : PA X e t) (i : ∀ σ H Q, t' σ H Q → t σ H Q) : PA X e t' := ⟨fun pos pins s σ H Q I q => h.run pos pins s σ H Q I (i σ H Q q)⟩
theorem PI_imp {tg e : Expr} {t t' : TI} (h : PI X tg e t) (i : ∀ σ H Q, t' σ H Q → t σ H Q) : PI X tg e t' := ⟨fun pins s σ H Q I q => h.run pins s σ H Q I (i σ H Q q)⟩
theorem isGl_of {x : Str} (ok : XOk W G k C X) (h : isGlB C.sc x = true) : L2.Gl X x ∧ (x == ("__debug__" : Str)) = false := by
  simp only [isGlB, Bool.and_eq_true, decide_eq_true_eq, Bool.not_eq_true'] at h
  refine ⟨?_, h.2⟩
  show X.env.scope.names.lookup x = _
  rw [ok.sc]; exact h.1
theorem vis_of {x : Str} (ok : XOk W G k C X) (h : visB C.sc x = true) : Vis X.env.scope x := by
  unfold visB at h
  rw [ok.sc]
  unfold Vis
  split at h <;> simp_all
theorem loc_of {x : Str} (ok : XOk W G k C X) (h : locB C x = true) : L2.Loc X.env.scope x ∧ (X.fn x = true ∨ X.env.scope.names.lookup x = some .local) := by
  unfold locB at h
  rw [ok.sc]
  unfold L2.Loc
  split at h
  · rename_i q; exact ⟨.inl q, .inr q⟩
  · rename_i q; exact ⟨.inr q, .inl (ok.cell x h)⟩
  · cases h
end
/-! ### names, constants, operators -/
section
variable {W : Wd} {G : Gl} {k : Nat} {C : Cc} {X : Cx}
theorem se_var (ok : XOk W G k C X) {i : Nat} {x : Str} {pos : Pos} (h1 : C.N[i]? = some x) (h2 : visB C.sc x = true) (h3 : (x == ("__debug__" : Str)) = false) (h4 : (x == ("__classdict__" : Str)) = false) : PE X (.Name x pos) (tE W G k (.var i)) := by
  refine PE_imp (pe_var (i := i) (by rw [ok.N]; exact h1) (vis_of ok h2) h3 h4) ?_
  rintro σ H Q ⟨F, ph, hp, env, r, hp1, hR, hE, e, q⟩
  simp only [ev, Option.map_eq_some_iff] at e
  obtain ⟨v, hv, e⟩ := e
  cases e
  have hv' : env[i]? = some (some v) := by
    cases z : env[i]? with
    | none => rw [z] at hv; cases hv
    | some o => rw [z] at hv; exact congrArg some hv
  obtain ⟨y, hy, ry⟩ := hE.at_ i v hv'
  exact ⟨y, hy, q.at_ Ext.refl hR ry⟩
theorem se_const {e : Expr} {m : ME} {v : PV} {y : V} (h : PE X e (tC y)) (hm : ∀ env hp, ev G.cst (callF G k) m env hp = some ((false, v), hp)) (hr : ∀ F ph, Rep W F ph v y) : PE X e (tE W G k m) := by
  refine PE_imp h ?_
  rintro σ H Q ⟨F, ph, hp, env, r, hp1, hR, hE, e, q⟩
  rw [hm] at e
  cases e
  exact q.at_ Ext.refl hR (hr F ph)
theorem se_glb (ok : XOk W G k C X) {g : Nat} {x : Str} {pos : Pos} (h1 : C.gl g = some x) (h2 : isGlB C.sc x = true) : PE X (.Name x pos) (tE W G k (.glb g)) := by
  obtain ⟨h3, h4⟩ := isGl_of ok h2
  refine ⟨fun pins s σ H Q I h => ?_⟩
  obtain ⟨F, ph, hp, env, r, hp1, hR, hE, e, q⟩ := h
  simp only [ev, Option.map_eq_some_iff] at e
  obtain ⟨v, hv, e⟩ := e
  cases e
  obtain ⟨u, y, hm, ry, rep⟩ := ok.cst g x v h1 hv
  exact (pe_glob h3 hm ry h4).run pins s σ H Q I (q.at_ Ext.refl hR (rep F ph))
theorem se_fnv (ok : XOk W G k C X) {f : Nat} {x : Str} {pos : Pos} (h1 : C.fn f = some x) (h2 : isGlB C.sc x = true) : PE X (.Name x pos) (tE W G k (.fnv f)) := by
  obtain ⟨h3, h4⟩ := isGl_of ok h2
  obtain ⟨a, hm, ha⟩ := ok.fnv f x h1
  exact se_const (y := .ref a) (pe_glob h3 hm rfl h4) (fun _ _ => rfl) fun F ph => .fn ha
theorem bnd_some {β : Type} {r : Option (Rv × Hs)} {f : PV → Hs → Option β} {y : β} (h : bnd r f = some y) : ∃ p, r = some p ∧ f p.1.2 p.2 = some y := by
  unfold bnd at h; exact Option.bind_eq_some_iff.mp h
theorem bndL_some {β : Type} {r : Option (List PV × Hs)} {f : List PV → Hs → Option β} {y : β} (h : bndL r f = some y) : ∃ p, r = some p ∧ f p.1 p.2 = some y := by
  unfold bndL at h; exact Option.bind_eq_some_iff.mp h
theorem bndB_some {β : Type} {r : Option (Rv × Hs)} {f : Bool → Hs → Option β} {y : β} (h : bndB r f = some y) : ∃ p b, r = some p ∧ p.1.2 = .bl b ∧ f b p.2 = some y := by
  obtain ⟨p, e, q⟩ := bnd_some h
  obtain ⟨b, hb, q⟩ := Option.bind_eq_some_iff.mp q
  refine ⟨p, b, e, ?_, q⟩
  unfold asB at hb
  split at hb
  · cases hb; assumption
  · cases hb
theorem asI_some {v : PV} {i : Int} (h : asI v = some i) : v = .int i := by
  unfold asI at h
  split at h
  · cases h; rfl
  · cases h
theorem se_bin (ok : XOk W G k C X) {op : Bop} {a b : ME} {ea eb : Expr} {pos : Pos} (ha : PE X ea (tE W G k a)) (hb : PE X eb (tE W G k b)) : PE X (.BinOp ea (opOf op) eb pos) (tE W G k (.bin op a b)) := by
  refine PE_imp (pe_op (op_bin ok.fit op (.inr trivial)) ha hb) ?_
  rintro σ H Q ⟨F, ph, hp, env, r, hp1, hR, hE, e, q⟩
  simp only [ev] at e
  obtain ⟨p, e1, e⟩ := bnd_some e
  obtain ⟨p2, e2, e⟩ := bnd_some e
  obtain ⟨r', e3, e⟩ := Option.map_eq_some_iff.mp e
  cases e
  refine tE_val hR hE e1 fun F1 ph1 x H1 x1 hR1 hE1 rx => ?_
  refine tE_val hR1 hE1 e2 fun F2 ph2 y H2 x2 hR2 hE2 ry => ?_
  exact ⟨F2, ph2, _, _, _, _, hR2, rx.ext x2, ry, e3, q.res (x1.trans x2)⟩
theorem se_neg (ok : XOk W G k C X) {a : ME} {ea : Expr} {pos : Pos} (ha : PE X ea (tE W G k a)) : PE X (.UnaryOp .USub ea pos) (tE W G k (.neg a)) := by
  refine PE_imp (pe_un un_neg ha) ?_
  rintro σ H Q ⟨F, ph, hp, env, r, hp1, hR, hE, e, q⟩
  simp only [ev] at e
  obtain ⟨p, e1, e⟩ := bnd_some e
  obtain ⟨i, e3, e⟩ := Option.map_eq_some_iff.mp e
  cases e
  refine tE_val hR hE e1 fun F1 ph1 x H1 x1 hR1 hE1 rx => ?_
  rw [asI_some e3] at rx
  cases rx.intV
  exact ⟨i, rfl, q.at_ x1 hR1 (.int _)⟩
theorem drfL_rep {F H : Hp} {ph : List Addr} {hp : Hs} {v : PV} {x : V} (h : RelH W F ph hp H) (r : Rep W F ph v x) : RepXL W F ph H (drfL v hp) x := by
  unfold drfL
  split
  · rename_i n
    split
    · rename_i xs hn
      have : ∃ a, x = .ref a ∧ ph[n]? = some a := by
        cases r with
        | ref h => exact ⟨_, rfl, h⟩
        | obj e q => cases q
      obtain ⟨a, rfl, ha⟩ := this
      obtain ⟨_, o, e, q⟩ := h.sh n a _ ha hn
      exact .inr ⟨xs, a, o, rfl, rfl, e, q⟩
    · exact .inl r
  · exact .inl r
theorem drfC_rep {F H : Hp} {ph : List Addr} {hp : Hs} {op : Cop} {v : PV} {x : V} (h : RelH W F ph hp H) (r : Rep W F ph v x) : RepXL W F ph H (drfC op v hp) x := by
  unfold drfC
  split
  · exact drfL_rep h r
  · exact drfL_rep h r
  · exact .inl r
theorem drfA_rep {F H : Hp} {ph : List Addr} {hp : Hs} {vs : List PV} {xs : List V} (h : RelH W F ph hp H) (r : RepA W F ph vs xs) : RepXA W F ph H (drfA vs hp) xs := by
  cases r with
  | nil => exact .nil
  | cons r t => exact .cons (drfL_rep h r) t
theorem se_cmp (ok : XOk W G k C X) {op : Cop} {a b : ME} {ea eb : Expr} {pos : Pos} (hm : behindInMarks (cmpOf op) eb = false) (ha : PE X ea (tE W G k a)) (hb : PE X eb (tE W G k b)) :
    PE X (.Compare ea [cmpOf op] [eb] pos) (tE W G k (.cmp op a b)) ∧ PT X (.Compare ea [cmpOf op] [eb] pos) (tB (tE W G k (.cmp op a b))) := by
  have main : ∀ σ H Q, tE W G k (.cmp op a b) σ H Q → tOp (r2b W (cmpP op)) (tE W G k a) (tE W G k b) σ H Q := by
    rintro σ H Q ⟨F, ph, hp, env, r, hp1, hR, hE, e, q⟩
    simp only [ev] at e
    obtain ⟨p, e1, e⟩ := bnd_some e
    obtain ⟨p2, e2, e⟩ := bnd_some e
    obtain ⟨c, e3, e⟩ := Option.map_eq_some_iff.mp e
    cases e
    refine tE_val hR hE e1 fun F1 ph1 x H1 x1 hR1 hE1 rx => ?_
    refine tE_val hR1 hE1 e2 fun F2 ph2 y H2 x2 hR2 hE2 ry => ?_
    exact ⟨F2, ph2, _, _, _, _, hR2, rx.ext x2, drfC_rep hR2 ry, e3, q.at_ (x1.trans x2) hR2 (.bl _)⟩
  exact ⟨PE_imp (pe_cmpR (op_cmp ok.fit op) ha hb hm) main, PT_imp (pt_cmpR (op_cmp ok.fit op) ha hb hm) fun σ H Q h => main σ H _ h⟩
end
end MP
set_option maxRecDepth 100000
/-! MiniPy: expressions over the machine, more. -/
namespace MP
open PySem PySem.Spec PyProof.Rows L2
section
variable {W : Wd} {G : Gl} {k : Nat} {C : Cc} {X : Cx}
abbrev PB (W : Wd) (G : Gl) (k : Nat) (X : Cx) (e : Expr) (m : ME) : Prop := PE X e (tE W G k m) ∧ PT X e (tB (tE W G k m))
/-- what is no test of its own -/
def plainT : Expr → Bool
  | .UnaryOp .Not _ _ => false | .BoolOp _ _ _ => false | .IfExp _ _ _ _ => false | .Compare _ _ _ _ => false
  | _ => true
theorem isTrue_of {e : Expr} (h : plainT e = true) (env : PySem.Env) (whole : Sem Value) : isTrue e env whole = (do let v ← whole; standAt e.pos; holding [v] (truthy v)) := by
  cases e <;> first | rfl | (simp [plainT] at h; done) | skip
  rename_i op _ _
  cases op <;> first | rfl | (simp [plainT] at h)
theorem PB_plain {e : Expr} {m : ME} (h : PE X e (tE W G k m)) (p : plainT e = true) : PB W G k X e m := ⟨h, pt_val h fun w => isTrue_of p _ w⟩
theorem se_not {a : ME} {ea : Expr} {pos : Pos} (ha : PB W G k X ea a) : PB W G k X (.UnaryOp .Not ea pos) (.not a) := by
  constructor
  · refine PE_imp (pe_not ha.1) ?_
    rintro σ H Q ⟨F, ph, hp, env, r, hp1, hR, hE, e, q⟩
    simp only [ev] at e
    obtain ⟨p, b, e1, eb, e⟩ := bndB_some e
    cases e
    refine tE_val hR hE e1 fun F1 ph1 x H1 x1 hR1 hE1 rx => ?_
    rw [eb] at rx
    cases rx.blV
    exact ⟨b, rfl, q.at_ x1 hR1 (.bl _)⟩
  · refine PT_imp (pt_not ha.2) ?_
    rintro σ H Q ⟨F, ph, hp, env, r, hp1, hR, hE, e, q⟩
    simp only [ev] at e
    obtain ⟨p, b, e1, eb, e⟩ := bndB_some e
    cases e
    refine tE_val hR hE e1 fun F1 ph1 x H1 x1 hR1 hE1 rx => ?_
    rw [eb] at rx
    cases rx.blV
    refine ⟨b, rfl, ?_⟩
    obtain ⟨c, ec, q'⟩ := q.at_ x1 hR1 (.bl _)
    cases ec
    exact q'
/-- behind the left operand -/
theorem and_step {a b : ME} {σ : L2.St} {H : Hp} {Q : VK} (h : tE W G k (.and a b) σ H Q) : tE W G k a σ H fun x H1 => ∃ c, x = .bl c ∧ if c = true then tE W G k b σ H1 Q else Q (.bl false) H1 := by
  obtain ⟨F, ph, hp, env, r, hp1, hR, hE, e, q⟩ := h
  simp only [ev] at e
  obtain ⟨p, c, e1, eb, e⟩ := bndB_some e
  refine tE_val hR hE e1 fun F1 ph1 x H1 x1 hR1 hE1 rx => ?_
  rw [eb] at rx
  cases rx.blV
  refine ⟨c, rfl, ?_⟩
  cases c with
  | true =>
    rw [if_pos rfl] at e ⊢
    obtain ⟨p2, d, e2, ed, e⟩ := bndB_some e
    cases e
    refine tE_val hR1 hE1 e2 fun F2 ph2 y H2 x2 hR2 hE2 ry => ?_
    rw [ed] at ry
    exact q.at_ (x1.trans x2) hR2 ry
  | false =>
    rw [if_neg (by simp)] at e ⊢
    cases e
    exact q.at_ x1 hR1 (.bl _)
theorem or_step {a b : ME} {σ : L2.St} {H : Hp} {Q : VK} (h : tE W G k (.or a b) σ H Q) : tE W G k a σ H fun x H1 => ∃ c, x = .bl c ∧ if c = true then Q (.bl true) H1 else tE W G k b σ H1 Q := by
  obtain ⟨F, ph, hp, env, r, hp1, hR, hE, e, q⟩ := h
  simp only [ev] at e
  obtain ⟨p, c, e1, eb, e⟩ := bndB_some e
  refine tE_val hR hE e1 fun F1 ph1 x H1 x1 hR1 hE1 rx => ?_
  rw [eb] at rx
  cases rx.blV
  refine ⟨c, rfl, ?_⟩
  cases c with
  | false =>
    rw [if_neg (by simp)] at e ⊢
    obtain ⟨p2, d, e2, ed, e⟩ := bndB_some e
    cases e
    refine tE_val hR1 hE1 e2 fun F2 ph2 y H2 x2 hR2 hE2 ry => ?_
    rw [ed] at ry
    exact q.at_ (x1.trans x2) hR2 ry
  | true =>
    rw [if_pos rfl] at e ⊢
    cases e
    exact q.at_ x1 hR1 (.bl _)
theorem pw_of {op : BoolOp} {vs : List Expr} {pos : Pos} {t : TT} (h : PT X (.BoolOp op vs pos) t) : PW X (.BoolOp op vs pos) t := ⟨fun wh pins s σ H Q I q => h.run pins s σ H Q I q⟩
theorem se_and {a b : ME} {ea eb : Expr} {rest : List Expr} {pos : Pos} (ha : PB W G k X ea a) (hb : PE X (.BoolOp .And (eb :: rest) pos) (tE W G k b)) (hw : PW X (.BoolOp .And (eb :: rest) pos) (tB (tE W G k b))) :
    PB W G k X (.BoolOp .And (ea :: eb :: rest) pos) (.and a b) := by
  constructor
  · exact PE_imp (pe_and ha.1 hb) fun σ H Q h => and_step h
  · refine PT_imp (pw_and ha.2 hw).pt ?_
    rintro σ H Q h
    obtain ⟨F, ph, hp, env, r, hp1, hR, hE, e, q⟩ := and_step h
    refine ⟨F, ph, hp, env, r, hp1, hR, hE, e, fun F' ph' x H' x1 h1 r1 => ?_⟩
    obtain ⟨c, rfl, z⟩ := q F' ph' x H' x1 h1 r1
    refine ⟨c, rfl, ?_⟩
    cases c with
    | true => rw [if_pos rfl] at z ⊢; exact z
    | false =>
      rw [if_neg (by simp)] at z ⊢
      obtain ⟨d, ed, z⟩ := z
      cases ed; exact z
theorem se_or {a b : ME} {ea eb : Expr} {rest : List Expr} {pos : Pos} (ha : PB W G k X ea a) (hb : PE X (.BoolOp .Or (eb :: rest) pos) (tE W G k b)) (hw : PW X (.BoolOp .Or (eb :: rest) pos) (tB (tE W G k b))) :
    PB W G k X (.BoolOp .Or (ea :: eb :: rest) pos) (.or a b) := by
  constructor
  · exact PE_imp (pe_or ha.1 hb) fun σ H Q h => or_step h
  · refine PT_imp (pw_or ha.2 hw).pt ?_
    rintro σ H Q h
    obtain ⟨F, ph, hp, env, r, hp1, hR, hE, e, q⟩ := or_step h
    refine ⟨F, ph, hp, env, r, hp1, hR, hE, e, fun F' ph' x H' x1 h1 r1 => ?_⟩
    obtain ⟨c, rfl, z⟩ := q F' ph' x H' x1 h1 r1
    refine ⟨c, rfl, ?_⟩
    cases c with
    | true =>
      rw [if_pos rfl] at z ⊢
      obtain ⟨d, ed, z⟩ := z
      cases ed; exact z
    | false => rw [if_neg (by simp)] at z ⊢; exact z
theorem se_chn (ok : XOk W G k C X) {op op' : Cop} {a b c : ME} {ea eb ec : Expr} {pos : Pos} (hm : lastMarks [cmpOf op, cmpOf op'] [eb, ec] = false) (ha : PE X ea (tE W G k a)) (hb : PE X eb (tE W G k b)) (hc : PE X ec (tE W G k c)) :
    PB W G k X (.Compare ea [cmpOf op, cmpOf op'] [eb, ec] pos) (.chn op op' a b c) := by
  have main : ∀ σ H Q, tE W G k (.chn op op' a b c) σ H Q → tChain (r2b W (cmpP op)) (r2b W (cmpP op')) (tE W G k a) (tE W G k b) (tE W G k c) σ H Q := by
    rintro σ H Q ⟨F, ph, hp, env, r, hp1, hR, hE, e, q⟩
    simp only [ev] at e
    obtain ⟨p, e1, e⟩ := bnd_some e
    obtain ⟨p2, e2, e⟩ := bnd_some e
    obtain ⟨d, e3, e⟩ := Option.bind_eq_some_iff.mp e
    refine tE_val hR hE e1 fun F1 ph1 x H1 x1 hR1 hE1 rx => ?_
    refine tE_val hR1 hE1 e2 fun F2 ph2 y H2 x2 hR2 hE2 ry => ?_
    refine ⟨F2, ph2, _, _, _, d, hR2, rx.ext x2, .inl ry, e3, d, rfl, ?_⟩
    cases d with
    | true =>
      rw [if_pos rfl] at e ⊢
      obtain ⟨p3, e4, e⟩ := bnd_some e
      obtain ⟨d2, e5, e⟩ := Option.map_eq_some_iff.mp e
      cases e
      refine tE_val hR2 hE2 e4 fun F3 ph3 z H3 x3 hR3 hE3 rz => ?_
      exact ⟨F3, ph3, _, _, _, d2, hR3, ry.ext x3, .inl rz, e5, q.at_ ((x1.trans x2).trans x3) hR3 (.bl _)⟩
    | false =>
      rw [if_neg (by simp)] at e ⊢
      cases e
      exact q.at_ (x1.trans x2) hR2 (.bl _)
  refine ⟨PE_imp (pe_chain (op_cmp ok.fit op) (op_cmp ok.fit op') ha hb hc hm) main, PT_imp (pt_chain (op_cmp ok.fit op) (op_cmp ok.fit op') ha hb hc hm) fun σ H Q h => main σ H _ h⟩
theorem ife_step {c a b : ME} {σ : L2.St} {H : Hp} {Q : VK} (h : tE W G k (.ife c a b) σ H Q) : tB (tE W G k c) σ H fun c H1 => if c = true then tE W G k a σ H1 Q else tE W G k b σ H1 Q := by
  obtain ⟨F, ph, hp, env, r, hp1, hR, hE, e, q⟩ := h
  simp only [ev] at e
  obtain ⟨p, d, e1, eb, e⟩ := bndB_some e
  refine tE_val hR hE e1 fun F1 ph1 x H1 x1 hR1 hE1 rx => ?_
  rw [eb] at rx
  cases rx.blV
  refine ⟨d, rfl, ?_⟩
  cases d with
  | true =>
    rw [if_pos rfl] at e ⊢
    exact ⟨F1, ph1, _, env, r, hp1, hR1, hE1, e, q.comp x1⟩
  | false =>
    rw [if_neg (by simp)] at e ⊢
    exact ⟨F1, ph1, _, env, r, hp1, hR1, hE1, e, q.comp x1⟩
theorem se_ife {c a b : ME} {ec ea eb : Expr} {pos : Pos} (hc : PB W G k X ec c) (ha : PB W G k X ea a) (hb : PB W G k X eb b) : PE X (.IfExp ec ea eb pos) (tE W G k (.ife c a b)) :=
  PE_imp (pe_ifExp hc.2 ha.1 hb.1) fun σ H Q h => ife_step h
/-! ### displays, lists of arguments -/
theorem sl_nil : PA X [] (tL W G k .nil) := by
  refine PA_imp pa_nil ?_
  rintro σ H Q ⟨F, ph, hp, env, r, hp1, hR, hE, e, q⟩
  simp only [evL] at e
  cases e
  exact q F ph [] H Ext.refl hR .nil
def notStar : Expr → Bool
  | .Starred _ _ => false
  | _ => true
theorem starEach_of {e : Expr} (h : notStar e = true) (es : List Expr) (env : PySem.Env) : starEach (e :: es) env = (false, eval e env) :: starEach es env := by
  cases e <;> first | rfl | (simp [notStar] at h)
theorem sl_cons {a b : ME} {e : Expr} {es : List Expr} (hs : notStar e = true) (ha : PE X e (tE W G k a)) (hb : PA X es (tL W G k b)) : PA X (e :: es) (tL W G k (.cons a b)) := by
  refine PA_imp (pa_cons ha hb (starEach_of hs es _)) ?_
  rintro σ H Q ⟨F, ph, hp, env, r, hp1, hR, hE, e, q⟩
  simp only [evL] at e
  obtain ⟨p, e1, e⟩ := bnd_some e
  obtain ⟨p2, e2, e⟩ := bndL_some e
  cases e
  refine tE_val hR hE e1 fun F1 ph1 x H1 x1 hR1 hE1 rx => ?_
  refine tL_val hR1 hE1 e2 fun F2 ph2 y H2 x2 hR2 hE2 ry => ?_
  exact q F2 ph2 _ H2 (x1.trans x2) hR2 (.cons (rx.ext x2) ry)
def tTupM (t : TA) : TE := fun σ H Q => t σ H fun xs H1 => xs.length ≤ sizeLine ∧ ∀ p (ob : Obj), ob.dict = none → H1 p = none → Q (.ref p) (upd H1 p (.frz ob (.tup xs)))
theorem pe_tupM {es : List Expr} {t : TA} {n : Nat} {pos : Pos} (h : PA X es t) : PE X (.Tuple es n pos) (tTupM t) := by
  refine ⟨fun pins s σ H Q I hq => ?_⟩
  refine wpAny_Tuple_spliced (thn (h.run pos pins s σ H _ I hq) fun us s1 ⟨xs, H1, I1, r, z, q⟩ => ⟨by rw [← r.length]; exact z, ?_⟩)
  exact ⟨.ref s1.heap.objs.size, _, lay_tup (t := s1.toks) I1 r z, rfl, q _ _ rfl (I1.hok.fresh (Nat.le_refl _))⟩
theorem se_tup {es : ME} {xs : List Expr} {n : Nat} {pos : Pos} (ha : PA X xs (tL W G k es)) : PE X (.Tuple xs n pos) (tE W G k (.tup es)) := by
  refine PE_imp (pe_tupM ha) ?_
  rintro σ H Q ⟨F, ph, hp, env, r, hp1, hR, hE, e, q⟩
  simp only [ev, mk] at e
  obtain ⟨p, e1, e⟩ := bndL_some e
  split at e <;> cases e
  rename_i hl
  refine tL_val hR hE e1 fun F1 ph1 xs H1 x1 hR1 hE1 rx => ?_
  exact ⟨by rw [← rx.length]; exact hl, fun p ob hd n => (q.res x1).tup hR1 rx hd n⟩
theorem se_lst {es : ME} {xs : List Expr} {pos : Pos} (ha : PA X xs (tL W G k es)) : PE X (.List xs pos) (tE W G k (.lst es)) := by
  refine PE_imp (pe_lst ha) ?_
  rintro σ H Q ⟨F, ph, hp, env, r, hp1, hR, hE, e, q⟩
  simp only [ev, mk] at e
  obtain ⟨p, e1, e⟩ := bndL_some e
  split at e <;> cases e
  rename_i hl
  refine tL_val hR hE e1 fun F1 ph1 xs H1 x1 hR1 hE1 rx => ?_
  exact ⟨by rw [← rx.length]; exact hl, fun p n => (q.res x1).new hR1 (.lst rx) n⟩
theorem se_edct (ok : XOk W G k C X) {pos : Pos} : PE X (.Dict [] [] pos) (tE W G k .edct) := by
  refine PE_imp (pe_edct (W := W) ok.fit) ?_
  rintro σ H Q ⟨F, ph, hp, env, r, hp1, hR, hE, e, q⟩
  simp only [ev] at e
  cases e
  exact fun p ob n o => (q.res Ext.refl).new hR (o F ph) n
/-! ### calls -/
theorem se_bcl (ok : XOk W G k C X) {f : Bfn} {es : ME} {e : Expr} {xs : List Expr} {x : Str} {p pos : Pos} (hx : x = bname f) (hg : isGlB C.sc x = true) (hs : notStar e = true) (hpl : (backTo pos (starEach xs X.env)).any (·.1) = false) (ha : PA X (e :: xs) (tL W G k es)) :
    PE X (.Call (.Name x p) (e :: xs) [] pos) (tE W G k (.bcl f es)) := by
  obtain ⟨g1, g2⟩ := isGl_of ok hg
  have main : ∀ σ H Q, tE W G k (.bcl f es) σ H Q → tCB (rB W f) (tL W G k es) σ H Q := by
    rintro σ H Q ⟨F, ph, hp, env, r, hp1, hR, hE, e, q⟩
    simp only [ev] at e
    obtain ⟨p, e1, e⟩ := bndL_some e
    obtain ⟨r', e3, e⟩ := Option.map_eq_some_iff.mp e
    cases e
    refine tL_val hR hE e1 fun F1 ph1 xs H1 x1 hR1 hE1 rx => ?_
    exact ⟨F1, ph1, _, _, _, hR1, drfA_rep hR1 rx, e3, q.res x1⟩
  subst hx
  have se := starEach_of hs xs X.env
  have nm : ∀ y ∈ bnames, X.mg y = none := ok.bt
  cases f with
  | len => exact PE_imp (pe_callB (bcl_len ok.fit) g1 (nm _ (by decide)) (by decide +kernel) ha (by decide) g2 se hpl) main
  | int => exact PE_imp (pe_callTy (bcl_int ok.fit) g1 (nm _ (by decide)) PyProof.Rows.boot_int ha (by decide) g2 se hpl) main
  | sorted => exact PE_imp (pe_callB (bcl_sorted ok.fit) g1 (nm _ (by decide)) PyProof.Rows.boot_sorted ha (by decide) g2 se hpl) main
  | set => exact PE_imp (pe_callTy (bcl_set ok.fit) g1 (nm _ (by decide)) PyProof.Rows.boot_set ha (by decide) g2 se hpl) main
  | tuple => exact PE_imp (pe_callTy (bcl_tuple ok.fit) g1 (nm _ (by decide)) PyProof.Rows.boot_tuple ha (by decide) g2 se hpl) main
  | list => exact PE_imp (pe_callTy (bcl_list ok.fit) g1 (nm _ (by decide)) PyProof.Rows.boot_list ha (by decide) g2 se hpl) main
  | sum => exact PE_imp (pe_callB (bcl_sum ok.fit) g1 (nm _ (by decide)) PyProof.Rows.boot_sum ha (by decide) g2 se hpl) main
  | max => exact PE_imp (pe_callB (bcl_max ok.fit) g1 (nm _ (by decide)) PyProof.Rows.boot_max ha (by decide) g2 se hpl) main
  | min => exact PE_imp (pe_callB (bcl_min ok.fit) g1 (nm _ (by decide)) PyProof.Rows.boot_min ha (by decide) g2 se hpl) main
  | all => exact PE_imp (pe_callB (bcl_all ok.fit) g1 (nm _ (by decide)) PyProof.Rows.boot_all ha (by decide) g2 se hpl) main
  | any => exact PE_imp (pe_callB (bcl_any ok.fit) g1 (nm _ (by decide)) PyProof.Rows.boot_any ha (by decide) g2 se hpl) main
  | abs => exact PE_imp (pe_callB (bcl_abs ok.fit) g1 (nm _ (by decide)) PyProof.Rows.boot_abs ha (by decide) g2 se hpl) main
  | str => exact PE_imp (pe_callTy (bcl_str ok.fit) g1 (nm _ (by decide)) PyProof.Rows.boot_str ha (by decide) g2 se hpl) main
end
end MP
set_option maxRecDepth 100000
/-! MiniPy: calls, methods, items over the machine. -/
namespace MP
open PySem PySem.Spec PyProof.Rows L2
/-- how many written items -/
def ME.count : ME → Nat
  | .cons _ es => es.count + 1
  | _ => 0
theorem evL_count {gl : Nat → Option PV} {call : CallT} : ∀ (m : ME) {env : Env} {hp hp1 : Hs} {vs : List PV}, evL gl call m env hp = some (vs, hp1) → vs.length = m.count := by
  intro m
  induction m with
  | cons a b iha ihb =>
    intro env hp hp1 vs e
    simp only [evL] at e
    obtain ⟨p, e1, e⟩ := bnd_some e
    obtain ⟨p2, e2, e⟩ := bndL_some e
    cases e
    rw [List.length_cons, ihb e2]; rfl
  | nil => intro env hp hp1 vs e; simp only [evL] at e; cases e; rfl
  | _ => intro env hp hp1 vs e; simp only [evL] at e; cases e
theorem callF_fill {G : Gl} {k f : Nat} {fdm : Fd} {args : List PV} {hp : Hs} {y : Rv × Hs} (hf : G.fns f = some fdm) (h : callF G k f args hp = some y) : (fillA fdm args).length = fdm.np ∧ callF G k f (fillA fdm args) hp = some y := by
  cases k with
  | zero => cases h
  | succ k =>
    simp only [callF, hf, Option.bind_some] at h ⊢
    split at h
    · rename_i hl
      refine ⟨hl, ?_⟩
      have e : fillA fdm (fillA fdm args) = fillA fdm args := by
        show fillA fdm args ++ fdm.dfl.drop (fdm.dfl.length - (fdm.np - (fillA fdm args).length)) = _
        rw [hl, Nat.sub_self, Nat.sub_zero, List.drop_length, List.append_nil]
      rw [e, if_pos hl]
      exact h
    · cases h
section
variable {W : Wd} {G : Gl} {k : Nat} {C : Cc} {X : Cx}
theorem pass0 (X : Cx) (E : XK) : Passes CX0 X E := fun _ _ _ _ _ _ _ h => h.elim
theorem fill_len {fdm : Fd} {args : List PV} (h : (fillA fdm args).length = fdm.np) : args.length + (fdm.dfl.length - (fdm.dfl.length - (fdm.np - args.length))) = fdm.np := by
  unfold fillA at h
  rw [List.length_append, List.length_drop] at h
  exact h
theorem call_step (ok : XOk W G k C X) {f : Nat} {fdm : Fd} {es : ME} {x : Str} (h1 : C.fn f = some x) (hf : G.fns f = some fdm) {a : Addr} {fd : FuncData} {ps : List Str} {dvs : List V} (hd : ∀ F ph, RepA W F ph (fdm.dfl.drop (fdm.dfl.length - (fdm.np - es.count))) dvs) :
    ∀ σ H Q, tE W G k (.call f es) σ H Q → tCall (spF W G k f fdm.np) dvs E0 (tL W G k es) σ H Q := by
  rintro σ H Q ⟨F, ph, hp, env, r, hp1, hR, hE, e, q⟩
  simp only [ev] at e
  obtain ⟨p, e1, e⟩ := bndL_some e
  obtain ⟨hl, e2⟩ := callF_fill hf e
  refine tL_val hR hE e1 fun F1 ph1 xs H1 x1 hR1 hE1 rx => ?_
  refine ⟨F1, ph1, _, fillA fdm p.1, r, hp1, hR1, ?_, hl, e2, q.comp x1⟩
  have := hd F1 ph1
  rw [← evL_count es e1] at this
  exact rx.append this
theorem se_call (ok : XOk W G k C X) {f : Nat} {fdm : Fd} {es : ME} {e : Expr} {xs : List Expr} {x : Str} {p pos : Pos} (h1 : C.fn f = some x) (hf : G.fns f = some fdm) (hn : es.count + (fdm.dfl.length - (fdm.dfl.length - (fdm.np - es.count))) = fdm.np) (hg : isGlB C.sc x = true) (hs : notStar e = true)
    (hpl : (backTo pos (starEach xs X.env)).any (·.1) = false) (ha : PA X (e :: xs) (tL W G k es)) : PE X (.Call (.Name x p) (e :: xs) [] pos) (tE W G k (.call f es)) := by
  obtain ⟨g1, g2⟩ := isGl_of ok hg
  obtain ⟨a, fd, ps, hm, hk, FO, hps, hb⟩ := ok.call f x fdm h1 hf
  obtain ⟨ds, dvs, b1, b2, b3⟩ := hb es.count hn
  exact PE_imp (pe_call FO ok.room g1 hm hk b1 b2 (pass0 X E0) ha g2 (starEach_of hs xs _) hpl) (call_step ok h1 hf (a := a) (fd := fd) (ps := ps) b3)
theorem se_call0 (ok : XOk W G k C X) {f : Nat} {fdm : Fd} {x : Str} {p pos : Pos} (h1 : C.fn f = some x) (hf : G.fns f = some fdm) (hn : 0 + (fdm.dfl.length - (fdm.dfl.length - (fdm.np - 0))) = fdm.np) (hg : isGlB C.sc x = true) :
    PE X (.Call (.Name x p) [] [] pos) (tE W G k (.call f .nil)) := by
  obtain ⟨g1, g2⟩ := isGl_of ok hg
  obtain ⟨a, fd, ps, hm, hk, FO, hps, hb⟩ := ok.call f x fdm h1 hf
  obtain ⟨ds, dvs, b1, b2, b3⟩ := hb 0 hn
  refine PE_imp (pe_call0 FO ok.room g1 hm hk b1 b2 (pass0 X E0) g2) fun σ H Q h => ?_
  obtain ⟨F, ph, hp, env, vs, hp1, hR, hE, e, q⟩ := call_step ok h1 hf (a := a) (fd := fd) (ps := ps) (es := .nil) b3 σ H Q h
  simp only [evL] at e
  cases e
  exact q F ph [] H Ext.refl hR .nil
/-! ### a local that holds a def -/
theorem callF_fns {G : Gl} {k f : Nat} {args : List PV} {hp : Hs} {y : Rv × Hs} (h : callF G k f args hp = some y) : ∃ fdm, G.fns f = some fdm := by
  cases k with
  | zero => cases h
  | succ k => obtain ⟨fd, e, _⟩ := Option.bind_eq_some_iff.mp h; exact ⟨fd, e⟩
theorem pe_callR {X : Cx} {k i : Nat} {S : Addr → Sp → List V → Prop} (A : ∀ f sp dvs, S f sp dvs → ∃ fd ps ds, FnOk X.prog X.w X.K X.mg X.base CX0 k f fd ps sp ∧ PySem.W.keepIn X.K (.ref f) = true ∧ Binds X.K fd ps ds ∧ Vals dvs ds) (hr : Room k X.A) {x : Str} {e : Expr} {es : List Expr} {p pos : Pos} {t : TA}
    (hN : X.N[i]? = some x) (hv : Vis X.env.scope x) (ha : PA X (e :: es) t) (hdb : (x == ("__debug__" : Str)) = false) (hcd : (x == ("__classdict__" : Str)) = false) (he : starEach (e :: es) X.env = (false, eval e X.env) :: starEach es X.env) (hpl : (backTo pos (starEach es X.env)).any (·.1) = false) :
    PE X (.Call (.Name x p) (e :: es) [] pos) (fun σ H Q => ∃ f sp dvs, σ[i]? = some (some (.ref f)) ∧ S f sp dvs ∧ t σ H fun vs H1 => sp (vs ++ dvs) H1 Q E0) := by
  refine ⟨fun pins s σ H Q I h => ?_⟩
  obtain ⟨f, sp, dvs, hs, hS, ht⟩ := h
  obtain ⟨fd, ps, ds, F, hk, hb, hd⟩ := A f sp dvs hS
  exact (pe_callL (i := i) (f := f) F hr hN hv hk hb hd (pass0 X E0) ha hdb hcd he hpl).run pins s σ H Q I ⟨hs, ht⟩
theorem se_callv (ok : XOk W G k C X) {i : Nat} {es : ME} {e : Expr} {xs : List Expr} {x : Str} {p pos : Pos} (h1 : C.N[i]? = some x) (h2 : visB C.sc x = true) (h3 : (x == ("__debug__" : Str)) = false) (h4 : (x == ("__classdict__" : Str)) = false) (hs : notStar e = true)
    (hpl : (backTo pos (starEach xs X.env)).any (·.1) = false) (ha : PA X (e :: xs) (tL W G k es)) : PE X (.Call (.Name x p) (e :: xs) [] pos) (tE W G k (.callv i es)) := by
  refine PE_imp (pe_callR (S := fun f sp dvs => ∃ fd ps ds, FnOk X.prog X.w X.K X.mg X.base CX0 k f fd ps sp ∧ PySem.W.keepIn X.K (.ref f) = true ∧ Binds X.K fd ps ds ∧ Vals dvs ds) (fun _ _ _ h => h) ok.room (by rw [ok.N]; exact h1) (vis_of ok h2) ha h3 h4 (starEach_of hs xs _) hpl) ?_
  rintro σ H Q ⟨F, ph, hp, env, r, hp1, hR, hE, e, q⟩
  simp only [ev] at e
  obtain ⟨v, hv, e⟩ := Option.bind_eq_some_iff.mp e
  have hv' : env[i]? = some (some v) := by
    cases z : env[i]? with
    | none => rw [z] at hv; cases hv
    | some o => rw [z] at hv; exact congrArg some hv
  split at e
  rotate_left
  · cases e
  rename_i n
  obtain ⟨p, e1, e⟩ := bndL_some e
  obtain ⟨fdm, hf⟩ := callF_fns e
  obtain ⟨x', hx'⟩ := ok.tot n fdm hf
  obtain ⟨a, fd, ps, hm, hk, FO, hps, hb⟩ := ok.call n x' fdm hx' hf
  obtain ⟨a', hm', hfa⟩ := ok.fnv n x' hx'
  rw [hm] at hm'
  cases hm'
  obtain ⟨hl, e2⟩ := callF_fill hf e
  have hn := fill_len hl
  rw [evL_count es e1] at hn
  obtain ⟨ds, dvs, b1, b2, b3⟩ := hb es.count hn
  obtain ⟨y, hy, ry⟩ := hE.at_ i _ hv'
  have ey : y = .ref a := by
    cases ry with
    | fn h => rw [hfa] at h; cases h; rfl
    | obj e q => cases q
  subst ey
  refine ⟨a, spF W G k n fdm.np, dvs, hy, ⟨fd, ps, ds, FO, hk, b1, b2⟩, tL_val hR hE e1 fun F1 ph1 xs H1 x1 hR1 hE1 rx => ⟨F1, ph1, _, fillA fdm p.1, r, hp1, hR1, ?_, hl, e2, q.comp x1⟩⟩
  have := b3 F1 ph1
  rw [← evL_count es e1] at this
  exact rx.append this
/-! ### isinstance -/
def tyS : Ty → String
  | .int => "int" | .bool => "bool" | .str => "str" | .tuple => "tuple" | .list => "list" | .dict => "dict"
def rIsi1 (W : Wd) (t : Ty) : List V → Hp → VK → Prop := fun xs H Q => ∃ F ph hp v x b, RelH W F ph hp H ∧ Rep W F ph v x ∧ xs = [x, .ty (tyS t)] ∧ isiP v t = some b ∧ Q (.bl b) H
theorem kit_go {X : Cx} {pins : List (Addr × Obj)} {σ : L2.St} {H : Hp} {s : Shared} {Q : VK} {u : Value} {a : String} {t : Ty} {P : Heap → Prop} {b : Bool} (I : Inv X pins σ H s) (Z : PySem.W.KitX X.K u (.type a) P) (p : P s.heap) (e : kitB a (tyS t) = some b) (hx : u ≠ .builtin "__main__.__loader__#opaque") (q : Q (.bl b) H) :
    wpAny (model X.prog X.w) X.A (call (.builtin "isinstance") [u, .type (tyS t)]) (EP X pins σ Q) X.xe s :=
  PySem.W.kia_one Z I.kIn p (kit_ty e) hx fun tk => ⟨.bl b, H, I.tok tk, rfl, q⟩
theorem isi_any (fit : Fit W X) (t : Ty) : CallR X (.builtin "isinstance") (rIsi1 W t) := by
  intro pins s σ H xs us Q I rs ⟨F, ph, hp, v, x, b, hR, qx, ex, e, q⟩
  subst ex
  obtain ⟨u1, u2, rfl, r1, r2⟩ := vals2 rs
  obtain rfl : u2 = Value.type (tyS t) := r2
  cases v with
  | non =>
    cases qx.nonV
    cases (show u1 = Value.none from r1)
    refine kit_go I PySem.W.kitx_none True.intro ?_ (fun z => nomatch z) q
    cases t <;> cases e <;> decide +kernel
  | bl y =>
    cases qx.blV
    cases (show u1 = Value.bool y from r1)
    refine kit_go I PySem.W.kitx_bool True.intro ?_ (fun z => nomatch z) q
    cases t <;> cases e <;> decide +kernel
  | int i =>
    cases qx.intV
    obtain ⟨tk, z⟩ := (show ∃ t, u1 = Value.int i t from r1)
    cases z
    refine kit_go I PySem.W.kitx_int True.intro ?_ (fun z => nomatch z) q
    cases t <;> cases e <;> decide +kernel
  | str y =>
    obtain ⟨rfl, _⟩ := qx.strV
    obtain ⟨tk, z⟩ := (show ∃ t, u1 = Value.str y t from r1)
    cases z
    refine kit_go I PySem.W.kitx_str True.intro ?_ (fun z => nomatch z) q
    cases t <;> cases e <;> decide +kernel
  | tup ys =>
    obtain ⟨a, vs, rfl, ha, ra⟩ := qx.tupAt hR
    rw [← fit.K] at ha
    cases (show u1 = Value.ref a from r1)
    obtain ⟨its, rv, ⟨o, h1, h2, _⟩, _⟩ := I.tuple ha
    refine kit_go I PySem.W.kitx_tuple ⟨o, h1, h2⟩ ?_ (fun z => nomatch z) q
    cases t <;> cases e <;> decide +kernel
  | lst ys =>
    obtain ⟨a, vs, rfl, _, ha, ra⟩ := qx.lstAt hR
    rw [← fit.K] at ha
    cases (show u1 = Value.ref a from r1)
    obtain ⟨its, rv, ⟨o, n, h1, h2, _⟩, _⟩ := I.list ha
    refine kit_go I PySem.W.kitx_list ⟨o, h1, h2⟩ ?_ (fun z => nomatch z) q
    cases t <;> cases e <;> decide +kernel
  | dct kvs =>
    obtain ⟨a, o, rfl, _, ho, r⟩ := qx.dctAt hR
    cases (show u1 = Value.ref a from r1)
    cases r with
    | @dct _ _ ob es ep h1 h2 h3 h4 h5 r =>
      refine kit_go I PySem.W.kitx_dict ⟨ob, obj_at I ho, h2.1⟩ ?_ (fun z => nomatch z) q
      cases t <;> cases e <;> decide +kernel
  | pst ys => simp [isiP] at e
  | ref n => simp [isiP] at e
  | fn n => simp [isiP] at e
theorem se_isi (ok : XOk W G k C X) {a : ME} {t : Ty} {ea : Expr} {x y : Str} {p p2 pos : Pos} (hx : x = "isinstance") (hy : y = tyname t) (hg : isGlB C.sc x = true) (hg2 : isGlB C.sc y = true) (hs : notStar ea = true) (ha : PE X ea (tE W G k a)) :
    PE X (.Call (.Name x p) [ea, .Name y p2] [] pos) (tE W G k (.isi a t)) := by
  obtain ⟨g1, g2⟩ := isGl_of ok hg
  obtain ⟨g3, g4⟩ := isGl_of ok hg2
  have hty : PE X (.Name y p2) (tC (.ty (tyS t))) := by
    subst hy
    have hm : X.mg (tyname t) = none := ok.bt _ (by cases t <;> decide)
    cases t with
    | int => exact pe_bltn g3 hm PyProof.Rows.boot_int rfl (by decide) g4
    | bool => exact pe_bltn g3 hm PyProof.Rows.boot_bool rfl (by decide) g4
    | str => exact pe_bltn g3 hm PyProof.Rows.boot_str rfl (by decide) g4
    | tuple => exact pe_bltn g3 hm PyProof.Rows.boot_tuple rfl (by decide) g4
    | list => exact pe_bltn g3 hm PyProof.Rows.boot_list rfl (by decide) g4
    | dict => exact pe_bltn g3 hm PyProof.Rows.boot_dict rfl (by decide) g4
  subst hx
  refine PE_imp (pe_callB (isi_any ok.fit t) g1 (ok.bt _ (by decide)) PyProof.Rows.boot_isinstance (pa_cons ha (pa_cons hty pa_nil rfl) (starEach_of hs _ _)) (by decide) g2 (starEach_of hs _ _) rfl) ?_
  rintro σ H Q ⟨F, ph, hp, env, r, hp1, hR, hE, e, q⟩
  simp only [ev] at e
  obtain ⟨p, e1, e⟩ := bnd_some e
  obtain ⟨b, e3, e⟩ := Option.map_eq_some_iff.mp e
  cases e
  refine tE_val hR hE e1 fun F1 ph1 x H1 x1 hR1 hE1 rx => ?_
  exact ⟨F1, ph1, _, _, x, b, hR1, rx, rfl, e3, q.at_ x1 hR1 (.bl _)⟩
/-! ### items, slices -/
theorem plainIx_of {b : Expr} (h : noSl b = true) : PlainIx b := by
  intro o i
  cases b <;> first | rfl | (simp [noSl] at h)
theorem drf_rep {F H : Hp} {ph : List Addr} {hp : Hs} {v : PV} {x : V} (h : RelH W F ph hp H) (r : Rep W F ph v x) : RepX W F ph H (drf v hp) x := by
  unfold drf
  split
  · rename_i n
    cases e : hp[n]? with
    | none => exact .inl r
    | some c =>
      cases r with
      | ref ha =>
        obtain ⟨_, o, e1, e2⟩ := h.sh n _ c ha e
        exact .inr ⟨_, o, rfl, e1, e2⟩
      | obj e q => cases q
  · exact .inl r
theorem se_idx (ok : XOk W G k C X) {a b : ME} {ea eb : Expr} {pos : Pos} (h : noSl eb = true) (ha : PE X ea (tE W G k a)) (hb : PE X eb (tE W G k b)) : PE X (.Subscript ea eb pos) (tE W G k (.idx a b)) := by
  refine PE_imp (pe_ix (ix_any ok.fit) ha hb (plainIx_of h)) ?_
  rintro σ H Q ⟨F, ph, hp, env, r, hp1, hR, hE, e, q⟩
  simp only [ev] at e
  obtain ⟨p, e1, e⟩ := bnd_some e
  obtain ⟨p2, e2, e⟩ := bnd_some e
  obtain ⟨v, e3, e⟩ := Option.map_eq_some_iff.mp e
  cases e
  refine tE_val hR hE e1 fun F1 ph1 x H1 x1 hR1 hE1 rx => ?_
  refine tE_val hR1 hE1 e2 fun F2 ph2 y H2 x2 hR2 hE2 ry => ?_
  refine ⟨F2, ph2, _, _, _, v, hR2, drf_rep hR2 (rx.ext x2), ry, e3, fun z rz => q.at_ (x1.trans x2) hR2 rz⟩
theorem se_rev (ok : XOk W G k C X) {a : ME} {ea : Expr} {n : Nat} {p1 p2 p3 pos : Pos} (ha : PE X ea (tE W G k a)) : PE X (.Subscript ea (.Slice none none (some (.UnaryOp .USub (.Constant (.int 1) n p1) p2)) p3) pos) (tE W G k (.rev a)) := by
  refine PE_imp (pe_rev ok.fit ha) ?_
  rintro σ H Q ⟨F, ph, hp, env, r, hp1, hR, hE, e, q⟩
  simp only [ev] at e
  obtain ⟨p, e1, e⟩ := bnd_some e
  obtain ⟨v, e3, e⟩ := Option.map_eq_some_iff.mp e
  cases e
  refine tE_val hR hE e1 fun F1 ph1 x H1 x1 hR1 hE1 rx => ?_
  exact ⟨F1, ph1, _, _, _, hR1, rx, e3, q.res x1⟩
/-- a slice's part: none where the text has none -/
def tO (W : Wd) (G : Gl) (k : Nat) (m : ME) : TO := if m.isNil then tNoPart else tPart (tE W G k m)
theorem part_step {m : ME} {σ : L2.St} {Q : Option Int → Hp → Prop} {env : Env} {F H : Hp} {ph : List Addr} {hp : Hs} {p : Option Int × Hs} (hR : RelH W F ph hp H) (hE : RelE W F ph env σ)
    (e : (if m.isNil then some (none, hp) else bnd (ev G.cst (callF G k) m env hp) fun l hp2 => (asI l).map fun i => (some i, hp2)) = some p)
    (q : ∀ F' ph' H', Ext F ph H F' ph' H' → RelH W F' ph' p.2 H' → RelE W F' ph' env σ → Q p.1 H') : tO W G k m σ H Q := by
  unfold tO
  split at e
  · rename_i hm
    cases e
    rw [if_pos hm]
    exact q F ph H Ext.refl hR hE
  · rename_i hm
    rw [if_neg hm]
    obtain ⟨p1, e1, e⟩ := bnd_some e
    obtain ⟨i, hi, e⟩ := Option.map_eq_some_iff.mp e
    cases e
    refine tE_val hR hE e1 fun F1 ph1 x H1 x1 hR1 hE1 rx => ?_
    rw [asI_some hi] at rx
    cases rx.intV
    exact ⟨i, rfl, q F1 ph1 H1 x1 hR1 hE1⟩
theorem se_slc (ok : XOk W G k C X) {a lo hi : ME} {ea : Expr} {el eh : Option Expr} {p2 pos : Pos} (ha : PE X ea (tE W G k a)) (hl : PO X el (tO W G k lo)) (hh : PO X eh (tO W G k hi)) : PE X (.Subscript ea (.Slice el eh none p2) pos) (tE W G k (.slc a lo hi)) := by
  refine PE_imp (pe_slice (sl_any ok.fit) ha hl hh) ?_
  rintro σ H Q ⟨F, ph, hp, env, r, hp1, hR, hE, e, q⟩
  simp only [ev] at e
  obtain ⟨p, e1, e⟩ := bnd_some e
  obtain ⟨pl, e2, e⟩ := Option.bind_eq_some_iff.mp e
  obtain ⟨pu, e3, e⟩ := Option.bind_eq_some_iff.mp e
  obtain ⟨v, e4, e⟩ := Option.map_eq_some_iff.mp e
  cases e
  refine tE_val hR hE e1 fun F1 ph1 x H1 x1 hR1 hE1 rx => ?_
  refine part_step hR1 hE1 e2 fun F2 ph2 H2 x2 hR2 hE2 => ?_
  refine part_step hR2 hE2 e3 fun F3 ph3 H3 x3 hR3 hE3 => ?_
  exact ⟨F3, ph3, _, _, _, hR3, (rx.ext x2).ext x3, e4, q.res ((x1.trans x2).trans x3)⟩
end
end MP
set_option maxRecDepth 100000
/-! MiniPy: methods, shared objects, displays of dicts. -/
namespace MP
open PySem PySem.Spec PyProof.Rows L2
theorem star_map (env : PySem.Env) : ∀ {es : List Expr}, es.all notStar = true → starEach es env = es.map fun e => (false, eval e env)
  | [], _ => rfl
  | e :: es, h => by
    rw [List.all_cons, Bool.and_eq_true] at h
    rw [starEach_of h.1, star_map env h.2]; rfl
theorem star_any {env : PySem.Env} {pos : Pos} {es : List Expr} (h : es.all notStar = true) : (backTo pos (starEach es env)).any (·.1) = false := by
  rw [star_map env h]
  unfold backTo
  induction es with
  | nil => rfl
  | cons e es ih =>
    rw [List.all_cons, Bool.and_eq_true] at h
    rw [List.map_cons, List.map_cons, List.any_cons, ih h.2]; rfl
theorem star_few {env : PySem.Env} {pos : Pos} {es : List Expr} (h : es.all notStar = true) (hl : es.length < 30) : ((backTo pos (starEach es env)).all (fun x => !x.1) && (backToKw pos (keywordEach [] env)).all (fun x => x.1.isSome)
    && decide (es.length + ([] : List Keyword).length + (if ([] : List Keyword).isEmpty then 0 else 1) < 30)) = true := by
  have h1 : (backTo pos (starEach es env)).all (fun x => !x.1) = true := by
    rw [star_map env h]
    unfold backTo
    clear hl
    induction es with
    | nil => rfl
    | cons e es ih =>
      rw [List.all_cons, Bool.and_eq_true] at h
      rw [List.map_cons, List.map_cons, List.all_cons, ih h.2]; rfl
  have h2 : decide (es.length + ([] : List Keyword).length + (if ([] : List Keyword).isEmpty then 0 else 1) < 30) = true := decide_eq_true (by simpa using hl)
  rw [h1, h2]; rfl
theorem attrBase_of {o : Expr} {name : Str} {env : PySem.Env} (h : plainO o = true) (w : Sem Value) : attributeBase o name env w = w := by
  cases o with
  | Call f args kw pos =>
    cases f with
    | Name id p =>
      cases args with
      | nil =>
        cases kw with
        | nil => simp [plainO] at h
        | cons _ _ => rfl
      | cons _ _ => rfl
    | _ => rfl
  | _ => rfl
theorem findP_at {x : PV} : ∀ {xs : List PV} {j : Nat}, findP x xs = some j → ∃ z, xs[j]? = some z ∧ eqP z x = true ∧ ∀ (m : Nat) (z' : PV), m < j → xs[m]? = some z' → eqP z' x = false
  | [], _, h => by cases h
  | y :: ys, j, h => by
    rw [findP] at h
    split at h
    · rename_i e
      cases h
      exact ⟨y, rfl, e, fun m z' hm => by omega⟩
    · rename_i e
      obtain ⟨i, h1, rfl⟩ := Option.map_eq_some_iff.mp h
      obtain ⟨z, e1, e2, e3⟩ := findP_at h1
      refine ⟨z, by simpa using e1, e2, fun m z' hm hz => ?_⟩
      cases m with
      | zero =>
        have : z' = y := by simpa using hz.symm
        subst this
        simpa using e
      | succ m => exact e3 m z' (by omega) (by simpa using hz)
section
variable {W : Wd} {G : Gl} {k : Nat} {C : Cc} {X : Cx}
/-- the calls of the three methods, by the receiver's kind -/
theorem index_lst (fit : Fit W X) {pins : List (Addr × Obj)} {σ : L2.St} {H F : Hp} {s : Shared} {Q : VK} {ph : List Addr} {hp : Hs} {xs vs : List PV} {x : V} {v : Value} {ys : List V} {us : List Value} {w : PV} (I : Inv X pins σ H s) (rx : RelV x v) (rv : Vals ys us) (hR : RelH W F ph hp H) (qx : Rep W F ph (.lst xs) x) (qs : RepA W F ph vs ys)
    (e : mthP .index (.lst xs) vs = some w) (q : Q (match w with | .int i => V.int i | _ => V.non) H) : wpAny (model X.prog X.w) X.A (call (.builtin "list.index") (v :: us)) (EP X pins σ Q) X.xe s := by
  cases vs with
  | nil => simp [mthP] at e
  | cons y r =>
    cases r with
    | cons _ _ => simp [mthP] at e
    | nil =>
      simp only [mthP] at e
      split at e
      · rename_i ok
        obtain ⟨j, hj, rfl⟩ := Option.map_eq_some_iff.mp e
        obtain ⟨yv, rfl, ry⟩ := qs.one
        obtain ⟨uy, rfl, ru⟩ := vals1 rv
        obtain ⟨a, ws, rfl, _, ha, ra⟩ := qx.lstAt hR
        cases (show v = Value.ref a from rx)
        rw [← fit.K] at ha
        obtain ⟨dx, dy, m⟩ := okMem_iff ok
        obtain ⟨⟨bs, r1⟩, l1⟩ := reads2 fit I ru hR ry dx
        have hl := ra.dp hR xs dy
        rw [← fit.K] at hl
        have lx := ra.lay xs dy
        obtain ⟨its, rv2, ⟨⟨cls, dd, data, sls⟩, n, ho, hc, hdn, hdt⟩, hlen⟩ := I.list ha
        simp only at hc hdt
        subst hc hdt
        obtain ⟨as, h4⟩ := Dp.readsAll I (toDs xs) _ its hl rv2
        have hn : its.length = (toDs xs).length := SeqAt.ReadsAll.length (toDs xs) its as h4
        have hmap : its.map (SeqAt.readOf s.heap) = toDs xs := SeqAt.readsAll_map (toDs xs) its as lx h4
        rw [toDs_map, List.length_map] at hn
        rw [toDs_map] at hmap
        obtain ⟨z, z1, z2, z3⟩ := findP_at hj
        have hjx : j < xs.length := (List.getElem?_eq_some_iff.mp z1).1
        have hu := fit.un
        have hsl := sizeLine_eq
        have hvl := rv2.length
        have at_ : ∀ (m : Nat) (hm : m < its.toArray.size) (z' : PV), xs[m]? = some z' → SeqAt.readOf s.heap its.toArray[m] = toD z' := by
          intro m hm z' hz'
          have hml : m < its.length := by simpa using hm
          have e0 : (its.map (SeqAt.readOf s.heap))[m]? = some (toD z') := by rw [hmap, List.getElem?_map, hz']; rfl
          rw [List.getElem?_map, List.getElem?_eq_getElem hml] at e0
          simpa using e0
        have hjs : j < its.toArray.size := by simp; omega
        refine call_meets PySem.F.slot_list_index ⟨_, ho, rfl⟩ PySem.F.entry_list_index (PySem.F.args_list_index_2 _ _)
          (SeqAt.list_indexAt a its.toArray n dd sls uy (fun u => PyData.eqv (SeqAt.readOf s.heap u) (toD y)) j hjs (by omega) ?_ ?_) ⟨ho, SeqAt.items_eqAt (vs := its.toArray) (show ReadsAll s.heap its.toArray.toList (toDs xs) as from h4) r1 lx l1 (by rw [toDs_dep, toD_dep]; exact room61 hu m), ?_⟩
        · show PyData.eqv (SeqAt.readOf s.heap its.toArray[j]) (toD y) = true
          rw [at_ j hjs z z1, toD_eqv _ _ (datAll_iff.mp dy z (List.mem_of_getElem? z1)) dx]
          exact z2
        · intro m hm hmj
          have hmx : m < xs.length := by omega
          have e1 : xs[m]? = some xs[m] := List.getElem?_eq_getElem hmx
          show PyData.eqv (SeqAt.readOf s.heap its.toArray[m]) (toD y) = false
          rw [at_ m hm _ e1, toD_eqv _ _ (datAll_iff.mp dy _ (List.getElem_mem hmx)) dx]
          exact z3 m _ hmj e1
        · exact ⟨.int (j : Nat), H, I.tok _, ⟨_, rfl⟩, q⟩
      · cases e
theorem findP_idx {x : PV} : ∀ {xs : List PV} {j : Nat}, findP x xs = some j → (xs.map fun z => eqP z x).idxOf true = j ∧ true ∈ xs.map fun z => eqP z x
  | [], _, h => by cases h
  | y :: ys, j, h => by
    rw [findP] at h
    rw [List.map_cons, List.idxOf_cons]
    split at h
    · rename_i e
      cases h
      rw [e]
      exact ⟨rfl, by simp⟩
    · rename_i e
      obtain ⟨i, h1, rfl⟩ := Option.map_eq_some_iff.mp h
      obtain ⟨e1, e2⟩ := findP_idx h1
      have e : eqP y x = false := by simpa using e
      rw [e, e1]
      exact ⟨rfl, List.mem_cons_of_mem _ e2⟩
/-- a tuple's object has no dict of its own -/
theorem tup_dict (fit : Fit W X) {pins : List (Addr × Obj)} {σ : L2.St} {H F : Hp} {s : Shared} {ph : List Addr} {hp : Hs} {zs : List PV} {a : Addr} (I : Inv X pins σ H s) (hR : RelH W F ph hp H) (rx : Rep W F ph (.tup zs) (.ref a)) :
    s.TypeIs (.ref a) "tuple" ∧ ∀ b, Value.ref a = .ref b → ∃ ob, s.heap.get? b = some ob ∧ ob.dict = none := by
  have key : ∃ ob : Obj, s.heap.get? a = some ob ∧ ob.cls = .type "tuple" ∧ ob.dict = none := by
    cases rx with
    | tup e q =>
      obtain ⟨ob, h1, h2⟩ := hR.td _ _ e
      obtain ⟨g, _, its, _, o, ho, hc, _⟩ := (show ObjOk X.prog X.w H s.heap a (.frz ob (.tup _)) from I.hok a _ h1)
      rw [g] at ho
      cases ho
      exact ⟨ob, g, hc, h2⟩
    | ktup e q =>
      obtain ⟨o, its, n, lk, hc, _⟩ := e
      exact ⟨o, I.kIn a o (by rw [fit.K]; exact lk), hc, fit.kd a o lk hc⟩
    | obj e q => cases q
  obtain ⟨ob, g, hc, hd⟩ := key
  exact ⟨⟨ob, g, hc⟩, fun b e => by cases e; exact ⟨ob, g, hd⟩⟩
theorem index_tup (fit : Fit W X) {pins : List (Addr × Obj)} {σ : L2.St} {H F : Hp} {s : Shared} {Q : VK} {ph : List Addr} {hp : Hs} {xs vs : List PV} {x : V} {v : Value} {ys : List V} {us : List Value} {w : PV} (I : Inv X pins σ H s) (rx : RelV x v) (rv : Vals ys us) (hR : RelH W F ph hp H) (qx : Rep W F ph (.tup xs) x) (qs : RepA W F ph vs ys)
    (e : mthP .index (.tup xs) vs = some w) (q : ∀ y, Rep W F ph w y → Q y H) : wpAny (model X.prog X.w) X.A (call (.builtin "tuple.index") (v :: us)) (EP X pins σ Q) X.xe s := by
  cases vs with
  | nil => simp [mthP] at e
  | cons y r =>
    cases r with
    | cons _ _ => simp [mthP] at e
    | nil =>
      simp only [mthP] at e
      split at e
      · rename_i ok
        obtain ⟨j, hj, rfl⟩ := Option.map_eq_some_iff.mp e
        obtain ⟨yv, rfl, ry⟩ := qs.one
        obtain ⟨uy, rfl, ru⟩ := vals1 rv
        obtain ⟨a, ws, rfl, ha, ra⟩ := qx.tupAt hR
        cases (show v = Value.ref a from rx)
        rw [← fit.K] at ha
        obtain ⟨dx, dy, m⟩ := okMem_iff ok
        obtain ⟨⟨bs, r1⟩, l1⟩ := reads2 fit I ru hR ry dx
        have hl := ra.dp hR xs dy
        rw [← fit.K] at hl
        have lx := ra.lay xs dy
        obtain ⟨its, rv2, ht, hlen⟩ := I.tuple ha
        obtain ⟨as, h4⟩ := Dp.readsAll I (toDs xs) _ its hl rv2
        have hmap : its.map (SeqAt.readOf s.heap) = toDs xs := SeqAt.readsAll_map (toDs xs) its as lx h4
        rw [toDs_map] at hmap
        have hn : its.length = xs.length := by have := congrArg List.length hmap; simpa using this
        have hu := fit.un
        have eqs := SeqAt.items_eqAt (vs := its.toArray) (A := X.A) (show ReadsAll s.heap its.toArray.toList (toDs xs) as from h4) r1 lx l1 (by rw [toDs_dep, toD_dep]; exact room61 hu m)
        obtain ⟨f1, f2⟩ := findP_idx hj
        refine SeqAt.call_tuple_index (vs := its) (ks := xs.map fun z => eqP z y) (k := true) (show s.heap.IsTuple a its.toArray from ht) ⟨by rw [List.length_map]; exact hn, fun i h1 h2 => ?_⟩ f2 ?_
        · have hi : i < xs.length := by simpa using h2
          have e1 := eqs its[i] (by simp)
          have e0 : (its.map (SeqAt.readOf s.heap))[i]? = some (toD xs[i]) := by rw [hmap, List.getElem?_map, List.getElem?_eq_getElem hi]; rfl
          rw [List.getElem?_map, List.getElem?_eq_getElem h1] at e0
          have e2 : SeqAt.readOf s.heap its[i] = toD xs[i] := Option.some.inj e0
          rw [e2, toD_eqv _ _ (datAll_iff.mp dy _ (List.getElem_mem hi)) dx] at e1
          have e3 : decide ((xs.map fun z => eqP z y)[i] = true) = eqP xs[i] y := by
            rw [List.getElem_map]
            cases eqP xs[i] y <;> rfl
          rw [e3]
          exact e1
        · rw [f1]
          exact ⟨.int (j : Nat), H, I.tok _, ⟨_, rfl⟩, q _ (.int _)⟩
      · cases e
theorem index_str (fit : Fit W X) {pins : List (Addr × Obj)} {σ : L2.St} {H F : Hp} {s : Shared} {Q : VK} {ph : List Addr} {z : Str} {vs : List PV} {x : V} {v : Value} {ys : List V} {us : List Value} {w : PV} (I : Inv X pins σ H s) (rx : RelV x v) (rv : Vals ys us) (qx : Rep W F ph (.str z) x) (qs : RepA W F ph vs ys)
    (e : mthP .index (.str z) vs = some w) (q : ∀ y, Rep W F ph w y → Q y H) : wpAny (model X.prog X.w) X.A (call (.builtin "str.index") (v :: us)) (EP X pins σ Q) X.xe s := by
  cases vs with
  | nil => simp [mthP] at e
  | cons y r =>
    cases r with
    | cons _ _ => cases y <;> simp [mthP] at e
    | nil =>
      cases y <;> simp only [mthP] at e <;> try cases e
      rename_i b
      obtain ⟨yv, rfl, ry⟩ := qs.one
      obtain ⟨rfl, _⟩ := ry.strV
      obtain ⟨rfl, _⟩ := qx.strV
      obtain ⟨uy, rfl, ru⟩ := vals1 rv
      obtain ⟨t1, z1⟩ := (show ∃ t, v = Value.str z t from rx)
      obtain ⟨t2, z2⟩ := (show ∃ t, uy = Value.str b t from ru)
      subst z1 z2
      obtain ⟨i, hi, rfl⟩ := Option.map_eq_some_iff.mp e
      cases oc : Builtin.Str.occurrences z b 0 z.length 1 with
      | nil => rw [oc] at hi; cases hi
      | cons j rest =>
        rw [oc] at hi
        cases hi
        exact call_gives PySem.F.slot_str_index (typeIs_str _ _ _) PySem.F.entry_str_index (PySem.F.args_str_index_2 _ _) (gives_str_index z b t1 t2 i rest oc) ⟨.int (i : Nat), H, I.tok _, ⟨_, rfl⟩, q _ (.int _)⟩
theorem get_dct (fit : Fit W X) {pins : List (Addr × Obj)} {σ : L2.St} {H F : Hp} {s : Shared} {Q : VK} {ph : List Addr} {hp : Hs} {kvs : List (PV × PV)} {vs : List PV} {x : V} {v : Value} {ys : List V} {us : List Value} {w : PV} (I : Inv X pins σ H s) (rx : RelV x v) (rv : Vals ys us) (hR : RelH W F ph hp H) (qx : Rep W F ph (.dct kvs) x) (qs : RepA W F ph vs ys)
    (e : mthP .get (.dct kvs) vs = some w) (q : ∀ y, Rep W F ph w y → Q y H) : wpAny (model X.prog X.w) X.A (call (.builtin "dict.get") (v :: us)) (EP X pins σ Q) X.xe s := by
  obtain ⟨a, o, rfl, _, ho, r⟩ := qx.dctAt hR
  cases (show v = Value.ref a from rx)
  -- what the rule gives, against what is looked up
  have pick : ∀ {d : PV} {dv : V} {du : Value} {o : Option Value}, Rep W F ph d dv → RelV dv du → (∀ y, getKv (vs.headD .non) kvs = some y → ∃ z w', o = some w' ∧ RelV z w' ∧ Rep W F ph y z) → (getKv (vs.headD .non) kvs = none → o = none) → ∃ z, RelV z (o.getD du) ∧ Rep W F ph ((getKv (vs.headD .non) kvs).getD d) z := by
    intro d dv du o rd rdu i1 i2
    cases g : getKv (vs.headD .non) kvs with
    | none => rw [i2 g]; exact ⟨dv, rdu, rd⟩
    | some y =>
      obtain ⟨z, w', rfl, rz, rep⟩ := i1 y g
      exact ⟨z, rz, rep⟩
  cases vs with
  | nil => simp [mthP] at e
  | cons y r =>
    cases r with
    | nil =>
      simp only [mthP] at e
      split at e <;> cases e
      rename_i okk
      obtain ⟨yv, rfl, ry⟩ := qs.one
      obtain ⟨uy, rfl, ru⟩ := vals1 rv
      obtain ⟨h1, h5, hl', c⟩ := dict_of fit I hR ho r okk
      rcases c with ⟨kk, us2, hk, dd, ek, lu⟩ | ⟨kk, us2, hk, dd, ek, lu⟩
      · have kis : (mixKind X.prog X.w).is kk uy = true := by rw [keyOf_rel hk ry] at ru; exact kV_is ru
        obtain ⟨i1, i2⟩ := ek.look hk
        obtain ⟨z, rz, rep⟩ := pick (d := .non) (dv := .non) (du := .none) (o := valueAt us2 kk) .non rfl (fun y g => let ⟨z, w', e1, e2, e3⟩ := i1 y g; ⟨z, w', e1, e2, e3⟩) i2
        exact call_meetsIn PySem.F.slot_dict_get dd.typeIs PySem.F.entry_dict_get (PySem.F.args_dict_get_2 _ _) (meets_dict_get (mixKind X.prog X.w) a kis h1) ⟨_, dd.mapOf, z, H, I.tok _, rz, q z rep⟩
      · obtain ⟨b, rfl, tb⟩ := tkey_of hk ry
        obtain rfl : uy = Value.ref b := ru
        have kis := TKey.at_ fit I hR tb
        rw [← fit.P, ← fit.w] at kis
        obtain ⟨i1, i2⟩ := ek.look hk
        obtain ⟨z, rz, rep⟩ := pick (d := .non) (dv := .non) (du := .none) (o := (atKey us2 kk).map (·.2)) .non rfl (fun y g => let ⟨z, b', w', e1, e2, e3⟩ := i1 y g; ⟨z, w', by rw [e1]; rfl, e2, e3⟩) (fun g => by rw [i2 g]; rfl)
        exact call_meetsIn PySem.F.slot_dict_get dd.typeIs PySem.F.entry_dict_get (PySem.F.args_dict_get_2 _ _) (meetsH_dict_get (tupleKind (mixKind X.prog X.w)) a b h1) ⟨tupleKind_room_in1 fit.u1, kk, us2, kis, dd, z, H, I.tok _, rz, q z rep⟩
    | cons d r =>
      cases r with
      | cons _ _ => simp [mthP] at e
      | nil =>
        simp only [mthP] at e
        split at e <;> cases e
        rename_i okk
        obtain ⟨yv, dv, rfl, ry, rd⟩ := qs.two
        obtain ⟨uy, du, rfl, ru, rdu⟩ := vals2 rv
        obtain ⟨h1, h5, hl', c⟩ := dict_of fit I hR ho r okk
        rcases c with ⟨kk, us2, hk, dd, ek, lu⟩ | ⟨kk, us2, hk, dd, ek, lu⟩
        · have kis : (mixKind X.prog X.w).is kk uy = true := by rw [keyOf_rel hk ry] at ru; exact kV_is ru
          obtain ⟨i1, i2⟩ := ek.look hk
          obtain ⟨z, rz, rep⟩ := pick (o := valueAt us2 kk) rd rdu (fun y g => let ⟨z, w', e1, e2, e3⟩ := i1 y g; ⟨z, w', e1, e2, e3⟩) i2
          exact call_meetsIn PySem.F.slot_dict_get dd.typeIs PySem.F.entry_dict_get (PySem.F.args_dict_get_3 _ _ _) (meets_dict_get_default (mixKind X.prog X.w) a kis h1 du) ⟨_, dd.mapOf, z, H, I.tok _, rz, q z rep⟩
        · obtain ⟨b, rfl, tb⟩ := tkey_of hk ry
          obtain rfl : uy = Value.ref b := ru
          have kis := TKey.at_ fit I hR tb
          rw [← fit.P, ← fit.w] at kis
          obtain ⟨i1, i2⟩ := ek.look hk
          obtain ⟨z, rz, rep⟩ := pick (o := (atKey us2 kk).map (·.2)) rd rdu (fun y g => let ⟨z, b', w', e1, e2, e3⟩ := i1 y g; ⟨z, w', by rw [e1]; rfl, e2, e3⟩) (fun g => by rw [i2 g]; rfl)
          exact call_meetsIn PySem.F.slot_dict_get dd.typeIs PySem.F.entry_dict_get (PySem.F.args_dict_get_3 _ _ _) (meetsH_dict_get_default (tupleKind (mixKind X.prog X.w)) a b h1 du) ⟨tupleKind_room_in1 fit.u1, kk, us2, kis, dd, z, H, I.tok _, rz, q z rep⟩
theorem se_mth (ok : XOk W G k C X) {m : Mth} {o es : ME} {eo e : Expr} {xs : List Expr} {name : Str} {apos pos : Pos} (hx : name = mname m) (hp : plainO eo = true) (hs : (e :: xs).all notStar = true) (hlen : (e :: xs).length < 30) (hline : (apos.endLine == pos.line) = true)
    (ho : PE X eo (tE W G k o)) (ha : PA X (e :: xs) (tL W G k es)) : PE X (.Call (.Attribute eo name apos) (e :: xs) [] pos) (tE W G k (.mth m o es)) := by
  have hs2 : notStar e = true ∧ xs.all notStar = true := by rw [List.all_cons, Bool.and_eq_true] at hs; exact hs
  refine ⟨fun pins s σ H Q I h => ?_⟩
  obtain ⟨F, ph, hp0, env, r, hp1, hR, hE, e0, q⟩ := h
  simp only [ev] at e0
  obtain ⟨p, e1, e0⟩ := bnd_some e0
  obtain ⟨p2, e2, e0⟩ := bndL_some e0
  obtain ⟨w, e3, e0⟩ := Option.map_eq_some_iff.mp e0
  cases e0
  refine wpAny_Call_method_late (attrBase_of hp _) (star_few hs hlen) hline rfl (thn (ho.run pins s σ H (fun x H1 => ∃ F1 ph1, Ext F ph H F1 ph1 H1 ∧ RelH W F1 ph1 p.2 H1 ∧ RelE W F1 ph1 env σ ∧ Rep W F1 ph1 p.1.2 x) I (tE_val hR hE e1 fun F1 ph1 x H1 x1 hR1 hE1 rx => ⟨F1, ph1, x1, hR1, hE1, rx⟩)) fun v s1 ⟨x, H1, I1, r1, F1, ph1, x1, hR1, hE1, rx⟩ => ?_)
  have hA := ha.run pos pins s1 σ H1 (fun ys H2 => ∃ F2 ph2, Ext F1 ph1 H1 F2 ph2 H2 ∧ RelH W F2 ph2 p2.2 H2 ∧ RepA W F2 ph2 p2.1 ys) I1 (tL_val hR1 hE1 e2 fun F2 ph2 ys H2 x2 hR2 hE2 ry => ⟨F2, ph2, x2, hR2, ry⟩)
  have pl : (false || (backTo pos (starEach xs X.env)).any (·.1)) = false := by rw [star_any hs2.2]; rfl
  rw [starEach_of hs2.1] at hA ⊢
  subst hx
  cases m with
  | index =>
    cases hv : p.1.2 with
    | lst zs =>
      rw [hv] at e3 rx
      obtain ⟨a, ws, rfl, _, ha2, ra⟩ := rx.lstAt hR1
      cases (show v = Value.ref a from r1)
      rw [← ok.fit.K] at ha2
      obtain ⟨its, rv, ⟨ob, n, g1, g2, g3, _⟩, _⟩ := I1.list ha2
      refine ⟨"list", "list.index", PySem.F.plainAttrs_list, PySem.F.slot_list_index, PySem.F.type_list_index, ⟨ob, g1, g2⟩, fun b hb => ?_, ?_⟩
      · cases hb; exact ⟨ob, g1, g3⟩
      refine Calls.callWith_builtin pl (Calls.evalArgs_plain (thn hA fun us s2 ⟨ys, H2, I2, r2, F2, ph2, x2, hR2, ry⟩ => ?_))
      refine index_lst ok.fit I2 (x := .ref a) rfl r2 hR2 (rx.ext x2) ry e3 ?_
      have hw : ∃ i, w = .int i := by
        revert e3
        cases p2.1 with
        | nil => intro e3; simp [mthP] at e3
        | cons y r =>
          cases r with
          | nil =>
            intro e3
            simp only [mthP] at e3
            split at e3
            · obtain ⟨j, _, rfl⟩ := Option.map_eq_some_iff.mp e3; exact ⟨_, rfl⟩
            · cases e3
          | cons _ _ => intro e3; simp [mthP] at e3
      obtain ⟨i, rfl⟩ := hw
      exact q.at_ (x1.trans x2) hR2 (.int i)
    | tup zs =>
      rw [hv] at e3 rx
      obtain ⟨a, ws, rfl, ha2, ra⟩ := rx.tupAt hR1
      cases (show v = Value.ref a from r1)
      have td := tup_dict ok.fit I1 hR1 rx
      refine ⟨"tuple", "tuple.index", PySem.F.plainAttrs_tuple, PySem.F.slot_tuple_index, PySem.F.type_tuple_index, td.1, td.2, ?_⟩
      refine Calls.callWith_builtin pl (Calls.evalArgs_plain (thn hA fun us s2 ⟨ys, H2, I2, r2, F2, ph2, x2, hR2, ry⟩ => ?_))
      exact index_tup ok.fit I2 (x := .ref a) rfl r2 hR2 (rx.ext x2) ry e3 fun y ry => q.at_ (x1.trans x2) hR2 ry
    | str z =>
      rw [hv] at e3 rx
      obtain ⟨rfl, _⟩ := rx.strV
      obtain ⟨t1, z1⟩ := (show ∃ t, v = Value.str z t from r1)
      subst z1
      refine ⟨"str", "str.index", PySem.F.plainAttrs_str, PySem.F.slot_str_index, PySem.F.type_str_index, typeIs_str _ _ _, (fun b hb => by cases hb), ?_⟩
      refine Calls.callWith_builtin pl (Calls.evalArgs_plain (thn hA fun us s2 ⟨ys, H2, I2, r2, F2, ph2, x2, hR2, ry⟩ => ?_))
      exact index_str ok.fit I2 (x := .str z) ⟨t1, rfl⟩ r2 (rx.ext x2) ry e3 fun y ry => q.at_ (x1.trans x2) hR2 ry
    | _ => rw [hv] at e3; simp [mthP] at e3
  | get =>
    cases hv : p.1.2 with
    | dct kvs =>
      rw [hv] at e3 rx
      obtain ⟨a, o', rfl, _, ho2, rr⟩ := rx.dctAt hR1
      cases (show v = Value.ref a from r1)
      cases rr with
      | @dct _ _ ob es ep h1 h2 h3 h4 h5 rr =>
        have g := obj_at I1 ho2
        refine ⟨"dict", "dict.get", PySem.F.plainAttrs_dict, PySem.F.slot_dict_get, PySem.F.type_dict_get, ⟨ob, g, h2.1⟩, fun b hb => ?_, ?_⟩
        · cases hb; exact ⟨ob, g, h2.2.1⟩
        refine Calls.callWith_builtin pl (Calls.evalArgs_plain (thn hA fun us s2 ⟨ys, H2, I2, r2, F2, ph2, x2, hR2, ry⟩ => ?_))
        exact get_dct ok.fit I2 (x := .ref a) rfl r2 hR2 (rx.ext x2) ry e3 fun y ry => q.at_ (x1.trans x2) hR2 ry
    | _ => rw [hv] at e3; simp [mthP] at e3
/-- a new shared object -/
theorem RelH.share {F H : Hp} {ph : List Addr} {hp : Hs} (h : RelH W F ph hp H) {a : Addr} {o : HO} {v : PV} (e : H a = some o) (n : F a = none) (ns : a ∉ ph) (r : ORep W F ph a v o) (cl : clean (true, v) = true) : RelH W F (ph ++ [a]) (hp ++ [v]) H := by
  have pre : ∀ (n : Nat) (b : Addr), ph[n]? = some b → (ph ++ [a])[n]? = some b := fun n b q => by
    rw [List.getElem?_append_left (List.getElem?_eq_some_iff.mp q).1]; exact q
  refine ⟨h.sub, by simp [h.len], List.nodup_append.mpr ⟨h.nd, by simp, fun x hx y hy z => ns (by simp at hy; subst hy; subst z; exact hx)⟩, fun i b u e1 e2 => ?_, fun i u e2 => ?_, h.td⟩
  · by_cases hi : i < ph.length
    · rw [List.getElem?_append_left hi] at e1
      rw [List.getElem?_append_left (by rw [← h.len]; exact hi)] at e2
      obtain ⟨f, q, e3, r3⟩ := h.sh i b u e1 e2
      exact ⟨f, q, e3, r3.mono (fun _ _ z => z) pre⟩
    · have hi2 : i = ph.length := by
        have := (List.getElem?_eq_some_iff.mp e1).1
        simp at this; omega
      subst hi2
      have e4 : b = a := by simpa using e1.symm
      have e5 : u = v := by rw [h.len] at e2; simpa using e2.symm
      subst e4 e5
      exact ⟨n, o, e, r.mono (fun _ _ z => z) pre⟩
  · by_cases hi : i < hp.length
    · rw [List.getElem?_append_left hi] at e2
      exact h.cl i u e2
    · have hi2 : i = hp.length := by
        have := (List.getElem?_eq_some_iff.mp e2).1
        simp at this; omega
      subst hi2
      have e5 : u = v := by simpa using e2.symm
      subst e5
      exact cl
theorem se_hp {m : ME} {e : Expr} (he : PE X e (tE W G k m)) : PE X e (tE W G k (.hp m)) := by
  refine PE_imp he ?_
  rintro σ H Q ⟨F, ph, hp, env, r, hp1, hR, hE, e, q⟩
  simp only [ev] at e
  obtain ⟨p, e1, e⟩ := Option.bind_eq_some_iff.mp e
  split at e
  · rename_i c
    cases e
    rw [Bool.and_eq_true] at c
    refine ⟨F, ph, hp, env, p.1, p.2, hR, hE, e1, fun F1 ph1 x H1 x1 hR1 r1 => ?_⟩
    unfold RRep at r1
    rw [if_pos c.1] at r1
    obtain ⟨a, o, rfl, n, ns, n0, ho, ro⟩ := r1
    have cl : clean (true, p.1.2) = true := by
      have := c.2
      have e2 : p.1 = (true, p.1.2) := by rw [← c.1]
      rw [e2] at this; exact this
    have hR2 := hR1.share ho n ns ro cl
    refine q F1 (ph1 ++ [a]) _ H1 ⟨x1.le, x1.new, fun i b z => ?_, fun b hb => ?_, x1.pres, x1.dom⟩ hR2 (RRep.of (.ref ?_))
    · have z2 := x1.pre i b z
      rw [List.getElem?_append_left (List.getElem?_eq_some_iff.mp z2).1]; exact z2
    · rcases List.mem_append.mp hb with z | z
      · exact x1.pnew b z
      · have : b = a := by simpa using z
        subst this; exact .inr n0
    · rw [← hR1.len]; simp
  · cases e
end
end MP
set_option maxRecDepth 100000
/-! MiniPy: what a for walks. -/
namespace MP
open PySem PySem.Spec PyProof.Rows L2
/-- J yields these, as long as what is frozen stands -/
def JOk (W : Wd) (F : Hp) (ph : List Addr) (xs : List PV) (J : It) : Prop :=
  ∀ (i : Nat) (F' : Hp) (ph' : List Addr) (hp' : Hs) (H' : Hp), (∀ a o, F a = some o → F' a = some o) → RelH W F' ph' hp' H' →
    (∀ x, xs[i]? = some x → J.go i H' ∧ ∀ y H2, J.yld i H' y H2 → H2 = H' ∧ Rep W F ph x y) ∧ (xs.length ≤ i → J.stop i H')
section
variable {W : Wd} {F : Hp} {ph : List Addr}
theorem jok_list {vs : List V} {xs : List PV} {a : Addr} (e : F a = some (.lst vs)) (r : RepA W F ph xs vs) : JOk W F ph xs (Itl W.K a) := by
  intro i F' ph' hp' H' le hR
  have sq : SqL W.K H' a vs := .inl (hR.sub _ _ (le _ _ e))
  refine ⟨fun x hx => ?_, fun hi => ⟨vs, sq, by rw [← r.length]; exact hi⟩⟩
  obtain ⟨v, hv, rv⟩ := r.get hx
  refine ⟨⟨vs, v, sq, hv⟩, fun y H2 hy => ⟨hy.1, ?_⟩⟩
  have := hy.2 vs sq
  rw [hv] at this
  cases this
  exact rv
theorem jok_tup {vs : List V} {xs : List PV} {a : Addr} (e : F a = some (.tup vs) ∨ KTup W.K a vs) (r : RepA W F ph xs vs) : JOk W F ph xs (Itt W.K a) := by
  intro i F' ph' hp' H' le hR
  have sq : SqT W.K H' a vs := e.elim (fun e => .inl (hR.sub _ _ (le _ _ e))) fun e => .inr e
  refine ⟨fun x hx => ?_, fun hi => ⟨vs, sq, by rw [← r.length]; exact hi⟩⟩
  obtain ⟨v, hv, rv⟩ := r.get hx
  refine ⟨⟨vs, v, sq, hv⟩, fun y H2 hy => ⟨hy.1, ?_⟩⟩
  have := hy.2 vs sq
  rw [hv] at this
  cases this
  exact rv
theorem jok_str {z : Str} (ok : PyData.strOk z = true) : JOk W F ph (z.cps.toList.map chr1) (Its z) := by
  intro i F' ph' hp' H' le hR
  refine ⟨fun x hx => ?_, fun hi => show z.cps.size ≤ i by simpa using hi⟩
  rw [List.getElem?_map, Option.map_eq_some_iff] at hx
  obtain ⟨c, hc, rfl⟩ := hx
  have hlt : i < z.cps.size := by have := (List.getElem?_eq_some_iff.mp hc).1; simpa using this
  refine ⟨hlt, fun y H2 hy => ⟨hy.1, ?_⟩⟩
  obtain ⟨d, hd, rfl⟩ := hy.2
  have : c = d := by
    rw [← Array.getElem?_toList, hc] at hd
    exact Option.some.inj hd
  subst this
  exact .str _ (strOk_one ok (List.mem_of_getElem? hc))
theorem jok_rng (lo : Int) (n : Nat) : JOk W F ph (upTo lo n) (Itr lo n) := by
  intro i F' ph' hp' H' le hR
  unfold upTo
  refine ⟨fun x hx => ?_, fun hi => show n ≤ i by simpa using hi⟩
  rw [List.getElem?_map, Option.map_eq_some_iff] at hx
  obtain ⟨c, hc, rfl⟩ := hx
  obtain ⟨hlt, e⟩ := List.getElem?_eq_some_iff.mp hc
  rw [List.getElem_range] at e
  subst e
  refine ⟨show i < n by simpa using hlt, fun y H2 hy => ⟨hy.1, ?_⟩⟩
  rw [hy.2]
  exact .int _
theorem jok_rrng (lo : Int) (n : Nat) : JOk W F ph (upTo lo n).reverse (Itc (lo + (n : Nat) - 1) (-1) n) := by
  intro i F' ph' hp' H' le hR
  refine ⟨fun x hx => ?_, fun hi => show n ≤ i by simpa [upTo] using hi⟩
  have hlt : i < n := by have := (List.getElem?_eq_some_iff.mp hx).1; simpa [upTo] using this
  refine ⟨hlt, fun y H2 hy => ⟨hy.1, ?_⟩⟩
  rw [List.getElem?_reverse (by simpa [upTo] using hlt)] at hx
  unfold upTo at hx
  rw [List.getElem?_map, Option.map_eq_some_iff] at hx
  obtain ⟨c, hc, rfl⟩ := hx
  obtain ⟨hlt2, e⟩ := List.getElem?_eq_some_iff.mp hc
  rw [List.getElem_range] at e
  subst e
  rw [hy.2]
  have e2 : lo + (n : Nat) - 1 + (i : Nat) * (-1) = lo + ((((List.range n).map fun (k : Nat) => PV.int (lo + k)).length - 1 - i : Nat) : Int) := by
    simp; omega
  rw [e2]
  exact .int _
/-- a dict's keys -/
def Itx (d : Addr) (ob : Obj) (es : Array DictEntry) : It :=
  ⟨fun i H => Rd H d (dctO d ob) ∧ i < es.size, fun i H x H' => H' = H ∧ ∃ en, es[i]? = some en ∧ RelV x en.key, fun i H => Rd H d (dctO d ob) ∧ es.size ≤ i⟩
theorem jok_keys {kvs : List (PV × PV)} {ob : Obj} {es : Array DictEntry} {d : Addr} (e : F d = some (dctO d ob)) (r : RepD W F ph kvs es.toList) (ok : (keysP kvs).all intKey = true) : JOk W F ph (keysP kvs) (Itx d ob es) := by
  intro i F' ph' hp' H' le hR
  have rd := hR.sub _ _ (le _ _ e)
  have hl : (keysP kvs).length = es.size := by unfold keysP; rw [List.length_map, r.length]; simp
  refine ⟨fun x hx => ?_, fun hi => ⟨rd, by rw [← hl]; exact hi⟩⟩
  obtain ⟨en, he, kr⟩ := r.get hx
  refine ⟨⟨rd, by rw [← hl]; exact (List.getElem?_eq_some_iff.mp hx).1⟩, fun y H2 hy => ⟨hy.1, ?_⟩⟩
  obtain ⟨en2, he2, ry⟩ := hy.2
  rw [← Array.getElem?_toList, he] at he2
  cases he2
  obtain ⟨y2, ry2, rep⟩ := key_rep (ph := ph) kr (List.all_eq_true.mp ok x (List.mem_of_getElem? hx))
  rw [ry.inj ry2]
  exact rep
theorem turn_keysX {P : Program} {w : World} {K : PySem.W.Frag} {tg : Expr} {d it : Addr} {o : Obj} {es : Array DictEntry} {ep : Nat} (hod : o.data = .dict es ep) (hk : ∀ (i : Nat) en, es[i]? = some en → ∃ y, RelV y en.key) :
    Turn P w K tg (Itx d o es) [it] it (fun i h => h.IsKeyIter it d i es.size ep) where
  mem := by simp
  obj := fun i h st b hb => by
    obtain rfl : b = it := by simpa using hb
    obtain ⟨oi, e, c, dd⟩ := st
    exact ⟨oi, e, fun v z => by rw [dd] at z; cases z⟩
  keep := fun i h h' st k => st.at fun oi e => k it (by simp) oi e
  item := by
    intro X hP hw hK hc i pins s σ H E I hf st hg
    subst hP hw hK
    obtain ⟨hd, hi⟩ := hg
    have hgd := obj_at I hd
    obtain ⟨f0, f1, f2, f3, f4, f5⟩ := hf it (by simp)
    have hen : es[i]? = some es[i] := Array.getElem?_eq_getElem hi
    obtain ⟨y, ry⟩ := hk i _ hen
    refine next_key_item st hgd hod rfl hen fun h' st' sb => ?_
    have I1 : Inv X pins σ H { s with heap := h' } := I.turned (t' := s.toks) (fun b ob hb e => (sb.2 b hb).trans e) f0 f1 f3 f4 f5
    obtain ⟨oi, e, c, dd⟩ := id st'
    exact ⟨es[i].key, rfl, go_of (s := { s with heap := h' }) e c dd (by decide) ⟨y, H, I1, ry, ⟨rfl, _, hen, ry⟩, st', fun b hb => (hf b hb).1⟩⟩
  done := by
    intro X hP hw hK hc i pins s σ H E I hf st hg
    subst hP hw hK
    obtain ⟨hd, hi⟩ := hg
    have hgd := obj_at I hd
    obtain ⟨f0, f1, f2, f3, f4, f5⟩ := hf it (by simp)
    exact next_key_end (I.ok.hd hc) st hgd hod rfl hi fun h' eb => ⟨rfl, I.turned (t' := s.toks) (fun b ob hb e => eb b ob hb e) f0 f1 f3 f4 f5⟩
  self := fun A i s Q E st h => wpAny_pyIter_keyiter st h
end
section
variable {W : Wd} {G : Gl} {k : Nat} {C : Cc} {X : Cx}
/-- what is walked: a reading -/
def iK (W : Wd) (G : Gl) (k : Nat) (ik : Ik) (m : ME) : TI := fun σ H R => ∃ F ph hp env xs hp1, RelH W F ph hp H ∧ RelE W F ph env σ ∧ wK ik (ev G.cst (callF G k) m env hp) (evL G.cst (callF G k) m env hp) = some (xs, hp1) ∧
  ∀ F' ph' H' J, Ext F ph H F' ph' H' → RelH W F' ph' hp1 H' → RelE W F' ph' env σ → JOk W F' ph' xs J → R J H'
/-- a value, walked -/
def iG (W : Wd) (te : TE) : TI := fun σ H R => te σ H fun x H1 => ∃ F ph hp v xs, RelH W F ph hp H1 ∧ Rep W F ph v x ∧ itemsP v = some xs ∧ ∀ J, JOk W F ph xs J → R J H1
theorem pi_valG (fit : Fit W X) {te : TE} {tg e : Expr} (he : PE X e te) : PI X tg e (iG W te) := by
  refine ⟨fun pins s σ H R I h => ?_⟩
  refine thn (he.run pins s σ H _ I h) fun v s1 ⟨x, H1, I1, r1, F1, ph1, hp1, pv, xs, hR1, rx, hy, q⟩ => ?_
  cases pv with
  | tup zs =>
    cases hy
    obtain ⟨a, vs, rfl, ha, ra⟩ := rx.tupAt hR1
    cases (show v = Value.ref a from r1)
    rw [← fit.K] at ha
    obtain ⟨its, rv, ht, hz⟩ := I1.tuple ha
    refine wpAny_pyIter_tuple (show s1.heap.IsTuple a its.toArray from ht) (pi_one (tk := s1.toks) I1 _ (turn_tuple a _) ⟨_, Heap.get?_push_size _ rfl, rfl, rfl⟩ (q _ ?_))
    rw [fit.K]
    cases rx with
    | tup ea qa => exact jok_tup (.inl ea) qa
    | ktup ea qa => exact jok_tup (.inr ea) qa
    | obj ea qa => cases qa
  | lst zs =>
    cases hy
    obtain ⟨a, vs, rfl, fa, ha, ra⟩ := rx.lstAt hR1
    cases (show v = Value.ref a from r1)
    rw [← fit.K] at ha
    obtain ⟨its, rv, ht, hz⟩ := I1.list ha
    refine wpAny_pyIter_list ht.isList (pi_one (tk := s1.toks) I1 _ (turn_list a _) ⟨_, Heap.get?_push_size _ rfl, rfl, rfl⟩ (q _ ?_))
    rw [fit.K]
    exact jok_list fa ra
  | str z =>
    cases hy
    obtain ⟨rfl, so⟩ := rx.strV
    obtain ⟨t, z1⟩ := (show ∃ t, v = Value.str z t from r1)
    subst z1
    cases ha : z.cps.all (· < 128)
    · exact wpAny_pyIter_wide ha (pi_one (tk := s1.toks) I1 _ (turn_str _ z t "str_iterator" (.inr rfl)) ⟨_, Heap.get?_push_size _ rfl, rfl, rfl⟩ (q _ (jok_str so)))
    · exact wpAny_pyIter_ascii ha (pi_one (tk := s1.toks) I1 _ (turn_str _ z t "str_ascii_iterator" (.inl rfl)) ⟨_, Heap.get?_push_size _ rfl, rfl, rfl⟩ (q _ (jok_str so)))
  | dct kvs =>
    simp only [itemsP] at hy
    split at hy
    rotate_left
    · cases hy
    rename_i ik
    cases hy
    obtain ⟨a, o, rfl, fa, ho, rr⟩ := rx.dctAt hR1
    cases (show v = Value.ref a from r1)
    cases rr with
    | @dct _ _ ob es ep h1 h2 h3 h4 h5 rr =>
      have g := obj_at I1 ho
      have J := jok_keys fa rr ik
      refine iter_keys h1 g h2 h3 (pi_one (tk := s1.toks) I1 _ (turn_keysX h3 fun i en he => ?_) ⟨_, Heap.get?_push_size _ rfl, rfl, rfl⟩ (q _ J))
      have hi : i < (keysP kvs).length := by
        unfold keysP
        rw [List.length_map, rr.length]
        have := (Array.getElem?_eq_some_iff.mp he).1
        simpa using this
      obtain ⟨en2, he2, kr⟩ := rr.get (List.getElem?_eq_getElem hi)
      rw [← Array.getElem?_toList, he2] at he
      cases he
      obtain ⟨y, ry, _⟩ := key_rep (ph := ph1) kr (List.all_eq_true.mp ik _ (List.getElem_mem hi))
      exact ⟨y, ry⟩
  | _ => simp [itemsP] at hy
theorem pi_val (ok : XOk W G k C X) {m : ME} {tg e : Expr} (he : PE X e (tE W G k m)) : PI X tg e (iK W G k .val m) := by
  refine PI_imp (pi_valG ok.fit he) ?_
  rintro σ H R ⟨F, ph, hp, env, xs, hp1, hR, hE, e0, q⟩
  simp only [wK] at e0
  obtain ⟨p, e1, e0⟩ := bnd_some e0
  obtain ⟨ys, hy, e0⟩ := Option.map_eq_some_iff.mp e0
  cases e0
  exact tE_val hR hE e1 fun F1 ph1 x H1 x1 hR1 hE1 rx => ⟨F1, ph1, _, _, _, hR1, rx, hy, fun J j => q F1 ph1 H1 J x1 hR1 hE1 j⟩
/-- a range walked: what it yields leans on nothing -/
def iR (W : Wd) (G : Gl) (k : Nat) (rev : Bool) (m : ME) : TI := fun σ H R => ∃ F ph hp env vs xs hp1, RelH W F ph hp H ∧ RelE W F ph env σ ∧ evL G.cst (callF G k) m env hp = some (vs, hp1) ∧ rngP vs = some xs ∧
  ∀ F' ph' H' J, Ext F ph H F' ph' H' → RelH W F' ph' hp1 H' → RelE W F' ph' env σ → (∀ F ph, JOk W F ph (if rev then xs.reverse else xs) J) → R J H'
theorem rng_cases {vs xs : List PV} (h : rngP vs = some xs) : (∃ j, vs = [.int j] ∧ okRng j = true ∧ xs = upTo 0 j.toNat) ∨ ∃ i j, vs = [.int i, .int j] ∧ okRng i = true ∧ okRng j = true ∧ xs = upTo i (j - i).toNat := by
  unfold rngP at h
  split at h
  · split at h <;> cases h
    rename_i j ok
    exact .inl ⟨j, rfl, ok, rfl⟩
  · split at h <;> cases h
    rename_i i j ok
    rw [Bool.and_eq_true] at ok
    exact .inr ⟨i, j, rfl, ok.1, ok.2, rfl⟩
  · cases h
theorem okRng_iff {i : Int} (h : okRng i = true) : -(2 ^ 62) ≤ i ∧ i < 2 ^ 62 := by simpa [okRng] using h
theorem pi_rng (ok : XOk W G k C X) {m : ME} {tg : Expr} {es : List Expr} {x : Str} {p pos : Pos} (hx : x = "range") (hg : isGlB C.sc x = true) (hs : es.all notStar = true) (hl : es.length = 1 ∨ es.length = 2) (hc : m.count = es.length) (ha : PA X es (tL W G k m)) :
    PI X tg (.Call (.Name x p) es [] pos) (iR W G k false m) := by
  obtain ⟨g1, g2⟩ := isGl_of ok hg
  subst hx
  have hm : X.mg "range" = none := ok.bt _ (by decide)
  refine ⟨fun pins s σ H R I h => ?_⟩
  obtain ⟨F, ph, hp, env, vs, xs, hp1, hR, hE, e1, hy, q⟩ := h
  have cnt := evL_count m e1
  rcases hl with hl | hl
  · obtain ⟨a, rfl⟩ : ∃ a, es = [a] := by
      cases es with
      | nil => simp at hl
      | cons a r => cases r with | nil => exact ⟨a, rfl⟩ | cons _ _ => simp at hl
    rcases rng_cases hy with ⟨j, e2, o1, rfl⟩ | ⟨i, j, e2, _⟩
    · refine (pi_range1 (tg := tg) g1 hm ha (star_map _ hs)).run pins s σ H R I (tL_val hR hE e1 fun F1 ph1 xs H1 x1 hR1 hE1 rx => ?_)
      rw [e2] at rx
      obtain ⟨v, rfl, r1⟩ := rx.one
      cases r1.intV
      obtain ⟨b1, b2⟩ := okRng_iff o1
      exact ⟨j, rfl, b1, b2, q F1 ph1 H1 _ x1 hR1 hE1 fun _ _ => jok_rng 0 _⟩
    · rw [e2] at cnt; simp at cnt; simp at hc; omega
  · obtain ⟨a, b, rfl⟩ : ∃ a b, es = [a, b] := by
      cases es with
      | nil => simp at hl
      | cons a r => cases r with
        | nil => simp at hl
        | cons b r => cases r with | nil => exact ⟨a, b, rfl⟩ | cons _ _ => simp at hl
    rcases rng_cases hy with ⟨j, e2, o1, _⟩ | ⟨i, j, e2, o1, o2, rfl⟩
    · rw [e2] at cnt; simp at cnt; simp at hc; omega
    · have hs2 : [b].all notStar = true := by simp at hs; simp [hs.2]
      refine (pi_range2 (tg := tg) g1 hm ha (star_map _ hs) (star_map _ hs2)).run pins s σ H R I (tL_val hR hE e1 fun F1 ph1 xs H1 x1 hR1 hE1 rx => ?_)
      rw [e2] at rx
      obtain ⟨v, u, rfl, r1, r2⟩ := rx.two
      cases r1.intV; cases r2.intV
      obtain ⟨b1, b2⟩ := okRng_iff o1
      obtain ⟨b3, b4⟩ := okRng_iff o2
      exact ⟨i, j, rfl, ⟨b1, b2, b3, b4⟩, q F1 ph1 H1 _ x1 hR1 hE1 fun _ _ => jok_rng i _⟩
/-- a range itself, to be walked from behind -/
theorem prg_any (ok : XOk W G k C X) {m : ME} {es : List Expr} {x : Str} {p pos : Pos} (hx : x = "range") (hg : isGlB C.sc x = true) (hs : es.all notStar = true) (hl : es.length = 1 ∨ es.length = 2) (hc : m.count = es.length) (ha : PA X es (tL W G k m)) :
    PRg X (.Call (.Name x p) es [] pos) fun σ H Q => ∃ F ph hp env vs hp1, RelH W F ph hp H ∧ RelE W F ph env σ ∧ evL G.cst (callF G k) m env hp = some (vs, hp1) ∧ (∃ xs, rngP vs = some xs) ∧
      ∀ F' ph' H' a b, Ext F ph H F' ph' H' → RelH W F' ph' hp1 H' → RelE W F' ph' env σ → okRng a = true → okRng b = true → rngP vs = some (upTo a (b - a).toNat) → Q a b H' := by
  obtain ⟨g1, g2⟩ := isGl_of ok hg
  subst hx
  have hm : X.mg "range" = none := ok.bt _ (by decide)
  intro pins s σ H Q I ⟨F, ph, hp, env, vs, hp1, hR, hE, e1, ⟨xs, hy⟩, q⟩
  have cnt := evL_count m e1
  rcases hl with hl | hl
  · obtain ⟨a, rfl⟩ : ∃ a, es = [a] := by
      cases es with
      | nil => simp at hl
      | cons a r => cases r with | nil => exact ⟨a, rfl⟩ | cons _ _ => simp at hl
    rcases rng_cases hy with ⟨j, e2, o1, rfl⟩ | ⟨i, j, e2, _⟩
    · refine Call_ (ld_blt I g1 hm boot_range (PyProof.Rows.callWith_type1 (thn (ha.run pos pins s σ H (fun ys H1 => ∃ F1 ph1, Ext F ph H F1 ph1 H1 ∧ RelH W F1 ph1 hp1 H1 ∧ RelE W F1 ph1 env σ ∧ RepA W F1 ph1 vs ys) I (tL_val hR hE e1 fun F1 ph1 xs H1 x1 hR1 hE1 rx => ⟨F1, ph1, x1, hR1, hE1, rx⟩)) fun us s1 ⟨ys, H1, I1, r1, F1, ph1, x1, hR1, hE1, rx⟩ => ?_) (star_map _ hs) rfl))
      rw [e2] at rx
      obtain ⟨v, rfl, r2⟩ := rx.one
      cases r2.intV
      obtain ⟨u, rfl, ru⟩ := vals1 r1
      obtain ⟨t, rfl⟩ := ru
      exact call_range_1 ⟨_, 0, j, _, _, _, H1, rfl, IsRange.new _ _ _ _ _ _ _, I1.kept fun b u e => Heap.get?_push_of_some _ e, q F1 ph1 H1 0 j x1 hR1 hE1 (by decide) o1 (by rw [hy]; simp)⟩
    · rw [e2] at cnt; simp at cnt; simp at hc; omega
  · obtain ⟨a, b, rfl⟩ : ∃ a b, es = [a, b] := by
      cases es with
      | nil => simp at hl
      | cons a r => cases r with
        | nil => simp at hl
        | cons b r => cases r with | nil => exact ⟨a, b, rfl⟩ | cons _ _ => simp at hl
    rcases rng_cases hy with ⟨j, e2, o1, _⟩ | ⟨i, j, e2, o1, o2, rfl⟩
    · rw [e2] at cnt; simp at cnt; simp at hc; omega
    · have hs2 : [b].all notStar = true := by simp at hs; simp [hs.2]
      refine Call_ (ld_blt I g1 hm boot_range (PyProof.Rows.callWith_type1 (thn (ha.run pos pins s σ H (fun ys H1 => ∃ F1 ph1, Ext F ph H F1 ph1 H1 ∧ RelH W F1 ph1 hp1 H1 ∧ RelE W F1 ph1 env σ ∧ RepA W F1 ph1 vs ys) I (tL_val hR hE e1 fun F1 ph1 xs H1 x1 hR1 hE1 rx => ⟨F1, ph1, x1, hR1, hE1, rx⟩)) fun us s1 ⟨ys, H1, I1, r1, F1, ph1, x1, hR1, hE1, rx⟩ => ?_) (by rw [star_map _ hs, star_map _ hs2]; rfl) (by rw [star_map _ hs2]; rfl)))
      rw [e2] at rx
      obtain ⟨v, u, rfl, r2, r3⟩ := rx.two
      cases r2.intV; cases r3.intV
      obtain ⟨u1, u2, rfl, ru1, ru2⟩ := vals2 r1
      obtain ⟨t1, rfl⟩ := ru1
      obtain ⟨t2, rfl⟩ := ru2
      exact call_range_2 ⟨_, i, j, _, _, _, H1, rfl, IsRange.new _ _ _ _ _ _ _, I1.kept fun b u e => Heap.get?_push_of_some _ e, q F1 ph1 H1 i j x1 hR1 hE1 o1 o2 hy⟩
theorem pi_rrng (ok : XOk W G k C X) {m : ME} {tg : Expr} {es : List Expr} {x y : Str} {p p2 pos pos2 : Pos} (hx : x = "range") (hy : y = "reversed") (hg : isGlB C.sc x = true) (hg2 : isGlB C.sc y = true) (hs : es.all notStar = true) (hl : es.length = 1 ∨ es.length = 2) (hc : m.count = es.length) (ha : PA X es (tL W G k m)) :
    PI X tg (.Call (.Name y p2) [.Call (.Name x p) es [] pos] [] pos2) (iR W G k true m) := by
  obtain ⟨g1, g2⟩ := isGl_of ok hg2
  subst hy
  refine PI_imp (pi_revR g1 (ok.bt _ (by decide)) (prg_any (p := p) (pos := pos) ok hx hg hs hl hc ha) rfl) ?_
  rintro σ H R ⟨F, ph, hp, env, vs, ys, hp1, hR, hE, e1, hy, q⟩
  refine ⟨F, ph, hp, env, vs, hp1, hR, hE, e1, ⟨ys, hy⟩, fun F1 ph1 H1 a b x1 hR1 hE1 o1 o2 ey => ?_⟩
  obtain ⟨b1, b2⟩ := okRng_iff o1
  obtain ⟨b3, b4⟩ := okRng_iff o2
  refine ⟨b1, b2, b3, b4, q F1 ph1 H1 _ x1 hR1 hE1 fun _ _ => ?_⟩
  rw [hy] at ey
  cases ey
  exact jok_rrng a _
theorem iR_K {m : ME} {σ : L2.St} {H : Hp} {R : It → Hp → Prop} : (iK W G k .rng m σ H R → iR W G k false m σ H R) ∧ (iK W G k .rrng m σ H R → iR W G k true m σ H R) := by
  constructor
  all_goals
    rintro ⟨F, ph, hp, env, xs, hp1, hR, hE, e0, q⟩
    simp only [wK] at e0
    obtain ⟨p, e1, e0⟩ := bndL_some e0
    obtain ⟨ys, hy, e0⟩ := Option.map_eq_some_iff.mp e0
    cases e0
    exact ⟨F, ph, hp, env, _, _, _, hR, hE, e1, hy, fun F1 ph1 H1 J x1 hR1 hE1 j => q F1 ph1 H1 J x1 hR1 hE1 (j F1 ph1)⟩
/-! ### list(range(..)), tuple(range(..)) -/
theorem repA_ints (W : Wd) (F : Hp) (ph : List Addr) (f : Nat → Int) : ∀ l : List Nat, RepA W F ph (l.map fun i => PV.int (f i)) (l.map fun i => V.int (f i))
  | [] => .nil
  | _ :: l => .cons (.int _) (repA_ints W F ph f l)
theorem repA_upTo (W : Wd) (F : Hp) (ph : List Addr) (a b : Int) : RepA W F ph (upTo a (b - a).toNat) (rgV a b) := repA_ints W F ph (fun i => a + (i : Nat)) _
def tTupRgM (te : L2.St → Hp → (Int → Int → Hp → Prop) → Prop) : TE := fun σ H Q => te σ H fun a b H1 => RgOk a b ∧ ∀ q (ob : Obj), ob.dict = none → H1 q = none → Q (.ref q) (upd H1 q (.frz ob (.tup (rgV a b))))
theorem pe_tupRgM {e : Expr} {te : L2.St → Hp → (Int → Int → Hp → Prop) → Prop} {p pos : Pos} (hc : X.calm = true) (hg : L2.Gl X "tuple") (hm : X.mg "tuple" = none) (he : PRg X e te) (na : starEach [e] X.env = (false, eval e X.env) :: starEach [] X.env := by rfl) :
    PE X (.Call (.Name "tuple" p) [e] [] pos) (tTupRgM te) := by
  refine ⟨fun pins s σ H Q I h => ?_⟩
  refine Call_ (ld_blt I hg hm boot_tuple (PyProof.Rows.callWith_type1 (args_cons (thn (he pins s σ H _ I h) fun x s1 ⟨r, a, b, t, u, v, H1, ex, hr, I1, ok, q⟩ => args_nil ?_) na) na))
  subst ex
  obtain ⟨b1, b2, b3, b4, b5⟩ := ok
  refine call_tuple_range (n := (b - a).toNat) (I1.ok.hd hc) hr (small_one b1 b2 b3 b4) (rangeSize_nat a b) b5 fun h' tk acc hk hi => ?_
  have I2 : Inv X pins σ H1 { s1 with heap := h', toks := tk } := I1.kept hk
  have I3 := lay_tup (t := tk) I2 (vals_rg hi) (by rw [rgV_length, sizeLine_eq]; omega)
  rw [show tupOb acc.toList = { cls := .type "tuple", data := .seq acc } by simp [tupOb]] at I3
  exact ⟨.ref h'.objs.size, _, I3, rfl, q _ _ rfl (I2.hok.fresh (Nat.le_refl _))⟩
theorem rngP_up {vs xs : List PV} (h : rngP vs = some xs) : ∀ a b, rngP vs = some (upTo a (b - a).toNat) → xs = upTo a (b - a).toNat := fun a b e => by rw [h] at e; exact Option.some.inj e
theorem se_rngx (ok : XOk W G k C X) {tp : Bool} {m : ME} {es : List Expr} {x y : Str} {p p2 pos pos2 : Pos} (hx : x = "range") (hy : y = if tp = true then "tuple" else "list") (hg : isGlB C.sc x = true) (hg2 : isGlB C.sc y = true)
    (hs : es.all notStar = true) (hl : es.length = 1 ∨ es.length = 2) (hc : m.count = es.length) (ha : PA X es (tL W G k m)) : PE X (.Call (.Name y p2) [.Call (.Name x p) es [] pos] [] pos2) (tE W G k (.rngx tp m)) := by
  obtain ⟨g1, g2⟩ := isGl_of ok hg2
  have hr := prg_any (p := p) (pos := pos) ok hx hg hs hl hc ha
  cases tp with
  | true =>
    subst hy
    refine PE_imp (pe_tupRgM ok.fit.calm g1 (ok.bt _ (by decide)) hr) ?_
    rintro σ H Q ⟨F, ph, hp, env, r, hp1, hR, hE, e, q⟩
    simp only [ev] at e
    obtain ⟨v, e1, e⟩ := bndL_some e
    obtain ⟨xs, hy, e⟩ := Option.bind_eq_some_iff.mp e
    by_cases hz : xs.length ≤ LINE
    rotate_left
    · rw [if_neg hz] at e; cases e
    rw [if_pos hz] at e
    cases e
    refine ⟨F, ph, hp, env, v.1, v.2, hR, hE, e1, ⟨xs, hy⟩, fun F' ph' H' a b x1 hR1 hE1 oa ob hu => ?_⟩
    have hxs := rngP_up hy a b hu
    subst hxs
    have hz2 : (b - a).toNat ≤ 16777216 := by
      have hl : (upTo a (b - a).toNat).length = (b - a).toNat := by simp [upTo]
      rw [hl] at hz
      exact hz
    simp only [okRng, decide_eq_true_eq] at oa ob
    exact ⟨⟨oa.1, oa.2, ob.1, ob.2, hz2⟩, fun q' o' hd n => (q.res x1).tup hR1 (repA_upTo W F' ph' a b) hd n⟩
  | false =>
    subst hy
    refine PE_imp (pe_listRg ok.fit.calm g1 (ok.bt _ (by decide)) hr) ?_
    rintro σ H Q ⟨F, ph, hp, env, r, hp1, hR, hE, e, q⟩
    simp only [ev] at e
    obtain ⟨v, e1, e⟩ := bndL_some e
    obtain ⟨xs, hy, e⟩ := Option.bind_eq_some_iff.mp e
    by_cases hz : xs.length ≤ LINE
    rotate_left
    · rw [if_neg hz] at e; cases e
    rw [if_pos hz] at e
    cases e
    refine ⟨F, ph, hp, env, v.1, v.2, hR, hE, e1, ⟨xs, hy⟩, fun F' ph' H' a b x1 hR1 hE1 oa ob hu => ?_⟩
    have hxs := rngP_up hy a b hu
    subst hxs
    have hz2 : (b - a).toNat ≤ 16777216 := by
      have hl : (upTo a (b - a).toNat).length = (b - a).toNat := by simp [upTo]
      rw [hl] at hz
      exact hz
    simp only [okRng, decide_eq_true_eq] at oa ob
    exact ⟨⟨oa.1, oa.2, ob.1, ob.2, hz2⟩, fun q' n => (q.res x1).new hR1 (.lst (repA_upTo W F' ph' a b)) n⟩
/-! ### max(x, default=d) -/
def rMxd (W : Wd) : List V → List V → Hp → VK → Prop := fun vs zs H Q => ∃ F ph hp xs is d x, RelH W F ph hp H ∧ Rep W F ph (.tup xs) x ∧ intsP xs = some is ∧ vs = [x] ∧ zs = [.int d] ∧ Q (.int ((maxI is).getD d)) H
theorem call_mxd (fit : Fit W X) : CallRK X (.builtin "max") [PySem.Str.ofString "default"] (rMxd W) := by
  intro pins s σ H xs zs us ws Q I rx rz ⟨F, ph, hp, ys, is, d, x, hR, qx, hi, e1, e2, q⟩
  subst e1 e2
  obtain ⟨a, vs, rfl, ha, ra⟩ := qx.tupAt hR
  rw [ra.ints hi, ← fit.K] at ha
  obtain ⟨its, rv, hT, _⟩ := I.tuple ha
  have hu := fit.un
  rw [Vals.ref1 rx]
  obtain ⟨w, rfl, rw_⟩ := vals1 rz
  refine PySem.W.max_tuple_datum_default (xs := is) (I.ok.hd fit.calm) hT (holdAll_ints rv.ints) (by show X.A.units + 1 + 0 < cLine; omega) (fun e h' tk hk => ?_) fun y ys j v h' tk e hj hv hk => ?_
  · subst e
    exact ⟨.int d, H, I.kept hk, rw_, q⟩
  · subst e
    obtain ⟨as, hv⟩ := hv
    have hv : Reads h' v (.int (PySem.W.maxOf y ys)) as := hv
    rw [maxOf_fold] at hv
    cases hv with
    | int _ t => exact ⟨.int _, H, I.kept hk, ⟨t, rfl⟩, q⟩
theorem mxdP_some {x y u : PV} (h : mxdP x y = some u) : ∃ xs d is, x = .tup xs ∧ y = .int d ∧ intsP xs = some is ∧ u = .int ((maxI is).getD d) := by
  unfold mxdP at h
  split at h
  · obtain ⟨is, hi, e⟩ := Option.map_eq_some_iff.mp h
    exact ⟨_, _, is, rfl, rfl, hi, e.symm⟩
  · cases h
theorem se_mxd (ok : XOk W G k C X) {a d : ME} {ea ed : Expr} {x nm : Str} {p pos kp : Pos} (hx : x = "max") (hn : nm = "default") (hg : isGlB C.sc x = true) (hs : notStar ea = true) (ha : PE X ea (tE W G k a)) (hd : PE X ed (tE W G k d)) :
    PE X (.Call (.Name x p) [ea] [⟨some nm, ed, kp⟩] pos) (tE W G k (.mxd a d)) := by
  obtain ⟨g1, g2⟩ := isGl_of ok hg
  subst hx hn
  have se := starEach_of hs [] X.env
  refine PE_imp (pe_callBK (r := rMxd W) (call_mxd ok.fit) g1 (ok.bt _ (by decide)) PyProof.Rows.boot_max (pa_cons ha pa_nil se) (pk_cons hd pk_nil) (by decide) g2 (by rw [se]; rfl) (by rw [se]; rfl)) ?_
  rintro σ H Q ⟨F, ph, hp, env, r, hp1, hR, hE, e, q⟩
  simp only [ev] at e
  obtain ⟨v, e1, e⟩ := bnd_some e
  obtain ⟨w, e2, e⟩ := bnd_some e
  obtain ⟨u, e3, e⟩ := Option.map_eq_some_iff.mp e
  cases e
  refine tE_val hR hE e1 fun F1 ph1 y H1 x1 hR1 hE1 ry => ?_
  refine tE_val hR1 hE1 e2 fun F2 ph2 z H2 x2 hR2 hE2 rz => ?_
  obtain ⟨ys, d0, is, h1, h2, hi, h4⟩ := mxdP_some e3
  rw [h1] at ry
  rw [h2] at rz
  cases rz.intV
  subst h4
  exact ⟨F2, ph2, _, _, is, _, _, hR2, ry.ext x2, hi, rfl, rfl, (q.res (x1.trans x2)).at_ hR2 (.int _)⟩
end
end MP
set_option maxRecDepth 100000
/-! MiniPy: targets; list comprehensions. -/
namespace MP
open PySem PySem.Spec PyProof.Rows L2
mutual
def chkT (C : Cc) : Tg → Expr → Bool
  | .nm i, e => match e with
    | .Name x _ => decide (C.N[i]? = some x) && locB C x
    | _ => false
  | .tp ts, e => match e with
    | .Tuple es _ _ => chkTs C ts es
    | _ => false
  | .nil, _ => false
  | .cons _ _, _ => false
def chkTs (C : Cc) : Tg → List Expr → Bool
  | .nil, es => es.isEmpty
  | .cons t ts, es => match es with
    | e :: es => notStar e && chkT C t e && chkTs C ts es
    | [] => false
  | .nm _, _ => false
  | .tp _, _ => false
end
/-- a store, by values -/
def gT (W : Wd) (t : Tg) : TG := fun x σ H Q => ∃ F ph hp env v env1, RelH W F ph hp H ∧ RelE W F ph env σ ∧ Rep W F ph v x ∧ setTg t v env = some env1 ∧
  ∀ σ1, RelE W F ph env1 σ1 → σ1.length = σ.length → (∀ j, j ∉ t.slots → σ1[j]? = σ[j]?) → Q σ1 H
def gTs (W : Wd) (t : Tg) : TGs := fun xs σ H Q => ∃ F ph hp env vs env1, RelH W F ph hp H ∧ RelE W F ph env σ ∧ RepA W F ph vs xs ∧ setTgs t vs env = some env1 ∧
  ∀ σ1, RelE W F ph env1 σ1 → σ1.length = σ.length → (∀ j, j ∉ t.slots → σ1[j]? = σ[j]?) → Q σ1 H
theorem PG_or {X : Cx} {tg : Expr} {t t' : TG} (h : PG X tg t) (h' : PG X tg t') : PG X tg (fun v σ H Q => t v σ H Q ∨ t' v σ H Q) := ⟨fun pins s σ H v u Q I r q => q.elim (h.run pins s σ H v u Q I r) (h'.run pins s σ H v u Q I r)⟩
theorem PG_imp {X : Cx} {tg : Expr} {t t' : TG} (h : PG X tg t) (i : ∀ x σ H Q, t' x σ H Q → t x σ H Q) : PG X tg t' := ⟨fun pins s σ H v u Q I r q => h.run pins s σ H v u Q I r (i v σ H Q q)⟩
theorem PGs_imp {X : Cx} {tg : List Expr} {t t' : TGs} (h : PGs X tg t) (i : ∀ x σ H Q, t' x σ H Q → t x σ H Q) : PGs X tg t' := ⟨fun pins s σ H v u Q I r q => h.run pins s σ H v u Q I r (i v σ H Q q)⟩
theorem RelE.set {W : Wd} {F : Hp} {ph : List Addr} {env : Env} {σ : L2.St} {i : Nat} {v : PV} {x : V} (h : RelE W F ph env σ) (r : Rep W F ph v x) : RelE W F ph (env.set i (some v)) (σ.set i (some x)) := by
  refine ⟨by rw [List.length_set, List.length_set]; exact h.len, fun j u e => ?_⟩
  by_cases hj : i = j
  · subst hj
    by_cases hl : i < env.length
    · rw [List.getElem?_set_self hl] at e
      cases e
      exact ⟨x, by rw [List.getElem?_set_self (by rw [← h.len]; exact hl)], r⟩
    · rw [List.getElem?_eq_none (by rw [List.length_set]; omega)] at e; cases e
  · rw [List.getElem?_set_ne hj] at e ⊢
    exact h.at_ j u e
theorem assignEach_of {e : Expr} (h : notStar e = true) (es : List Expr) (env : PySem.Env) : assignEach (e :: es) env = (false, assign e env) :: assignEach es env := by
  cases e <;> first | rfl | (simp [notStar] at h)
theorem assignEach_len (env : PySem.Env) : ∀ {es : List Expr}, es.all notStar = true → (assignEach es env).length = es.length ∧ (assignEach es env).findIdx? (·.1) = none
  | [], _ => ⟨rfl, rfl⟩
  | e :: es, h => by
    rw [List.all_cons, Bool.and_eq_true] at h
    obtain ⟨h1, h2⟩ := assignEach_len env h.2
    rw [assignEach_of h.1]
    refine ⟨by rw [List.length_cons, List.length_cons, h1], ?_⟩
    rw [List.findIdx?_cons, if_neg (by simp), h2]; rfl
theorem chkTs_star {C : Cc} : ∀ {t : Tg} {es : List Expr}, chkTs C t es = true → es.all notStar = true
  | .nil, es, h => by
    simp only [chkTs, List.isEmpty_iff] at h
    subst h; rfl
  | .cons t ts, es, h => by
    cases es with
    | nil => simp [chkTs] at h
    | cons e es =>
      simp only [chkTs, Bool.and_eq_true] at h
      rw [List.all_cons, h.1.1, chkTs_star h.2]; rfl
  | .nm _, _, h => by simp [chkTs] at h
  | .tp _, _, h => by simp [chkTs] at h
theorem setTgs_len : ∀ {t : Tg} {vs : List PV} {env env1 : Env}, setTgs t vs env = some env1 → vs.length = t.len
  | .nil, vs, env, env1, h => by
    cases vs with
    | nil => rfl
    | cons _ _ => simp [setTgs] at h
  | .cons t ts, vs, env, env1, h => by
    cases vs with
    | nil => simp [setTgs] at h
    | cons v vs =>
      simp only [setTgs, Option.bind_eq_some_iff] at h
      obtain ⟨e, _, h⟩ := h
      rw [List.length_cons, setTgs_len h]; rfl
  | .nm _, _, _, _, h => by simp [setTgs] at h
  | .tp _, _, _, _, h => by simp [setTgs] at h
theorem chkTs_len {C : Cc} : ∀ {t : Tg} {es : List Expr}, chkTs C t es = true → es.length = t.len
  | .nil, es, h => by
    simp only [chkTs, List.isEmpty_iff] at h
    subst h; rfl
  | .cons t ts, es, h => by
    cases es with
    | nil => simp [chkTs] at h
    | cons e es =>
      simp only [chkTs, Bool.and_eq_true] at h
      rw [List.length_cons, chkTs_len h.2]; rfl
  | .nm _, _, h => by simp [chkTs] at h
  | .tp _, _, h => by simp [chkTs] at h
section
variable {W : Wd} {G : Gl} {k : Nat} {C : Cc} {X : Cx}
theorem sg_any (ok : XOk W G k C X) : ∀ (t : Tg), (∀ e, chkT C t e = true → PG X e (gT W t)) ∧ (∀ es, chkTs C t es = true → PGs X es (gTs W t)) := by
  intro t
  induction t with
  | nm i =>
    refine ⟨fun e h => ?_, fun es h => by simp [chkTs] at h⟩
    cases e <;> simp [chkT] at h
    rename_i x pos
    obtain ⟨l1, l2⟩ := loc_of ok h.2
    refine PG_imp (pg_name (i := i) (by rw [ok.N]; exact ok.nd) (by rw [ok.N]; exact h.1) l1 l2) ?_
    rintro y σ H Q ⟨F, ph, hp, env, v, env1, hR, hE, r, e, q⟩
    simp only [setTg] at e
    cases e
    refine q _ (hE.set r) (by simp) fun j hj => ?_
    rw [List.getElem?_set_ne]
    intro z
    exact hj (by simp [Tg.slots, z])
  | tp ts ih =>
    refine ⟨fun e h => ?_, fun es h => by simp [chkTs] at h⟩
    cases e <;> simp [chkT] at h
    rename_i es n pos
    obtain ⟨a1, a2⟩ := assignEach_len X.env (chkTs_star h)
    refine PG_imp (PG_or (pg_tup (n := es.length) ok.fit.calm (ih.2 es h) a1 a2) (pg_unl (n := es.length) ok.fit.calm (ih.2 es h) a1 a2)) ?_
    rintro y σ H Q ⟨F, ph, hp, env, v, env1, hR, hE, r, e, q⟩
    simp only [setTg, Option.bind_eq_some_iff] at e
    obtain ⟨xs, hx, e⟩ := e
    cases v <;> simp [seqP] at hx
    · subst hx
      obtain ⟨a, vs, rfl, ha, ra⟩ := r.tupAt hR
      rw [← ok.fit.K] at ha
      exact .inl ⟨a, vs, rfl, ha, by rw [← ra.length, setTgs_len e, chkTs_len h], F, ph, hp, env, _, env1, hR, hE, ra, e, q⟩
    · subst hx
      obtain ⟨a, vs, rfl, _, ha, ra⟩ := r.lstAt hR
      rw [← ok.fit.K] at ha
      exact .inr ⟨a, vs, rfl, ha, by rw [← ra.length, setTgs_len e, chkTs_len h], F, ph, hp, env, _, env1, hR, hE, ra, e, q⟩
  | nil =>
    refine ⟨fun e h => by simp [chkT] at h, fun es h => ?_⟩
    simp only [chkTs, List.isEmpty_iff] at h
    subst h
    refine PGs_imp pgs_nil ?_
    rintro xs σ H Q ⟨F, ph, hp, env, vs, env1, hR, hE, r, e, q⟩
    cases vs with
    | nil =>
      simp only [setTgs] at e
      cases e
      cases r
      exact ⟨rfl, q σ hE rfl fun _ _ => rfl⟩
    | cons _ _ => simp [setTgs] at e
  | cons t ts iht ihs =>
    refine ⟨fun e h => by simp [chkT] at h, fun es h => ?_⟩
    cases es with
    | nil => simp [chkTs] at h
    | cons e es =>
      simp only [chkTs, Bool.and_eq_true] at h
      refine PGs_imp (pgs_cons (iht.1 e h.1.2) (ihs.2 es h.2) (by rw [assignEach_of h.1.1]; rfl)) ?_
      rintro xs σ H Q ⟨F, ph, hp, env, vs, env1, hR, hE, r, e, q⟩
      cases vs with
      | nil => simp [setTgs] at e
      | cons v vs =>
        simp only [setTgs, Option.bind_eq_some_iff] at e
        obtain ⟨env2, e1, e2⟩ := e
        cases r with
        | cons r rs =>
          refine ⟨_, _, rfl, F, ph, hp, env, v, env2, hR, hE, r, e1, fun σ1 hE1 l1 j1 => ?_⟩
          refine ⟨F, ph, hp, env2, vs, env1, hR, hE1, rs, e2, fun σ2 hE2 l2 j2 => ?_⟩
          refine q σ2 hE2 (l2.trans l1) fun j hj => ?_
          simp only [Tg.slots, List.mem_append, not_or] at hj
          rw [j2 j hj.2, j1 j hj.1]
/-! ### blocks -/
def Cc.blk (C : Cc) (scope : Scope) : Cc := { C with sc := relS scope C.sc, cell := fun x => decide (scope.names.lookup x = some .cell) }
theorem XOk.blk (ok : XOk W G k C X) {scope : Scope} (hk : scope.kind = .function) (s : Shared) (H : Hp) (c : Addr) (cl : List (Str × Addr)) (fp : List Addr) : XOk W G k (C.blk scope) (X.blk s H scope (compEnvC scope cl c X.env) fp) where
  fit := ⟨ok.fit.P, ok.fit.w, ok.fit.K, ok.fit.un, ok.fit.calm, ok.fit.kd⟩
  room := ok.room
  N := ok.N
  nd := ok.nd
  sc := by
    show relS scope X.env.scope = relS scope C.sc
    rw [ok.sc]
  cell := fun x h => by
    have h : decide (scope.names.lookup x = some .cell) = true := h
    show (scope.names.lookup x == some .cell) = true
    rw [of_decide_eq_true h]; rfl
  kind := hk
  cst := ok.cst
  fnv := ok.fnv
  tot := ok.tot
  bt := ok.bt
  call := ok.call
theorem wipe_get {σ : L2.St} {j : Nat} : ∀ {vs : List Nat}, j ∈ vs → j < σ.length → (wipe σ vs)[j]? = some none
  | [], h, _ => by simp at h
  | v :: vs, h, hl => by
    unfold wipe
    by_cases hv : v = j
    · subst hv
      rw [List.getElem?_set_self (by rw [wipe_length]; exact hl)]
    · rw [List.getElem?_set_ne hv]
      exact wipe_get ((List.mem_cons.mp h).elim (fun z => absurd z.symm hv) id) hl
theorem wipe_out {σ : L2.St} {j : Nat} : ∀ {vs : List Nat}, j ∉ vs → (wipe σ vs)[j]? = σ[j]?
  | [], _ => rfl
  | v :: vs, h => by
    unfold wipe
    have hv : v ≠ j := fun z => h (by simp [z])
    rw [List.getElem?_set_ne hv]
    exact wipe_out fun z => h (List.mem_cons_of_mem _ z)
theorem wipe_congr {a b : L2.St} {vs : List Nat} (hl : a.length = b.length) (h : ∀ j, j ∉ vs → a[j]? = b[j]?) : wipe a vs = wipe b vs := by
  apply List.ext_getElem?
  intro j
  by_cases hj : j ∈ vs
  · by_cases hb : j < a.length
    · rw [wipe_get hj hb, wipe_get hj (by rw [← hl]; exact hb)]
    · rw [List.getElem?_eq_none (by rw [wipe_length]; omega), List.getElem?_eq_none (by rw [wipe_length]; omega)]
  · rw [wipe_out hj, wipe_out hj, h j hj]
theorem wipeE_len (env : Env) : ∀ vs : List Nat, (wipeE env vs).length = env.length
  | [] => rfl
  | v :: vs => by unfold wipeE; rw [List.length_set, wipeE_len env vs]
theorem wipeE_some {env : Env} {i : Nat} {x : PV} : ∀ {vs : List Nat}, (wipeE env vs)[i]? = some (some x) → env[i]? = some (some x) ∧ i ∉ vs
  | [], h => ⟨h, by simp⟩
  | v :: vs, h => by
    unfold wipeE at h
    by_cases hi : v = i
    · subst hi
      by_cases hv : v < (wipeE env vs).length
      · rw [List.getElem?_set_self hv] at h; cases h
      · rw [List.getElem?_eq_none (by simpa using hv)] at h; cases h
    · rw [List.getElem?_set_ne hi] at h
      obtain ⟨h1, h2⟩ := wipeE_some h
      exact ⟨h1, by simp only [List.mem_cons, not_or]; exact ⟨fun e => hi e.symm, h2⟩⟩
theorem RelE.wipe {F : Hp} {ph : List Addr} {env : Env} {σ : L2.St} (h : RelE W F ph env σ) (vs : List Nat) : RelE W F ph (wipeE env vs) (L2.wipe σ vs) := by
  refine ⟨by rw [wipeE_len, wipe_length]; exact h.len, fun i v e => ?_⟩
  obtain ⟨e1, e2⟩ := wipeE_some e
  rw [wipe_out e2]
  exact h.at_ i v e1
/-! ### an own object is changed -/
theorem RelH.put {F H : Hp} {ph : List Addr} {hp : Hs} (h : RelH W F ph hp H) {D : Addr} {o : HO} (n : F D = none) (ns : D ∉ ph) : RelH W F ph hp (upd H D o) := by
  refine ⟨fun a q e => ?_, h.len, h.nd, fun i a v e1 e2 => ?_, h.cl, fun a vs e => ?_⟩
  rotate_left 2
  · have ne : a ≠ D := fun z => by rw [z, n] at e; cases e
    rw [upd_ne ne]; exact h.td a vs e
  · have ne : a ≠ D := fun z => by rw [z, n] at e; cases e
    rcases h.sub a q e with e | ⟨b, e⟩
    · exact .inl (by rw [upd_ne ne]; exact e)
    · exact .inr ⟨b, by rw [upd_ne ne]; exact e⟩
  · obtain ⟨f, q, e3, r⟩ := h.sh i a v e1 e2
    have ne : a ≠ D := fun z => ns (z ▸ List.mem_of_getElem? e1)
    exact ⟨f, q, by rw [upd_ne ne]; exact e3, r⟩
theorem Ext.put {F H F' H' : Hp} {ph ph' : List Addr} (e : Ext F ph H F' ph' H') {D : Addr} {o : HO} (n : H D = none) : Ext F ph H F' ph' (upd H' D o) := by
  refine ⟨e.le, e.new, e.pre, e.pnew, fun a q h hn => ?_, fun a h => ?_⟩
  · have ne : a ≠ D := fun z => by rw [z, n] at h; cases h
    rw [upd_ne ne]; exact e.pres a q h hn
  · by_cases z : a = D
    · subst z; rw [upd_same]; simp
    · rw [upd_ne z]; exact e.dom a h
/-- an own object stays own -/
theorem own_stays {F H F' H' : Hp} {ph ph' : List Addr} (e : Ext F ph H F' ph' H') {D : Addr} {o : HO} (h : H D = some o) (n : F D = none) (ns : D ∉ ph) : H' D = some o ∧ F' D = none ∧ D ∉ ph' := by
  refine ⟨e.pres D o h ns, Classical.byContradiction fun z => ?_, fun z => ?_⟩
  · rcases e.new D z with z | z
    · exact z n
    · rw [h] at z; cases z
  · rcases e.pnew D z with z | z
    · exact ns z
    · rw [h] at z; cases z
end
end MP
set_option maxRecDepth 100000
/-! MiniPy: list comprehensions. -/
namespace MP
open PySem PySem.Spec PyProof.Rows L2
section
variable {W : Wd} {G : Gl} {k : Nat} {C : Cc} {X : Cx}
abbrev gE (G : Gl) (k : Nat) := ev G.cst (callF G k)
abbrev gL (G : Gl) (k : Nat) := evL G.cst (callF G k)
/-- what one item adds -/
def lcF (G : Gl) (k : Nat) (elt c : ME) (t : Tg) (env : Env) (x : PV) (hp : Hs) : Option (List PV × Hs) :=
  (setTg t x (wipeE env t.slots)).bind fun env1 => bndB (gE G k c env1 hp) fun b hp1 => if b = true then one (gE G k elt env1 hp1) else some ([], hp1)
theorem lcE_cons {f : PV → Hs → Option (List PV × Hs)} {x : PV} {xs : List PV} {hp hp1 : Hs} {tot : List PV} (h : lcE f (x :: xs) hp = some (tot, hp1)) : ∃ ys hp2 zs, f x hp = some (ys, hp2) ∧ lcE f xs hp2 = some (zs, hp1) ∧ tot = ys ++ zs := by
  simp only [lcE] at h
  obtain ⟨p, e1, h⟩ := bndL_some h
  obtain ⟨p2, e2, h⟩ := bndL_some h
  cases h
  exact ⟨p.1, p.2, p2.1, e1, e2, rfl⟩
theorem one_some {r : Option (Rv × Hs)} {y : List PV × Hs} (h : one r = some y) : ∃ p, r = some p ∧ y = ([p.1.2], p.2) := by
  obtain ⟨p, e, h⟩ := bnd_some h
  cases h
  exact ⟨p, e, rfl⟩
theorem mk_some {own : Bool} {c : List PV → PV} {r : Option (List PV × Hs)} {y : Rv × Hs} (h : mk own c r = some y) : ∃ p, r = some p ∧ p.1.length ≤ LINE ∧ y = ((own, c p.1), p.2) := by
  obtain ⟨p, e, h⟩ := bndL_some h
  split at h <;> cases h
  exact ⟨p, e, by assumption, rfl⟩
theorem lc_step {elt c it : ME} {t : Tg} {ik : Ik} {σ : L2.St} {H : Hp} {Q : VK} (h : tE W G k (.lc elt t ik it c) σ H Q) : tLc (iK W G k ik it) (gT W t) (tB (tE W G k c)) (tE W G k elt) t.slots σ H Q := by
  obtain ⟨F, ph, hp, env, r, hp1, hR, hE, e, q⟩ := h
  simp only [ev] at e
  obtain ⟨px, e1, e⟩ := bndL_some e
  obtain ⟨pt, e2, hlen, e⟩ := mk_some e
  cases e
  refine ⟨F, ph, hp, env, px.1, px.2, hR, hE, e1, fun F1 ph1 H1 J x1 hR1 hE1 jok => ?_⟩
  intro D hD
  obtain ⟨nD, fD⟩ := shared_not_new hR1 hD
  have hDH : H D = none := Classical.byContradiction fun z => x1.dom D z hD
  refine ⟨fun i m H' => m = px.1.length - i ∧ i ≤ px.1.length ∧ ∃ F' ph' hp' acc accV rest, Ext F1 ph1 H1 F' ph' H' ∧ RelH W F' ph' hp' H' ∧ H' D = some (.lst accV) ∧ F' D = none ∧ D ∉ ph' ∧ RepA W F' ph' acc accV ∧
    lcE (lcF G k elt c t env) (px.1.drop i) hp' = some (rest, pt.2) ∧ acc ++ rest = pt.1, ⟨px.1.length, by simp, Nat.zero_le _, F1, ph1, px.2, [], [], pt.1, ?_, ?_, upd_same, fD, nD, .nil, by rw [List.drop_zero]; exact e2, rfl⟩, ?_⟩
  · exact (hR1.laid (o := .lst []) hD).2
  · exact (hR1.laid (o := .lst []) hD).1
  rintro i m H' ⟨rfl, hi, F', ph', hp', acc, accV, rest, x2, hR2, hDl, fD2, nD2, racc, erest, etot⟩
  obtain ⟨jk1, jk2⟩ := jok i F' ph' hp' H' x2.le hR2
  by_cases hlt : i < px.1.length
  · refine .inr ?_
    have hx : px.1[i]? = some px.1[i] := List.getElem?_eq_getElem hlt
    obtain ⟨go, yl⟩ := jk1 _ hx
    rw [List.drop_eq_getElem_cons hlt] at erest
    obtain ⟨ys, hp2, zs, f1, f2, rfl⟩ := lcE_cons erest
    refine ⟨go, fun H'' => ∃ m', m' < px.1.length - i ∧ m' = px.1.length - (i + 1) ∧ i + 1 ≤ px.1.length ∧ ∃ F' ph' hp' acc accV rest, Ext F1 ph1 H1 F' ph' H'' ∧ RelH W F' ph' hp' H'' ∧ H'' D = some (.lst accV) ∧ F' D = none ∧ D ∉ ph' ∧ RepA W F' ph' acc accV ∧
      lcE (lcF G k elt c t env) (px.1.drop (i + 1)) hp' = some (rest, pt.2) ∧ acc ++ rest = pt.1, fun H'' h => ?_, fun y H'' hy => ?_⟩
    · obtain ⟨m', a, b⟩ := h
      exact ⟨m', a, b⟩
    obtain ⟨rfl, ry⟩ := yl y H'' hy
    unfold lcF at f1
    obtain ⟨env1, s1, f1⟩ := Option.bind_eq_some_iff.mp f1
    obtain ⟨pc, b, ec, eb, f1⟩ := bndB_some f1
    refine ⟨F', ph', hp', wipeE env t.slots, px.1[i], env1, hR2, (hE1.ext x2).wipe _, ry.ext x2, s1, fun σ2 hE2 hl hj => ⟨?_, ?_⟩⟩
    · rw [wipe_congr hl fun j hn => hj j hn]
      exact wipe_congr (wipe_length _ _) fun j hn => wipe_out hn
    refine tE_val hR2 hE2 ec fun F3 ph3 x3 H3 e3 hR3 hE3 rx3 => ?_
    rw [eb] at rx3
    cases rx3.blV
    refine ⟨b, rfl, ?_⟩
    obtain ⟨d3, f3, n3⟩ := own_stays e3 hDl fD2 nD2
    cases b with
    | false =>
      rw [if_neg (by simp)] at f1 ⊢
      cases f1
      exact ⟨_, by omega, rfl, hlt, F3, ph3, _, acc, accV, zs, x2.trans e3, hR3, d3, f3, n3, racc.ext e3, f2, etot⟩
    | true =>
      rw [if_pos rfl] at f1 ⊢
      obtain ⟨pe, ee, f1⟩ := one_some f1
      cases f1
      refine tE_val hR3 hE3 ee fun F4 ph4 y4 H4 e4 hR4 hE4 ry4 => ?_
      obtain ⟨d4, f4, n4⟩ := own_stays e4 d3 f3 n3
      have hal : accV.length < sizeLine := by
        have h1 := racc.length
        have h2 := congrArg List.length etot
        simp only [List.length_append, List.length_cons] at h2
        have h3 : pt.1.length ≤ sizeLine := hlen
        omega
      refine ⟨accV, d4, hal, _, by omega, rfl, hlt, F4, ph4, _, acc ++ [pe.1.2], accV ++ [y4], zs, ((x2.trans e3).trans e4).put hD, hR4.put f4 n4, upd_same, f4, n4, ((racc.ext e3).ext e4).append (.cons ry4 .nil), f2, ?_⟩
      rw [← etot]; simp
  · refine .inl ⟨jk2 (by omega), ?_⟩
    have hi2 : i = px.1.length := by omega
    subst hi2
    rw [List.drop_length] at erest
    cases erest
    rw [List.append_nil] at etot
    subst etot
    exact q F' ph' _ H' (x1.trans x2) hR2 (RRep.own fD2 nD2 hDH hDl (.lst racc))
/-- what one item of the outer walk adds -/
def lcF2 (G : Gl) (k : Nat) (elt c : ME) (t : Tg) (k1 : Ik) (it1 : ME) (t1 : Tg) (c1 : ME) (env : Env) (x : PV) (hp : Hs) : Option (List PV × Hs) :=
  (setTg t x (wipeE env (t.slots ++ t1.slots))).bind fun env1 => bndB (gE G k c env1 hp) fun b hp1 => if b = true then bndL (wK k1 (gE G k it1 env1 hp1) (gL G k it1 env1 hp1)) fun xs1 hp2 => lcE (lcF G k elt c1 t1 env1) xs1 hp2 else some ([], hp1)
theorem lc2_step {elt c it c1 it1 : ME} {t t1 : Tg} {ik k1 : Ik} {σ : L2.St} {H : Hp} {Q : VK} (h : tE W G k (.lc2 elt t ik it c t1 k1 it1 c1) σ H Q) :
    tLc2 (iK W G k ik it) (gT W t) (tB (tE W G k c)) (iK W G k k1 it1) (gT W t1) (tB (tE W G k c1)) (tE W G k elt) (t.slots ++ t1.slots) t1.slots σ H Q := by
  obtain ⟨F, ph, hp, env, r, hp1, hR, hE, e, q⟩ := h
  simp only [ev] at e
  obtain ⟨px, e1, e⟩ := bndL_some e
  obtain ⟨pt, e2, hlen, e⟩ := mk_some e
  cases e
  refine ⟨F, ph, hp, env, px.1, px.2, hR, hE, e1, fun F1 ph1 H1 J x1 hR1 hE1 jok => ?_⟩
  intro D hD
  obtain ⟨nD, fD⟩ := shared_not_new hR1 hD
  have hDH : H D = none := Classical.byContradiction fun z => x1.dom D z hD
  refine ⟨fun i m H' => m = px.1.length - i ∧ i ≤ px.1.length ∧ ∃ F' ph' hp' acc accV rest, Ext F1 ph1 H1 F' ph' H' ∧ RelH W F' ph' hp' H' ∧ H' D = some (.lst accV) ∧ F' D = none ∧ D ∉ ph' ∧ RepA W F' ph' acc accV ∧
    lcE (lcF2 G k elt c t k1 it1 t1 c1 env) (px.1.drop i) hp' = some (rest, pt.2) ∧ acc ++ rest = pt.1, ⟨px.1.length, by simp, Nat.zero_le _, F1, ph1, px.2, [], [], pt.1, ?_, ?_, upd_same, fD, nD, .nil, by rw [List.drop_zero]; exact e2, rfl⟩, ?_⟩
  · exact (hR1.laid (o := .lst []) hD).2
  · exact (hR1.laid (o := .lst []) hD).1
  rintro i m H' ⟨rfl, hi, F', ph', hp', acc, accV, rest, x2, hR2, hDl, fD2, nD2, racc, erest, etot⟩
  obtain ⟨jk1, jk2⟩ := jok i F' ph' hp' H' x2.le hR2
  by_cases hlt : i < px.1.length
  · refine .inr ?_
    have hx : px.1[i]? = some px.1[i] := List.getElem?_eq_getElem hlt
    obtain ⟨go, yl⟩ := jk1 _ hx
    rw [List.drop_eq_getElem_cons hlt] at erest
    obtain ⟨ys, hp2, zs, f1, f2, rfl⟩ := lcE_cons erest
    refine ⟨go, fun H'' => ∃ m', m' < px.1.length - i ∧ m' = px.1.length - (i + 1) ∧ i + 1 ≤ px.1.length ∧ ∃ F' ph' hp' acc accV rest, Ext F1 ph1 H1 F' ph' H'' ∧ RelH W F' ph' hp' H'' ∧ H'' D = some (.lst accV) ∧ F' D = none ∧ D ∉ ph' ∧ RepA W F' ph' acc accV ∧
      lcE (lcF2 G k elt c t k1 it1 t1 c1 env) (px.1.drop (i + 1)) hp' = some (rest, pt.2) ∧ acc ++ rest = pt.1, fun H'' h => ?_, fun y H'' hy => ?_⟩
    · obtain ⟨m', a, b⟩ := h
      exact ⟨m', a, b⟩
    obtain ⟨rfl, ry⟩ := yl y H'' hy
    unfold lcF2 at f1
    obtain ⟨env1, s1, f1⟩ := Option.bind_eq_some_iff.mp f1
    obtain ⟨pc, b, ec, eb, f1⟩ := bndB_some f1
    refine ⟨F', ph', hp', wipeE env (t.slots ++ t1.slots), px.1[i], env1, hR2, (hE1.ext x2).wipe _, ry.ext x2, s1, fun σ2 hE2 hl hj => ⟨?_, ?_⟩⟩
    · rw [wipe_congr hl fun j hn => hj j fun z => hn (List.mem_append_left _ z)]
      exact wipe_congr (wipe_length _ _) fun j hn => wipe_out hn
    refine tE_val hR2 hE2 ec fun F3 ph3 x3 H3 e3 hR3 hE3 rx3 => ?_
    rw [eb] at rx3
    cases rx3.blV
    refine ⟨b, rfl, ?_⟩
    obtain ⟨d3, f3, n3⟩ := own_stays e3 hDl fD2 nD2
    cases b with
    | false =>
      rw [if_neg (by simp)] at f1 ⊢
      cases f1
      exact ⟨_, by omega, rfl, hlt, F3, ph3, _, acc, accV, zs, x2.trans e3, hR3, d3, f3, n3, racc.ext e3, f2, etot⟩
    | true =>
      rw [if_pos rfl] at f1 ⊢
      obtain ⟨pi, ei, f1⟩ := bndL_some f1
      refine ⟨F3, ph3, _, env1, pi.1, pi.2, hR3, hE3, ei, fun F4 ph4 H4 J1 e4 hR4 hE4 jok1 => ?_⟩
      obtain ⟨d4, f4, n4⟩ := own_stays e4 d3 f3 n3
      refine ⟨fun j m H' => m = pi.1.length - j ∧ j ≤ pi.1.length ∧ ∃ F' ph' hp' acc2 accV2 rest2, Ext F1 ph1 H1 F' ph' H' ∧ (∀ a o, F4 a = some o → F' a = some o) ∧ (∀ (n : Nat) (a : Addr), ph4[n]? = some a → ph'[n]? = some a) ∧ RelH W F' ph' hp' H' ∧ H' D = some (.lst accV2) ∧ F' D = none ∧ D ∉ ph' ∧ RepA W F' ph' acc2 accV2 ∧
        lcE (lcF G k elt c1 t1 env1) (pi.1.drop j) hp' = some (rest2, hp2) ∧ acc2 ++ (rest2 ++ zs) = pt.1, ⟨pi.1.length, by simp, Nat.zero_le _, F4, ph4, pi.2, acc, accV, ys, (x2.trans e3).trans e4, fun _ _ z => z, fun _ _ z => z, hR4, d4, f4, n4, (racc.ext e3).ext e4, by rw [List.drop_zero]; exact f1, etot⟩, ?_⟩
      rintro j m H5 ⟨rfl, hj, F5, ph5, hp5, acc2, accV2, rest2, x5, le5, pre5, hR5, d5, f5, n5, racc2, erest2, etot2⟩
      obtain ⟨kk1, kk2⟩ := jok1 j F5 ph5 hp5 H5 le5 hR5
      by_cases hlt2 : j < pi.1.length
      · refine .inr ?_
        have hx2 : pi.1[j]? = some pi.1[j] := List.getElem?_eq_getElem hlt2
        obtain ⟨go2, yl2⟩ := kk1 _ hx2
        rw [List.drop_eq_getElem_cons hlt2] at erest2
        obtain ⟨ys2, hp6, zs2, g1, g2, rfl⟩ := lcE_cons erest2
        refine ⟨go2, fun H'' => ∃ m', m' < pi.1.length - j ∧ m' = pi.1.length - (j + 1) ∧ j + 1 ≤ pi.1.length ∧ ∃ F' ph' hp' acc2 accV2 rest2, Ext F1 ph1 H1 F' ph' H'' ∧ (∀ a o, F4 a = some o → F' a = some o) ∧ (∀ (n : Nat) (a : Addr), ph4[n]? = some a → ph'[n]? = some a) ∧ RelH W F' ph' hp' H'' ∧ H'' D = some (.lst accV2) ∧ F' D = none ∧ D ∉ ph' ∧ RepA W F' ph' acc2 accV2 ∧
          lcE (lcF G k elt c1 t1 env1) (pi.1.drop (j + 1)) hp' = some (rest2, hp2) ∧ acc2 ++ (rest2 ++ zs) = pt.1, fun H'' h => ?_, fun y2 H'' hy2 => ?_⟩
        · obtain ⟨m', a, b⟩ := h
          exact ⟨m', a, b⟩
        obtain ⟨rfl, ry2⟩ := yl2 y2 H'' hy2
        unfold lcF at g1
        obtain ⟨env2, s2, g1⟩ := Option.bind_eq_some_iff.mp g1
        obtain ⟨pc2, b2, ec2, eb2, g1⟩ := bndB_some g1
        have hE5 : RelE W F5 ph5 env1 σ2 := ⟨hE4.len, fun i v h => let ⟨x, h1, h2⟩ := hE4.at_ i v h; ⟨x, h1, h2.mono le5 pre5⟩⟩
        refine ⟨F5, ph5, hp5, wipeE env1 t1.slots, pi.1[j], env2, hR5, hE5.wipe _, ry2.mono le5 pre5, s2, fun σ3 hE6 hl6 hj6 => ⟨?_, ?_⟩⟩
        · rw [wipe_congr hl6 fun j hn => hj6 j hn]
          exact wipe_congr (wipe_length _ _) fun j hn => wipe_out hn
        refine tE_val hR5 hE6 ec2 fun F7 ph7 x7 H7 e7 hR7 hE7 rx7 => ?_
        rw [eb2] at rx7
        cases rx7.blV
        refine ⟨b2, rfl, ?_⟩
        obtain ⟨d7, f7, n7⟩ := own_stays e7 d5 f5 n5
        cases b2 with
        | false =>
          rw [if_neg (by simp)] at g1 ⊢
          cases g1
          exact ⟨_, by omega, rfl, hlt2, F7, ph7, _, acc2, accV2, zs2, x5.trans e7, fun a o z => e7.le a o (le5 a o z), fun n a z => e7.pre n a (pre5 n a z), hR7, d7, f7, n7, racc2.ext e7, g2, etot2⟩
        | true =>
          rw [if_pos rfl] at g1 ⊢
          obtain ⟨pe, ee, g1⟩ := one_some g1
          cases g1
          refine tE_val hR7 hE7 ee fun F8 ph8 y8 H8 e8 hR8 hE8 ry8 => ?_
          obtain ⟨d8, f8, n8⟩ := own_stays e8 d7 f7 n7
          have hal : accV2.length < sizeLine := by
            have h1 := racc2.length
            have h2 := congrArg List.length etot2
            simp only [List.length_append, List.length_cons] at h2
            have h3 : pt.1.length ≤ sizeLine := hlen
            omega
          refine ⟨accV2, d8, hal, _, by omega, rfl, hlt2, F8, ph8, _, acc2 ++ [pe.1.2], accV2 ++ [y8], zs2, ((x5.trans e7).trans e8).put hD, fun a o z => e8.le a o (e7.le a o (le5 a o z)), fun n a z => e8.pre n a (e7.pre n a (pre5 n a z)), hR8.put f8 n8, upd_same, f8, n8, ((racc2.ext e7).ext e8).append (.cons ry8 .nil), g2, ?_⟩
          rw [← etot2]; simp
      · refine .inl ⟨kk2 (by omega), ?_⟩
        have hj2 : j = pi.1.length := by omega
        subst hj2
        rw [List.drop_length] at erest2
        cases erest2
        exact ⟨_, by omega, rfl, hlt, F5, ph5, _, acc2, accV2, zs, x5, hR5, d5, f5, n5, racc2, f2, by simpa using etot2⟩
  · refine .inl ⟨jk2 (by omega), ?_⟩
    have hi2 : i = px.1.length := by omega
    subst hi2
    rw [List.drop_length] at erest
    cases erest
    rw [List.append_nil] at etot
    subst etot
    exact q F' ph' _ H' (x1.trans x2) hR2 (RRep.own fD2 nD2 hDH hDl (.lst racc))
end
end MP
set_option maxRecDepth 100000
/-! MiniPy: the check of an expression, and its soundness. -/
namespace MP
open PySem PySem.Spec PyProof.Rows L2
def ownOf (C : Cc) (vs : List Nat) : List (Str × Nat) := vs.map fun i => (C.N.getD i "", i)
/-- what is walked: f checks a value's expression, g a list of arguments -/
def itB (C : Cc) (ik : Ik) (n : Nat) (f : Expr → Bool) (g : List Expr → Bool) (e : Expr) : Bool := !isSet e && (match ik with
  | .val => f e
  | .rng => (match e with
    | .Call (.Name x _) es [] _ => decide (x = "range") && isGlB C.sc x && es.all notStar && decide (es.length = 1 ∨ es.length = 2) && decide (n = es.length) && g es
    | _ => false)
  | .rrng => (match e with
    | .Call (.Name y _) [.Call (.Name x _) es [] _] [] _ => decide (x = "range") && decide (y = "reversed") && isGlB C.sc x && isGlB C.sc y && es.all notStar && decide (es.length = 1 ∨ es.length = 2) && decide (n = es.length) && g es
    | _ => false))
def ME.isTrue : ME → Bool
  | .bl true => true
  | _ => false
mutual
def chk (G : Gl) : ME → Cc → Expr → Bool
  | .var i, C, e => match e with
    | .Name x _ => decide (C.N[i]? = some x) && visB C.sc x && !(x == ("__debug__" : Str)) && !(x == ("__classdict__" : Str))
    | _ => false
  | .glb g, C, e => match e with
    | .Name x _ => decide (C.gl g = some x) && isGlB C.sc x
    | _ => false
  | .fnv f, C, e => match e with
    | .Name x _ => decide (C.fn f = some x) && isGlB C.sc x
    | _ => false
  | .non, _, e => match e with
    | .Constant .none _ _ => true
    | _ => false
  | .bl b, _, e => match e with
    | .Constant (.bool c) _ _ => decide (b = c)
    | _ => false
  | .int i, _, e => match e with
    | .Constant (.int j) _ _ => decide (i = j)
    | _ => false
  | .str s, _, e => match e with
    | .Constant (.str t) _ _ => decide (s = t) && PyData.strOk t
    | _ => false
  | .nil, _, _ => false
  | .cons _ _, _, _ => false
  | .tup es, C, e => match e with
    | .Tuple xs _ _ => chkL G es C xs
    | _ => false
  | .lst es, C, e => match e with
    | .List xs _ => chkL G es C xs
    | _ => false
  | .edct, _, e => match e with
    | .Dict [] [] _ => true
    | _ => false
  | .dsp a b, C, e => match e with
    | .Dict [some x] [y] _ => chk G a C x && chk G b C y
    | _ => false
  | .bin op a b, C, e => match e with
    | .BinOp x o y _ => decide (o = opOf op) && chk G a C x && chk G b C y
    | _ => false
  | .neg a, C, e => match e with
    | .UnaryOp .USub x _ => chk G a C x
    | _ => false
  | .not a, C, e => match e with
    | .UnaryOp .Not x _ => chk G a C x
    | _ => false
  | .and a b, C, e => match e with
    | .BoolOp .And (x :: y :: r) pos => chk G a C x && (if r.isEmpty then chk G b C y else chk G b C (.BoolOp .And (y :: r) pos))
    | _ => false
  | .or a b, C, e => match e with
    | .BoolOp .Or (x :: y :: r) pos => chk G a C x && (if r.isEmpty then chk G b C y else chk G b C (.BoolOp .Or (y :: r) pos))
    | _ => false
  | .cmp op a b, C, e => match e with
    | .Compare x [o] [y] _ => decide (o = cmpOf op) && !behindInMarks (cmpOf op) y && chk G a C x && chk G b C y
    | _ => false
  | .chn op op' a b c, C, e => match e with
    | .Compare x [o, o'] [y, z] _ => decide (o = cmpOf op) && decide (o' = cmpOf op') && !lastMarks [cmpOf op, cmpOf op'] [y, z] && chk G a C x && chk G b C y && chk G c C z
    | _ => false
  | .ife c a b, C, e => match e with
    | .IfExp x y z _ => chk G c C x && chk G a C y && chk G b C z
    | _ => false
  | .call f es, C, e => match e with
    | .Call (.Name x _) xs [] _ => decide (C.fn f = some x) && isGlB C.sc x && xs.all notStar && chkL G es C xs && (match G.fns f with
      | some fd => decide (es.count + (fd.dfl.length - (fd.dfl.length - (fd.np - es.count))) = fd.np)
      | none => false)
    | _ => false
  | .bcl f es, C, e => match e with
    | .Call (.Name x _) (y :: xs) [] _ => decide (x = bname f) && isGlB C.sc x && (y :: xs).all notStar && chkL G es C (y :: xs)
    | _ => false
  | .callv i es, C, e => match e with
    | .Call (.Name x _) (y :: xs) [] _ => decide (C.N[i]? = some x) && visB C.sc x && !(x == ("__debug__" : Str)) && !(x == ("__classdict__" : Str)) && (y :: xs).all notStar && chkL G es C (y :: xs)
    | _ => false
  | .mxd a d, C, e => match e with
    | .Call (.Name x _) [y] [⟨some nm, z, _⟩] _ => decide (x = "max") && decide (nm = "default") && isGlB C.sc x && notStar y && chk G a C y && chk G d C z
    | _ => false
  | .rngx tp es, C, e => match e with
    | .Call (.Name y _) [.Call (.Name x _) as [] _] [] _ => decide (x = "range") && decide (y = if tp = true then "tuple" else "list") && isGlB C.sc x && isGlB C.sc y && as.all notStar && decide (as.length = 1 ∨ as.length = 2) && decide (es.count = as.length) && chkL G es C as
    | _ => false
  | .isi a t, C, e => match e with
    | .Call (.Name x _) [y, .Name z _] [] _ => decide (x = "isinstance") && decide (z = tyname t) && isGlB C.sc x && isGlB C.sc z && notStar y && chk G a C y
    | _ => false
  | .mth m o es, C, e => match e with
    | .Call (.Attribute y name apos) (x :: xs) [] pos => decide (name = mname m) && plainO y && (x :: xs).all notStar && decide ((x :: xs).length < 30) && (apos.endLine == pos.line) && chk G o C y && chkL G es C (x :: xs)
    | _ => false
  | .idx a i, C, e => match e with
    | .Subscript x y _ => noSl y && chk G a C x && chk G i C y
    | _ => false
  | .slc a lo hi, C, e => match e with
    | .Subscript x (.Slice l h none _) _ => chk G a C x && (match l with | none => lo.isNil | some y => !lo.isNil && chk G lo C y) && (match h with | none => hi.isNil | some y => !hi.isNil && chk G hi C y)
    | _ => false
  | .rev a, C, e => match e with
    | .Subscript x (.Slice none none (some (.UnaryOp .USub (.Constant (.int 1) _ _) _)) _) _ => chk G a C x
    | _ => false
  | .lc elt t k it c, C, e => match e with
    | .ListComp x [⟨tg, i, ifs, 0⟩] scope _ => chkT (C.blk scope) t tg && blkC C.N C.sc scope (ownOf C t.slots) && itB C k it.count (chk G it C) (chkL G it C) i &&
        (match ifs with | [] => c.isTrue | [y] => chk G c (C.blk scope) y | _ => false) && chk G elt (C.blk scope) x
    | _ => false
  | .lc2 elt t k it c t1 k1 it1 c1, C, e => match e with
    | .ListComp x [⟨tg, i, ifs, 0⟩, ⟨tg1, i1, ifs1, 0⟩] scope _ => chkT (C.blk scope) t tg && blkC C.N C.sc scope (ownOf C (t.slots ++ t1.slots)) && itB C k it.count (chk G it C) (chkL G it C) i &&
        (match ifs with | [] => c.isTrue | [y] => chk G c (C.blk scope) y | _ => false) && chkT (C.blk scope) t1 tg1 && itB (C.blk scope) k1 it1.count (chk G it1 (C.blk scope)) (chkL G it1 (C.blk scope)) i1 &&
        (match ifs1 with | [] => c1.isTrue | [y] => chk G c1 (C.blk scope) y | _ => false) && chk G elt (C.blk scope) x
    | _ => false
  | .hp a, C, e => chk G a C e && plainT e
def chkL (G : Gl) : ME → Cc → List Expr → Bool
  | .nil, _, es => es.isEmpty
  | .cons a b, C, es => match es with
    | e :: es => notStar e && chk G a C e && chkL G b C es
    | [] => false
  | _, _, _ => false
end
end MP
set_option maxRecDepth 100000
namespace MP
open PySem PySem.Spec PyProof.Rows L2
section
variable {W : Wd} {G : Gl} {k : Nat} {C : Cc} {X : Cx}
theorem foldS_of {e : Expr} (h : isSet e = false) (env : PySem.Env) (x : Value) : foldedSetIterable e env x = pure x := by
  cases e <;> first | rfl | (simp [isSet] at h)
/-- the display of one pair, its dict by its entries -/
theorem dict_one {K : Type} [DecidableEq K] {prog : Program} {w : World} {knd : HeapKind prog w K} {A : Around} {E : Value → Shared → Prop} {s : Shared} {env : PySem.Env} {ea eb : Expr} {pos : Pos} {Q : Value → Shared → Prop} (hu : knd.room A)
    (h : wpAny (model prog w) A (evalPairs (pairTrees [some ea] [eb] env pos)) (fun vs s₁ => ∃ ps, CarriesH knd s₁.heap vs ps ∧ s₁.heap.DictOfH knd s.heap.objs.size [] ∧
      ∀ h' tk, h'.DictOfH knd s.heap.objs.size (storedAllH [] ps) → Heap.SameBut s.heap.objs.size s₁.heap h' → Q (.ref s.heap.objs.size) { s₁ with heap := h', toks := tk }) E
      { s with heap := s.heap.push { cls := .type "dict", data := .dict #[] } }) :
    wpAny (model prog w) A (eval (.Dict [some ea] [eb] pos) env) Q E s := by
  rw [arm_eval_Dict, zip_pairTrees [some ea] [eb] env pos rfl rfl, dictDisplay_pairs (pairTrees [some ea] [eb] env pos) (by simp [pairTrees]) (by simp [pairTrees])]
  exact wpAny_bind (wpAny_standAt (wpAny_bind (wpAny_subDictH (knd := knd) (Q := fun d s' => wpAny (model prog w) A (pure (Value.ref d)) Q E s') hu (by simp [pairTrees])
    (wpAny_mono h (fun vs s₁ h₁ => by obtain ⟨ps, hc, hm, hq⟩ := h₁; exact ⟨ps, hc, hm, fun h' tk a b => wpAny_pure (hq h' tk a b)⟩) fun _ _ e => e))))
/-- {k: v} -/
theorem se_dsp (ok : XOk W G k C X) {a b : ME} {ea eb : Expr} {pos : Pos} (ha : PE X ea (tE W G k a)) (hb : PE X eb (tE W G k b)) : PE X (.Dict [some ea] [eb] pos) (tE W G k (.dsp a b)) := by
  refine ⟨fun pins s σ H Q I h => ?_⟩
  obtain ⟨F, ph, hp, env, r, hp1, hR, hE, e, q⟩ := h
  simp only [ev] at e
  obtain ⟨p, e1, e⟩ := bnd_some e
  obtain ⟨p2, e2, e⟩ := bnd_some e
  split at e
  rotate_left
  · cases e
  rename_i ky0
  cases e
  have hD : H s.heap.objs.size = none := I.fresh
  have big : (s.heap.objs.size == sysModules) = false := beq_eq_false_iff_ne.mpr (Ne.symm (Nat.ne_of_lt I.big))
  have g0 : (s.heap.push { cls := .type "dict", data := .dict #[] }).get? s.heap.objs.size = some { cls := .type "dict", data := .dict #[] } := Heap.get?_push_size _ rfl
  generalize hDn : s.heap.objs.size = D at hD big g0
  generalize hob : ({ cls := .type "dict", data := .dict #[] } : Obj) = ob at g0
  have exob : ob.ExactDict := by subst hob; exact ⟨rfl, rfl, rfl⟩
  have dtob : ob.data = .dict #[] 0 := by subst hob; rfl
  have I0 : Inv X pins σ (upd H D (dctO D ob)) { s with heap := s.heap.push ob } := by
    refine I.laid (t' := s.toks) (fun _ _ q => Heap.get?_push_of_some _ q) (Nat.le_of_eq hDn) (ext_ok ?_)
    exact g0
  obtain ⟨nD, fD⟩ := shared_not_new hR hD
  obtain ⟨hR0, x0⟩ := hR.laid (o := dctO D ob) hD
  rcases Bool.or_eq_true_iff.mp ky0 with ky | ky
  · obtain ⟨kk, hk⟩ := isKey_some ky
    refine wpAny_Dict_walk (knd := mixKind X.prog X.w) rfl rfl (by simp) (by simp) ?_
    rw [hDn, hob]
    refine pairTrees_cons_walk (thn (ha.run pins _ σ _ (fun x H1 => ∃ F1 ph1, Ext F ph (upd H D (dctO D ob)) F1 ph1 H1 ∧ RelH W F1 ph1 p.2 H1 ∧ RelE W F1 ph1 env σ ∧ Rep W F1 ph1 p.1.2 x) I0
      (tE_val hR0 (hE.ext x0) e1 fun F1 ph1 x H1 x1 hR1 hE1 rx => ⟨F1, ph1, x1, hR1, hE1, rx⟩)) fun u s1 ⟨x, H1, I1, ru, F1, ph1, x1, hR1, hE1, rx⟩ => ?_)
    refine thn (hb.run pins s1 σ H1 (fun y H2 => ∃ F2 ph2, Ext F1 ph1 H1 F2 ph2 H2 ∧ RelH W F2 ph2 p2.2 H2 ∧ Rep W F2 ph2 p2.1.2 y) I1 (tE_val hR1 hE1 e2 fun F2 ph2 y H2 x2 hR2 hE2 ry => ⟨F2, ph2, x2, hR2, ry⟩)) fun v s2 ⟨y, H2, I2, rv, F2, ph2, x2, hR2, ry⟩ => ?_
    obtain ⟨d1, f1, n1⟩ := own_stays x1 upd_same fD nD
    obtain ⟨d2, f2, n2⟩ := own_stays x2 d1 f1 n1
    have g2 := obj_at I2 (Rd.of d2)
    have rx2 := rx.ext x2
    have kis : (mixKind X.prog X.w).is kk u = true := by rw [keyOf_rel hk rx2] at ru; exact kV_is ru
    refine pairTrees_nil_walk ⟨[(kk, v)], ⟨kis, rfl, trivial⟩, ⟨ob, #[], 0, g2, exob, dtob, fun en hm => by simp at hm, .nil, List.nodup_nil⟩, fun h' dd sb => ?_⟩
    have dd : h'.DictOf (mixKind X.prog X.w) D [(kk, v)] := dd
    obtain ⟨o', es', ep', g', x', dt', ko', pr', nd'⟩ := dd
    rw [ok.fit.P, ok.fit.w] at ko' pr'
    have ek : EK W F2 ph2 [(p.1.2, p2.1.2)] [(kk, v)] := by
      have := EK.put (kvs := []) (us := []) hk ry rv .nil List.nodup_nil
      exact this
    have back := ek.back pr' fun en hm => ko' en (by simpa using hm)
    have hb2 : ((ph2 : List Addr), F2) = (ph2, F2) := rfl
    refine ⟨.ref D, upd H2 D (dctO D o'), d_write I2 (by rw [d2]; trivial) sb ⟨o', g'⟩ (ext_ok g'), rfl, ?_⟩
    have x12 : Ext F ph H F2 ph2 H2 := (x0.trans x1).trans x2
    refine q F2 ph2 _ _ (x12.put hD) (hR2.put f2 n2) (RRep.own f2 n2 hD upd_same (.dct big x' dt' ?_ (by simp) back))
    have l2 := back.length
    have : es'.size = 1 := by rw [← Array.length_toList, ← l2]; rfl
    rw [this, sizeLine_eq]; decide
  · obtain ⟨kk, hk⟩ := isTKey_some ky
    refine dict_one (knd := tupleKind (mixKind X.prog X.w)) (show X.A.units < cLine by have := ok.fit.un; omega) ?_
    rw [hDn, hob]
    refine pairTrees_cons_walk (thn (ha.run pins _ σ _ (fun x H1 => ∃ F1 ph1, Ext F ph (upd H D (dctO D ob)) F1 ph1 H1 ∧ RelH W F1 ph1 p.2 H1 ∧ RelE W F1 ph1 env σ ∧ Rep W F1 ph1 p.1.2 x) I0
      (tE_val hR0 (hE.ext x0) e1 fun F1 ph1 x H1 x1 hR1 hE1 rx => ⟨F1, ph1, x1, hR1, hE1, rx⟩)) fun u s1 ⟨x, H1, I1, ru, F1, ph1, x1, hR1, hE1, rx⟩ => ?_)
    refine thn (hb.run pins s1 σ H1 (fun y H2 => ∃ F2 ph2, Ext F1 ph1 H1 F2 ph2 H2 ∧ RelH W F2 ph2 p2.2 H2 ∧ Rep W F2 ph2 p2.1.2 y) I1 (tE_val hR1 hE1 e2 fun F2 ph2 y H2 x2 hR2 hE2 ry => ⟨F2, ph2, x2, hR2, ry⟩)) fun v s2 ⟨y, H2, I2, rv, F2, ph2, x2, hR2, ry⟩ => ?_
    obtain ⟨d1, f1, n1⟩ := own_stays x1 upd_same fD nD
    obtain ⟨d2, f2, n2⟩ := own_stays x2 d1 f1 n1
    have g2 := obj_at I2 (Rd.of d2)
    have rx2 := rx.ext x2
    obtain ⟨b, rfl, tb⟩ := tkey_of hk rx2
    obtain rfl : u = Value.ref b := ru
    have kis := TKey.at_ ok.fit I2 hR2 tb
    rw [← ok.fit.P, ← ok.fit.w] at kis
    refine pairTrees_nil_walk ⟨[(kk, b, v)], ⟨rfl, rfl, kis, trivial⟩, ⟨ob, #[], 0, g2, exob, dtob, rfl, fun x hm => by simp at hm, List.nodup_nil⟩, fun h' tk dd sb => ?_⟩
    obtain ⟨o', es', ep', g', x', dt', pr', _, nd'⟩ := dd
    rw [ok.fit.P, ok.fit.w] at pr'
    have ek : ET W F2 ph2 [(p.1.2, p2.1.2)] [(kk, b, v)] := .cons hk tb ry rv .nil
    have back := ek.back
    have e0 : storedAllH [] [(kk, b, v)] = [(kk, b, v)] := rfl
    rw [e0] at pr'
    rw [← pr'] at back
    refine ⟨.ref D, upd H2 D (dctO D o'), d_write (t' := tk) I2 (by rw [d2]; trivial) sb ⟨o', g'⟩ (ext_ok g'), rfl, ?_⟩
    have x12 : Ext F ph H F2 ph2 H2 := (x0.trans x1).trans x2
    refine q F2 ph2 _ _ (x12.put hD) (hR2.put f2 n2) (RRep.own f2 n2 hD upd_same (.dct big x' dt' ?_ (by simp) back))
    have l2 := back.length
    have : es'.size = 1 := by rw [← Array.length_toList, ← l2]; rfl
    rw [this, sizeLine_eq]; decide
theorem okK {N : List Str} {sc scope : Scope} {own : List (Str × Nat)} (h : blkC N sc scope own = true) : scope.kind = .function := (blkOk_by h).kind
theorem own_slots (C : Cc) (vs : List Nat) : (ownOf C vs).map (·.2) = vs := by
  unfold ownOf
  rw [List.map_map]
  exact List.map_id' vs
theorem it_any (ok : XOk W G k C X) {m : ME} {ik : Ik} {tg e : Expr} (h : itB C ik m.count (chk G m C) (chkL G m C) e = true) (h1 : chk G m C e = true → PE X e (tE W G k m)) (h2 : ∀ es, chkL G m C es = true → PA X es (tL W G k m)) :
    PI X tg e (iK W G k ik m) ∧ isSet e = false := by
  unfold itB at h
  rw [Bool.and_eq_true, Bool.not_eq_true'] at h
  refine ⟨?_, h.1⟩
  have h := h.2
  cases ik with
  | val => exact pi_val ok (h1 h)
  | rng =>
    simp only at h
    split at h
    · simp only [Bool.and_eq_true, decide_eq_true_eq] at h
      obtain ⟨⟨⟨⟨⟨a, b⟩, c⟩, d⟩, e⟩, f⟩ := h
      exact PI_imp (pi_rng ok a b c d e (h2 _ f)) fun σ H R z => iR_K.1 z
    · cases h
  | rrng =>
    simp only at h
    split at h
    · simp only [Bool.and_eq_true, decide_eq_true_eq] at h
      obtain ⟨⟨⟨⟨⟨⟨⟨a, a2⟩, b⟩, b2⟩, c⟩, d⟩, e⟩, f⟩ := h
      exact PI_imp (pi_rrng ok a a2 b b2 c d e (h2 _ f)) fun σ H R z => iR_K.2 z
    · cases h
/-- a clause's tests -/
theorem ifs_any {X : Cx} {c : ME} {ifs : List Expr} (h : (match ifs with | [] => c.isTrue | [y] => chk G c C y | _ => false) = true) (h1 : ∀ e, chk G c C e = true → PT X e (tB (tE W G k c))) : PTs X ifs (tB (tE W G k c)) := by
  cases ifs with
  | nil =>
    simp only at h
    have : c = .bl true := by
      unfold ME.isTrue at h
      split at h
      · rfl
      · cases h
    subst this
    refine ⟨fun pins s σ H Q I q => pts_nil.run pins s σ H Q I ?_⟩
    obtain ⟨F, ph, hp, env, r, hp1, hR, hE, e, q⟩ := q
    simp only [ev] at e
    cases e
    obtain ⟨b, eb, q⟩ := q.at_ Ext.refl hR (.bl true)
    cases eb
    exact q
  | cons y r =>
    cases r with
    | nil => exact pts_one (h1 y h)
    | cons _ _ => cases h
theorem se_ifeT {c a b : ME} {ec ea eb : Expr} {pos : Pos} (hc : PB W G k X ec c) (ha : PB W G k X ea a) (hb : PB W G k X eb b) : PT X (.IfExp ec ea eb pos) (tB (tE W G k (.ife c a b))) := by
  refine ⟨fun pins s σ H Q I h => ?_⟩
  have h := ife_step h
  show wpAny (model X.prog X.w) X.A (do if ← isTrue ec X.env (eval ec X.env) then isTrue ea X.env (eval ea X.env) else isTrue eb X.env (eval eb X.env)) (TP X pins σ Q) X.xe s
  refine wpAny_bind (thn (hc.2.run pins s σ H _ I h) fun d s1 ⟨H1, I1, q1⟩ => ?_)
  cases d with
  | true => exact ha.2.run pins s1 σ H1 Q I1 q1
  | false => exact hb.2.run pins s1 σ H1 Q I1 q1
theorem PB_of {m : ME} {e : Expr} (h : PE X e (tE W G k m)) (p : plainT e = true) : PB W G k X e m := PB_plain h p
end
end MP
set_option maxRecDepth 100000
set_option maxHeartbeats 1000000
namespace MP
open PySem PySem.Spec PyProof.Rows L2
section
variable {W : Wd} {G : Gl} {k : Nat}
theorem s_any : ∀ m : ME, (∀ (C : Cc) (X : Cx) (e : Expr), XOk W G k C X → chk G m C e = true → PB W G k X e m) ∧ (∀ (C : Cc) (X : Cx) (es : List Expr), XOk W G k C X → chkL G m C es = true → PA X es (tL W G k m)) := by
  intro m
  induction m with
  | var i =>
    refine ⟨fun C X e ok h => ?_, fun C X es ok h => by simp [chkL] at h⟩
    unfold chk at h
    split at h <;> simp at h
    obtain ⟨⟨⟨a, b⟩, c⟩, d⟩ := h
    exact PB_of (se_var ok a b (by simpa using c) (by simpa using d)) rfl
  | glb g =>
    refine ⟨fun C X e ok h => ?_, fun C X es ok h => by simp [chkL] at h⟩
    unfold chk at h
    split at h <;> simp at h
    exact PB_of (se_glb ok h.1 h.2) rfl
  | fnv f =>
    refine ⟨fun C X e ok h => ?_, fun C X es ok h => by simp [chkL] at h⟩
    unfold chk at h
    split at h <;> simp at h
    exact PB_of (se_fnv ok h.1 h.2) rfl
  | non =>
    refine ⟨fun C X e ok h => ?_, fun C X es ok h => by simp [chkL] at h⟩
    unfold chk at h
    split at h
    · exact PB_of (se_const pe_non (fun _ _ => rfl) fun _ _ => .non) rfl
    · cases h
  | bl b =>
    refine ⟨fun C X e ok h => ?_, fun C X es ok h => by simp [chkL] at h⟩
    unfold chk at h
    split at h <;> simp at h
    subst h
    exact PB_of (se_const pe_bl (fun _ _ => rfl) fun _ _ => .bl _) rfl
  | int b =>
    refine ⟨fun C X e ok h => ?_, fun C X es ok h => by simp [chkL] at h⟩
    unfold chk at h
    split at h <;> simp at h
    subst h
    exact PB_of (se_const pe_int (fun _ _ => rfl) fun _ _ => .int _) rfl
  | str b =>
    refine ⟨fun C X e ok h => ?_, fun C X es ok h => by simp [chkL] at h⟩
    unfold chk at h
    split at h <;> simp at h
    obtain ⟨rfl, so⟩ := h
    exact PB_of (se_const pe_str (fun _ _ => rfl) fun _ _ => .str _ so) rfl
  | nil =>
    refine ⟨fun C X e ok h => by simp [chk] at h, fun C X es ok h => ?_⟩
    simp [chkL] at h
    subst h
    exact sl_nil
  | cons a b iha ihb =>
    refine ⟨fun C X e ok h => by simp [chk] at h, fun C X es ok h => ?_⟩
    unfold chkL at h
    split at h
    · simp at h
      exact sl_cons h.1.1 (iha.1 C X _ ok h.1.2).1 (ihb.2 C X _ ok h.2)
    · cases h
  | tup es ih =>
    refine ⟨fun C X e ok h => ?_, fun C X es ok h => by simp [chkL] at h⟩
    unfold chk at h
    split at h
    · exact PB_of (se_tup (ih.2 C X _ ok h)) rfl
    · cases h
  | lst es ih =>
    refine ⟨fun C X e ok h => ?_, fun C X es ok h => by simp [chkL] at h⟩
    unfold chk at h
    split at h
    · exact PB_of (se_lst (ih.2 C X _ ok h)) rfl
    · cases h
  | edct =>
    refine ⟨fun C X e ok h => ?_, fun C X es ok h => by simp [chkL] at h⟩
    unfold chk at h
    split at h
    · exact PB_of (se_edct ok) rfl
    · cases h
  | dsp a b iha ihb =>
    refine ⟨fun C X e ok h => ?_, fun C X es ok h => by simp [chkL] at h⟩
    unfold chk at h
    split at h <;> simp at h
    exact PB_of (se_dsp ok (iha.1 C X _ ok h.1).1 (ihb.1 C X _ ok h.2).1) rfl
  | bin op a b iha ihb =>
    refine ⟨fun C X e ok h => ?_, fun C X es ok h => by simp [chkL] at h⟩
    unfold chk at h
    split at h <;> simp at h
    obtain ⟨⟨rfl, h1⟩, h2⟩ := h
    exact PB_of (se_bin ok (iha.1 C X _ ok h1).1 (ihb.1 C X _ ok h2).1) rfl
  | neg a iha =>
    refine ⟨fun C X e ok h => ?_, fun C X es ok h => by simp [chkL] at h⟩
    unfold chk at h
    split at h
    · exact PB_of (se_neg ok (iha.1 C X _ ok h).1) rfl
    · cases h
  | not a iha =>
    refine ⟨fun C X e ok h => ?_, fun C X es ok h => by simp [chkL] at h⟩
    unfold chk at h
    split at h
    · exact se_not (iha.1 C X _ ok h)
    · cases h
  | and a b iha ihb =>
    refine ⟨fun C X e ok h => ?_, fun C X es ok h => by simp [chkL] at h⟩
    unfold chk at h
    split at h
    · rename_i x y r pos
      rw [Bool.and_eq_true] at h
      obtain ⟨h1, h2⟩ := h
      cases r with
      | nil =>
        have hb := ihb.1 C X _ ok (by simpa using h2)
        exact se_and (iha.1 C X _ ok h1) (pe_one hb.1) (pw_and1 hb.2)
      | cons z r =>
        have hb := ihb.1 C X _ ok (by simpa using h2)
        exact se_and (iha.1 C X _ ok h1) hb.1 (pw_of hb.2)
    · cases h
  | or a b iha ihb =>
    refine ⟨fun C X e ok h => ?_, fun C X es ok h => by simp [chkL] at h⟩
    unfold chk at h
    split at h
    · rename_i x y r pos
      rw [Bool.and_eq_true] at h
      obtain ⟨h1, h2⟩ := h
      cases r with
      | nil =>
        have hb := ihb.1 C X _ ok (by simpa using h2)
        exact se_or (iha.1 C X _ ok h1) (pe_one hb.1) (pw_or1 hb.2)
      | cons z r =>
        have hb := ihb.1 C X _ ok (by simpa using h2)
        exact se_or (iha.1 C X _ ok h1) hb.1 (pw_of hb.2)
    · cases h
  | cmp op a b iha ihb =>
    refine ⟨fun C X e ok h => ?_, fun C X es ok h => by simp [chkL] at h⟩
    unfold chk at h
    split at h <;> simp at h
    obtain ⟨⟨⟨rfl, h0⟩, h1⟩, h2⟩ := h
    exact se_cmp ok h0 (iha.1 C X _ ok h1).1 (ihb.1 C X _ ok h2).1
  | chn op op' a b c iha ihb ihc =>
    refine ⟨fun C X e ok h => ?_, fun C X es ok h => by simp [chkL] at h⟩
    unfold chk at h
    split at h
    · simp only [Bool.and_eq_true, decide_eq_true_eq, Bool.not_eq_true'] at h
      obtain ⟨⟨⟨⟨⟨rfl, rfl⟩, h0⟩, h1⟩, h2⟩, h3⟩ := h
      exact se_chn ok h0 (iha.1 C X _ ok h1).1 (ihb.1 C X _ ok h2).1 (ihc.1 C X _ ok h3).1
    · cases h
  | ife c a b ihc iha ihb =>
    refine ⟨fun C X e ok h => ?_, fun C X es ok h => by simp [chkL] at h⟩
    unfold chk at h
    split at h <;> simp at h
    obtain ⟨⟨h1, h2⟩, h3⟩ := h
    exact ⟨se_ife (ihc.1 C X _ ok h1) (iha.1 C X _ ok h2) (ihb.1 C X _ ok h3), se_ifeT (ihc.1 C X _ ok h1) (iha.1 C X _ ok h2) (ihb.1 C X _ ok h3)⟩
  | call f es ih =>
    refine ⟨fun C X e ok h => ?_, fun C X es ok h => by simp [chkL] at h⟩
    unfold chk at h
    split at h
    · rename_i x p xs pos
      simp only [Bool.and_eq_true, decide_eq_true_eq] at h
      obtain ⟨⟨⟨⟨h1, h2⟩, h3⟩, h4⟩, h5⟩ := h
      split at h5
      · rename_i fd hf
        have h5 := of_decide_eq_true h5
        cases xs with
        | nil =>
          cases es with
          | nil => exact PB_of (se_call0 ok h1 hf h5 h2) rfl
          | cons _ _ => simp [chkL] at h4
          | _ => simp [chkL] at h4
        | cons y ys =>
          rw [List.all_cons, Bool.and_eq_true] at h3
          exact PB_of (se_call ok h1 hf h5 h2 h3.1 (star_any h3.2) (ih.2 C X _ ok h4)) rfl
      · cases h5
    · cases h
  | bcl f es ih =>
    refine ⟨fun C X e ok h => ?_, fun C X es ok h => by simp [chkL] at h⟩
    unfold chk at h
    split at h
    · simp only [Bool.and_eq_true, decide_eq_true_eq, List.all_cons] at h
      obtain ⟨⟨⟨h1, h2⟩, h3⟩, h4⟩ := h
      exact PB_of (se_bcl ok h1 h2 h3.1 (star_any h3.2) (ih.2 C X _ ok h4)) rfl
    · cases h
  | callv i es ih =>
    refine ⟨fun C X e ok h => ?_, fun C X es ok h => by simp [chkL] at h⟩
    unfold chk at h
    split at h
    · simp only [Bool.and_eq_true, decide_eq_true_eq, Bool.not_eq_true'] at h
      obtain ⟨⟨⟨⟨⟨h1, h2⟩, h3⟩, h4⟩, h5⟩, h6⟩ := h
      rw [List.all_cons, Bool.and_eq_true] at h5
      exact PB_of (se_callv ok h1 h2 h3 h4 h5.1 (star_any h5.2) (ih.2 C X _ ok h6)) rfl
    · cases h
  | mxd a d iha ihd =>
    refine ⟨fun C X e ok h => ?_, fun C X es ok h => by simp [chkL] at h⟩
    unfold chk at h
    split at h
    · simp only [Bool.and_eq_true, decide_eq_true_eq] at h
      obtain ⟨⟨⟨⟨⟨h1, h2⟩, h3⟩, h4⟩, h5⟩, h6⟩ := h
      exact PB_of (se_mxd ok h1 h2 h3 h4 (iha.1 C X _ ok h5).1 (ihd.1 C X _ ok h6).1) rfl
    · cases h
  | rngx tp es ih =>
    refine ⟨fun C X e ok h => ?_, fun C X es ok h => by simp [chkL] at h⟩
    unfold chk at h
    split at h
    · simp only [Bool.and_eq_true, decide_eq_true_eq] at h
      obtain ⟨⟨⟨⟨⟨⟨⟨h1, h2⟩, h3⟩, h4⟩, h5⟩, h6⟩, h7⟩, h8⟩ := h
      exact PB_of (se_rngx ok h1 h2 h3 h4 h5 h6 h7 (ih.2 C X _ ok h8)) rfl
    · cases h
  | isi a t iha =>
    refine ⟨fun C X e ok h => ?_, fun C X es ok h => by simp [chkL] at h⟩
    unfold chk at h
    split at h
    · simp only [Bool.and_eq_true, decide_eq_true_eq] at h
      obtain ⟨⟨⟨⟨⟨h1, h2⟩, h3⟩, h4⟩, h5⟩, h6⟩ := h
      exact PB_of (se_isi ok h1 h2 h3 h4 h5 (iha.1 C X _ ok h6).1) rfl
    · cases h
  | mth m o es iho ih =>
    refine ⟨fun C X e ok h => ?_, fun C X es ok h => by simp [chkL] at h⟩
    unfold chk at h
    split at h
    · simp only [Bool.and_eq_true, decide_eq_true_eq] at h
      obtain ⟨⟨⟨⟨⟨⟨h1, h2⟩, h3⟩, h4⟩, h5⟩, h6⟩, h7⟩ := h
      exact PB_of (se_mth ok h1 h2 h3 h4 h5 (iho.1 C X _ ok h6).1 (ih.2 C X _ ok h7)) rfl
    · cases h
  | idx a b iha ihb =>
    refine ⟨fun C X e ok h => ?_, fun C X es ok h => by simp [chkL] at h⟩
    unfold chk at h
    split at h
    · simp only [Bool.and_eq_true] at h
      obtain ⟨⟨h0, h1⟩, h2⟩ := h
      exact PB_of (se_idx ok h0 (iha.1 C X _ ok h1).1 (ihb.1 C X _ ok h2).1) rfl
    · cases h
  | slc a lo hi iha ihl ihh =>
    refine ⟨fun C X e ok h => ?_, fun C X es ok h => by simp [chkL] at h⟩
    unfold chk at h
    split at h
    · rename_i x l h' p2 pos
      simp only [Bool.and_eq_true] at h
      obtain ⟨⟨h1, h2⟩, h3⟩ := h
      have part : ∀ (m : ME) (o : Option Expr), (∀ (C : Cc) (X : Cx) (e : Expr), XOk W G k C X → chk G m C e = true → PB W G k X e m) → (match o with | none => m.isNil | some y => !m.isNil && chk G m C y) = true → PO X o (tO W G k m) := by
        intro m o ih hm
        unfold tO
        cases o with
        | none =>
          simp only at hm
          rw [if_pos hm]
          exact po_none
        | some y =>
          simp only [Bool.and_eq_true, Bool.not_eq_true'] at hm
          rw [if_neg (by simp [hm.1])]
          exact po_some (ih C X y ok hm.2).1
      exact PB_of (se_slc ok (iha.1 C X _ ok h1).1 (part lo l ihl.1 h2) (part hi h' ihh.1 h3)) rfl
    · cases h
  | rev a iha =>
    refine ⟨fun C X e ok h => ?_, fun C X es ok h => by simp [chkL] at h⟩
    unfold chk at h
    split at h
    · exact PB_of (se_rev ok (iha.1 C X _ ok h).1) rfl
    · cases h
  | lc elt t ik it c ihe ihi ihc =>
    refine ⟨fun C X e ok h => ?_, fun C X es ok h => by simp [chkL] at h⟩
    unfold chk at h
    split at h
    · rename_i x tg i ifs scope pos
      simp only [Bool.and_eq_true] at h
      obtain ⟨⟨⟨⟨h1, h2⟩, h3⟩, h4⟩, h5⟩ := h
      have hk := okK h2
      obtain ⟨p1, p2⟩ := it_any (tg := tg) ok h3 (fun z => (ihi.1 C X _ ok z).1) fun es z => ihi.2 C X es ok z
      have hb := blkOk_by h2
      rw [← ok.N, ← ok.sc] at hb
      have pe := pe_lc (pos := pos) ok.fit.calm (by rw [ok.N]; exact ok.nd) p1 hb (fun s H c' cl fp => (sg_any (ok.blk hk s H c' cl fp) t).1 tg h1) (fun s H c' cl fp => ifs_any (C := C.blk scope) h4 fun e z => (ihc.1 _ _ e (ok.blk hk s H c' cl fp) z).2)
        (fun s H c' cl fp => (ihe.1 _ _ x (ok.blk hk s H c' cl fp) h5).1) fun x => foldS_of p2 _ x
      rw [own_slots] at pe
      exact PB_of (PE_imp pe fun σ H Q q => lc_step q) rfl
    · cases h
  | lc2 elt t ik it c t1 k1 it1 c1 ihe ihi ihc ihi1 ihc1 =>
    refine ⟨fun C X e ok h => ?_, fun C X es ok h => by simp [chkL] at h⟩
    unfold chk at h
    split at h
    · rename_i x tg i ifs tg1 i1 ifs1 scope pos
      simp only [Bool.and_eq_true] at h
      obtain ⟨⟨⟨⟨⟨⟨⟨h1, h2⟩, h3⟩, h4⟩, h5⟩, h6⟩, h7⟩, h8⟩ := h
      have hk := okK h2
      obtain ⟨p1, p2⟩ := it_any (tg := tg) ok h3 (fun z => (ihi.1 C X _ ok z).1) fun es z => ihi.2 C X es ok z
      have hb := blkOk_by h2
      rw [← ok.N, ← ok.sc] at hb
      have q1 : ∀ (s : Shared) (H : Hp) (c' : Addr) (cl : List (Str × Addr)) (fp : List Addr), PI (X.blk s H scope (compEnvC scope cl c' X.env) fp) tg1 i1 (iK W G k k1 it1) ∧ isSet i1 = false := fun s H c' cl fp =>
        it_any (tg := tg1) (ok.blk hk s H c' cl fp) h6 (fun z => (ihi1.1 _ _ _ (ok.blk hk s H c' cl fp) z).1) fun es z => ihi1.2 _ _ es (ok.blk hk s H c' cl fp) z
      have s1 : isSet i1 = false := by unfold itB at h6; rw [Bool.and_eq_true, Bool.not_eq_true'] at h6; exact h6.1
      have pe := pe_lc2 (pos := pos) (vs1 := t1.slots) ok.fit.calm (by rw [ok.N]; exact ok.nd) p1 hb (by rw [own_slots]; exact fun i hi => List.mem_append_right _ hi) (fun s H c' cl fp => (sg_any (ok.blk hk s H c' cl fp) t).1 tg h1) (fun s H c' cl fp => ifs_any (C := C.blk scope) h4 fun e z => (ihc.1 _ _ e (ok.blk hk s H c' cl fp) z).2)
        (fun s H c' cl fp => (q1 s H c' cl fp).1) (fun s H c' cl fp => (sg_any (ok.blk hk s H c' cl fp) t1).1 tg1 h5) (fun s H c' cl fp => ifs_any (C := C.blk scope) h7 fun e z => (ihc1.1 _ _ e (ok.blk hk s H c' cl fp) z).2)
        (fun s H c' cl fp => (ihe.1 _ _ x (ok.blk hk s H c' cl fp) h8).1) (fun x => foldS_of p2 _ x) fun env x => foldS_of s1 env x
      rw [own_slots] at pe
      exact PB_of (PE_imp pe fun σ H Q q => lc2_step q) rfl
    · cases h
  | hp a iha =>
    refine ⟨fun C X e ok h => ?_, fun C X es ok h => by simp [chkL] at h⟩
    unfold chk at h
    rw [Bool.and_eq_true] at h
    exact PB_of (se_hp (iha.1 C X _ ok h.1).1) h.2
end
end MP
set_option maxRecDepth 100000
/-! MiniPy: the state of a body: slots, own objects. -/
namespace MP
open PySem PySem.Spec PyProof.Rows L2
structure SR (W : Wd) (F : Hp) (ph : List Addr) (H0 : Hp) (env : FEnv) (σ : L2.St) (H : Hp) : Prop where
  len : env.length = σ.length
  val : ∀ (i : Nat) (v : PV), env[i]? = some (some (false, v)) → ∃ x, σ[i]? = some (some x) ∧ Rep W F ph v x
  own : ∀ (i : Nat) (v : PV), env[i]? = some (some (true, v)) → ∃ a o, σ[i]? = some (some (V.ref a)) ∧ F a = none ∧ a ∉ ph ∧ H0 a = none ∧ H a = some o ∧ ORep W F ph a v o
  dis : ∀ (i j : Nat) (v w : PV) (a : Addr), env[i]? = some (some (true, v)) → env[j]? = some (some (true, w)) → i ≠ j → σ[i]? = some (some (V.ref a)) → ¬ σ[j]? = some (some (V.ref a))
structure StOk (W : Wd) (F0 : Hp) (ph0 : List Addr) (H0 : Hp) (F : Hp) (ph : List Addr) (hp : Hs) (env : FEnv) (σ : L2.St) (H : Hp) : Prop where
  ext : Ext F0 ph0 H0 F ph H
  rel : RelH W F ph hp H
  s : SR W F ph H0 env σ H
def ownA (env : FEnv) (σ : L2.St) (a : Addr) : Prop := ∃ (i : Nat) (v : PV), env[i]? = some (some (true, v)) ∧ σ[i]? = some (some (V.ref a))
open Classical in
/-- the own objects frozen -/
noncomputable def frzF (F : Hp) (env : FEnv) (σ : L2.St) (H : Hp) : Hp := fun a => if ownA env σ a then H a else F a
open Classical in
noncomputable def thawF (F : Hp) (env : FEnv) (σ : L2.St) : Hp := fun a => if ownA env σ a then none else F a
section
variable {W : Wd} {F0 F H0 H F' H' : Hp} {ph0 ph ph' : List Addr} {hp hp' : Hs} {env : FEnv} {σ : L2.St}
theorem SR.ownI (s : SR W F ph H0 env σ H) {a : Addr} (h : ownA env σ a) : F a = none ∧ a ∉ ph ∧ H0 a = none ∧ ∃ o, H a = some o := by
  obtain ⟨i, v, h1, h2⟩ := h
  obtain ⟨b, o, h3, h4, h5, h6, h7, _⟩ := s.own i v h1
  rw [h2] at h3
  cases h3
  exact ⟨h4, h5, h6, o, h7⟩
theorem frzF_le (s : SR W F ph H0 env σ H) : ∀ a o, F a = some o → frzF F env σ H a = some o := by
  intro a o e
  unfold frzF
  rw [if_neg]
  · exact e
  · intro z
    rw [(s.ownI z).1] at e; cases e
theorem unf_get {i : Nat} {v : PV} (h : (unf env)[i]? = some (some v)) : ∃ b, env[i]? = some (some (b, v)) := by
  unfold unf at h
  rw [List.getElem?_map] at h
  cases e : env[i]? with
  | none => rw [e] at h; cases h
  | some o =>
    rw [e] at h
    cases o with
    | none => cases h
    | some p => obtain ⟨b, u⟩ := p; cases h; exact ⟨b, rfl⟩
/-- everything frozen -/
theorem StOk.frz (t : StOk W F0 ph0 H0 F ph hp env σ H) : Ext F0 ph0 H0 (frzF F env σ H) ph H ∧ RelH W (frzF F env σ H) ph hp H ∧ RelE W (frzF F env σ H) ph (unf env) σ := by
  have le := frzF_le t.s
  refine ⟨⟨fun a o e => le a o (t.ext.le a o e), fun a h => ?_, t.ext.pre, t.ext.pnew, t.ext.pres, t.ext.dom⟩, ⟨fun a o e => ?_, t.rel.len, t.rel.nd, fun n a v e1 e2 => ?_, t.rel.cl, fun a vs e => ?_⟩, ⟨?_, fun i v h => ?_⟩⟩
  · by_cases z : ownA env σ a
    · exact .inr (t.s.ownI z).2.2.1
    · unfold frzF at h
      rw [if_neg z] at h
      exact t.ext.new a h
  · unfold frzF at e
    split at e
    · exact .inl e
    · exact t.rel.sub a o e
  · obtain ⟨f, o, e3, r⟩ := t.rel.sh n a v e1 e2
    refine ⟨?_, o, e3, r.mono le fun _ _ z => z⟩
    unfold frzF
    rw [if_neg]
    · exact f
    · exact fun z => (t.s.ownI z).2.1 (List.mem_of_getElem? e1)
  · unfold frzF at e
    split at e
    · rename_i z
      obtain ⟨i, v, h1, h2⟩ := z
      obtain ⟨b, o, h3, _, _, _, h7, h8⟩ := t.s.own i v h1
      rw [h2] at h3
      cases h3
      rw [h7] at e
      exact absurd (Option.some.inj e) (h8.no_tup vs)
    · exact t.rel.td a vs e
  · unfold unf; rw [List.length_map]; exact t.s.len
  · obtain ⟨b, e⟩ := unf_get h
    cases b with
    | false =>
      obtain ⟨x, h1, h2⟩ := t.s.val i v e
      exact ⟨x, h1, h2.mono le fun _ _ z => z⟩
    | true =>
      obtain ⟨a, o, h1, h2, h3, h4, h5, h6⟩ := t.s.own i v e
      refine ⟨_, h1, .obj (o := o) ?_ (h6.mono le fun _ _ z => z)⟩
      unfold frzF
      rw [if_pos ⟨i, v, e, h1⟩]
      exact h5
theorem frz_get {i : Nat} {b : Bool} {v : PV} (h : (MP.frz env)[i]? = some (some (b, v))) : b = false ∧ ∃ c, env[i]? = some (some (c, v)) := by
  unfold MP.frz at h
  rw [List.getElem?_map] at h
  cases e : env[i]? with
  | none => rw [e] at h; cases h
  | some o =>
    rw [e] at h
    cases o with
    | none => cases h
    | some p =>
      obtain ⟨c, u⟩ := p
      simp only [Option.map_some, frz1, Option.some.injEq, Prod.mk.injEq] at h
      obtain ⟨rfl, rfl⟩ := h
      exact ⟨rfl, c, rfl⟩
theorem SR.of (h : RelE W F ph (unf env) σ) : SR W F ph H0 (MP.frz env) σ H := by
  refine ⟨?_, fun i v e => ?_, fun i v e => ?_, fun i j v w a e => ?_⟩
  · have := h.len
    unfold unf at this
    unfold MP.frz
    rw [List.length_map] at this ⊢
    exact this
  · obtain ⟨_, c, e2⟩ := frz_get e
    refine h.at_ i v ?_
    unfold unf
    rw [List.getElem?_map, e2]; rfl
  · have := (frz_get e).1; cases this
  · have := (frz_get e).1; cases this
theorem KeyR.tups (hF : ∀ a vs, F a = some (.tup vs) → F' a = some (.tup vs)) {x : PV} {i : Int} {u : Value} (h : KeyR W F x i u) : KeyR W F' x i u := by
  cases h with
  | scal h1 h2 => exact .scal h1 h2
  | tup h1 h2 => exact .tup h1 (h2.imp (hF _ _) id)
theorem kv_tups (hF : ∀ a vs, F a = some (.tup vs) → F' a = some (.tup vs)) : ∀ {kvs : List (PV × PV)} {es : List DictEntry}, (kvs.all fun p => p.1.lf && p.2.lf) = true → RepD W F ph kvs es → RepD W F' ph kvs es
  | _, _, _, .nil => .nil
  | _, _, hc, .cons k r v t => by
    rw [List.all_cons, Bool.and_eq_true, Bool.and_eq_true] at hc
    exact .cons (k.tups hF) (r.tups hF hc.1.2) v (kv_tups hF hc.2 t)
/-- a content without lists leans on tuples alone -/
theorem lf_tups {v : PV} {a : Addr} {o : HO} (hc : clean (true, v) = true) (hF : ∀ a vs, F a = some (.tup vs) → F' a = some (.tup vs)) (r : ORep W F ph a v o) : ORep W F' ph a v o := by
  cases r with
  | lst r => exact .lst (r.tups hF hc)
  | dct h1 h2 h3 h4 h5 r =>
    rename_i kvs ob es ep
    exact .dct h1 h2 h3 h4 h5 (kv_tups hF hc r)
  | psI h1 h2 h3 => exact .psI h1 h2 h3
  | psT h1 h2 h3 => exact .psT h1 h2 fun p hm => (h3 p hm).imp (hF _ _) id
theorem thaw_tup (t : StOk W F0 ph0 H0 F ph hp env σ H) (e : Ext (frzF F env σ H) ph H F' ph' H') : ∀ a vs, F' a = some (.tup vs) → thawF F' env σ a = some (.tup vs) := by
  intro a vs h
  unfold thawF
  rw [if_neg]
  · exact h
  · intro z
    obtain ⟨i, v, h1, h2⟩ := z
    obtain ⟨b, o, h3, h4, h5, h6, h7, h8⟩ := t.s.own i v h1
    rw [h2] at h3
    cases h3
    have : frzF F env σ H a = some o := by
      unfold frzF
      rw [if_pos ⟨i, v, h1, h2⟩]; exact h7
    rw [e.le a o this] at h
    cases h
    cases h8
/-- what an expression that left a clean value leaves of the state -/
theorem StOk.thaw (t : StOk W F0 ph0 H0 F ph hp env σ H) (e : Ext (frzF F env σ H) ph H F' ph' H') (h : RelH W F' ph' hp' H') : StOk W F0 ph0 H0 (thawF F' env σ) ph' hp' env σ H' ∧ (∀ a o, F a = some o → thawF F' env σ a = some o) := by
  have le : ∀ a o, F a = some o → thawF F' env σ a = some o := by
    intro a o q
    unfold thawF
    rw [if_neg]
    · exact e.le a o (frzF_le t.s a o q)
    · intro z
      rw [(t.s.ownI z).1] at q; cases q
  have tu := thaw_tup t e
  have out : ∀ a, thawF F' env σ a ≠ none → ¬ ownA env σ a ∧ F' a ≠ none := by
    intro a q
    unfold thawF at q
    split at q
    · exact absurd rfl q
    · rename_i z; exact ⟨z, q⟩
  refine ⟨⟨⟨fun a o q => le a o (t.ext.le a o q), fun a q => ?_, fun n a q => e.pre n a (t.ext.pre n a q), fun a q => ?_, fun a o q n => ?_, fun a q => e.dom a (t.ext.dom a q)⟩,
    ⟨fun a o q => ?_, h.len, h.nd, fun n a v e1 e2 => ?_, h.cl, fun a vs q => h.td a vs (by
      unfold thawF at q
      split at q
      · cases q
      · exact q)⟩, ⟨t.s.len, fun i v q => ?_, fun i v q => ?_, t.s.dis⟩⟩, le⟩
  · obtain ⟨z, q⟩ := out a q
    rcases e.new a q with w | w
    · unfold frzF at w
      rw [if_neg z] at w
      exact t.ext.new a w
    · exact .inr (Classical.byContradiction fun y => t.ext.dom a y w)
  · rcases e.pnew a q with w | w
    · exact t.ext.pnew a w
    · exact .inr (Classical.byContradiction fun y => t.ext.dom a y w)
  · refine e.pres a o (t.ext.pres a o q n) fun w => ?_
    rcases t.ext.pnew a w with z | z
    · exact n z
    · rw [q] at z; cases z
  · obtain ⟨_, w⟩ := out a (by rw [q]; simp)
    unfold thawF at q
    split at q
    · cases q
    · exact h.sub a o q
  · obtain ⟨f, o, e3, r⟩ := h.sh n a v e1 e2
    refine ⟨?_, o, e3, lf_tups (h.cl n v e2) tu r⟩
    unfold thawF
    split
    · rfl
    · exact f
  · obtain ⟨x, h1, h2⟩ := t.s.val i v q
    exact ⟨x, h1, h2.mono le e.pre⟩
  · obtain ⟨a, o, h1, h2, h3, h4, h5, h6⟩ := t.s.own i v q
    refine ⟨a, o, h1, ?_, fun w => ?_, h4, e.pres a o h5 h3, h6.mono le e.pre⟩
    · unfold thawF
      rw [if_pos ⟨i, v, q, h1⟩]
    · rcases e.pnew a w with z | z
      · exact h3 z
      · rw [h5] at z; cases z
/-- .. a value with lists: nothing is own any more -/
theorem StOk.drop (t : StOk W F0 ph0 H0 F ph hp env σ H) (e : Ext (frzF F env σ H) ph H F' ph' H') (h : RelH W F' ph' hp' H') : StOk W F0 ph0 H0 F' ph' hp' (MP.frz env) σ H' := by
  obtain ⟨x1, r1, r2⟩ := t.frz
  exact ⟨x1.trans e, h, .of (r2.ext e)⟩
end
end MP
set_option maxRecDepth 100000
/-! MiniPy: steps of a body. -/
namespace MP
open PySem PySem.Spec PyProof.Rows L2
/-- behind an expression -/
structure Aft (W : Wd) (F0 : Hp) (ph0 : List Addr) (H0 F : Hp) (ph : List Addr) (H : Hp) (hp1 : Hs) (env' : FEnv) (σ : L2.St) (F' : Hp) (ph' : List Addr) (H' : Hp) : Prop where
  st : StOk W F0 ph0 H0 F' ph' hp1 env' σ H'
  le : ∀ a o, F a = some o → F' a = some o
  pre : ∀ (n : Nat) (a : Addr), ph[n]? = some a → ph'[n]? = some a
  dom : ∀ a, H a ≠ none → H' a ≠ none
  own : ∀ a, ownA env' σ a → H a ≠ none
section
variable {W : Wd} {G : Gl} {k : Nat} {C : Cc} {X : Cx} {F0 F H0 H F' H' : Hp} {ph0 ph ph' : List Addr} {hp hp1 hp' : Hs} {env : FEnv} {σ : L2.St}
theorem own_frz {a : Addr} (h : ownA (MP.frz env) σ a) : False := by
  obtain ⟨i, v, e, _⟩ := h
  have := (frz_get e).1
  cases this
theorem StOk.ownN (t : StOk W F0 ph0 H0 F ph hp env σ H) {a : Addr} (h : ownA env σ a) : H a ≠ none := by
  obtain ⟨_, _, _, o, e⟩ := t.s.ownI h
  rw [e]; simp
theorem thaw_RRep (t : StOk W F0 ph0 H0 F ph hp env σ H) (e : Ext (frzF F env σ H) ph H F' ph' H') {r : Rv} {x : V} (c : clean r = true) (rr : RRep W F' ph' H H' r x) : RRep W (thawF F' env σ) ph' H H' r x := by
  obtain ⟨b, v⟩ := r
  unfold RRep at rr ⊢
  cases b with
  | true =>
    simp only [if_true] at rr ⊢
    obtain ⟨a, o, h1, h2, h3, h4, h5, h6⟩ := rr
    refine ⟨a, o, h1, ?_, h3, h4, h5, lf_tups c (thaw_tup t e) h6⟩
    unfold thawF
    split
    · rfl
    · exact h2
  | false =>
    simp only [Bool.false_eq_true, if_false] at rr ⊢
    exact rr.tups (thaw_tup t e) c
theorem ex_step {m : ME} {r : Rv} {Q : VK} (t : StOk W F0 ph0 H0 F ph hp env σ H) (e : ev G.cst (callF G k) m (unf env) hp = some (r, hp1))
    (q : ∀ F' ph' x H', Aft W F0 ph0 H0 F ph H hp1 (keep r env) σ F' ph' H' → RRep W F' ph' H H' r x → Q x H') : tE W G k m σ H Q := by
  obtain ⟨x1, r1, r2⟩ := t.frz
  refine ⟨frzF F env σ H, ph, hp, unf env, r, hp1, r1, r2, e, fun F' ph' x H' e' h' rr => ?_⟩
  by_cases c : clean r = true
  · obtain ⟨t', le⟩ := t.thaw e' h'
    have kp : keep r env = env := by unfold keep; rw [if_pos c]
    rw [kp] at q
    exact q _ ph' x H' ⟨t', le, e'.pre, e'.dom, fun a z => t.ownN z⟩ (thaw_RRep t e' c rr)
  · have kp : keep r env = MP.frz env := by unfold keep; rw [if_neg c]
    rw [kp] at q
    exact q F' ph' x H' ⟨t.drop e' h', fun a o z => e'.le a o (frzF_le t.s a o z), e'.pre, e'.dom, fun a z => (own_frz z).elim⟩ rr
/-- arguments that are ints -/
theorem exL_step {m : ME} {vs : List PV} {Q : List V → Hp → Prop} (t : StOk W F0 ph0 H0 F ph hp env σ H) (e : evL G.cst (callF G k) m (unf env) hp = some (vs, hp1)) (hl : lfAll vs = true)
    (q : ∀ F' ph' xs H', Aft W F0 ph0 H0 F ph H hp1 env σ F' ph' H' → RepA W F' ph' vs xs → Q xs H') : tL W G k m σ H Q := by
  obtain ⟨x1, r1, r2⟩ := t.frz
  refine ⟨frzF F env σ H, ph, hp, unf env, vs, hp1, r1, r2, e, fun F' ph' xs H' e' h' rr => ?_⟩
  obtain ⟨t', le⟩ := t.thaw e' h'
  exact q _ ph' xs H' ⟨t', le, e'.pre, e'.dom, fun a z => t.ownN z⟩ (rr.tups (thaw_tup t e') hl)
/-- a slot's own object frozen -/
theorem StOk.frzAt (t : StOk W F0 ph0 H0 F ph hp env σ H) {i : Nat} {r : Rv} (h : env[i]? = some (some r)) : ∃ F' x, σ[i]? = some (some x) ∧ Rep W F' ph r.2 x ∧ Aft W F0 ph0 H0 F ph H hp (MP.frzAt i env) σ F' ph H := by
  obtain ⟨b, v⟩ := r
  have hil : i < env.length := (List.getElem?_eq_some_iff.mp h).1
  have fz : MP.frzAt i env = env.set i (some (false, v)) := by unfold MP.frzAt; rw [h]; rfl
  rw [fz]
  have get : ∀ (j : Nat) (c : Bool) (u : PV), (env.set i (some (false, v)))[j]? = some (some (c, u)) → (j = i ∧ c = false ∧ u = v) ∨ (j ≠ i ∧ env[j]? = some (some (c, u))) := by
    intro j c u e
    by_cases hj : i = j
    · subst hj
      rw [List.getElem?_set_self hil] at e
      cases e
      exact .inl ⟨rfl, rfl, rfl⟩
    · rw [List.getElem?_set_ne hj] at e
      exact .inr ⟨fun z => hj z.symm, e⟩
  have ow : ∀ a, ownA (env.set i (some (false, v))) σ a → ownA env σ a := by
    rintro a ⟨j, u, e1, e2⟩
    rcases get j true u e1 with ⟨_, z, _⟩ | ⟨_, e⟩
    · cases z
    · exact ⟨j, u, e, e2⟩
  cases b with
  | false =>
    obtain ⟨x, h1, h2⟩ := t.s.val i v h
    refine ⟨F, x, h1, h2, ⟨⟨t.ext, t.rel, ⟨by rw [List.length_set]; exact t.s.len, fun j u e => ?_, fun j u e => ?_, fun j l u w a e1 e2 hn => ?_⟩⟩, fun _ _ z => z, fun _ _ z => z, fun _ z => z, fun a z => t.ownN (ow a z)⟩⟩
    · rcases get j false u e with ⟨rfl, _, rfl⟩ | ⟨_, e⟩
      · exact ⟨x, h1, h2⟩
      · exact t.s.val j u e
    · rcases get j true u e with ⟨_, z, _⟩ | ⟨_, e⟩
      · cases z
      · exact t.s.own j u e
    · rcases get j true u e1 with ⟨_, z, _⟩ | ⟨_, e1⟩
      · cases z
      rcases get l true w e2 with ⟨_, z, _⟩ | ⟨_, e2⟩
      · cases z
      exact t.s.dis j l u w a e1 e2 hn
  | true =>
    obtain ⟨a, o, h1, h2, h3, h4, h5, h6⟩ := t.s.own i v h
    have le := le_upd (o := o) h2
    have rep : Rep W (upd F a o) ph v (.ref a) := .obj upd_same (h6.mono le fun _ _ z => z)
    refine ⟨upd F a o, .ref a, h1, rep, ⟨⟨⟨fun b q z => le b q (t.ext.le b q z), fun b z => ?_, t.ext.pre, t.ext.pnew, t.ext.pres, t.ext.dom⟩, t.rel.freeze (.inl h5) h2 h3 (fun vs z => absurd z (h6.no_tup vs)), ⟨by rw [List.length_set]; exact t.s.len, fun j u e => ?_, fun j u e => ?_, fun j l u w b e1 e2 hn => ?_⟩⟩, le, fun _ _ z => z, fun _ z => z, fun a z => t.ownN (ow a z)⟩⟩
    · by_cases hb : b = a
      · subst hb; exact .inr h4
      · rw [upd_ne hb] at z; exact t.ext.new b z
    · rcases get j false u e with ⟨rfl, _, rfl⟩ | ⟨_, e⟩
      · exact ⟨_, h1, rep⟩
      · obtain ⟨x, e1, e2⟩ := t.s.val j u e
        exact ⟨x, e1, e2.mono le fun _ _ z => z⟩
    · rcases get j true u e with ⟨_, z, _⟩ | ⟨hj, e⟩
      · cases z
      obtain ⟨b, p, g1, g2, g3, g4, g5, g6⟩ := t.s.own j u e
      refine ⟨b, p, g1, ?_, g3, g4, g5, g6.mono le fun _ _ z => z⟩
      rw [upd_ne]
      · exact g2
      · rintro rfl
        exact t.s.dis i j v u b h e (fun z => hj z.symm) h1 g1
    · rcases get j true u e1 with ⟨_, z, _⟩ | ⟨_, e1⟩
      · cases z
      rcases get l true w e2 with ⟨_, z, _⟩ | ⟨_, e2⟩
      · cases z
      exact t.s.dis j l u w b e1 e2 hn
/-- a name, or an expression -/
def tK (W : Wd) (G : Gl) (k : Nat) (m : ME) : TE := match m.varOf with
  | some i => tVar i
  | none => tE W G k m
theorem exK_step {m : ME} {r : Rv} {env' : FEnv} {Q : VK} (t : StOk W F0 ph0 H0 F ph hp env σ H) (e : evK G.cst (callF G k) m env hp = some (r, env', hp1))
    (q : ∀ F' ph' x H', Aft W F0 ph0 H0 F ph H hp1 env' σ F' ph' H' → RRep W F' ph' H H' r x → Q x H') : tK W G k m σ H Q := by
  unfold evK at e
  unfold tK
  split at e
  · rename_i i hi
    rw [hi]
    obtain ⟨p, h1, h2⟩ := Option.map_eq_some_iff.mp e
    cases h2
    have h3 : env[i]? = some (some p) := by
      cases z : env[i]? with
      | none => rw [z] at h1; cases h1
      | some o => rw [z] at h1; exact congrArg some h1
    obtain ⟨F2, x, e1, e2, af⟩ := t.frzAt h3
    exact ⟨x, e1, q F2 ph x H af (RRep.of e2)⟩
  · rename_i hi
    rw [hi]
    obtain ⟨p, h1, h2⟩ := Option.map_eq_some_iff.mp e
    cases h2
    exact ex_step t h1 q
theorem varOf_some {m : ME} {i : Nat} (h : m.varOf = some i) : m = .var i := by
  unfold ME.varOf at h
  split at h <;> cases h
  rfl
theorem pe_K (ok : XOk W G k C X) {m : ME} {e : Expr} (h : chk G m C e = true) : PE X e (tK W G k m) := by
  unfold tK
  split
  · rename_i i hi
    rw [varOf_some hi] at h
    unfold chk at h
    split at h <;> simp at h
    obtain ⟨⟨⟨a, b⟩, c⟩, d⟩ := h
    exact pe_var (by rw [ok.N]; exact a) (vis_of ok b) (by simpa using c) (by simpa using d)
  · exact ((s_any m).1 C X e ok h).1
/-- a slot stored -/
theorem StOk.set (t : StOk W F0 ph0 H0 F ph hp env σ H) {i : Nat} {r : Rv} {x : V} {Hs : Hp} (hd : ∀ a, H0 a ≠ none → Hs a ≠ none) (ho : ∀ a, ownA env σ a → Hs a ≠ none) (rr : RRep W F ph Hs H r x) : StOk W F0 ph0 H0 F ph hp (env.set i (some r)) (σ.set i (some x)) H := by
  obtain ⟨b, v⟩ := r
  have len := t.s.len
  have get : ∀ (j : Nat) (c : Bool) (u : PV), (env.set i (some (b, v)))[j]? = some (some (c, u)) → (j = i ∧ c = b ∧ u = v ∧ (σ.set i (some x))[j]? = some (some x)) ∨ (j ≠ i ∧ env[j]? = some (some (c, u)) ∧ (σ.set i (some x))[j]? = σ[j]?) := by
    intro j c u e
    by_cases hj : i = j
    · subst hj
      by_cases hl : i < env.length
      · rw [List.getElem?_set_self hl] at e
        cases e
        exact .inl ⟨rfl, rfl, rfl, by rw [List.getElem?_set_self (by rw [← len]; exact hl)]⟩
      · rw [List.getElem?_eq_none (by rw [List.length_set]; omega)] at e; cases e
    · rw [List.getElem?_set_ne hj] at e
      exact .inr ⟨fun z => hj z.symm, e, by rw [List.getElem?_set_ne hj]⟩
  refine ⟨t.ext, t.rel, ⟨by rw [List.length_set, List.length_set]; exact len, fun j u e => ?_, fun j u e => ?_, fun j l u w a e1 e2 hn e3 e4 => ?_⟩⟩
  · rcases get j false u e with ⟨rfl, rfl, rfl, z⟩ | ⟨_, e, z⟩
    · unfold RRep at rr
      simp only [Bool.false_eq_true, if_false] at rr
      exact ⟨x, z, rr⟩
    · rw [z]; exact t.s.val j u e
  · rcases get j true u e with ⟨rfl, rfl, rfl, z⟩ | ⟨_, e, z⟩
    · unfold RRep at rr
      simp only [if_true] at rr
      obtain ⟨a, o, rfl, h2, h3, h4, h5, h6⟩ := rr
      exact ⟨a, o, z, h2, h3, Classical.byContradiction fun y => hd a y h4, h5, h6⟩
    · rw [z]; exact t.s.own j u e
  · have key : ∀ (l : Nat) (w : PV), b = true → x = .ref a → env[l]? = some (some (true, w)) → σ[l]? = some (some (V.ref a)) → False := by
      intro l w hb hx hw hs
      subst hb
      unfold RRep at rr
      simp only [if_true] at rr
      obtain ⟨a', o, h1, h2, h3, h4, h5, h6⟩ := rr
      rw [hx] at h1
      cases h1
      exact ho a ⟨l, w, hw, hs⟩ h4
    rcases get j true u e1 with ⟨rfl, hb, rfl, z⟩ | ⟨hj, e1', z⟩
    · rcases get l true w e2 with ⟨rfl, _, _, _⟩ | ⟨_, e2', z2⟩
      · exact hn rfl
      · rw [z] at e3; rw [z2] at e4
        cases e3
        exact key l w hb.symm rfl e2' e4
    · rcases get l true w e2 with ⟨rfl, hb, _, z2⟩ | ⟨_, e2', z2⟩
      · rw [z] at e3; rw [z2] at e4
        cases e4
        exact key j u hb.symm rfl e1' e3
      · rw [z] at e3; rw [z2] at e4
        exact t.s.dis j l u w a e1' e2' hn e3 e4
theorem Aft.set (t0 : StOk W F0 ph0 H0 F ph hp env σ H) {env' : FEnv} (a : Aft W F0 ph0 H0 F ph H hp1 env' σ F' ph' H') {i : Nat} {r : Rv} {x : V} (rr : RRep W F' ph' H H' r x) : StOk W F0 ph0 H0 F' ph' hp1 (env'.set i (some r)) (σ.set i (some x)) H' :=
  a.st.set (fun a z => t0.ext.dom a z) a.own rr
/-- a value without lists: the state is kept, the value is no object of one's own -/
theorem lf_keep {r : Rv} {x : V} {Hs : Hp} (rr : RRep W F ph Hs H r x) (h : r.2.lf = true) : keep r env = env ∧ Rep W F ph r.2 x := by
  obtain ⟨b, v⟩ := r
  unfold RRep at rr
  cases b with
  | true =>
    simp only [if_true] at rr
    obtain ⟨a, o, _, _, _, _, _, r⟩ := rr
    cases r <;> simp [PV.lf] at h
  | false =>
    simp only [Bool.false_eq_true, if_false] at rr
    refine ⟨?_, rr⟩
    unfold keep
    rw [if_pos]
    exact h
theorem ref_at {n : Nat} {x : V} (r : Rep W F ph (.ref n) x) : ∃ a, x = .ref a ∧ ph[n]? = some a := by
  cases r with
  | ref h => exact ⟨_, rfl, h⟩
  | obj e q => cases q
/-- a shared object changed -/
theorem StOk.mutR (t : StOk W F0 ph0 H0 F ph hp env σ H) {m : Nat} {a : Addr} {c c' : PV} (ha : ph[m]? = some a) (hc : hp[m]? = some c) (hcl : clean (true, c) = true → clean (true, c') = true) :
    ∃ o, H a = some o ∧ ORep W F ph a c o ∧ ∀ o', ORep W F ph a c' o' → StOk W F0 ph0 H0 F ph (hp.set m c') env σ (upd H a o') := by
  obtain ⟨f1, o, e3, r⟩ := t.rel.sh m a c ha hc
  refine ⟨o, e3, r, fun o' r' => ⟨⟨t.ext.le, t.ext.new, t.ext.pre, t.ext.pnew, fun b q h hn => ?_, fun b h => ?_⟩, ⟨fun b q e => ?_, by rw [List.length_set]; exact t.rel.len, t.rel.nd, fun i b v e1 e2 => ?_, fun i v e2 => ?_, fun b vs e => ?_⟩, ⟨t.s.len, t.s.val, fun j u e => ?_, t.s.dis⟩⟩⟩
  · have ne : b ≠ a := by
      rintro rfl
      rcases t.ext.pnew b (List.mem_of_getElem? ha) with z | z
      · exact hn z
      · rw [h] at z; cases z
    rw [upd_ne ne]; exact t.ext.pres b q h hn
  · by_cases z : b = a
    · subst z; rw [upd_same]; simp
    · rw [upd_ne z]; exact t.ext.dom b h
  · have ne : b ≠ a := fun z => by rw [z, f1] at e; cases e
    rcases t.rel.sub b q e with e | ⟨y, e⟩
    · exact .inl (by rw [upd_ne ne]; exact e)
    · exact .inr ⟨y, by rw [upd_ne ne]; exact e⟩
  · by_cases hi : m = i
    · subst hi
      rw [ha] at e1
      cases e1
      rw [List.getElem?_set_self (List.getElem?_eq_some_iff.mp hc).1] at e2
      cases e2
      exact ⟨f1, o', upd_same, r'⟩
    · rw [List.getElem?_set_ne hi] at e2
      obtain ⟨k1, q, k2, k3⟩ := t.rel.sh i b v e1 e2
      have ne : b ≠ a := by
        rintro rfl
        have hm : m < ph.length := (List.getElem?_eq_some_iff.mp ha).1
        have hi2 : i < ph.length := (List.getElem?_eq_some_iff.mp e1).1
        exact hi ((List.getElem_inj t.rel.nd).mp ((List.getElem?_eq_some_iff.mp ha).2.trans (List.getElem?_eq_some_iff.mp e1).2.symm))
      exact ⟨k1, q, by rw [upd_ne ne]; exact k2, k3⟩
  · by_cases hi : m = i
    · subst hi
      rw [List.getElem?_set_self (List.getElem?_eq_some_iff.mp hc).1] at e2
      cases e2
      exact hcl (t.rel.cl m c hc)
    · rw [List.getElem?_set_ne hi] at e2
      exact t.rel.cl i v e2
  · have ne : b ≠ a := fun z => by rw [z, f1] at e; cases e
    obtain ⟨ob, e1, e2⟩ := t.rel.td b vs e
    exact ⟨ob, by rw [upd_ne ne]; exact e1, e2⟩
  · obtain ⟨b, p, k1, k2, k3, k4, k5, k6⟩ := t.s.own j u e
    refine ⟨b, p, k1, k2, k3, k4, ?_, k6⟩
    rw [upd_ne]
    · exact k5
    · rintro rfl
      exact k3 (List.mem_of_getElem? ha)
/-- a slot's own object changed -/
theorem StOk.mutO (t : StOk W F0 ph0 H0 F ph hp env σ H) {n : Nat} {v : PV} (hv : env[n]? = some (some (true, v))) :
    ∃ a o, σ[n]? = some (some (V.ref a)) ∧ H a = some o ∧ ORep W F ph a v o ∧ ∀ c' o', ORep W F ph a c' o' → StOk W F0 ph0 H0 F ph hp (env.set n (some (true, c'))) σ (upd H a o') := by
  obtain ⟨a, o, g1, g2, g3, g4, g5, g6⟩ := t.s.own n v hv
  refine ⟨a, o, g1, g5, g6, fun c' o' r' => ⟨t.ext.put g4, t.rel.put g2 g3, ⟨by rw [List.length_set]; exact t.s.len, fun j u e => ?_, fun j u e => ?_, fun j l u w b e1 e2 => ?_⟩⟩⟩
  all_goals have hnl : n < env.length := (List.getElem?_eq_some_iff.mp hv).1
  · by_cases hj : n = j
    · subst hj; rw [List.getElem?_set_self hnl] at e; cases e
    · rw [List.getElem?_set_ne hj] at e; exact t.s.val j u e
  · by_cases hj : n = j
    · subst hj
      rw [List.getElem?_set_self hnl] at e
      cases e
      exact ⟨a, o', g1, g2, g3, g4, upd_same, r'⟩
    · rw [List.getElem?_set_ne hj] at e
      obtain ⟨b, p, k1, k2, k3, k4, k5, k6⟩ := t.s.own j u e
      refine ⟨b, p, k1, k2, k3, k4, ?_, k6⟩
      rw [upd_ne]
      · exact k5
      · rintro rfl
        exact t.s.dis n j v u b hv e hj g1 k1
  · have tr : ∀ (j : Nat) (u : PV), (env.set n (some (true, c')))[j]? = some (some (true, u)) → ∃ u', env[j]? = some (some (true, u')) := by
      intro j u e
      by_cases hj : n = j
      · subst hj; exact ⟨v, hv⟩
      · rw [List.getElem?_set_ne hj] at e; exact ⟨u, e⟩
    obtain ⟨u', e1⟩ := tr j u e1
    obtain ⟨w', e2⟩ := tr l w e2
    exact t.s.dis j l u' w' b e1 e2
/-- the object of a slot changed -/
theorem StOk.mut (t : StOk W F0 ph0 H0 F ph hp env σ H) {n : Nat} {f : PV → Option PV} {res : Flow × FEnv × Hs} (e : mutF n f env hp = some res) (hcl : ∀ c c', clean (true, c) = true → f c = some c' → clean (true, c') = true) :
    ∃ a c c' o, σ[n]? = some (some (V.ref a)) ∧ H a = some o ∧ ORep W F ph a c o ∧ f c = some c' ∧ res.1 = .nx ∧ ∀ o', ORep W F ph a c' o' → StOk W F0 ph0 H0 F ph res.2.2 res.2.1 σ (upd H a o') := by
  unfold mutF at e
  split at e
  · rename_i v hv
    obtain ⟨c', h1, rfl⟩ := Option.map_eq_some_iff.mp e
    obtain ⟨a, o, g1, g5, g6, z⟩ := t.mutO hv
    exact ⟨a, v, c', o, g1, g5, g6, h1, rfl, fun o' r' => z c' o' r'⟩
  · rename_i m hv
    obtain ⟨c', h1, rfl⟩ := Option.map_eq_some_iff.mp e
    obtain ⟨c, hc, h1⟩ := Option.bind_eq_some_iff.mp h1
    obtain ⟨x, g1, g2⟩ := t.s.val n _ hv
    obtain ⟨a, rfl, ha⟩ := ref_at g2
    obtain ⟨o, e3, r, z⟩ := t.mutR ha hc fun w => hcl c c' w h1
    exact ⟨a, c, c', o, g1, e3, r, h1, rfl, z⟩
  · cases e
end
end MP
set_option maxRecDepth 100000
/-! MiniPy: statements over the machine. -/
namespace MP
open PySem PySem.Spec PyProof.Rows L2
structure LeF (F : Hp) (ph : List Addr) (F' : Hp) (ph' : List Addr) : Prop where
  le : ∀ a o, F a = some o → F' a = some o
  pre : ∀ (n : Nat) (a : Addr), ph[n]? = some a → ph'[n]? = some a
theorem LeF.refl {F : Hp} {ph : List Addr} : LeF F ph F ph := ⟨fun _ _ z => z, fun _ _ z => z⟩
theorem LeF.trans {F F1 F2 : Hp} {ph ph1 ph2 : List Addr} (a : LeF F ph F1 ph1) (b : LeF F1 ph1 F2 ph2) : LeF F ph F2 ph2 := ⟨fun x o z => b.le x o (a.le x o z), fun n x z => b.pre n x (a.pre n x z)⟩
def Fin (W : Wd) (F0 : Hp) (ph0 : List Addr) (H0 F : Hp) (ph : List Addr) (D : Ends) (res : Flow × FEnv × Hs) : Prop := match res.1 with
  | .nx => ∀ F' ph' σ H, StOk W F0 ph0 H0 F' ph' res.2.2 res.2.1 σ H → LeF F ph F' ph' → D.nx σ H
  | .bk => ∀ F' ph' σ H, StOk W F0 ph0 H0 F' ph' res.2.2 res.2.1 σ H → LeF F ph F' ph' → D.bk σ H
  | .ct => ∀ F' ph' σ H, StOk W F0 ph0 H0 F' ph' res.2.2 res.2.1 σ H → LeF F ph F' ph' → D.ct σ H
  | .rt r => ∀ F' ph' x H, Ext F0 ph0 H0 F' ph' H → RelH W F' ph' res.2.2 H → RRep W F' ph' H0 H r x → D.rt x H
def tX (W : Wd) (G : Gl) (k : Nat) (m : MS) : TS := fun D σ H => ∃ F0 ph0 H0 F ph hp env res, StOk W F0 ph0 H0 F ph hp env σ H ∧ exec G.cst (callF G k) WF m env hp = some res ∧ Fin W F0 ph0 H0 F ph D res
theorem PS_imp {X : Cx} {st : Stmt} {t t' : TS} (h : PS X st t) (i : ∀ D σ H, t' D σ H → t D σ H) : PS X st t' := ⟨fun pins s σ H D I q => h.run pins s σ H D I (i D σ H q)⟩
theorem PSs_imp {X : Cx} {st : List Stmt} {t t' : TS} (h : PSs X st t) (i : ∀ D σ H, t' D σ H → t D σ H) : PSs X st t' := ⟨fun pins s σ H D I q => h.run pins s σ H D I (i D σ H q)⟩
section
variable {W : Wd} {G : Gl} {k : Nat} {C : Cc} {X : Cx}
theorem Fin.le {F0 F F' H0 : Hp} {ph0 ph ph' : List Addr} {D : Ends} {res : Flow × FEnv × Hs} (f : Fin W F0 ph0 H0 F ph D res) (l : LeF F ph F' ph') : Fin W F0 ph0 H0 F' ph' D res := by
  obtain ⟨fl, env, hp⟩ := res
  cases fl with
  | nx => exact fun F2 ph2 σ H t l2 => f F2 ph2 σ H t (l.trans l2)
  | bk => exact fun F2 ph2 σ H t l2 => f F2 ph2 σ H t (l.trans l2)
  | ct => exact fun F2 ph2 σ H t l2 => f F2 ph2 σ H t (l.trans l2)
  | rt r => exact f
theorem Aft.lf {F0 F F' H0 H H' : Hp} {ph0 ph ph' : List Addr} {hp1 : Hs} {env' : FEnv} {σ : L2.St} (a : Aft W F0 ph0 H0 F ph H hp1 env' σ F' ph' H') : LeF F ph F' ph' := ⟨a.le, a.pre⟩
theorem x_nil : PSs X [] (tX W G k .nil) := by
  refine PSs_imp pss_nil ?_
  rintro D σ H ⟨F0, ph0, H0, F, ph, hp, env, res, t, e, f⟩
  simp only [exec] at e
  cases e
  exact f F ph σ H t .refl
theorem x_cons {s r : MS} {st : Stmt} {sts : List Stmt} (h1 : PS X st (tX W G k s)) (h2 : PSs X sts (tX W G k r)) : PSs X (st :: sts) (tX W G k (.cons s r)) := by
  refine PSs_imp (pss_cons h1 h2) ?_
  rintro D σ H ⟨F0, ph0, H0, F, ph, hp, env, res, t, e, f⟩
  simp only [exec] at e
  obtain ⟨r1, e1, e2⟩ := Option.bind_eq_some_iff.mp e
  refine ⟨F0, ph0, H0, F, ph, hp, env, r1, t, e1, ?_⟩
  obtain ⟨fl, env1, hp1⟩ := r1
  cases fl with
  | nx => exact fun F' ph' σ' H' t' l => ⟨F0, ph0, H0, F', ph', hp1, env1, res, t', e2, f.le l⟩
  | bk => cases e2; exact f
  | ct => cases e2; exact f
  | rt v => cases e2; exact f
/-! ### stores -/
theorem x_set {i : Nat} {m : ME} {st : Stmt} {te : TE} (h : PS X st (tAsg te (gName i))) (hi : ∀ σ H Q, tK W G k m σ H Q → te σ H Q) : PS X st (tX W G k (.asg (.nm i) m)) := by
  refine PS_imp h ?_
  rintro D σ H ⟨F0, ph0, H0, F, ph, hp, env, res, t, e, f⟩
  simp only [exec] at e
  obtain ⟨p, e1, e2⟩ := Option.bind_eq_some_iff.mp e
  cases e2
  refine hi σ H _ (exK_step t e1 fun F' ph' x H' a rr => ?_)
  exact f F' ph' _ H' (a.set t rr) a.lf
theorem vis_get {env : FEnv} {i : Nat} {v : PV} : (vis env)[i]? = some (some v) ↔ env[i]? = some (some (false, v)) := by
  unfold vis
  rw [List.getElem?_map]
  cases e : env[i]? with
  | none => simp
  | some o =>
    cases o with
    | none => simp [vis1]
    | some p => obtain ⟨b, u⟩ := p; cases b <;> simp [vis1]
theorem vis_set {env : FEnv} {i : Nat} {v : PV} : vis (env.set i (some (false, v))) = (vis env).set i (some v) := by
  unfold vis
  rw [List.map_set]; rfl
mutual
theorem setF_vis : ∀ (t : Tg) (v : PV) (env env2 : FEnv), setF t v env = some env2 → setTg t v (vis env) = some (vis env2) ∧ env2.length = env.length ∧ ∀ (j : Nat) (u : PV), env2[j]? = some (some (true, u)) → env[j]? = some (some (true, u)) ∧ j ∉ t.slots
  | .nm i, v, env, env2, h => by
    simp only [setF] at h
    cases h
    refine ⟨by rw [vis_set]; rfl, List.length_set, fun j u e => ?_⟩
    by_cases hj : i = j
    · subst hj
      by_cases hl : i < env.length
      · rw [List.getElem?_set_self hl] at e; cases e
      · rw [List.getElem?_eq_none (by rw [List.length_set]; omega)] at e; cases e
    · rw [List.getElem?_set_ne hj] at e
      exact ⟨e, by simp [Tg.slots]; exact fun z => hj z.symm⟩
  | .tp ts, v, env, env2, h => by
    simp only [setF, Option.bind_eq_some_iff] at h
    obtain ⟨xs, hx, h⟩ := h
    obtain ⟨a, b, c⟩ := setFs_vis ts xs env env2 h
    exact ⟨by simp only [setTg, hx, Option.bind_some]; exact a, b, fun j u e => ⟨(c j u e).1, by simpa [Tg.slots] using (c j u e).2⟩⟩
  | .nil, _, _, _, h => by simp [setF] at h
  | .cons _ _, _, _, _, h => by simp [setF] at h
theorem setFs_vis : ∀ (t : Tg) (v : List PV) (env env2 : FEnv), setFs t v env = some env2 → setTgs t v (vis env) = some (vis env2) ∧ env2.length = env.length ∧ ∀ (j : Nat) (u : PV), env2[j]? = some (some (true, u)) → env[j]? = some (some (true, u)) ∧ j ∉ t.slots
  | .nil, v, env, env2, h => by
    cases v with
    | nil => simp only [setFs] at h; cases h; exact ⟨rfl, rfl, fun j u e => ⟨e, by simp [Tg.slots]⟩⟩
    | cons _ _ => simp [setFs] at h
  | .cons t ts, v, env, env2, h => by
    cases v with
    | nil => simp [setFs] at h
    | cons x xs =>
      simp only [setFs, Option.bind_eq_some_iff] at h
      obtain ⟨env1, h1, h2⟩ := h
      obtain ⟨a1, b1, c1⟩ := setF_vis t x env env1 h1
      obtain ⟨a2, b2, c2⟩ := setFs_vis ts xs env1 env2 h2
      refine ⟨by simp only [setTgs, a1, Option.bind_some]; exact a2, b2.trans b1, fun j u e => ?_⟩
      obtain ⟨d1, d2⟩ := c2 j u e
      obtain ⟨d3, d4⟩ := c1 j u d1
      exact ⟨d3, by simp only [Tg.slots, List.mem_append, not_or]; exact ⟨d4, d2⟩⟩
  | .nm _, _, _, _, h => by simp [setFs] at h
  | .tp _, _, _, _, h => by simp [setFs] at h
end
theorem StOk.setT {F0 F H0 H : Hp} {ph0 ph : List Addr} {hp : Hs} {env env2 : FEnv} {σ : L2.St} {tg : Tg} {v : PV} (t : StOk W F0 ph0 H0 F ph hp env σ H) (e : setF tg v env = some env2) :
    RelE W F ph (vis env) σ ∧ setTg tg v (vis env) = some (vis env2) ∧ ∀ σ1, RelE W F ph (vis env2) σ1 → σ1.length = σ.length → (∀ j, j ∉ tg.slots → σ1[j]? = σ[j]?) → StOk W F0 ph0 H0 F ph hp env2 σ1 H := by
  obtain ⟨a, b, c⟩ := setF_vis tg v env env2 e
  refine ⟨⟨by unfold vis; rw [List.length_map]; exact t.s.len, fun i u h => t.s.val i u (vis_get.mp h)⟩, a, fun σ1 hE hl hj => ⟨t.ext, t.rel, ⟨?_, fun i u h => ?_, fun i u h => ?_, fun i j u w x h1 h2 hn e1 e2 => ?_⟩⟩⟩
  · rw [b, hl]; exact t.s.len
  · exact hE.at_ i u (vis_get.mpr h)
  · obtain ⟨h1, h2⟩ := c i u h
    rw [hj i h2]
    exact t.s.own i u h1
  · obtain ⟨g1, g2⟩ := c i u h1
    obtain ⟨g3, g4⟩ := c j w h2
    rw [hj i g2] at e1
    rw [hj j g4] at e2
    exact t.s.dis i j u w x g1 g3 hn e1 e2
theorem exL2_step {F0 F H0 H : Hp} {ph0 ph : List Addr} {hp hp1 : Hs} {env : FEnv} {σ : L2.St} {m : ME} {vs : List PV} {Q : List V → Hp → Prop} (t : StOk W F0 ph0 H0 F ph hp env σ H) (e : evL G.cst (callF G k) m (unf env) hp = some (vs, hp1))
    (q : ∀ F' ph' xs H', Aft W F0 ph0 H0 F ph H hp1 (keep (false, .tup vs) env) σ F' ph' H' → RepA W F' ph' vs xs → Q xs H') : tL W G k m σ H Q := by
  by_cases c : lfAll vs = true
  · have kp : keep (false, .tup vs) env = env := by unfold keep; rw [if_pos]; exact c
    rw [kp] at q
    exact exL_step t e c q
  · have kp : keep (false, .tup vs) env = MP.frz env := by unfold keep; rw [if_neg]; exact c
    rw [kp] at q
    obtain ⟨x1, r1, r2⟩ := t.frz
    refine ⟨frzF F env σ H, ph, hp, unf env, vs, hp1, r1, r2, e, fun F' ph' xs H' e' h' rr => ?_⟩
    exact q F' ph' xs H' ⟨t.drop e' h', fun a o z => e'.le a o (frzF_le t.s a o z), e'.pre, e'.dom, fun a z => (own_frz z).elim⟩ rr
/-- a, b = x, y -/
theorem x_par {i j : Nat} {a b : ME} {st : Stmt} (h : PS X st (tPar i j (tL W G k (.cons a (.cons b .nil))))) : PS X st (tX W G k (.asg (.tp (.cons (.nm i) (.cons (.nm j) .nil))) (.tup (.cons a (.cons b .nil))))) := by
  refine PS_imp h ?_
  rintro D σ H ⟨F0, ph0, H0, F, ph, hp, env, res, t, e, f⟩
  simp only [exec, evK, ME.varOf] at e
  obtain ⟨p, e1, e2⟩ := Option.bind_eq_some_iff.mp e
  obtain ⟨env2, e3, e4⟩ := Option.map_eq_some_iff.mp e2
  cases e4
  obtain ⟨p', e5, e6⟩ := Option.map_eq_some_iff.mp e1
  cases e6
  simp only [ev] at e5
  obtain ⟨q, e7, hl, e8⟩ := mk_some e5
  cases e8
  refine exL2_step t e7 fun F' ph' xs H' af rs => ?_
  have cnt := evL_count _ e7
  simp only [ME.count] at cnt
  obtain ⟨vs, hpq⟩ := q
  match vs, cnt, e3, af, rs, e7 with
  | [v, w], _, e3, af, rs, e7 =>
    obtain ⟨x, y, rfl, rx, ry⟩ := rs.two
    simp only [setF, seqP, Option.bind_some, setFs] at e3
    cases e3
    refine ⟨x, y, rfl, ?_⟩
    have s1 := af.set t (i := i) (RRep.of rx)
    have s2 := s1.set (i := j) (r := (false, w)) (x := y) (Hs := H') (fun a z => s1.ext.dom a z) (fun a z => s1.ownN z) (RRep.of ry)
    exact f F' ph' _ H' s2 af.lf
  | [], cnt, _, _, _, _ => simp at cnt
  | [_], cnt, _, _, _, _ => simp at cnt
  | _ :: _ :: _ :: _, cnt, _, _, _, _ => simp at cnt
theorem x_par3 {i j l : Nat} {a b c : ME} {st : Stmt} (h : PS X st (tPar3 i j l (tL W G k (.cons a (.cons b (.cons c .nil)))))) : PS X st (tX W G k (.asg (.tp (.cons (.nm i) (.cons (.nm j) (.cons (.nm l) .nil)))) (.tup (.cons a (.cons b (.cons c .nil)))))) := by
  refine PS_imp h ?_
  rintro D σ H ⟨F0, ph0, H0, F, ph, hp, env, res, t, e, f⟩
  simp only [exec, evK, ME.varOf] at e
  obtain ⟨p, e1, e2⟩ := Option.bind_eq_some_iff.mp e
  obtain ⟨env2, e3, e4⟩ := Option.map_eq_some_iff.mp e2
  cases e4
  obtain ⟨p', e5, e6⟩ := Option.map_eq_some_iff.mp e1
  cases e6
  simp only [ev] at e5
  obtain ⟨q, e7, hl, e8⟩ := mk_some e5
  cases e8
  refine exL2_step t e7 fun F' ph' xs H' af rs => ?_
  have cnt := evL_count _ e7
  simp only [ME.count] at cnt
  obtain ⟨vs, hpq⟩ := q
  match vs, cnt, e3, af, rs, e7 with
  | [v, w, u], _, e3, af, rs, e7 =>
    cases rs with
    | cons rx rt =>
      obtain ⟨y, z, rfl, ry, rz⟩ := rt.two
      simp only [setF, seqP, Option.bind_some, setFs] at e3
      cases e3
      refine ⟨_, y, z, rfl, ?_⟩
      have s1 := af.set t (i := i) (RRep.of rx)
      have s2 := s1.set (i := j) (r := (false, w)) (x := y) (Hs := H') (fun a z => s1.ext.dom a z) (fun a z => s1.ownN z) (RRep.of ry)
      have s3 := s2.set (i := l) (r := (false, u)) (x := z) (Hs := H') (fun a z => s2.ext.dom a z) (fun a z => s2.ownN z) (RRep.of rz)
      exact f F' ph' _ H' s3 af.lf
  | [], cnt, _, _, _, _ => simp at cnt
  | [_], cnt, _, _, _, _ => simp at cnt
  | [_, _], cnt, _, _, _, _ => simp at cnt
  | _ :: _ :: _ :: _ :: _, cnt, _, _, _, _ => simp at cnt
/-- what an expression that sees no own object leaves of the state -/
theorem StOk.plain {F0 F H0 H F' H' : Hp} {ph0 ph ph' : List Addr} {hp hp' : Hs} {env : FEnv} {σ : L2.St} (t : StOk W F0 ph0 H0 F ph hp env σ H) (e : Ext F ph H F' ph' H') (h : RelH W F' ph' hp' H') : StOk W F0 ph0 H0 F' ph' hp' env σ H' := by
  refine ⟨t.ext.trans e, h, ⟨t.s.len, fun i v q => ?_, fun i v q => ?_, t.s.dis⟩⟩
  · obtain ⟨x, h1, h2⟩ := t.s.val i v q
    exact ⟨x, h1, h2.mono e.le e.pre⟩
  · obtain ⟨a, o, h1, h2, h3, h4, h5, h6⟩ := t.s.own i v q
    refine ⟨a, o, h1, Classical.byContradiction fun z => ?_, fun w => ?_, h4, e.pres a o h5 h3, h6.mono e.le e.pre⟩
    · rcases e.new a z with w | w
      · exact w h2
      · rw [h5] at w; cases w
    · rcases e.pnew a w with z | z
      · exact h3 z
      · rw [h5] at z; cases z
theorem StOk.frzV {F0 H0 H : Hp} {ph0 ph : List Addr} {hp : Hs} {σ : L2.St} : ∀ (is : List Nat) {F : Hp} {env : FEnv}, StOk W F0 ph0 H0 F ph hp env σ H → ∃ F', StOk W F0 ph0 H0 F' ph hp (MP.frzV is env) σ H ∧ ∀ a o, F a = some o → F' a = some o
  | [], F, env, t => ⟨F, t, fun _ _ z => z⟩
  | i :: is, F, env, t => by
    unfold MP.frzV
    split
    · rename_i r hr
      obtain ⟨F1, x, _, _, af⟩ := t.frzAt hr
      obtain ⟨F2, t2, l2⟩ := StOk.frzV is af.st
      exact ⟨F2, t2, fun a o z => l2 a o (af.le a o z)⟩
    · exact StOk.frzV is t
/-- a new own object, no slot's, becomes a value -/
theorem StOk.adopt {F0 F H0 H Hq : Hp} {ph0 ph : List Addr} {hp : Hs} {env : FEnv} {σ : L2.St} {r : Rv} {x : V} (t : StOk W F0 ph0 H0 F ph hp env σ H) (rr : RRep W F ph Hq H r x) (hd : ∀ a, H0 a ≠ none → Hq a ≠ none) (ho : ∀ a, ownA env σ a → Hq a ≠ none) :
    ∃ F', StOk W F0 ph0 H0 F' ph hp env σ H ∧ Rep W F' ph r.2 x ∧ ∀ a o, F a = some o → F' a = some o := by
  obtain ⟨b, v⟩ := r
  unfold RRep at rr
  cases b with
  | false => exact ⟨F, t, by simpa using rr, fun _ _ z => z⟩
  | true =>
    simp only [if_true] at rr
    obtain ⟨a, o, rfl, h2, h3, h4, h5, h6⟩ := rr
    have le := le_upd (o := o) h2
    have h0 : H0 a = none := Classical.byContradiction fun y => hd a y h4
    refine ⟨upd F a o, ⟨⟨fun b q z => le b q (t.ext.le b q z), fun b z => ?_, t.ext.pre, t.ext.pnew, t.ext.pres, t.ext.dom⟩, t.rel.freeze (.inl h5) h2 h3 (fun vs z => absurd z (h6.no_tup vs)), ⟨t.s.len, fun j u e => ?_, fun j u e => ?_, t.s.dis⟩⟩, .obj upd_same (h6.mono le fun _ _ z => z), le⟩
    · by_cases hb : b = a
      · subst hb; exact .inr h0
      · rw [upd_ne hb] at z; exact t.ext.new b z
    · obtain ⟨x, e1, e2⟩ := t.s.val j u e
      exact ⟨x, e1, e2.mono le fun _ _ z => z⟩
    · obtain ⟨b, p, g1, g2, g3, g4, g5, g6⟩ := t.s.own j u e
      refine ⟨b, p, g1, ?_, g3, g4, g5, g6.mono le fun _ _ z => z⟩
      rw [upd_ne]
      · exact g2
      · rintro rfl
        exact ho b ⟨j, u, e, g1⟩ h4
theorem x_asgT {ts : Tg} {m : ME} {st : Stmt} (h : PS X st (tAsg (tK W G k m) (gT W (.tp ts)))) : PS X st (tX W G k (.asg (.tp ts) m)) := by
  refine PS_imp h ?_
  rintro D σ H ⟨F0, ph0, H0, F, ph, hp, env, res, t, e, f⟩
  simp only [exec] at e
  obtain ⟨p, e1, e2⟩ := Option.bind_eq_some_iff.mp e
  obtain ⟨env2, e3, e4⟩ := Option.map_eq_some_iff.mp e2
  cases e4
  refine exK_step t e1 fun F' ph' x H' a rr => ?_
  obtain ⟨F2, t2, rx, l2⟩ := a.st.adopt rr (fun b z => t.ext.dom b z) a.own
  obtain ⟨g1, g2, g3⟩ := t2.setT e3
  exact ⟨F2, ph', _, _, _, _, t2.rel, g1, rx, g2, fun σ1 hE hl hj => f F2 ph' σ1 H' (g3 σ1 hE hl hj) ⟨fun b o z => l2 b o (a.le b o z), a.pre⟩⟩
end
end MP
set_option maxRecDepth 100000
/-! MiniPy: statements over the machine, more. -/
namespace MP
open PySem PySem.Spec PyProof.Rows L2
/-! ### what is changed stays without lists -/
theorem lfAll_append : ∀ {xs ys : List PV}, lfAll xs = true → lfAll ys = true → lfAll (xs ++ ys) = true
  | [], _, _, h => h
  | x :: xs, ys, h, h' => by
    simp only [lfAll, Bool.and_eq_true] at h
    simp only [List.cons_append, lfAll, Bool.and_eq_true]
    exact ⟨h.1, lfAll_append h.2 h'⟩
theorem lfAll_set {v : PV} (hv : v.lf = true) : ∀ {xs : List PV} {i : Nat}, lfAll xs = true → lfAll (xs.set i v) = true
  | [], _, _ => rfl
  | x :: xs, 0, h => by
    simp only [lfAll, Bool.and_eq_true] at h
    simp only [List.set, lfAll, Bool.and_eq_true]
    exact ⟨hv, h.2⟩
  | x :: xs, i + 1, h => by
    simp only [lfAll, Bool.and_eq_true] at h
    simp only [List.set, lfAll, Bool.and_eq_true]
    exact ⟨h.1, lfAll_set hv h.2⟩
theorem lfKv_set {k v : PV} (hk : k.lf = true) (hv : v.lf = true) : ∀ {kvs : List (PV × PV)}, (kvs.all fun p => p.1.lf && p.2.lf) = true → ((setKv k v kvs).all fun p => p.1.lf && p.2.lf) = true
  | [], _ => by simp [setKv, hk, hv]
  | (a, b) :: r, h => by
    rw [List.all_cons, Bool.and_eq_true] at h
    rw [setKv]
    split
    · rw [List.all_cons, Bool.and_eq_true]
      refine ⟨?_, h.2⟩
      have := h.1
      simp only [Bool.and_eq_true] at this ⊢
      exact ⟨this.1, hv⟩
    · rw [List.all_cons, Bool.and_eq_true]
      exact ⟨h.1, lfKv_set hk hv h.2⟩
theorem app_clean {v : PV} (hv : v.lf = true) (c c' : PV) (h : clean (true, c) = true) (e : appP v c = some c') : clean (true, c') = true := by
  cases c <;> simp [appP] at e
  obtain ⟨_, rfl⟩ := e
  exact lfAll_append h (by simp [lfAll, hv])
theorem put_clean {i v : PV} (hi : i.lf = true) (hv : v.lf = true) (c c' : PV) (h : clean (true, c) = true) (e : putP c i v = some c') : clean (true, c') = true := by
  unfold putP at e
  split at e
  · split at e <;> cases e
    exact lfKv_set hi hv h
  · split at e
    · split at e
      · split at e <;> cases e
        exact lfAll_set hv h
      · cases e
    · cases e
  · cases e
theorem own_mut {n : Nat} {f : PV → Option PV} {env : FEnv} {hp : Hs} {res : Flow × FEnv × Hs} (h : ownF n f env hp = some res) : mutF n f env hp = some res := by
  unfold ownF at h
  unfold mutF
  split at h
  · rename_i v hv
    rw [hv]; exact h
  · cases h
section
variable {W : Wd} {G : Gl} {k : Nat} {C : Cc} {X : Cx}
theorem own_slot {F0 F H0 H : Hp} {ph0 ph : List Addr} {hp hp1 : Hs} {env : FEnv} {σ : L2.St} {n : Nat} {v : PV} {res : Flow × FEnv × Hs} (t : StOk W F0 ph0 H0 F ph hp env σ H) (hX : X.K = W.K) (e2 : ownF n (appP v) env hp1 = some res) : ∃ a, σ[n]? = some (some (V.ref a)) ∧ tyV X.K "list" (V.ref a) H := by
  unfold ownF at e2
  split at e2
  · rename_i v hv
    obtain ⟨c', h1, _⟩ := Option.map_eq_some_iff.mp e2
    obtain ⟨a, o, g1, _, _, _, g5, g6⟩ := t.s.own n v hv
    cases g6 with
    | lst r => exact ⟨a, g1, .inl ⟨rfl, _, .inl (.inl g5)⟩⟩
    | _ => simp [appP] at h1
  · cases e2
/-- x.append(e) -/
theorem x_app {n : Nat} {m : ME} {st : Stmt} (h : PS X st (tDrop (tBM X.K "list" rAppend (tVar n) (tCons (tE W G k m) tNil)))) (hX : X.K = W.K) : PS X st (tX W G k (.app n m)) := by
  refine PS_imp h ?_
  rintro D σ H ⟨F0, ph0, H0, F, ph, hp, env, res, t, e, f⟩
  simp only [exec] at e
  obtain ⟨p, e1, e2⟩ := bnd_some e
  split at e2
  · rename_i lf
    obtain ⟨a, ga, gt⟩ := own_slot (X := X) t hX e2
    refine ⟨.ref a, ga, gt, ex_step t e1 fun F' ph' x H' af rr => ?_⟩
    obtain ⟨kp, rx⟩ := lf_keep rr lf
    rw [kp] at af
    obtain ⟨a', c, c', o, g1, g2, g3, g4, g5, g6⟩ := af.st.mut (own_mut e2) fun c c' => app_clean lf c c'
    rw [ga] at g1
    cases g1
    cases c <;> simp [appP] at g4
    obtain ⟨hl, rfl⟩ := g4
    cases g3 with
    | lst r =>
      refine ⟨a, _, x, rfl, rfl, g2, by rw [← r.length]; exact hl, ?_⟩
      have st := g6 _ (.lst (r.append (.cons rx .nil)))
      obtain ⟨fl, env2, hp2⟩ := res
      cases g5
      exact f F' ph' σ _ st af.lf
  · obtain ⟨F1, t1, l1⟩ := t.frzV m.vars
    obtain ⟨p2, e3, e4⟩ := bnd_some e2
    obtain ⟨a, ga, gt⟩ := own_slot (X := X) t1 hX e4
    refine ⟨.ref a, ga, gt, F1, ph, hp, vis (frzV m.vars env), _, _, t1.rel, ⟨by unfold vis; rw [List.length_map]; exact t1.s.len, fun i u h => t1.s.val i u (vis_get.mp h)⟩, e3, fun F2 ph2 x H2 x2 h2 rr => ?_⟩
    have t2 := t1.plain x2 h2
    obtain ⟨F3, t3, rx, l3⟩ := t2.adopt rr (fun a z => t1.ext.dom a z) (fun a z => t1.ownN z)
    unfold ownF at e4
    split at e4
    rotate_left
    · cases e4
    rename_i v hv
    obtain ⟨c', h1, hres⟩ := Option.map_eq_some_iff.mp e4
    cases hres
    obtain ⟨a', o, g1, g2, g3, g6⟩ := t3.mutO hv
    rw [ga] at g1
    cases g1
    cases v <;> simp [appP] at h1
    obtain ⟨hl, rfl⟩ := h1
    cases g3 with
    | lst r =>
      refine ⟨a, _, x, rfl, rfl, g2, by rw [← r.length]; exact hl, ?_⟩
      have st := g6 _ _ (.lst (r.append (.cons rx .nil)))
      exact f F3 ph2 σ _ st ⟨fun b q z => l3 b q (x2.le b q (l1 b q z)), x2.pre⟩
theorem popP_some {j c : PV} {q : PV × PV} (h : popP j c = some q) : ∃ xs i, c = .lst xs ∧ j = .int i ∧ 0 ≤ i ∧ i < 2 ^ 63 ∧ xs[i.toNat]? = some q.1 ∧ q.2 = .lst (xs.eraseIdx i.toNat) := by
  unfold popP at h
  split at h
  · split at h
    · split at h
      · rename_i hb
        obtain ⟨v, h1, rfl⟩ := Option.map_eq_some_iff.mp h
        exact ⟨_, _, rfl, rfl, hb.1, hb.2, h1, rfl⟩
      · cases h
    · cases h
  · cases h
theorem seqIx {i : Int} {n : Nat} (h0 : 0 ≤ i) (h : i.toNat < n) : seqIndex? i n = some i.toNat := seqIndex_of h0 (by omega)
/-- y = x.pop(e) -/
theorem x_pop {y n : Nat} {m : ME} {st : Stmt} (h : PS X st (tAsg (tBM X.K "list" rPopAt (tVar n) (tCons (tE W G k m) tNil)) (gName y))) : PS X st (tX W G k (.pop y n m)) := by
  refine PS_imp h ?_
  rintro D σ H ⟨F0, ph0, H0, F, ph, hp, env, res, t, e, f⟩
  simp only [exec] at e
  obtain ⟨p, e1, e2⟩ := bnd_some e
  split at e2
  rotate_left
  · cases e2
  rename_i c hv
  obtain ⟨q, e3, e4⟩ := Option.map_eq_some_iff.mp e2
  cases e4
  obtain ⟨xs, i, rfl, hj, b1, b2, hx, hq⟩ := popP_some e3
  obtain ⟨a, o, g1, g2, g3, g4, g5, g6⟩ := t.s.own n _ hv
  cases g6 with
  | @lst _ _ vs r =>
    refine ⟨.ref a, g1, .inl ⟨rfl, _, .inl (.inl g5)⟩, ex_step t e1 fun F' ph' x H' af rr => ?_⟩
    obtain ⟨kp, rx⟩ := lf_keep rr (by rw [hj]; rfl)
    rw [kp] at af
    rw [hj] at rx
    cases rx.intV
    obtain ⟨a', o', k1, k2, k3, k6⟩ := af.st.mutO hv
    rw [g1] at k1
    cases k1
    cases k3 with
    | @lst _ _ ws r2 =>
      obtain ⟨z, hz, rz⟩ := r2.get hx
      have hlt : i.toNat < ws.length := (List.getElem?_eq_some_iff.mp hz).1
      refine ⟨a, ws, i, i.toNat, z, rfl, rfl, k2, by omega, b2, seqIx b1 hlt, hz, ?_⟩
      have st := k6 q.2 (.lst (ws.eraseIdx i.toNat)) (by rw [hq]; exact .lst (r2.eraseIdx _))
      have st2 := st.set (i := y) (r := (false, q.1)) (x := z) (Hs := upd H' a (.lst (ws.eraseIdx i.toNat))) (fun b w => st.ext.dom b w) (fun b w => st.ownN w) (RRep.of rz)
      exact f F' ph' _ _ st2 af.lf
/-- o[i] = v, by values -/
def tPut (W : Wd) : TSet := fun o i v H Q => ∃ F ph hp a c j w c' ob, o = .ref a ∧ H a = some ob ∧ RelH W F ph hp H ∧ ORep W F ph a c ob ∧ Rep W F ph j i ∧ Rep W F ph w v ∧ putP c j w = some c' ∧ ∀ o', ORep W F ph a c' o' → Q (upd H a o')
theorem put_any (fit : Fit W X) : PSet X (tPut W) := by
  intro pins s σ H o i v ov iv u Q I ro ri rv ⟨F, ph, hp, a, c, j, w, c', ob, eo, hob, hR, rc, rj, rw', hput, q⟩
  subst eo
  cases (show ov = Value.ref a from ro)
  unfold putP at hput
  split at hput
  · split at hput <;> cases hput
    rename_i kvs ok
    rw [Bool.and_eq_true, decide_eq_true_eq] at ok
    exact dict_put fit I hR ok.1 ok.2 hob rc ri rv rj rw' fun o' s' I' r' => ⟨_, I', q o' r'⟩
  · split at hput
    · split at hput
      · split at hput <;> cases hput
        rename_i xs i' h0 hlt
        cases rj.intV
        cases rc with
        | @lst _ _ vs r =>
          have hl := r.length
          refine set_list pins s σ H _ _ _ _ _ _ _ I ro ri rv ⟨a, vs, _, _, rfl, rfl, hob, ?_, q _ (.lst (r.set rw' _))⟩
          unfold ixN
          rw [if_pos h0, if_pos (by omega)]
      · cases hput
    · cases hput
  · cases hput
theorem x_seti {n : Nat} {mi me : ME} {st : Stmt} (h : PS X st (tAsg (tE W G k me) (gSub (tVar n) (tE W G k mi) (tPut W)))) : PS X st (tX W G k (.seti (.var n) mi me)) := by
  refine PS_imp h ?_
  rintro D σ H ⟨F0, ph0, H0, F, ph, hp, env, res, t, e, f⟩
  simp only [exec, ME.varOf] at e
  obtain ⟨p, e1, e2⟩ := bnd_some e
  obtain ⟨p2, e3, e4⟩ := bnd_some e2
  split at e4
  rotate_left
  · cases e4
  rename_i lf
  rw [Bool.and_eq_true] at lf
  refine ex_step t e1 fun F1 ph1 v H1 af rr => ?_
  obtain ⟨kp, rv⟩ := lf_keep rr lf.1
  rw [kp] at af
  have slot : ∃ a, σ[n]? = some (some (V.ref a)) := by
    unfold mutF at e4
    split at e4
    · rename_i w hv
      obtain ⟨a, o, g, _⟩ := af.st.s.own n w hv
      exact ⟨a, g⟩
    · rename_i q hv
      obtain ⟨x, g, r⟩ := af.st.s.val n _ hv
      obtain ⟨a, rfl, _⟩ := ref_at r
      exact ⟨a, g⟩
    · cases e4
  obtain ⟨a, ga⟩ := slot
  refine ⟨.ref a, ga, ex_step af.st e3 fun F2 ph2 j H2 af2 rr2 => ?_⟩
  obtain ⟨kp2, rj⟩ := lf_keep rr2 lf.2
  rw [kp2] at af2
  obtain ⟨a', c, c', o, g1, g2, g3, g4, g5, g6⟩ := af2.st.mut e4 fun c c' => put_clean lf.2 lf.1 c c'
  rw [ga] at g1
  cases g1
  refine ⟨F2, ph2, _, a, c, _, _, c', o, rfl, g2, af2.st.rel, g3, rj, rv.mono af2.le af2.pre, g4, fun o' r' => ?_⟩
  have st := g6 o' r'
  obtain ⟨fl, env2, hp2⟩ := res
  cases g5
  exact f F2 ph2 σ _ st (af.lf.trans af2.lf)
theorem x_setiR {mo mi me : ME} {st : Stmt} (hv : mo.varOf = none) (h : PS X st (tAsg (tE W G k me) (gSub (tE W G k mo) (tE W G k mi) (tPut W)))) : PS X st (tX W G k (.seti mo mi me)) := by
  refine PS_imp h ?_
  rintro D σ H ⟨F0, ph0, H0, F, ph, hp, env, res, t, e, f⟩
  simp only [exec, hv] at e
  obtain ⟨p, e1, e2⟩ := bnd_some e
  obtain ⟨p0, e0, e2⟩ := bnd_some e2
  obtain ⟨p2, e3, e4⟩ := bnd_some e2
  split at e4
  rotate_left
  · cases e4
  rename_i lf
  rw [Bool.and_eq_true] at lf
  unfold refF at e4
  split at e4
  rotate_left
  · cases e4
  rename_i n hn
  obtain ⟨c', h1, h2⟩ := Option.map_eq_some_iff.mp e4
  cases h2
  obtain ⟨c, hc, h1⟩ := Option.bind_eq_some_iff.mp h1
  refine ex_step t e1 fun F1 ph1 v H1 af rr => ?_
  obtain ⟨kp, rv⟩ := lf_keep rr lf.1
  rw [kp] at af
  refine ex_step af.st e0 fun F2 ph2 x H2 af2 rr2 => ?_
  obtain ⟨kp2, rx⟩ := lf_keep rr2 (by rw [hn]; rfl)
  rw [kp2] at af2
  rw [hn] at rx
  obtain ⟨a, rfl, ha⟩ := ref_at rx
  refine ex_step af2.st e3 fun F3 ph3 j H3 af3 rr3 => ?_
  obtain ⟨kp3, rj⟩ := lf_keep rr3 lf.2
  rw [kp3] at af3
  have ha3 := af3.pre n a ha
  obtain ⟨o, g2, g3, g6⟩ := af3.st.mutR ha3 hc fun w => put_clean lf.2 lf.1 c c' w h1
  refine ⟨F3, ph3, _, a, c, _, _, c', o, rfl, g2, af3.st.rel, g3, rj, (rv.mono af2.le af2.pre).mono af3.le af3.pre, h1, fun o' r' => ?_⟩
  exact f F3 ph3 σ _ (g6 o' r') ((af.lf.trans af2.lf).trans af3.lf)
/-- x op= e, ints -/
theorem x_aug {i : Nat} {op : Bop} {m : ME} {st : Stmt} {g : Int → Int → Int} (hg : (op = .add ∧ g = fun a b => a + b) ∨ (op = .sub ∧ g = fun a b => a - b)) (h : PS X st (tAug i (tE W G k m) (ipI g))) : PS X st (tX W G k (.aug i op m)) := by
  refine PS_imp h ?_
  rintro D σ H ⟨F0, ph0, H0, F, ph, hp, env, res, t, e, f⟩
  simp only [exec] at e
  obtain ⟨x, hx, e⟩ := Option.bind_eq_some_iff.mp e
  obtain ⟨p, e1, e⟩ := bnd_some e
  obtain ⟨v, hv, e⟩ := Option.map_eq_some_iff.mp e
  cases e
  have h3 : env[i]? = some (some x) := by
    cases z : env[i]? with
    | none => rw [z] at hx; cases hx
    | some o => rw [z] at hx; exact congrArg some hx
  have bothI : ∃ a b, x.2 = .int a ∧ p.1.2 = .int b ∧ v = .int (g a b) := by
    rcases hg with ⟨rfl, rfl⟩ | ⟨rfl, rfl⟩
    · cases ha : x.2 <;> rw [ha] at hv <;> simp [augP] at hv
      cases hb : p.1.2 <;> rw [hb] at hv <;> simp at hv
      exact ⟨_, _, rfl, rfl, hv.symm⟩
    · cases ha : x.2 <;> rw [ha] at hv <;> simp [augP] at hv
      cases hb : p.1.2 <;> rw [hb] at hv <;> simp at hv
      exact ⟨_, _, rfl, rfl, hv.symm⟩
  obtain ⟨a, b, ea, eb, rfl⟩ := bothI
  have hs : ∃ y, σ[i]? = some (some y) ∧ y = .int a := by
    obtain ⟨bb, xv⟩ := x
    simp only at ea
    subst ea
    cases bb with
    | false =>
      obtain ⟨y, h1, h2⟩ := t.s.val i _ h3
      exact ⟨y, h1, h2.intV⟩
    | true =>
      obtain ⟨_, _, _, _, _, _, _, r⟩ := t.s.own i _ h3
      cases r
  obtain ⟨y, h1, rfl⟩ := hs
  refine ⟨_, h1, ex_step t e1 fun F' ph' z H' af rr => ?_⟩
  obtain ⟨kp, rz⟩ := lf_keep rr (by rw [eb]; rfl)
  rw [kp] at af
  rw [eb] at rz
  cases rz.intV
  refine ⟨a, b, rfl, rfl, ?_⟩
  exact f F' ph' _ H' (af.st.set (i := i) (r := (false, .int (g a b))) (x := .int (g a b)) (Hs := H') (fun b w => af.st.ext.dom b w) (fun b w => af.st.ownN w) (RRep.of (.int _))) af.lf
end
end MP
set_option maxRecDepth 100000
/-! MiniPy: extend, appends to shared lists, setdefault, pops put into a tuple, raise. -/
namespace MP
open PySem PySem.Spec PyProof.Rows L2
section
variable {W : Wd} {G : Gl} {k : Nat} {C : Cc} {X : Cx}
/-- x.extend(e), e a new list -/
theorem x_ext {n : Nat} {m : ME} {st : Stmt} (h : PS X st (tDrop (tBM X.K "list" rExtend (tVar n) (tCons (tE W G k m) tNil)))) : PS X st (tX W G k (.ext n m)) := by
  refine PS_imp h ?_
  rintro D σ H ⟨F0, ph0, H0, F, ph, hp, env, res, t, e, f⟩
  simp only [exec] at e
  obtain ⟨p, e1, e2⟩ := Option.bind_eq_some_iff.mp e
  split at e2
  rotate_left
  · cases e2
  rename_i cl
  rw [Bool.and_eq_true] at cl
  unfold ownF at e2
  split at e2
  rotate_left
  · cases e2
  rename_i v hv
  obtain ⟨c', h1, h2⟩ := Option.map_eq_some_iff.mp e2
  cases h2
  obtain ⟨⟨b, w⟩, hp1⟩ := p
  simp only at cl h1 e1
  have hb : b = true := cl.1
  subst hb
  cases v <;> simp [extP] at h1
  rename_i xs
  cases w <;> simp at h1
  rename_i ys
  obtain ⟨hl, rfl⟩ := h1
  obtain ⟨a, o, g1, g2, g3, g4, g5, g6⟩ := t.s.own n _ hv
  have gt : tyV X.K "list" (V.ref a) H := by cases g6 with | lst r => exact .inl ⟨rfl, _, .inl (.inl g5)⟩
  refine ⟨.ref a, g1, gt, ex_step t e1 fun F' ph' x H' af rr => ?_⟩
  have kp : keep (true, .lst ys) env = env := if_pos cl.2
  rw [kp] at af
  obtain ⟨a', o', k1, k2, k3, k6⟩ := af.st.mutO hv
  rw [g1] at k1
  cases k1
  unfold RRep at rr
  rw [if_pos rfl] at rr
  obtain ⟨c, oc, rfl, n1, n2, n3, n4, n5⟩ := rr
  cases k3 with
  | @lst _ _ ws r1 =>
    cases n5 with
    | @lst _ _ us r2 =>
      refine ⟨a, c, ws, us, rfl, rfl, k2, n4, by rw [← r1.length, ← r2.length]; exact hl, ?_⟩
      have st := k6 _ _ (.lst (r1.append r2))
      exact f F' ph' σ _ st af.lf
theorem isRefL_some {x : PV} {hp : Hs} (h : isRefL x hp = true) : ∃ n xs, x = .ref n ∧ hp[n]? = some (.lst xs) := by
  unfold isRefL at h
  split at h
  · split at h
    · rename_i e; exact ⟨_, _, rfl, e⟩
    · cases h
  · cases h
/-- the rest of o.append(e), o a shared list -/
theorem apx_rest {F0 F H0 H : Hp} {ph0 ph : List Addr} {hp hp2 : Hs} {env : FEnv} {σ : L2.St} {me : ME} {D : Ends} {v : Rv} {n : Nat} {a : Addr} {res : Flow × FEnv × Hs} {xs : List PV} (t : StOk W F0 ph0 H0 F ph hp env σ H) (ha : ph[n]? = some a) (hc : hp[n]? = some (.lst xs))
    (e3 : ev G.cst (callF G k) me (unf env) hp = some (v, hp2)) (lf : v.2.lf = true) (e4 : refF (.ref n) (appP v.2) env hp2 = some res) (f : Fin W F0 ph0 H0 F ph D res) :
    tyV X.K "list" (V.ref a) H ∧ (tCons (tE W G k me) tNil) σ H fun ys H2 => rAppend (.ref a) ys H2 fun _ H3 => D.nx σ H3 := by
  have gt : tyV X.K "list" (V.ref a) H := by
    obtain ⟨_, o, e3, r⟩ := t.rel.sh n a _ ha hc
    cases r with | lst r => exact .inl ⟨rfl, _, .inl (.inl e3)⟩
  refine ⟨gt, ex_step t e3 fun F2 ph2 y H2 af2 rr2 => ?_⟩
  obtain ⟨kp2, ry⟩ := lf_keep rr2 lf
  rw [kp2] at af2
  unfold refF at e4
  simp only at e4
  obtain ⟨c', h1, h2⟩ := Option.map_eq_some_iff.mp e4
  cases h2
  obtain ⟨c, hc2, h1⟩ := Option.bind_eq_some_iff.mp h1
  have h10 := h1
  cases c <;> simp [appP] at h1
  obtain ⟨hl, rfl⟩ := h1
  have ha2 := af2.pre n a ha
  obtain ⟨o, g2, g3, g6⟩ := af2.st.mutR ha2 hc2 fun w => app_clean lf _ _ w h10
  cases g3 with
  | lst r =>
    refine ⟨a, _, y, rfl, rfl, g2, by rw [← r.length]; exact hl, ?_⟩
    have st := g6 _ (.lst (r.append (.cons ry .nil)))
    exact f F2 ph2 σ _ st af2.lf
/-- o.append(e), o a shared list -/
theorem x_apx {mo me : ME} {st : Stmt} (h : PS X st (tDrop (tBM X.K "list" rAppend (tE W G k mo) (tCons (tE W G k me) tNil)))) : PS X st (tX W G k (.apx mo me)) := by
  refine PS_imp h ?_
  rintro D σ H ⟨F0, ph0, H0, F, ph, hp, env, res, t, e, f⟩
  simp only [exec] at e
  obtain ⟨p, e1, e2⟩ := bnd_some e
  split at e2
  rotate_left
  · cases e2
  rename_i isr
  obtain ⟨p2, e3, e4⟩ := bnd_some e2
  split at e4
  rotate_left
  · cases e4
  rename_i lf
  obtain ⟨n, xs, hn, hc⟩ := isRefL_some isr
  refine ex_step t e1 fun F1 ph1 x H1 af rr => ?_
  obtain ⟨kp, rx⟩ := lf_keep rr (by rw [hn]; rfl)
  rw [kp] at af
  rw [hn] at rx e4
  obtain ⟨a, rfl, ha⟩ := ref_at rx
  exact apx_rest af.st ha hc e3 lf e4 (f.le af.lf)
/-! ### d.setdefault(k, w).append(e) -/
def tSD (W : Wd) (G : Gl) (k : Nat) (n : Nat) (mk md : ME) : TE := fun σ H Q => ∃ F0 ph0 H0 F ph hp env kvs p1 p2, StOk W F0 ph0 H0 F ph hp env σ H ∧ env[n]? = some (some (true, .dct kvs)) ∧ ev G.cst (callF G k) mk (unf env) hp = some p1 ∧ p1.1.2.lf = true ∧
  ev G.cst (callF G k) md (unf env) p1.2 = some p2 ∧ p2.1.2.lf = true ∧ (isTKey p1.1.2 && (keysP kvs).all isTKey) = true ∧ kvs.length < LINE ∧
  ∀ F' ph' x H', StOk W F0 ph0 H0 F' ph' p2.2 (env.set n (some (true, .dct (sdKv p1.1.2 p2.1.2 kvs)))) σ H' → LeF F ph F' ph' → Rep W F' ph' ((getKv p1.1.2 kvs).getD p2.1.2) x → Q x H'
theorem upd_id {H : Hp} {a : Addr} {o : HO} (h : H a = some o) : upd H a o = H := by
  funext b
  by_cases hb : b = a
  · subst hb; rw [upd_same, h]
  · rw [upd_ne hb]
theorem pe_sd (ok : XOk W G k C X) {n : Nat} {mk md : ME} {eo ek ed : Expr} {apos pos : Pos} (hp0 : plainO eo = true) (hs1 : notStar ek = true) (hs2 : notStar ed = true) (hline : (apos.endLine == pos.line) = true)
    (ho : PE X eo (tVar n)) (hk : PE X ek (tE W G k mk)) (hd : PE X ed (tE W G k md)) : PE X (.Call (.Attribute eo "setdefault" apos) [ek, ed] [] pos) (tSD W G k n mk md) := by
  refine ⟨fun pins s σ H Q I h => ?_⟩
  obtain ⟨F0, ph0, H0, F, ph, hp, env, kvs, p1, p2, t, hv, e1, l1, e2, l2, hkk, hlen, q⟩ := h
  have hs : [ek, ed].all notStar = true := by simp [hs1, hs2]
  obtain ⟨a, o, g1, g2, g3, g4, g5, g6⟩ := t.s.own n _ hv
  refine wpAny_Call_method_late (attrBase_of hp0 _) (star_few hs (by simp)) hline rfl (thn (ho.run pins s σ H (fun x H1 => x = .ref a ∧ H1 = H) I ⟨.ref a, g1, rfl, rfl⟩) fun v s1 ⟨x, H1, I1, r1, ex, eh⟩ => ?_)
  subst ex eh
  cases (show v = Value.ref a from r1)
  have rd : Rd H1 a o := .inl g5
  have pa : PA X [ek, ed] (tCons (tE W G k mk) (tCons (tE W G k md) tNil)) := pa_cons hk (pa_cons hd pa_nil (starEach_of hs2 _ _)) (starEach_of hs1 _ _)
  have hA := pa.run pos pins s1 σ H1 (fun ys H2 => ∃ F2 ph2 y z, ys = [y, z] ∧ StOk W F0 ph0 H0 F2 ph2 p2.2 env σ H2 ∧ LeF F ph F2 ph2 ∧ Rep W F2 ph2 p1.1.2 y ∧ Rep W F2 ph2 p2.1.2 z) I1 (by
    refine ex_step t e1 fun F1 ph1 y H2 af rr => ?_
    obtain ⟨kp, ry⟩ := lf_keep rr l1
    rw [kp] at af
    refine ex_step af.st e2 fun F2 ph2 z H3 af2 rr2 => ?_
    obtain ⟨kp2, rz⟩ := lf_keep rr2 l2
    rw [kp2] at af2
    exact ⟨F2, ph2, y, z, rfl, af2.st, af.lf.trans af2.lf, ry.mono af2.le af2.pre, rz⟩)
  have pl : (false || (backTo pos (starEach [ed] X.env)).any (·.1)) = false := by rw [star_any (by simp [hs2])]; rfl
  rw [starEach_of hs1] at hA ⊢
  cases g6 with
  | @dct _ _ ob es ep h1 h2 h3 h4 h5 r =>
    have hob := obj_at I1 rd
    refine ⟨"dict", "dict.setdefault", PySem.F.plainAttrs_dict, PySem.F.slot_dict_setdefault, PySem.F.type_dict_setdefault, ⟨ob, hob, h2.1⟩, fun b hb => ?_, ?_⟩
    · cases hb; exact ⟨ob, hob, h2.2.1⟩
    refine Calls.callWith_builtin pl (Calls.evalArgs_plain (thn hA fun us s2 ⟨ys, H2, I2, r2, F2, ph2, y, z, eys, st, lf, ry, rz⟩ => ?_))
    subst eys
    obtain ⟨uy, uz, rfl, ruy, ruz⟩ := vals2 r2
    obtain ⟨a', o', k1, k2, k3, k6⟩ := st.mutO hv
    rw [g1] at k1
    cases k1
    have okk : okKey p1.1.2 kvs = true := by unfold okKey; rw [hkk, Bool.or_true]
    obtain ⟨d1, d5, dl, c⟩ := dict_of ok.fit I2 st.rel (.inl k2) k3 okk
    rw [Bool.and_eq_true] at hkk
    rcases c with ⟨kk, us, hk', _⟩ | ⟨kk, us, hk', dd, et, lu⟩
    · exfalso
      have := hkk.1
      cases hx : p1.1.2 <;> rw [hx] at this hk' <;> simp [isTKey, keyOf] at this hk'
    obtain ⟨b, rfl, tb⟩ := tkey_of hk' ry
    obtain rfl : uy = Value.ref b := ruy
    have kis := TKey.at_ ok.fit I2 st.rel tb
    rw [← ok.fit.P, ← ok.fit.w] at kis
    obtain ⟨i1, i2⟩ := et.look hk'
    have mu : Mut (H2 a) := by rw [k2]; cases k3; trivial
    refine call_setdefault_heap (hsz := by rw [lu]; exact dl) (tupleKind_room_in1 ok.fit.u1) kis d1 dd (fun p hp => ?_) fun hn h' dd' hs => ?_
    · cases g : getKv p1.1.2 kvs with
      | none => rw [i2 g] at hp; cases hp
      | some y =>
        obtain ⟨z', b', w', e, rz', rep⟩ := i1 y g
        rw [e] at hp
        cases hp
        have st2 := k6 (.dct kvs) o' k3
        rw [upd_id k2] at st2
        refine ⟨z', H2, I2.tok _, rz', q F2 ph2 z' H2 ?_ lf ?_⟩
        · have : sdKv p1.1.2 p2.1.2 kvs = kvs := by unfold sdKv; rw [g]
          rw [this]; exact st2
        · rw [g]; exact rep
    · cases g : getKv p1.1.2 kvs with
      | some y =>
        obtain ⟨z', b', w', e, rz', rep⟩ := i1 y g
        rw [e] at hn; cases hn
      | none =>
        obtain ⟨o2, es', ep', g', x', dt', pr', _, nd'⟩ := dd'
        rw [ok.fit.P, ok.fit.w] at pr'
        have ek' := et.put hk' tb rz ruz (et.nodup d5)
        have back := ek'.back
        rw [← pr'] at back
        have len := setKv_length p1.1.2 p2.1.2 kvs
        have rep' : ORep W F2 ph2 a (.dct (setKv p1.1.2 p2.1.2 kvs)) (dctO a o2) := .dct d1 x' dt' (by
          have l2 : (setKv p1.1.2 p2.1.2 kvs).length = es'.size := by rw [back.length]; simp
          have : kvs.length < sizeLine := hlen
          omega) (pairwise_put d5) back
        have I3 := d_write (t' := s2.toks + (tupleKind (mixKind X.prog X.w)).draws kk) I2 mu hs ⟨o2, g'⟩ (ext_ok g')
        refine ⟨z, upd H2 a (dctO a o2), I3, ruz, q F2 ph2 z _ ?_ lf ?_⟩
        · have : sdKv p1.1.2 p2.1.2 kvs = setKv p1.1.2 p2.1.2 kvs := by unfold sdKv; rw [g]
          rw [this]; exact k6 _ _ rep'
        · rw [g]; exact rz
theorem x_sda {n : Nat} {mk md me : ME} {st : Stmt} (h : PS X st (tDrop (tBM X.K "list" rAppend (tSD W G k n mk md) (tCons (tE W G k me) tNil)))) : PS X st (tX W G k (.sda n mk md me)) := by
  refine PS_imp h ?_
  rintro D σ H ⟨F0, ph0, H0, F, ph, hp, env, res, t, e, f⟩
  simp only [exec] at e
  obtain ⟨p, e1, e⟩ := bnd_some e
  obtain ⟨p2, e2, e⟩ := bnd_some e
  split at e
  rotate_left
  · cases e
  rename_i lf
  rw [Bool.and_eq_true] at lf
  split at e
  rotate_left
  · cases e
  rename_i kvs hv
  split at e
  rotate_left
  · cases e
  rename_i okk
  rw [Bool.and_eq_true, decide_eq_true_eq] at okk
  split at e
  rotate_left
  · cases e
  rename_i isr
  obtain ⟨p3, e3, e⟩ := bnd_some e
  split at e
  rotate_left
  · cases e
  rename_i lf3
  refine ⟨F0, ph0, H0, F, ph, hp, env, kvs, p, p2, t, hv, e1, lf.1, e2, lf.2, okk.1, okk.2, fun F' ph' x H' t' l' rx => ?_⟩
  obtain ⟨m, xs, hm, hc⟩ := isRefL_some isr
  rw [hm] at rx e
  obtain ⟨a, rfl, ha⟩ := ref_at rx
  exact apx_rest t' ha hc e3 lf3 e (f.le l')
/-! ### t = t + (x.pop(e),) -/
theorem StOk.lay {F0 F H0 H : Hp} {ph0 ph : List Addr} {hp : Hs} {env : FEnv} {σ : L2.St} (t : StOk W F0 ph0 H0 F ph hp env σ H) {p : Addr} {ob : Obj} {vs : List V} (hd : ob.dict = none) (n : H p = none) :
    StOk W F0 ph0 H0 (upd F p (.tup vs)) ph hp env σ (upd H p (.frz ob (.tup vs))) ∧ ∀ a o, F a = some o → upd F p (.tup vs) a = some o := by
  obtain ⟨np, nF⟩ := shared_not_new t.rel n
  obtain ⟨r1, x1⟩ := t.rel.laid (o := .frz ob (.tup vs)) n
  have r2 := r1.freeze (o := .tup vs) (.inr ⟨ob, upd_same⟩) nF np (fun vs' e => by cases e; exact ⟨ob, upd_same, hd⟩)
  have le := le_upd (o := (.tup vs : HO)) nF
  have h0 : H0 p = none := Classical.byContradiction fun z => t.ext.dom p z n
  have st : ∀ a q, H a = some q → upd H p (.frz ob (.tup vs)) a = some q := fun a q e => by rw [upd_ne (ne_of_none e n)]; exact e
  refine ⟨⟨⟨fun a o h => le a o (t.ext.le a o h), fun a h => ?_, t.ext.pre, t.ext.pnew, fun a o h hn => st a o (t.ext.pres a o h hn), fun a h => ?_⟩, r2, ⟨t.s.len, fun i v h => ?_, fun i v h => ?_, t.s.dis⟩⟩, le⟩
  · by_cases ha : a = p
    · subst ha; exact .inr h0
    · rw [upd_ne ha] at h; exact t.ext.new a h
  · have := t.ext.dom a h
    cases q : H a with
    | none => exact absurd q this
    | some o => rw [st a o q]; simp
  · obtain ⟨x, h1, h2⟩ := t.s.val i v h
    exact ⟨x, h1, h2.mono le fun _ _ z => z⟩
  · obtain ⟨a, o, h1, h2, h3, h4, h5, h6⟩ := t.s.own i v h
    refine ⟨a, o, h1, ?_, h3, h4, st a o h5, h6.mono le fun _ _ z => z⟩
    rw [upd_ne (ne_of_none h5 n)]
    exact h2
theorem x_popa {y n : Nat} {m : ME} {st : Stmt} (h : PS X st (tAsg (tOp (r2 W (binP .add)) (tVar y) (tTupM (tCons (tBM X.K "list" rPopAt (tVar n) (tCons (tE W G k m) tNil)) tNil))) (gName y))) : PS X st (tX W G k (.popa y n m)) := by
  refine PS_imp h ?_
  rintro D σ H ⟨F0, ph0, H0, F, ph, hp, env, res, t, e, f⟩
  simp only [exec] at e
  obtain ⟨p, e1, e2⟩ := bnd_some e
  split at e2
  rotate_left
  · cases e2
  rename_i c hv
  obtain ⟨q, e3, e4⟩ := Option.bind_eq_some_iff.mp e2
  split at e4
  rotate_left
  · cases e4
  rename_i zs hy
  split at e4
  rotate_left
  · cases e4
  rename_i hlen
  cases e4
  obtain ⟨xs, i, rfl, hj, b1, b2, hx, hq⟩ := popP_some e3
  obtain ⟨a, o, g1, g2, g3, g4, g5, g6⟩ := t.s.own n _ hv
  obtain ⟨ty, gy, ry⟩ := t.s.val y _ hy
  refine ⟨ty, gy, ?_⟩
  cases g6 with
  | @lst _ _ vs r =>
    refine ⟨.ref a, g1, .inl ⟨rfl, _, .inl (.inl g5)⟩, ex_step t e1 fun F' ph' x H' af rr => ?_⟩
    obtain ⟨kp, rx⟩ := lf_keep rr (by rw [hj]; rfl)
    rw [kp] at af
    rw [hj] at rx
    cases rx.intV
    obtain ⟨a', o', k1, k2, k3, k6⟩ := af.st.mutO hv
    rw [g1] at k1
    cases k1
    cases k3 with
    | @lst _ _ ws r2 =>
      obtain ⟨z, hz, rz⟩ := r2.get hx
      have hlt : i.toNat < ws.length := (List.getElem?_eq_some_iff.mp hz).1
      refine ⟨a, ws, i, i.toNat, z, rfl, rfl, k2, by omega, b2, seqIx b1 hlt, hz, ?_⟩
      have st := k6 q.2 (.lst (ws.eraseIdx i.toNat)) (by rw [hq]; exact .lst (r2.eraseIdx _))
      refine ⟨Nat.le_trans (show [z].length ≤ 1 from Nat.le_refl _) (by rw [sizeLine_eq]; decide), fun p' ob hd hn => ?_⟩
      obtain ⟨st2, le2⟩ := st.lay (vs := [z]) hd hn
      refine ⟨_, ph', _, .tup zs, .tup [q.1], (false, .tup (zs ++ [q.1])), st2.rel, (ry.mono af.le af.pre).mono le2 (fun _ _ w => w), .tup upd_same (.cons (rz.mono le2 fun _ _ w => w) .nil), ?_, fun F4 w H4 x4 h4 rr4 => ?_⟩
      · simp only [binP]
        rw [if_pos (by simpa using hlen)]
      · have st4 := st2.plain x4 h4
        have rw4 : Rep W F4 ph' (.tup (zs ++ [q.1])) w := by simpa [RRep] using rr4
        have st5 := st4.set (i := y) (r := (false, .tup (zs ++ [q.1]))) (x := w) (Hs := H4) (fun b w => st4.ext.dom b w) (fun b w => st4.ownN w) (RRep.of rw4)
        exact f F4 ph' _ _ st5 ⟨fun b o w => x4.le b o (le2 b o (af.le b o w)), fun n b w => x4.pre n b (af.pre n b w)⟩
/-- x = y, y's own object going over to x -/
theorem x_mov {i j : Nat} {st : Stmt} (h : PS X st (tAsg (tVar j) (gName i))) : PS X st (tX W G k (.mov i j)) := by
  refine PS_imp h ?_
  rintro D σ H ⟨F0, ph0, H0, F, ph, hp, env, res, t, e, f⟩
  simp only [exec] at e
  obtain ⟨r, hr, e⟩ := Option.map_eq_some_iff.mp e
  cases e
  have h3 : env[j]? = some (some r) := by
    cases z : env[j]? with
    | none => rw [z] at hr; cases hr
    | some o => rw [z] at hr; exact congrArg some hr
  obtain ⟨b, v⟩ := r
  cases b with
  | false =>
    obtain ⟨x, h1, h2⟩ := t.s.val j v h3
    have st := t.set (i := i) (r := (false, v)) (x := x) (Hs := H) (fun a z => t.ext.dom a z) (fun a z => t.ownN z) (RRep.of h2)
    exact ⟨x, h1, f F ph _ H st .refl⟩
  | true =>
    obtain ⟨a, o, h1, h2, h3', h4, h5, h6⟩ := t.s.own j v h3
    have hjl : j < env.length := (List.getElem?_eq_some_iff.mp h3).1
    have get : ∀ (l : Nat) (c : Bool) (u : PV), (env.set j none)[l]? = some (some (c, u)) → l ≠ j ∧ env[l]? = some (some (c, u)) := by
      intro l c u e
      by_cases hl : j = l
      · subst hl; rw [List.getElem?_set_self hjl] at e; cases e
      · rw [List.getElem?_set_ne hl] at e; exact ⟨fun z => hl z.symm, e⟩
    have t2 : StOk W F0 ph0 H0 F ph hp (env.set j none) σ H := ⟨t.ext, t.rel, ⟨by rw [List.length_set]; exact t.s.len, fun l u e => t.s.val l u (get l _ u e).2, fun l u e => t.s.own l u (get l _ u e).2,
      fun l m u w b e1 e2 => t.s.dis l m u w b (get l _ u e1).2 (get m _ w e2).2⟩⟩
    have st := t2.set (i := i) (r := (true, v)) (x := .ref a) (Hs := fun b => if b = a then none else H b) (fun b z => by
      show (if b = a then none else H b) ≠ none
      rw [if_neg (fun w => z (by rw [w]; exact h4))]
      exact t.ext.dom b z) (fun b z => by
      show (if b = a then none else H b) ≠ none
      obtain ⟨l, u, e1, e2⟩ := z
      obtain ⟨n1, e1⟩ := get l _ u e1
      rw [if_neg]
      · exact t.ownN ⟨l, u, e1, e2⟩
      · rintro rfl
        exact t.s.dis l j u v b e1 h3 n1 e2 h1) (by
      unfold RRep
      rw [if_pos rfl]
      exact ⟨a, o, rfl, h2, h3', if_pos rfl, h5, h6⟩)
    exact ⟨.ref a, h1, f F ph _ H st .refl⟩
theorem x_rse {st : Stmt} : PS X st (tX W G k .rse) := by
  refine PS_imp ps_never ?_
  rintro D σ H ⟨F0, ph0, H0, F, ph, hp, env, res, t, e, f⟩
  simp only [exec] at e
  cases e
end
end MP
set_option maxRecDepth 100000
/-! MiniPy: tests, loops, returns over the machine. -/
namespace MP
open PySem PySem.Spec PyProof.Rows L2
section
variable {W : Wd} {G : Gl} {k : Nat} {C : Cc} {X : Cx}
theorem bl_keep {F H Hs : Hp} {ph : List Addr} {env : FEnv} {r : Rv} {x : V} {b : Bool} (rr : RRep W F ph Hs H r x) (h : r.2 = .bl b) : keep r env = env ∧ x = .bl b := by
  obtain ⟨k, rx⟩ := lf_keep (env := env) rr (by rw [h]; rfl)
  rw [h] at rx
  exact ⟨k, rx.blV⟩
theorem x_ife {c : ME} {a b : MS} {ec : Expr} {sa sb : List Stmt} {pos : Pos} (hc : PT X ec (tB (tE W G k c))) (ha : PSs X sa (tX W G k a)) (hb : PSs X sb (tX W G k b)) : PS X (.If ec sa sb pos) (tX W G k (.ife c a b)) := by
  refine PS_imp (ps_if hc ha hb) ?_
  rintro D σ H ⟨F0, ph0, H0, F, ph, hp, env, res, t, e, f⟩
  simp only [exec] at e
  obtain ⟨p, d, e1, eb, e2⟩ := bndB_some e
  refine ex_step t e1 fun F' ph' x H' af rr => ?_
  obtain ⟨kp, rfl⟩ := bl_keep rr eb
  rw [kp] at af
  refine ⟨d, rfl, ?_⟩
  cases d with
  | true =>
    rw [if_pos rfl] at e2 ⊢
    exact ⟨F0, ph0, H0, F', ph', _, env, res, af.st, e2, f.le af.lf⟩
  | false =>
    rw [if_neg (by simp)] at e2 ⊢
    exact ⟨F0, ph0, H0, F', ph', _, env, res, af.st, e2, f.le af.lf⟩
theorem x_whl {c : ME} {b : MS} {ec : Expr} {sb : List Stmt} {pos : Pos} (hp : PassesOwn (model X.prog X.w) X.A X.env X.xe) (hc : PT X ec (tB (tE W G k c))) (hb : PSs X sb (tX W G k b)) : PS X (.While ec sb [] pos) (tX W G k (.whl c b)) := by
  refine PS_imp (ps_while hp hc hb) ?_
  rintro D σ H ⟨F0, ph0, H0, F, ph, hp0, env, res, t, e, f⟩
  simp only [exec] at e
  refine ⟨fun m σ H => ∃ F' ph' hp env, StOk W F0 ph0 H0 F' ph' hp env σ H ∧ LeF F ph F' ph' ∧ whlE (fun env hp => ev G.cst (callF G k) c (unf env) hp) (exec G.cst (callF G k) WF b) m env hp = some res, ⟨WF, F, ph, hp0, env, t, .refl, e⟩, ?_⟩
  rintro m σ1 H1 ⟨F1, ph1, hp1, env1, t1, l1, e1⟩
  cases m with
  | zero => cases e1
  | succ m =>
    simp only [whlE] at e1
    obtain ⟨p, d, e2, eb, e3⟩ := bndB_some e1
    refine ex_step t1 e2 fun F' ph' x H' af rr => ?_
    obtain ⟨kp, rfl⟩ := bl_keep rr eb
    rw [kp] at af
    refine ⟨d, rfl, ?_⟩
    cases d with
    | false =>
      rw [if_neg (by simp)] at e3 ⊢
      cases e3
      exact f F' ph' σ1 H' af.st (l1.trans af.lf)
    | true =>
      rw [if_pos rfl] at e3 ⊢
      obtain ⟨rb, e4, e5⟩ := Option.bind_eq_some_iff.mp e3
      refine ⟨fun σ H => ∃ m', m' < m + 1 ∧ ∃ F' ph' hp env, StOk W F0 ph0 H0 F' ph' hp env σ H ∧ LeF F ph F' ph' ∧ whlE (fun env hp => ev G.cst (callF G k) c (unf env) hp) (exec G.cst (callF G k) WF b) m' env hp = some res, fun σ' H' h => h, ?_⟩
      refine ⟨F0, ph0, H0, F', ph', _, env1, rb, af.st, e4, ?_⟩
      obtain ⟨fl, env2, hp2⟩ := rb
      cases fl with
      | nx => exact fun F2 ph2 σ2 H2 t2 l2 => ⟨m, Nat.lt_succ_self _, F2, ph2, hp2, env2, t2, (l1.trans af.lf).trans l2, e5⟩
      | ct => exact fun F2 ph2 σ2 H2 t2 l2 => ⟨m, Nat.lt_succ_self _, F2, ph2, hp2, env2, t2, (l1.trans af.lf).trans l2, e5⟩
      | bk =>
        cases e5
        exact fun F2 ph2 σ2 H2 t2 l2 => f F2 ph2 σ2 H2 t2 ((l1.trans af.lf).trans l2)
      | rt v =>
        cases e5
        exact f
/-- a result that is walked: it stands from here on -/
theorem StOk.hold {F0 F' H0 H H' : Hp} {ph0 ph' : List Addr} {hp1 : Hs} {env : FEnv} {σ : L2.St} {r : Rv} {x : V} (t : StOk W F0 ph0 H0 F' ph' hp1 env σ H') (hd : ∀ a, H0 a ≠ none → H a ≠ none) (ho : ∀ a, ownA env σ a → H a ≠ none) (rr : RRep W F' ph' H H' r x) :
    ∃ F2, StOk W F0 ph0 H0 F2 ph' hp1 env σ H' ∧ LeF F' ph' F2 ph' ∧ Rep W F2 ph' r.2 x := by
  obtain ⟨b, v⟩ := r
  unfold RRep at rr
  cases b with
  | false =>
    simp only [Bool.false_eq_true, if_false] at rr
    exact ⟨F', t, .refl, rr⟩
  | true =>
    simp only [if_true] at rr
    obtain ⟨a, o, rfl, h2, h3, h4, h5, h6⟩ := rr
    have le := le_upd (o := o) h2
    have h0 : H0 a = none := Classical.byContradiction fun y => hd a y h4
    refine ⟨upd F' a o, ⟨⟨fun b q z => le b q (t.ext.le b q z), fun b z => ?_, t.ext.pre, t.ext.pnew, t.ext.pres, t.ext.dom⟩, t.rel.freeze (.inl h5) h2 h3 (fun vs z => absurd z (h6.no_tup vs)), ⟨t.s.len, fun j u e => ?_, fun j u e => ?_, t.s.dis⟩⟩, ⟨le, fun _ _ z => z⟩, .obj upd_same (h6.mono le fun _ _ z => z)⟩
    · by_cases hb : b = a
      · subst hb; exact .inr h0
      · rw [upd_ne hb] at z; exact t.ext.new b z
    · obtain ⟨y, e1, e2⟩ := t.s.val j u e
      exact ⟨y, e1, e2.mono le fun _ _ z => z⟩
    · obtain ⟨b, p, g1, g2, g3, g4, g5, g6⟩ := t.s.own j u e
      refine ⟨b, p, g1, ?_, g3, g4, g5, g6.mono le fun _ _ z => z⟩
      rw [upd_ne]
      · exact g2
      · rintro rfl
        exact ho b ⟨j, u, e, g1⟩ h4
theorem lf_upTo (lo : Int) (n : Nat) : lfAll (upTo lo n) = true := by
  unfold upTo
  generalize List.range n = l
  induction l with
  | nil => rfl
  | cons a l ih => simp only [List.map_cons, lfAll, ih, PV.lf, Bool.and_self]
theorem lf_rng {vs xs : List PV} (h : rngP vs = some xs) : lfAll vs = true := by
  rcases rng_cases h with ⟨j, rfl, _⟩ | ⟨i, j, rfl, _⟩ <;> rfl
/-- what a for walks, behind it the state -/
def iS (W : Wd) (G : Gl) (k : Nat) (ik : Ik) (m : ME) : TI := fun σ H R => ∃ F0 ph0 H0 F ph hp env p, StOk W F0 ph0 H0 F ph hp env σ H ∧ evIK G.cst (callF G k) ik m env hp = some p ∧
  ∀ F' ph' H' J, StOk W F0 ph0 H0 F' ph' p.2.2 p.2.1 σ H' → LeF F ph F' ph' → JOk W F' ph' p.1 J → R J H'
theorem iS_val {m : ME} {σ : L2.St} {H : Hp} {R : It → Hp → Prop} (h : iS W G k .val m σ H R) : iG W (tK W G k m) σ H R := by
  obtain ⟨F0, ph0, H0, F, ph, hp, env, p, t, e, q⟩ := h
  simp only [evIK] at e
  obtain ⟨p1, e1, e2⟩ := Option.bind_eq_some_iff.mp e
  obtain ⟨xs, e3, e4⟩ := Option.map_eq_some_iff.mp e2
  cases e4
  refine exK_step t e1 fun F' ph' x H' af rr => ?_
  obtain ⟨F2, t2, l2, rx⟩ := af.st.hold (fun a z => t.ext.dom a z) af.own rr
  exact ⟨F2, ph', _, _, _, t2.rel, rx, e3, fun J j => q F2 ph' H' J t2 (af.lf.trans l2) j⟩
theorem iS_rng {m : ME} {σ : L2.St} {H : Hp} {R : It → Hp → Prop} : (iS W G k .rng m σ H R → iR W G k false m σ H R) ∧ (iS W G k .rrng m σ H R → iR W G k true m σ H R) := by
  constructor
  all_goals
    rintro ⟨F0, ph0, H0, F, ph, hp, env, p, t, e, q⟩
    simp only [evIK] at e
    obtain ⟨p1, e1, e2⟩ := bndL_some e
    obtain ⟨xs, e3, e4⟩ := Option.map_eq_some_iff.mp e2
    cases e4
    obtain ⟨x1, r1, r2⟩ := t.frz
    refine ⟨frzF F env σ H, ph, hp, unf env, _, _, _, r1, r2, e1, e3, fun F' ph' H' J e' h' hE' j => ?_⟩
    obtain ⟨t', le⟩ := t.thaw e' h'
    exact q _ ph' H' J t' ⟨le, e'.pre⟩ (j _ _)
theorem x_for {tg : Tg} {ik : Ik} {m : ME} {b : MS} {et ei : Expr} {sb : List Stmt} {pos : Pos} (hp : PassesOwn (model X.prog X.w) X.A X.env X.xe) (hc : X.calm = true) (hi : PI X et ei (iS W G k ik m)) (hg : PG X et (gT W tg)) (hb : PSs X sb (tX W G k b))
    (hs : ∀ x, foldedSetIterable ei X.env x = pure x) : PS X (.For et ei sb [] pos) (tX W G k (.for_ tg ik m b)) := by
  refine PS_imp (ps_for hp hc hi hg hb hs) ?_
  rintro D σ H ⟨F0, ph0, H0, F, ph, hp0, env, res, t, e, f⟩
  simp only [exec] at e
  obtain ⟨p, e1, e2⟩ := Option.bind_eq_some_iff.mp e
  refine ⟨F0, ph0, H0, F, ph, hp0, env, p, t, e1, fun F1 ph1 H1 J t1 l1 jok => ?_⟩
  refine ⟨fun i m σ H => m = p.1.length - i ∧ i ≤ p.1.length ∧ ∃ F' ph' hp env, StOk W F0 ph0 H0 F' ph' hp env σ H ∧ LeF F1 ph1 F' ph' ∧ forE tg (exec G.cst (callF G k) WF b) (p.1.drop i) env hp = some res, ⟨p.1.length, by simp, Nat.zero_le _, F1, ph1, p.2.2, p.2.1, t1, .refl, by rw [List.drop_zero]; exact e2⟩, ?_⟩
  rintro i m σ2 H2 ⟨rfl, hi2, F2, ph2, hp2, env2, t2, l2, e3⟩
  obtain ⟨jk1, jk2⟩ := jok i F2 ph2 hp2 H2 l2.le t2.rel
  by_cases hlt : i < p.1.length
  · refine .inr ?_
    have hx : p.1[i]? = some p.1[i] := List.getElem?_eq_getElem hlt
    obtain ⟨go, yl⟩ := jk1 _ hx
    rw [List.drop_eq_getElem_cons hlt] at e3
    simp only [forE] at e3
    obtain ⟨env3, e4, e5⟩ := Option.bind_eq_some_iff.mp e3
    obtain ⟨rb, e6, e7⟩ := Option.bind_eq_some_iff.mp e5
    refine ⟨go, fun σ H => ∃ m', m' < p.1.length - i ∧ m' = p.1.length - (i + 1) ∧ i + 1 ≤ p.1.length ∧ ∃ F' ph' hp env, StOk W F0 ph0 H0 F' ph' hp env σ H ∧ LeF F1 ph1 F' ph' ∧ forE tg (exec G.cst (callF G k) WF b) (p.1.drop (i + 1)) env hp = some res, fun σ' H' h => ?_, fun y H3 hy => ?_⟩
    · obtain ⟨m', a, b⟩ := h
      exact ⟨m', a, b⟩
    obtain ⟨rfl, ry⟩ := yl y H3 hy
    obtain ⟨g1, g2, g3⟩ := t2.setT e4
    refine ⟨F2, ph2, _, _, _, _, t2.rel, g1, ry.mono l2.le l2.pre, g2, fun σ3 hE hl hj => ?_⟩
    have t3 := g3 σ3 hE hl hj
    refine ⟨F0, ph0, H0, F2, ph2, hp2, env3, rb, t3, e6, ?_⟩
    obtain ⟨fl, env4, hp4⟩ := rb
    cases fl with
    | nx => exact fun F4 ph4 σ4 H4 t4 l4 => ⟨_, by omega, rfl, hlt, F4, ph4, hp4, env4, t4, l2.trans l4, e7⟩
    | ct => exact fun F4 ph4 σ4 H4 t4 l4 => ⟨_, by omega, rfl, hlt, F4, ph4, hp4, env4, t4, l2.trans l4, e7⟩
    | bk =>
      cases e7
      exact fun F4 ph4 σ4 H4 t4 l4 => f F4 ph4 σ4 H4 t4 ((l1.trans l2).trans l4)
    | rt v =>
      cases e7
      exact f
  · refine .inl ⟨jk2 (by omega), ?_⟩
    have : p.1.drop i = [] := List.drop_eq_nil_of_le (by omega)
    rw [this] at e3
    simp only [forE] at e3
    cases e3
    exact f F2 ph2 σ2 H2 t2 (l1.trans l2)
/-- a shared list walked, as it stands at each turn -/
theorem x_fors {tg : Tg} {m : ME} {b : MS} {et ei : Expr} {sb : List Stmt} {pos : Pos} (hK : X.K = W.K) (hp : PassesOwn (model X.prog X.w) X.A X.env X.xe) (hc : X.calm = true) (he : PE X ei (tK W G k m)) (hg : PG X et (gT W tg)) (hb : PSs X sb (tX W G k b))
    (hs : ∀ x, foldedSetIterable ei X.env x = pure x) : PS X (.For et ei sb [] pos) (tX W G k (.fors tg m b)) := by
  refine PS_imp (ps_for hp hc (pi_list (tg := et) he) hg hb hs) ?_
  rintro D σ H ⟨F0, ph0, H0, F, ph, hp0, env, res, t, e, f⟩
  simp only [exec] at e
  obtain ⟨p, e1, e2⟩ := Option.bind_eq_some_iff.mp e
  split at e2
  rotate_left
  · cases e2
  rename_i n hn
  refine exK_step t e1 fun F1 ph1 x H1 af rr => ?_
  have rx : Rep W F1 ph1 (.ref n) x := by
    obtain ⟨⟨bb, v⟩, q⟩ := p
    simp only at hn rr
    subst hn
    exact (lf_keep (env := env) rr rfl).2
  obtain ⟨a, rfl, ha⟩ := ref_at rx
  have sqOf : ∀ {F' : Hp} {ph' : List Addr} {hp' : Hs} {env' : FEnv} {σ' : L2.St} {H' : Hp} {xs : List PV}, StOk W F0 ph0 H0 F' ph' hp' env' σ' H' → LeF F1 ph1 F' ph' → hp'[n]? = some (.lst xs) → ∃ vs, SqL X.K H' a vs ∧ RepA W F' ph' xs vs := by
    intro F' ph' hp' env' σ' H' xs t' l' hc'
    obtain ⟨_, o, e3, r⟩ := t'.rel.sh n a _ (l'.pre n a ha) hc'
    cases r with | lst r => exact ⟨_, .inl (.inl e3), r⟩
  have forS_n : ∀ (fu i : Nat) (env : FEnv) (hp : Hs) (res : Flow × FEnv × Hs), forS tg (exec G.cst (callF G k) WF b) n fu i env hp = some res → ∃ fu' xs, fu = fu' + 1 ∧ hp[n]? = some (.lst xs) ∧ (match xs[i]? with
      | some x => (setF tg x env).bind fun env1 => (exec G.cst (callF G k) WF b env1 hp).bind (turnE (forS tg (exec G.cst (callF G k) WF b) n fu' (i + 1)))
      | none => some (.nx, env, hp)) = some res := by
    intro fu i env hp res h
    cases fu with
    | zero => cases h
    | succ fu =>
      simp only [forS] at h
      split at h
      · rename_i xs hx; exact ⟨fu, xs, rfl, hx, h⟩
      · cases h
  obtain ⟨_, xs0, _, hc0, _⟩ := forS_n _ _ _ _ _ e2
  obtain ⟨vs0, sq0, _⟩ := sqOf af.st .refl hc0
  refine ⟨a, rfl, ⟨vs0, sq0⟩, ?_⟩
  refine ⟨fun i m σ H => ∃ F' ph' hp env, StOk W F0 ph0 H0 F' ph' hp env σ H ∧ LeF F1 ph1 F' ph' ∧ forS tg (exec G.cst (callF G k) WF b) n m i env hp = some res, ⟨WF, F1, ph1, p.2.2, p.2.1, af.st, .refl, e2⟩, ?_⟩
  rintro i m σ2 H2 ⟨F2, ph2, hp2, env2, t2, l2, e3⟩
  obtain ⟨m', xs, rfl, hc2, e3⟩ := forS_n _ _ _ _ _ e3
  obtain ⟨vs, sq, ra⟩ := sqOf t2 l2 hc2
  cases hx : xs[i]? with
  | none =>
    rw [hx] at e3
    cases e3
    refine .inl ⟨⟨vs, sq, ?_⟩, f F2 ph2 σ2 H2 t2 (af.lf.trans l2)⟩
    rw [← ra.length]
    exact List.getElem?_eq_none_iff.mp hx
  | some x =>
    rw [hx] at e3
    obtain ⟨v, hv, rv⟩ := ra.get hx
    refine .inr ⟨⟨vs, v, sq, hv⟩, ?_⟩
    simp only at e3
    obtain ⟨env3, e4, e5⟩ := Option.bind_eq_some_iff.mp e3
    obtain ⟨rb, e6, e7⟩ := Option.bind_eq_some_iff.mp e5
    refine ⟨fun σ H => ∃ m2, m2 < m' + 1 ∧ ∃ F' ph' hp env, StOk W F0 ph0 H0 F' ph' hp env σ H ∧ LeF F1 ph1 F' ph' ∧ forS tg (exec G.cst (callF G k) WF b) n m2 (i + 1) env hp = some res, fun σ' H' h => ?_, fun y H3 hy => ?_⟩
    · obtain ⟨m2, a, b⟩ := h
      exact ⟨m2, a, b⟩
    obtain ⟨rfl, hy2⟩ := hy
    have ey : v = y := by
      have := hy2 vs sq
      rw [hv] at this
      exact Option.some.inj this
    subst ey
    obtain ⟨g1, g2, g3⟩ := t2.setT e4
    refine ⟨F2, ph2, _, _, _, _, t2.rel, g1, rv, g2, fun σ3 hE hl hj => ?_⟩
    have t3 := g3 σ3 hE hl hj
    refine ⟨F0, ph0, H0, F2, ph2, hp2, env3, rb, t3, e6, ?_⟩
    obtain ⟨fl, env4, hp4⟩ := rb
    cases fl with
    | nx => exact fun F4 ph4 σ4 H4 t4 l4 => ⟨m', Nat.lt_succ_self _, F4, ph4, hp4, env4, t4, l2.trans l4, e7⟩
    | ct => exact fun F4 ph4 σ4 H4 t4 l4 => ⟨m', Nat.lt_succ_self _, F4, ph4, hp4, env4, t4, l2.trans l4, e7⟩
    | bk =>
      cases e7
      exact fun F4 ph4 σ4 H4 t4 l4 => f F4 ph4 σ4 H4 t4 ((af.lf.trans l2).trans l4)
    | rt v =>
      cases e7
      exact f
theorem x_ret {m : ME} {e : Expr} {pos : Pos} (he : PE X e (tK W G k m)) : PS X (.Return (some e) pos) (tX W G k (.ret m)) := by
  refine PS_imp (ps_ret he) ?_
  rintro D σ H ⟨F0, ph0, H0, F, ph, hp, env, res, t, e, f⟩
  simp only [exec] at e
  show tK W G k m σ H D.rt
  unfold tK
  split at e
  · rename_i i hi
    rw [hi]
    obtain ⟨r, h1, h2⟩ := Option.map_eq_some_iff.mp e
    cases h2
    have h3 : env[i]? = some (some r) := by
      cases z : env[i]? with
      | none => rw [z] at h1; cases h1
      | some o => rw [z] at h1; exact congrArg some h1
    obtain ⟨b, v⟩ := r
    cases b with
    | false =>
      obtain ⟨x, g1, g2⟩ := t.s.val i v h3
      exact ⟨x, g1, f F ph x H t.ext t.rel (RRep.of g2)⟩
    | true =>
      obtain ⟨a, o, g1, g2, g3, g4, g5, g6⟩ := t.s.own i v h3
      exact ⟨_, g1, f F ph _ H t.ext t.rel (RRep.own g2 g3 g4 g5 g6)⟩
  · rename_i hi
    rw [hi]
    obtain ⟨p, h1, h2⟩ := Option.map_eq_some_iff.mp e
    cases h2
    obtain ⟨x1, r1, r2⟩ := t.frz
    exact ⟨frzF F env σ H, ph, hp, unf env, p.1, p.2, r1, r2, h1, fun F' ph' x H' e' h' rr => f F' ph' x H' (x1.trans e') h' (rr.back t.ext)⟩
theorem x_retn {pos : Pos} : PS X (.Return none pos) (tX W G k .retn) := by
  refine PS_imp ps_retN ?_
  rintro D σ H ⟨F0, ph0, H0, F, ph, hp, env, res, t, e, f⟩
  simp only [exec] at e
  cases e
  exact f F ph .non H t.ext t.rel (RRep.of .non)
theorem x_brk {pos : Pos} : PS X (.Break pos) (tX W G k .brk) := by
  refine PS_imp ps_break ?_
  rintro D σ H ⟨F0, ph0, H0, F, ph, hp, env, res, t, e, f⟩
  simp only [exec] at e
  cases e
  exact f F ph σ H t .refl
theorem x_cnt {pos : Pos} : PS X (.Continue pos) (tX W G k .cnt) := by
  refine PS_imp ps_continue ?_
  rintro D σ H ⟨F0, ph0, H0, F, ph, hp, env, res, t, e, f⟩
  simp only [exec] at e
  cases e
  exact f F ph σ H t .refl
theorem x_pas {pos : Pos} : PS X (.Pass pos) (tX W G k .pas) := by
  refine PS_imp ps_pass ?_
  rintro D σ H ⟨F0, ph0, H0, F, ph, hp, env, res, t, e, f⟩
  simp only [exec] at e
  cases e
  exact f F ph σ H t .refl
theorem x_exp {m : ME} {st : Stmt} (h : PS X st (tDrop (tK W G k m))) : PS X st (tX W G k (.exp m)) := by
  refine PS_imp h ?_
  rintro D σ H ⟨F0, ph0, H0, F, ph, hp, env, res, t, e, f⟩
  simp only [exec] at e
  obtain ⟨p, e1, e2⟩ := Option.map_eq_some_iff.mp e
  cases e2
  exact exK_step t e1 fun F' ph' x H' af rr => f F' ph' σ H' af.st af.lf
end
end MP
set_option maxRecDepth 100000
/-! MiniPy: the check of a statement, and its soundness. -/
namespace MP
open PySem PySem.Spec PyProof.Rows L2
/-- a comprehension whose value is stored at once -/
def swL (C : Cc) (x : Str) (p : Pos) : Expr → Bool
  | .ListComp _ _ scope pos => decide (C.sc.names.lookup x = some .local) && (p.line == pos.line) && !(scope.names.any fun (n, k) => n == x && (k == .local || k == .cell))
  | _ => false
def noComp : Expr → Bool
  | .ListComp _ _ _ _ => false | .SetComp _ _ _ _ => false | .DictComp _ _ _ _ _ => false
  | _ => true
def starB : Expr → Bool
  | .Starred _ _ => true | _ => false
def swNames (C : Cc) (ts : List Expr) : List Str := ts.filterMap fun
  | .Name id pos => if C.sc.names.lookup id == some .local && pos.line == (ts.head?.map (·.pos.line)).getD 0 then some id else none
  | _ => none
def swNone (C : Cc) (tg e : Expr) : Bool := match tg, e with
  | .Tuple ts _ _, .Tuple vs _ _ => (!(ts.length == 2 || ts.length == 3) || vs.length != ts.length) || (vs.any starB || ((swNames C ts).length != ts.length || (swNames C ts).eraseDups.length != (swNames C ts).length))
  | .Tuple _ _ _, _ => true
  | _, _ => false
def isLc : ME → Bool
  | .lc _ _ _ _ _ => true
  | .lc2 _ _ _ _ _ _ _ _ _ => true
  | _ => false
mutual
def chkS (G : Gl) : MS → Cc → Stmt → Bool
  | .nil, _, _ => false
  | .cons _ _, _, _ => false
  | .asg t m, C, st => match st with
    | .Assign [tg] e pos => chk G m C e && (match t, tg with
      | .nm i, .Name x p => decide (C.N[i]? = some x) && locB C x && (if swL C x p e then isLc m && decide (C.sc.names.lookup x = some .local) else true)
      | .tp ts, tg => if swNone C tg e then chkT C (.tp ts) tg && noComp e else (match ts, tg, m, e with
        | .cons (.nm i) (.cons (.nm j) .nil), .Tuple [.Name x px, .Name y py] _ _, .tup (.cons _ (.cons _ .nil)), .Tuple [a, b] _ _ => decide (C.N[i]? = some x) && decide (C.N[j]? = some y) && decide (i ≠ j) && decide (C.sc.names.lookup x = some .local) && decide (C.sc.names.lookup y = some .local) && (py.line == px.line) && decide (x ≠ y) &&
            !starB a && !starB b && !([a, b].all (foldedForSure 8)) && !([a, b].all (constantsAlone 8))
        | _, _, _, _ => false)
      | _, _ => false)
    | _ => false
  | .aug i op m, C, st => match st with
    | .AugAssign (.Name x _) o e _ => decide (C.N[i]? = some x) && locB C x && decide (o = opOf op) && decide (op = .add ∨ op = .sub) && chk G m C e
    | _ => false
  | .seti o mi me, C, st => match st with
    | .Assign [.Subscript eo ei _] e _ => chk G o C eo && chk G mi C ei && chk G me C e && noSl ei
    | _ => false
  | .app n m, C, st => match st with
    | .Expr (.Call (.Attribute (.Name x p) nm apos) [e] [] cpos) _ => decide (nm = "append") && chk G (.var n) C (.Name x p) && notStar e && (apos.endLine == cpos.line) && chk G m C e
    | _ => false
  | .ext n m, C, st => match st with
    | .Expr (.Call (.Attribute (.Name x p) nm apos) [e] [] cpos) _ => decide (nm = "extend") && chk G (.var n) C (.Name x p) && notStar e && (apos.endLine == cpos.line) && chk G m C e
    | _ => false
  | .apx o m, C, st => match st with
    | .Expr (.Call (.Attribute eo nm apos) [e] [] cpos) _ => decide (nm = "append") && plainO eo && chk G o C eo && notStar e && (apos.endLine == cpos.line) && chk G m C e
    | _ => false
  | .sda n mk md me, C, st => match st with
    | .Expr (.Call (.Attribute (.Call (.Attribute (.Name x p) nm apos) [ek, ed] [] cpos) nm2 apos2) [e] [] cpos2) _ => decide (nm = "setdefault") && decide (nm2 = "append") && chk G (.var n) C (.Name x p) && notStar ek && notStar ed && notStar e && (apos.endLine == cpos.line) && (apos2.endLine == cpos2.line) && chk G mk C ek && chk G md C ed && chk G me C e
    | _ => false
  | .popa t n m, C, st => match st with
    | .Assign [.Name z _] (.BinOp (.Name z2 pz2) .Add (.Tuple [.Call (.Attribute (.Name x p) nm apos) [e] [] cpos] _ _) _) _ => decide (z = z2) && decide (C.N[t]? = some z) && locB C z && decide (nm = "pop") && chk G (.var t) C (.Name z2 pz2) && chk G (.var n) C (.Name x p) && notStar e && (apos.endLine == cpos.line) && chk G m C e
    | _ => false
  | .fors t m b, C, st => match st with
    | .For et ei sb [] _ => chkT C t et && !isSet ei && chk G m C ei && chkSs G b C sb
    | _ => false
  | .rse, _, _ => true
  | .mov i j, C, st => match st with
    | .Assign [.Name x _] (.Name y p) _ => decide (C.N[i]? = some x) && locB C x && chk G (.var j) C (.Name y p)
    | _ => false
  | .pop t n m, C, st => match st with
    | .Assign [.Name z _] (.Call (.Attribute (.Name x p) nm apos) [e] [] cpos) _ => decide (C.N[t]? = some z) && locB C z && decide (nm = "pop") && chk G (.var n) C (.Name x p) && notStar e && (apos.endLine == cpos.line) && chk G m C e
    | _ => false
  | .ife c a b, C, st => match st with
    | .If ec sa sb _ => chk G c C ec && chkSs G a C sa && chkSs G b C sb
    | _ => false
  | .whl c b, C, st => match st with
    | .While ec sb [] _ => chk G c C ec && chkSs G b C sb
    | _ => false
  | .for_ t ik m b, C, st => match st with
    | .For et ei sb [] _ => chkT C t et && itB C ik m.count (chk G m C) (chkL G m C) ei && chkSs G b C sb
    | _ => false
  | .ret m, C, st => match st with
    | .Return (some e) _ => chk G m C e
    | _ => false
  | .retn, _, st => match st with
    | .Return none _ => true
    | _ => false
  | .brk, _, st => match st with
    | .Break _ => true
    | _ => false
  | .cnt, _, st => match st with
    | .Continue _ => true
    | _ => false
  | .pas, _, st => match st with
    | .Pass _ => true
    | _ => false
  | .exp m, C, st => match st with
    | .Expr e _ => chk G m C e && noComp e
    | _ => false
def chkSs (G : Gl) : MS → Cc → List Stmt → Bool
  | .nil, _, sts => sts.isEmpty
  | .cons s r, C, sts => match sts with
    | st :: sts => chkS G s C st && chkSs G r C sts
    | [] => false
  | _, _, _ => false
end
structure SOk (W : Wd) (G : Gl) (k : Nat) (C : Cc) (X : Cx) : Prop where
  x : XOk W G k C X
  pass : PassesOwn (model X.prog X.w) X.A X.env X.xe
section
variable {W : Wd} {G : Gl} {k : Nat} {C : Cc} {X : Cx}
theorem bk_of (ok : XOk W G k C X) : X.env.blockKind = .function := by
  unfold PySem.Env.blockKind
  rw [ok.sc, ok.kind]; rfl
theorem sw_name {x : Str} {p : Pos} {l : Nat} {e : Expr} (ok : XOk W G k C X) (h : swL C x p e = false) (hc : noComp e = true ∨ ∃ a b s q, e = .ListComp a b s q) : swapsWith e (some (.Name x p)) l X.env = pure false := by
  rcases hc with hc | ⟨a, b, s, q, rfl⟩
  · cases e <;> first | rfl | (simp [noComp] at hc)
  · unfold swapsWith
    have kx : X.env.kindOf x = C.sc.names.lookup x := by show X.env.scope.names.lookup x = _; rw [ok.sc]
    simp only [bk_of ok, kx, Expr.pos]
    unfold swL at h
    have : ((ScopeKind.function == ScopeKind.function) && C.sc.names.lookup x == some .local && p.line == q.line && !(s.names.any fun (n, k) => n == x && (k == .local || k == .cell))) = false := by
      rw [show (ScopeKind.function == ScopeKind.function) = true from rfl, Bool.true_and]
      by_cases hl : C.sc.names.lookup x = some .local
      · rw [hl] at h ⊢
        simpa using h
      · have : (C.sc.names.lookup x == some .local) = false := by simpa using hl
        rw [this]; rfl
    rw [this]
theorem sw_none {t e : Expr} {l : Nat} (h : noComp e = true) (env : PySem.Env) : swapsWith e (some t) l env = pure false := by
  cases e <;> first | rfl | (simp [noComp] at h)
theorem sw_drop {e : Expr} {l : Nat} (h : noComp e = true) (env : PySem.Env) : swapsWith e none l env = pure false := by
  cases e <;> first | rfl | (simp [noComp] at h)
theorem sw_sub {a b e : Expr} {q : Pos} {l : Nat} (env : PySem.Env) : swapsWith e (some (.Subscript a b q)) l env = pure false := by
  cases e <;> rfl
theorem comp_or {m : ME} {e : Expr} (h : chk G m C e = true) : noComp e = true ∨ ∃ a b s q, e = .ListComp a b s q := by
  cases e with
  | ListComp a b s q => exact .inr ⟨a, b, s, q, rfl⟩
  | SetComp a b s q =>
    exfalso
    induction m with
    | hp a ih =>
      unfold chk at h
      rw [Bool.and_eq_true] at h
      exact ih h.1
    | _ => simp [chk] at h
  | DictComp a b c s q =>
    exfalso
    induction m with
    | hp a ih =>
      unfold chk at h
      rw [Bool.and_eq_true] at h
      exact ih h.1
    | _ => simp [chk] at h
  | _ => exact .inl rfl
theorem names_eq (ok : XOk W G k C X) (ts : List Expr) (l : Nat) : (ts.filterMap fun
    | .Name id pos => if X.env.kindOf id == some .local && pos.line == l then some id else none
    | _ => none) = ts.filterMap fun
    | .Name id pos => if C.sc.names.lookup id == some .local && pos.line == l then some id else none
    | _ => none := by
  have kx : ∀ x, X.env.kindOf x = C.sc.names.lookup x := fun x => by show X.env.scope.names.lookup x = _; rw [ok.sc]
  simp only [kx]
theorem sw_no (ok : XOk W G k C X) {tg e : Expr} (h : swNone C tg e = true) : swappedStores [tg] e X.env = pure none := by
  unfold swNone at h
  split at h
  · rename_i ts n p vs n2 p2
    unfold swappedStores
    simp only [pure_bind]
    have kx : ∀ x, X.env.kindOf x = C.sc.names.lookup x := fun x => by show X.env.scope.names.lookup x = _; rw [ok.sc]
    simp only [kx]
    split
    · rfl
    · rename_i h1
      split
      · rfl
      · rename_i h2
        split
        · rfl
        · rename_i h3
          exfalso
          rw [Bool.or_eq_true] at h
          rcases h with h | h
          · apply h1; rw [h]; rfl
          · rw [Bool.or_eq_true] at h
            rcases h with h | h
            · apply h2
              refine Eq.trans ?_ h
              congr 1
            · apply h3
              exact h
  · rename_i h0
    unfold swappedStores
    cases e <;> first | rfl | skip
    exact absurd rfl (h0 _ _ _ )
  · cases h
end
end MP
set_option maxRecDepth 100000
set_option maxHeartbeats 1000000
namespace MP
open PySem PySem.Spec PyProof.Rows L2
section
variable {W : Wd} {G : Gl} {k : Nat} {C : Cc} {X : Cx}
/-- a, b = x, y with plain local names -/
theorem sw_two (ok : XOk W G k C X) {x y : Str} {px py pt pt2 : Pos} {kt k2 : Nat} {a b : Expr} (hx : C.sc.names.lookup x = some .local) (hy : C.sc.names.lookup y = some .local) (hl : (py.line == px.line) = true) (ne : x ≠ y) (sa : starB a = false) (sb : starB b = false)
    (f1 : ([a, b].all (foldedForSure 8)) = false) (f2 : ([a, b].all (constantsAlone 8)) = false) : swappedStores [.Tuple [.Name x px, .Name y py] kt pt] (.Tuple [a, b] k2 pt2) X.env = pure (some [x, y]) := by
  have kx : ∀ x, X.env.kindOf x = C.sc.names.lookup x := fun x => by show X.env.scope.names.lookup x = _; rw [ok.sc]
  unfold swappedStores
  simp only [pure_bind, bk_of ok]
  have h1 : (!(([Expr.Name x px, Expr.Name y py].length == 2) || ([Expr.Name x px, Expr.Name y py].length == 3)) || [a, b].length != [Expr.Name x px, Expr.Name y py].length || ScopeKind.function != ScopeKind.function) = false := by rfl
  rw [if_neg (by rw [h1]; simp)]
  have h2 : [a, b].any starB = false := by simp [sa, sb]
  split
  · rename_i z
    exact absurd (show [a, b].any starB = true from z) (by rw [h2]; simp)
  have names : ([Expr.Name x px, Expr.Name y py].filterMap fun
      | .Name id pos => if X.env.kindOf id == some .local && pos.line == (([Expr.Name x px, Expr.Name y py].head?.map (·.pos.line)).getD 0) then some id else none
      | _ => none) = [x, y] := by
    show List.filterMap _ _ = _
    have hl' : py.line = px.line := by simpa using hl
    simp [List.filterMap, kx, hx, hy, Expr.pos, hl']
  split
  · rename_i z
    exfalso
    have z2 : ([x, y].length != 2 || [x, y].eraseDups.length != [x, y].length) = true := by
      rw [← names]; exact z
    have ed : [x, y].eraseDups = [x, y] := by
      have yx : (y == x) = false := by simpa using ne.symm
      simp [List.eraseDups_cons, yx]
    rw [ed] at z2
    simp at z2
  split
  · rename_i z; rw [f1] at z; cases z
  split
  · rename_i z; rw [f2] at z; cases z
  show pure (some _) = _
  congr 1
  exact congrArg some names
end
end MP
set_option maxRecDepth 100000
set_option maxHeartbeats 1000000
/-! MiniPy: statements are sound. -/
namespace MP
open PySem PySem.Spec PyProof.Rows L2
section
variable {W : Wd} {G : Gl} {k : Nat} {C : Cc} {X : Cx}
theorem tK_lc {m : ME} (h : isLc m = true) : tK W G k m = tE W G k m := by
  cases m <;> simp [isLc] at h <;> rfl
/-- name = [..], stored at once -/
theorem set_lc (ok : XOk W G k C X) {i : Nat} {m : ME} {x : Str} {p pos : Pos} {e : Expr} (hl : isLc m = true) (h : chk G m C e = true) (hN : C.N[i]? = some x) (hx : C.sc.names.lookup x = some .local) (sw : swL C x p e = true) : PS X (.Assign [.Name x p] e pos) (tX W G k (.asg (.nm i) m)) := by
  have hxl : X.env.scope.names.lookup x = some .local := by rw [ok.sc]; exact hx
  have hk0 : X.env.scope.kind = .function := by rw [ok.sc]; exact ok.kind
  cases m <;> simp [isLc] at hl
  · rename_i elt t ik it c
    unfold chk at h
    split at h
    · rename_i ee tg i' ifs scope pos'
      simp only [Bool.and_eq_true] at h
      obtain ⟨⟨⟨⟨h1, h2⟩, h3⟩, h4⟩, h5⟩ := h
      have hk := okK h2
      obtain ⟨p1, p2⟩ := it_any (tg := tg) ok h3 (fun z => ((s_any it).1 C X _ ok z).1) fun es z => (s_any it).2 C X es ok z
      have hb := blkOk_by h2
      rw [← ok.N, ← ok.sc] at hb
      simp only [swL, Bool.and_eq_true, Bool.not_eq_true'] at sw
      have pe := ps_setLc (pos := pos') (spos := pos) (py := p) (i := i) ok.fit.calm (by rw [ok.N]; exact ok.nd) (by rw [ok.N]; exact hN) hxl (sw_true hk0 hxl sw.1.2 sw.2) p1 hb (fun s H c' cl fp => (sg_any (ok.blk hk s H c' cl fp) t).1 tg h1) (fun s H c' cl fp => ifs_any (C := C.blk scope) h4 fun e z => ((s_any c).1 _ _ e (ok.blk hk s H c' cl fp) z).2)
        (fun s H c' cl fp => ((s_any elt).1 _ _ ee (ok.blk hk s H c' cl fp) h5).1) fun x => foldS_of p2 _ x
      rw [own_slots] at pe
      exact x_set pe fun σ H Q q => lc_step q
    · cases h
  · rename_i elt t ik it c t1 k1 it1 c1
    unfold chk at h
    split at h
    · rename_i ee tg i' ifs tg1 i1 ifs1 scope pos'
      simp only [Bool.and_eq_true] at h
      obtain ⟨⟨⟨⟨⟨⟨⟨h1, h2⟩, h3⟩, h4⟩, h5⟩, h6⟩, h7⟩, h8⟩ := h
      have hk := okK h2
      obtain ⟨p1, p2⟩ := it_any (tg := tg) ok h3 (fun z => ((s_any it).1 C X _ ok z).1) fun es z => (s_any it).2 C X es ok z
      have hb := blkOk_by h2
      rw [← ok.N, ← ok.sc] at hb
      have q1 : ∀ (s : Shared) (H : Hp) (c' : Addr) (cl : List (Str × Addr)) (fp : List Addr), PI (X.blk s H scope (compEnvC scope cl c' X.env) fp) tg1 i1 (iK W G k k1 it1) ∧ isSet i1 = false := fun s H c' cl fp =>
        it_any (tg := tg1) (ok.blk hk s H c' cl fp) h6 (fun z => ((s_any it1).1 _ _ _ (ok.blk hk s H c' cl fp) z).1) fun es z => (s_any it1).2 _ _ es (ok.blk hk s H c' cl fp) z
      have s1 : isSet i1 = false := by unfold itB at h6; rw [Bool.and_eq_true, Bool.not_eq_true'] at h6; exact h6.1
      simp only [swL, Bool.and_eq_true, Bool.not_eq_true'] at sw
      have pe := ps_setLc2 (pos := pos') (spos := pos) (py := p) (i := i) (vs1 := t1.slots) ok.fit.calm (by rw [ok.N]; exact ok.nd) (by rw [ok.N]; exact hN) hxl (sw_true hk0 hxl sw.1.2 sw.2) p1 hb (by rw [own_slots]; exact fun i hi => List.mem_append_right _ hi) (fun s H c' cl fp => (sg_any (ok.blk hk s H c' cl fp) t).1 tg h1) (fun s H c' cl fp => ifs_any (C := C.blk scope) h4 fun e z => ((s_any c).1 _ _ e (ok.blk hk s H c' cl fp) z).2)
        (fun s H c' cl fp => (q1 s H c' cl fp).1) (fun s H c' cl fp => (sg_any (ok.blk hk s H c' cl fp) t1).1 tg1 h5) (fun s H c' cl fp => ifs_any (C := C.blk scope) h7 fun e z => ((s_any c1).1 _ _ e (ok.blk hk s H c' cl fp) z).2)
        (fun s H c' cl fp => ((s_any elt).1 _ _ ee (ok.blk hk s H c' cl fp) h8).1) (fun x => foldS_of p2 _ x) fun env x => foldS_of s1 env x
      rw [own_slots] at pe
      exact x_set pe fun σ H Q q => lc2_step q
    · cases h
theorem pe_V (ok : XOk W G k C X) {n : Nat} {e : Expr} (h : chk G (.var n) C e = true) : PE X e (tVar n) := pe_K (m := .var n) ok h
theorem itS (ok : XOk W G k C X) {m : ME} {ik : Ik} {tg e : Expr} (h : itB C ik m.count (chk G m C) (chkL G m C) e = true) : PI X tg e (iS W G k ik m) ∧ isSet e = false := by
  unfold itB at h
  rw [Bool.and_eq_true, Bool.not_eq_true'] at h
  refine ⟨?_, h.1⟩
  have h := h.2
  cases ik with
  | val => exact PI_imp (pi_valG ok.fit (pe_K ok h)) fun σ H R q => iS_val q
  | rng =>
    simp only at h
    split at h
    · simp only [Bool.and_eq_true, decide_eq_true_eq] at h
      obtain ⟨⟨⟨⟨⟨a, b⟩, c⟩, d⟩, e⟩, f⟩ := h
      exact PI_imp (pi_rng ok a b c d e ((s_any m).2 C X _ ok f)) fun σ H R z => iS_rng.1 z
    · cases h
  | rrng =>
    simp only at h
    split at h
    · simp only [Bool.and_eq_true, decide_eq_true_eq] at h
      obtain ⟨⟨⟨⟨⟨⟨⟨a, a2⟩, b⟩, b2⟩, c⟩, d⟩, e⟩, f⟩ := h
      exact PI_imp (pi_rrng ok a a2 b b2 c d e ((s_any m).2 C X _ ok f)) fun σ H R z => iS_rng.2 z
    · cases h
theorem assign_sub {o i : Expr} {pos : Pos} (h : noSl i = true) (env : PySem.Env) (v : Value) : assign (.Subscript o i pos) env v = (do
      let ov ← holding [v] (eval o env)
      let iv ← holding [v, ov] (eval i env)
      standAt pos
      holding [v, ov, iv] (setItem ov iv v)
      release [v, ov, iv] []) := by
  cases i <;> first | rfl | (simp [noSl] at h)
theorem st_any : ∀ m : MS, (∀ (C : Cc) (X : Cx) (st : Stmt), SOk W G k C X → chkS G m C st = true → PS X st (tX W G k m)) ∧ (∀ (C : Cc) (X : Cx) (sts : List Stmt), SOk W G k C X → chkSs G m C sts = true → PSs X sts (tX W G k m)) := by
  intro m
  induction m with
  | nil =>
    refine ⟨fun C X st ok h => by simp [chkS] at h, fun C X sts ok h => ?_⟩
    unfold chkSs at h
    have : sts = [] := by simpa using h
    subst this
    exact x_nil
  | cons s r ihs ihr =>
    refine ⟨fun C X st ok h => by simp [chkS] at h, fun C X sts ok h => ?_⟩
    unfold chkSs at h
    split at h
    · rw [Bool.and_eq_true] at h
      exact x_cons (ihs.1 C X _ ok h.1) (ihr.2 C X _ ok h.2)
    · cases h
  | asg t m =>
    refine ⟨fun C X st ok h => ?_, fun C X sts ok h => by simp [chkSs] at h⟩
    unfold chkS at h
    split at h
    rotate_left
    · cases h
    rename_i tg e pos
    rw [Bool.and_eq_true] at h
    obtain ⟨hm, h⟩ := h
    split at h
    · rename_i i x p
      simp only [Bool.and_eq_true, decide_eq_true_eq] at h
      obtain ⟨⟨h1, h2⟩, h3⟩ := h
      obtain ⟨l1, l2⟩ := loc_of ok.x h2
      by_cases sw : swL C x p e = true
      · rw [if_pos sw, Bool.and_eq_true, decide_eq_true_eq] at h3
        exact set_lc ok.x h3.1 hm h1 h3.2 sw
      · exact x_set (ps_set (i := i) (by rw [ok.x.N]; exact ok.x.nd) (by rw [ok.x.N]; exact h1) l1 (pe_K ok.x hm) (sw_name ok.x (by simpa using sw) (comp_or hm)) l2) fun σ H Q q => q
    · rename_i ts
      split at h
      · rename_i sn
        rw [Bool.and_eq_true] at h
        refine x_asgT (ps_asg (pe_K ok.x hm) ((sg_any ok.x (.tp ts)).1 _ h.1) (sw_none h.2 _) (sw_no ok.x sn) ?_)
        obtain ⟨n, q⟩ : ∃ n, True := ⟨0, trivial⟩
        cases tg <;> first | rfl | (simp [chkT] at h; done) | skip
      · split at h
        · rename_i i j x px y py kt pt a b ea eb k2 pt2 _
          simp only [Bool.and_eq_true, decide_eq_true_eq, Bool.not_eq_true'] at h
          obtain ⟨⟨⟨⟨⟨⟨⟨⟨⟨⟨h1, h2⟩, h3⟩, h4⟩, h5⟩, h6⟩, h7⟩, h8⟩, h9⟩, h10⟩, h11⟩ := h
          unfold chk at hm
          have ha := (s_any (.cons a (.cons b .nil))).2 C X _ ok.x hm
          exact x_par (ps_par ok.x.fit.calm (by rw [ok.x.N]; exact ok.x.nd) (by rw [ok.x.N]; exact h1) (by rw [ok.x.N]; exact h2) h3 (by rw [ok.x.sc]; exact h4) (by rw [ok.x.sc]; exact h5) ha (sw_two ok.x h4 h5 h6 h7 h8 h9 h10 h11))
        · cases h
    · cases h
  | aug i op m =>
    refine ⟨fun C X st ok h => ?_, fun C X sts ok h => by simp [chkSs] at h⟩
    unfold chkS at h
    split at h
    · simp only [Bool.and_eq_true, decide_eq_true_eq] at h
      obtain ⟨⟨⟨⟨h1, h2⟩, h3⟩, h4⟩, h5⟩ := h
      obtain ⟨l1, l2⟩ := loc_of ok.x h2
      subst h3
      have he := ((s_any m).1 C X _ ok.x h5).1
      rcases h4 with rfl | rfl
      · exact x_aug (.inl ⟨rfl, rfl⟩) (ps_aug (by rw [ok.x.N]; exact ok.x.nd) (by rw [ok.x.N]; exact h1) l1 he ip_add l2)
      · exact x_aug (.inr ⟨rfl, rfl⟩) (ps_aug (by rw [ok.x.N]; exact ok.x.nd) (by rw [ok.x.N]; exact h1) l1 he ip_sub l2)
    · cases h
  | seti o mi me =>
    refine ⟨fun C X st ok h => ?_, fun C X sts ok h => by simp [chkSs] at h⟩
    unfold chkS at h
    split at h
    · rename_i eo ei p e pos
      simp only [Bool.and_eq_true] at h
      obtain ⟨⟨⟨h1, h2⟩, h3⟩, h4⟩ := h
      have base : ∀ {te : TE}, PE X eo te → PS X (.Assign [.Subscript eo ei p] e pos) (tAsg (tE W G k me) (gSub te (tE W G k mi) (tPut W))) := fun {te} ho =>
        ps_asg (((s_any me).1 C X _ ok.x h3).1) (pg_sub ho (((s_any mi).1 C X _ ok.x h2).1) (put_any ok.x.fit) (fun v => assign_sub h4 _ v)) (show swapsWith e (some (.Subscript eo ei p)) pos.line X.env = pure false from sw_sub (a := eo) (b := ei) (q := p) (l := pos.line) X.env) rfl rfl
      cases hv : o.varOf with
      | some n =>
        have := varOf_some hv
        subst this
        exact x_seti (base (pe_V ok.x h1))
      | none => exact x_setiR hv (base ((s_any o).1 C X _ ok.x h1).1)
    · cases h
  | app n m =>
    refine ⟨fun C X st ok h => ?_, fun C X sts ok h => by simp [chkSs] at h⟩
    unfold chkS at h
    split at h
    · simp only [Bool.and_eq_true, decide_eq_true_eq] at h
      obtain ⟨⟨⟨⟨h1, h2⟩, h3⟩, h4⟩, h5⟩ := h
      subst h1
      refine x_app (ps_expr (pe_bm PySem.F.plainAttrs_list PySem.F.slot_list_append PySem.F.type_list_append mt_append (pe_V ok.x h2) (pa_cons ((s_any m).1 C X _ ok.x h5).1 pa_nil (starEach_of h3 _ _)) rfl ?_ h4 (starEach_of h3 _ _) rfl) rfl) ok.x.fit.K
      exact star_few (by simp [h3]) (by simp)
    · cases h
  | ext n m =>
    refine ⟨fun C X st ok h => ?_, fun C X sts ok h => by simp [chkSs] at h⟩
    unfold chkS at h
    split at h
    · simp only [Bool.and_eq_true, decide_eq_true_eq] at h
      obtain ⟨⟨⟨⟨h1, h2⟩, h3⟩, h4⟩, h5⟩ := h
      subst h1
      refine x_ext (ps_expr (pe_bm PySem.F.plainAttrs_list PySem.F.slot_list_extend PySem.F.type_list_extend mt_extend (pe_V ok.x h2) (pa_cons ((s_any m).1 C X _ ok.x h5).1 pa_nil (starEach_of h3 _ _)) rfl ?_ h4 (starEach_of h3 _ _) rfl) rfl)
      exact star_few (by simp [h3]) (by simp)
    · cases h
  | apx o m =>
    refine ⟨fun C X st ok h => ?_, fun C X sts ok h => by simp [chkSs] at h⟩
    unfold chkS at h
    split at h
    · simp only [Bool.and_eq_true, decide_eq_true_eq] at h
      obtain ⟨⟨⟨⟨⟨h1, h0⟩, h2⟩, h3⟩, h4⟩, h5⟩ := h
      subst h1
      refine x_apx (ps_expr (pe_bm PySem.F.plainAttrs_list PySem.F.slot_list_append PySem.F.type_list_append mt_append ((s_any o).1 C X _ ok.x h2).1 (pa_cons ((s_any m).1 C X _ ok.x h5).1 pa_nil (starEach_of h3 _ _)) (attrBase_of h0 _) ?_ h4 (starEach_of h3 _ _) rfl) rfl)
      exact star_few (by simp [h3]) (by simp)
    · cases h
  | sda n mk md me =>
    refine ⟨fun C X st ok h => ?_, fun C X sts ok h => by simp [chkSs] at h⟩
    unfold chkS at h
    split at h
    · simp only [Bool.and_eq_true, decide_eq_true_eq] at h
      obtain ⟨⟨⟨⟨⟨⟨⟨⟨⟨⟨h1, h2⟩, h3⟩, h4⟩, h5⟩, h6⟩, h7⟩, h8⟩, h9⟩, h10⟩, h11⟩ := h
      subst h1 h2
      refine x_sda (ps_expr (pe_bm PySem.F.plainAttrs_list PySem.F.slot_list_append PySem.F.type_list_append mt_append (pe_sd ok.x rfl h4 h5 h7 (pe_V ok.x h3) ((s_any mk).1 C X _ ok.x h9).1 ((s_any md).1 C X _ ok.x h10).1) (pa_cons ((s_any me).1 C X _ ok.x h11).1 pa_nil (starEach_of h6 _ _)) (attrBase_of rfl _) ?_ h8 (starEach_of h6 _ _) rfl) rfl)
      exact star_few (by simp [h6]) (by simp)
    · cases h
  | popa t n m =>
    refine ⟨fun C X st ok h => ?_, fun C X sts ok h => by simp [chkSs] at h⟩
    unfold chkS at h
    split at h
    · simp only [Bool.and_eq_true, decide_eq_true_eq] at h
      obtain ⟨⟨⟨⟨⟨⟨⟨⟨h0, h1⟩, h2⟩, h3⟩, h4⟩, h5⟩, h6⟩, h7⟩, h8⟩ := h
      obtain ⟨l1, l2⟩ := loc_of ok.x h2
      subst h3
      refine x_popa (ps_set (by rw [ok.x.N]; exact ok.x.nd) (by rw [ok.x.N]; exact h1) l1 (pe_op (op_bin ok.x.fit .add (.inr trivial)) (pe_V ok.x h4) (pe_tupM (pa_cons (pe_bm PySem.F.plainAttrs_list PySem.F.slot_list_pop PySem.F.type_list_pop mt_popAt (pe_V ok.x h5) (pa_cons ((s_any m).1 C X _ ok.x h8).1 pa_nil (starEach_of h6 _ _)) rfl ?_ h7 (starEach_of h6 _ _) rfl) pa_nil rfl))) rfl l2)
      exact star_few (by simp [h6]) (by simp)
    · cases h
  | fors t m b ihb =>
    refine ⟨fun C X st ok h => ?_, fun C X sts ok h => by simp [chkSs] at h⟩
    unfold chkS at h
    split at h
    · rename_i et ei sb pos
      simp only [Bool.and_eq_true, Bool.not_eq_true'] at h
      obtain ⟨⟨⟨h1, h2⟩, h3⟩, h4⟩ := h
      exact x_fors ok.x.fit.K ok.pass ok.x.fit.calm (pe_K ok.x h3) ((sg_any ok.x t).1 et h1) (ihb.2 C X _ ok h4) fun x => foldS_of h2 _ x
    · cases h
  | mov i j =>
    refine ⟨fun C X st ok h => ?_, fun C X sts ok h => by simp [chkSs] at h⟩
    unfold chkS at h
    split at h
    · simp only [Bool.and_eq_true, decide_eq_true_eq] at h
      obtain ⟨⟨h1, h2⟩, h3⟩ := h
      obtain ⟨l1, l2⟩ := loc_of ok.x h2
      exact x_mov (ps_set (by rw [ok.x.N]; exact ok.x.nd) (by rw [ok.x.N]; exact h1) l1 (pe_V ok.x h3) rfl l2)
    · cases h
  | rse => exact ⟨fun C X st ok h => x_rse, fun C X sts ok h => by simp [chkSs] at h⟩
  | pop t n m =>
    refine ⟨fun C X st ok h => ?_, fun C X sts ok h => by simp [chkSs] at h⟩
    unfold chkS at h
    split at h
    · simp only [Bool.and_eq_true, decide_eq_true_eq] at h
      obtain ⟨⟨⟨⟨⟨⟨h1, h2⟩, h3⟩, h4⟩, h5⟩, h6⟩, h7⟩ := h
      obtain ⟨l1, l2⟩ := loc_of ok.x h2
      subst h3
      refine x_pop (ps_set (by rw [ok.x.N]; exact ok.x.nd) (by rw [ok.x.N]; exact h1) l1 (pe_bm PySem.F.plainAttrs_list PySem.F.slot_list_pop PySem.F.type_list_pop mt_popAt (pe_V ok.x h4) (pa_cons ((s_any m).1 C X _ ok.x h7).1 pa_nil (starEach_of h5 _ _)) rfl ?_ h6 (starEach_of h5 _ _) rfl) rfl l2)
      exact star_few (by simp [h5]) (by simp)
    · cases h
  | ife c a b iha ihb =>
    refine ⟨fun C X st ok h => ?_, fun C X sts ok h => by simp [chkSs] at h⟩
    unfold chkS at h
    split at h
    · simp only [Bool.and_eq_true] at h
      exact x_ife ((s_any c).1 C X _ ok.x h.1.1).2 (iha.2 C X _ ok h.1.2) (ihb.2 C X _ ok h.2)
    · cases h
  | whl c b ihb =>
    refine ⟨fun C X st ok h => ?_, fun C X sts ok h => by simp [chkSs] at h⟩
    unfold chkS at h
    split at h
    · rw [Bool.and_eq_true] at h
      exact x_whl ok.pass ((s_any c).1 C X _ ok.x h.1).2 (ihb.2 C X _ ok h.2)
    · cases h
  | for_ t ik m b ihb =>
    refine ⟨fun C X st ok h => ?_, fun C X sts ok h => by simp [chkSs] at h⟩
    unfold chkS at h
    split at h
    · simp only [Bool.and_eq_true] at h
      obtain ⟨⟨h1, h2⟩, h3⟩ := h
      obtain ⟨p1, p2⟩ := itS ok.x h2
      exact x_for ok.pass ok.x.fit.calm p1 ((sg_any ok.x t).1 _ h1) (ihb.2 C X _ ok h3) fun x => foldS_of p2 _ x
    · cases h
  | ret m =>
    refine ⟨fun C X st ok h => ?_, fun C X sts ok h => by simp [chkSs] at h⟩
    unfold chkS at h
    split at h
    · exact x_ret (pe_K ok.x h)
    · cases h
  | retn =>
    refine ⟨fun C X st ok h => ?_, fun C X sts ok h => by simp [chkSs] at h⟩
    unfold chkS at h
    split at h
    · exact x_retn
    · cases h
  | brk =>
    refine ⟨fun C X st ok h => ?_, fun C X sts ok h => by simp [chkSs] at h⟩
    unfold chkS at h
    split at h
    · exact x_brk
    · cases h
  | cnt =>
    refine ⟨fun C X st ok h => ?_, fun C X sts ok h => by simp [chkSs] at h⟩
    unfold chkS at h
    split at h
    · exact x_cnt
    · cases h
  | pas =>
    refine ⟨fun C X st ok h => ?_, fun C X sts ok h => by simp [chkSs] at h⟩
    unfold chkS at h
    split at h
    · exact x_pas
    · cases h
  | exp m =>
    refine ⟨fun C X st ok h => ?_, fun C X sts ok h => by simp [chkSs] at h⟩
    unfold chkS at h
    split at h
    · rw [Bool.and_eq_true] at h
      exact x_exp (ps_expr (pe_K ok.x h.1) (sw_drop h.2 _))
    · cases h
end
end MP
set_option maxRecDepth 100000
/-! MiniPy: defs keep what the evaluator says. -/
namespace MP
open PySem PySem.Spec PyProof.Rows L2
section
variable {W : Wd} {F : Hp} {ph : List Addr}
mutual
theorem Rep.cut (n : Nat) : ∀ {v : PV} {x : V}, v.rb n = true → Rep W F ph v x → Rep W F (ph.take n) v x
  | _, _, _, .non => .non
  | _, _, _, .bl b => .bl b
  | _, _, _, .int i => .int i
  | _, _, _, .str s h => .str s h
  | _, _, l, .tup h r => .tup h (RepA.cut n (by simpa [PV.rb] using l) r)
  | _, _, l, .ktup h r => .ktup h (RepA.cut n (by simpa [PV.rb] using l) r)
  | _, _, l, .obj h r => .obj h (ORep.cut n l r)
  | _, _, l, .ref h => .ref (by
    have l : decide (_ < n) = true := l
    rw [List.getElem?_take_of_lt (of_decide_eq_true l)]; exact h)
  | _, _, _, .fn h => .fn h
theorem RepA.cut (n : Nat) : ∀ {v : List PV} {x : List V}, rbAll n v = true → RepA W F ph v x → RepA W F (ph.take n) v x
  | _, _, _, .nil => .nil
  | _, _, l, .cons h r => by
    simp only [rbAll, Bool.and_eq_true] at l
    exact .cons (Rep.cut n l.1 h) (RepA.cut n l.2 r)
theorem RepD.cut (n : Nat) : ∀ {v : List (PV × PV)} {x : List DictEntry}, rbKv n v = true → RepD W F ph v x → RepD W F (ph.take n) v x
  | _, _, _, .nil => .nil
  | _, _, l, .cons k h r t => by
    simp only [rbKv, Bool.and_eq_true] at l
    exact .cons k (Rep.cut n l.1.2 h) r (RepD.cut n l.2 t)
theorem ORep.cut (n : Nat) : ∀ {a : Addr} {v : PV} {o : HO}, v.rb n = true → ORep W F ph a v o → ORep W F (ph.take n) a v o
  | _, _, _, l, .lst r => .lst (RepA.cut n (by simpa [PV.rb] using l) r)
  | _, _, _, l, .dct h1 h2 h3 h4 h5 r => .dct h1 h2 h3 h4 h5 (RepD.cut n (by simpa [PV.rb] using l) r)
  | _, _, _, _, .psI h1 h2 h3 => .psI h1 h2 h3
  | _, _, _, _, .psT h1 h2 h3 => .psT h1 h2 h3
end
theorem rb_at {n : Nat} : ∀ {xs : List PV} {i : Nat} {x : PV}, rbAll n xs = true → xs[i]? = some x → x.rb n = true
  | [], _, _, _, h => by simp at h
  | y :: ys, 0, x, l, h => by
    simp only [rbAll, Bool.and_eq_true] at l
    simp at h; subst h; exact l.1
  | y :: ys, i + 1, x, l, h => by
    simp only [rbAll, Bool.and_eq_true] at l
    exact rb_at l.2 (by simpa using h)
/-- the end of a call -/
theorem trim_end {F0 H0 H' : Hp} {ph0 : List Addr} {hp0 hpR hp1 : Hs} {v r : Rv} {x : V} {Q : VK} (hR0 : RelH W F0 ph0 hp0 H0) (e : trim hp0.length v hpR = (r, hp1)) (x1 : Ext F0 ph0 H0 F ph H') (hR : RelH W F ph hpR H') (rr : RRep W F ph H0 H' v x)
    (q : Post W F0 ph0 H0 hp1 r Q) : Q x H' := by
  unfold trim at e
  split at e
  · cases e; exact q F ph x H' x1 hR rr
  · split at e
    · rename_i c
      cases e
      rw [Bool.and_eq_true] at c
      refine q F (ph.take hp0.length) x H' ⟨x1.le, x1.new, fun i a h => ?_, fun a h => x1.pnew a (List.mem_of_mem_take h), x1.pres, x1.dom⟩ ⟨hR.sub, by rw [List.length_take, List.length_take, hR.len], hR.nd.sublist (List.take_sublist _ _), fun i a u e1 e2 => ?_, fun i u e2 => ?_, hR.td⟩ ?_
      · have hi : i < hp0.length := by rw [← hR0.len]; exact (List.getElem?_eq_some_iff.mp h).1
        rw [List.getElem?_take_of_lt hi]; exact x1.pre i a h
      · have hi : i < hp0.length := by
          have := (List.getElem?_eq_some_iff.mp e1).1
          rw [List.length_take] at this; omega
        have e2' := e2
        rw [List.getElem?_take_of_lt hi] at e1 e2
        obtain ⟨f, o, e3, rr⟩ := hR.sh i a u e1 e2
        exact ⟨f, o, e3, rr.cut _ (rb_at c.2 e2')⟩
      · have hi : i < hp0.length := by
          have := (List.getElem?_eq_some_iff.mp e2).1
          rw [List.length_take] at this; omega
        rw [List.getElem?_take_of_lt hi] at e2
        exact hR.cl i u e2
      · obtain ⟨b, v⟩ := v
        unfold RRep at rr ⊢
        cases b with
        | true =>
          simp only [if_true] at rr ⊢
          obtain ⟨a, o, h1, h2, h3, h4, h5, h6⟩ := rr
          exact ⟨a, o, h1, h2, fun z => h3 (List.mem_of_mem_take z), h4, h5, h6.cut _ c.1⟩
        | false =>
          simp only [Bool.false_eq_true, if_false] at rr ⊢
          exact rr.cut _ c.1
    · cases e; exact q F ph x H' x1 hR rr
end
/-- a def of the text -/
structure PDef where
  nm : Str
  params : Arguments
  stmts : List Stmt
  scope : Scope
  N : List Str
  ps : List Str
  fd : Fd
def glOf (ds : List PDef) (cs : List (Str × PV)) : Gl := ⟨fun f => (ds[f]?).map (·.fd), fun g => (cs[g]?).map (·.2)⟩
def ccOf (ds : List PDef) (cs : List (Str × PV)) (p : PDef) : Cc := ⟨p.N, p.scope, fun _ => true, fun g => (cs[g]?).map (·.1), fun f => (ds[f]?).map (·.nm)⟩
def scB (N P : List Str) (sc : Scope) : Bool := decide (sc.kind = .function) && decide (sc.isCoroutine = false) && decide (sc.isGenerator = false) && decide N.Nodup && decide (N.take P.length = P) &&
  (P.all fun x => decide (sc.names.lookup x = some .local ∨ sc.names.lookup x = some .cell)) && (sc.names.all fun y => decide (y.2 ≠ .free))
theorem sc_of {N P : List Str} {sc : Scope} (h : scB N P sc = true) : FnScope N P sc := by
  simp only [scB, Bool.and_eq_true, decide_eq_true_eq, List.all_eq_true] at h
  obtain ⟨⟨⟨⟨⟨⟨h1, h2⟩, h3⟩, h4⟩, h5⟩, h6⟩, h7⟩ := h
  exact ⟨h1, h2, h3, h4, h5, h6, h7⟩
def pchk (ds : List PDef) (cs : List (Str × PV)) (p : PDef) : Bool := scB p.N p.ps p.scope && decide (p.fd.np = p.ps.length) && decide (p.fd.ns = p.N.length) && chkSs (glOf ds cs) p.fd.body (ccOf ds cs p) p.stmts
/-- what is known of a def's object -/
structure DefAt (W : Wd) (mg : Str → Option Value) (p : PDef) (i : Nat) (a : Addr) (fd : FuncData) : Prop where
  fun_ : ∃ dvs, FunD W.K p.nm p.nm p.params p.stmts p.scope dvs [] a fd
  mg : mg p.nm = some (.ref a)
  fa : W.fa i = some a
  bind : ∀ n, n + (p.fd.dfl.length - (p.fd.dfl.length - (p.fd.np - n))) = p.fd.np → ∃ ds dvs, Binds W.K fd p.ps ds ∧ Vals dvs ds ∧ ∀ F ph, RepA W F ph (p.fd.dfl.drop (p.fd.dfl.length - (p.fd.np - n))) dvs
structure Prog (W : Wd) (mg : Str → Option Value) (ds : List PDef) (cs : List (Str × PV)) : Prop where
  at_ : ∀ (i : Nat) (p : PDef), ds[i]? = some p → ∃ a fd, DefAt W mg p i a fd
  bt : ∀ x ∈ bnames, mg x = none
  cst : ∀ (g : Nat) (x : Str) (v : PV), cs[g]? = some (x, v) → ∃ u y, mg x = some u ∧ RelV y u ∧ ∀ F ph, Rep W F ph v y
  kd : ∀ (a : Addr) (o : Obj), W.K.lookup a = some o → o.cls = .type "tuple" → o.dict = none
theorem start_len {N : List Str} {vs : List V} : (start N vs).length = vs.length + (N.length - vs.length) := by
  unfold L2.start
  rw [List.length_append, List.length_map, List.length_replicate]
section
variable {W : Wd} {mg : Str → Option Value} {ds : List PDef} {cs : List (Str × PV)} {base : Heap}
theorem fn_zero {f : Nat} {p : PDef} (hp : p.fd.np = p.ps.length) {a : Addr} {fd : FuncData} : FnOk W.P W.w W.K mg base CX0 0 a fd p.ps (spF W (glOf ds cs) 0 f p.fd.np) := by
  refine ⟨fun vs H Q E h => ?_, fun A outer s H args us vs Q E hr e0 hb r h => ?_⟩
  · obtain ⟨F, ph, hp, vs, r, hp1, hR, rs, hl, e, q⟩ := h
    cases e
  · obtain ⟨F, ph, hp, vs, r, hp1, hR, rs, hl, e, q⟩ := h
    cases e
theorem fn_any (P : Prog W mg ds cs) (ck : ∀ p ∈ ds, pchk ds cs p = true) : ∀ (k f : Nat) (p : PDef) (a : Addr) (fd : FuncData), ds[f]? = some p → DefAt W mg p f a fd → FnOk W.P W.w W.K mg base CX0 k a fd p.ps (spF W (glOf ds cs) k f p.fd.np) := by
  intro k
  induction k with
  | zero =>
    intro f p a fd hf D
    have c := ck p (List.mem_of_getElem? hf)
    simp only [pchk, Bool.and_eq_true, decide_eq_true_eq] at c
    exact fn_zero c.1.1.2
  | succ k ih =>
    intro f p a fd hf D
    have c := ck p (List.mem_of_getElem? hf)
    simp only [pchk, Bool.and_eq_true, decide_eq_true_eq] at c
    obtain ⟨⟨⟨c1, c2⟩, c3⟩, c4⟩ := c
    have S := sc_of c1
    obtain ⟨dvs, FD⟩ := D.fun_
    refine FD.ok S (fun vs H Q E h => ?_) (fun cdv A outer s H xs Q E hr h => ⟨tX W (glOf ds cs) k p.fd.body, ?_, ?_⟩)
    · obtain ⟨F, ph, hp, vs, r, hp1, hR, rs, hl, e, q⟩ := h
      rw [← rs.length, hl, c2]
    · have ok : XOk W (glOf ds cs) k (ccOf ds cs p) (cxOf CX0 W.P W.w W.K mg base p.N p.nm p.scope a cdv A outer s H E) := {
        fit := ⟨rfl, rfl, rfl, hr.units, rfl, P.kd⟩
        room := hr
        N := rfl
        nd := S.nd
        sc := rfl
        cell := fun _ _ => rfl
        kind := S.kind
        cst := fun g x v h1 h2 => by
          have h1 : (cs[g]?).map (·.1) = some x := h1
          have h2 : (cs[g]?).map (·.2) = some v := h2
          cases z : cs[g]? with
          | none => rw [z] at h1; cases h1
          | some q =>
            obtain ⟨x', v'⟩ := q
            rw [z] at h1 h2
            cases h1; cases h2
            exact P.cst g _ _ z
        fnv := fun f x h => by
          have h : (ds[f]?).map (·.nm) = some x := h
          obtain ⟨q, hq, rfl⟩ := Option.map_eq_some_iff.mp h
          obtain ⟨b, fd', D'⟩ := P.at_ f q hq
          exact ⟨b, D'.mg, D'.fa⟩
        tot := fun f fdm h => by
          have h : (ds[f]?).map (·.fd) = some fdm := h
          obtain ⟨q, hq, _⟩ := Option.map_eq_some_iff.mp h
          exact ⟨q.nm, by show (ds[f]?).map (·.nm) = _; rw [hq]; rfl⟩
        bt := P.bt
        call := fun f x fdm h1 h2 => by
          have h1 : (ds[f]?).map (·.nm) = some x := h1
          have h2 : (ds[f]?).map (·.fd) = some fdm := h2
          obtain ⟨q, hq, rfl⟩ := Option.map_eq_some_iff.mp h1
          rw [hq] at h2
          cases h2
          obtain ⟨b, fd', D'⟩ := P.at_ f q hq
          have c' := ck q (List.mem_of_getElem? hq)
          simp only [pchk, Bool.and_eq_true, decide_eq_true_eq] at c'
          obtain ⟨dv, FD'⟩ := D'.fun_
          exact ⟨b, fd', q.ps, D'.mg, FD'.kp, ih f q b fd' hq D', c'.1.1.2.symm, D'.bind⟩ }
      exact (st_any p.fd.body).2 (ccOf ds cs p) _ p.stmts ⟨ok, passes_of rfl⟩ c4
    · obtain ⟨F, ph, hp, vs, r, hp1, hR, rs, hl, e, q⟩ := h
      have hf2 : (glOf ds cs).fns f = some p.fd := by show (ds[f]?).map (·.fd) = _; rw [hf]; rfl
      simp only [callF, hf2, Option.bind_some] at e
      have fl : fillA p.fd vs = vs := by
        unfold fillA
        rw [hl, Nat.sub_self, Nat.sub_zero, List.drop_length, List.append_nil]
      rw [fl, if_pos hl] at e
      obtain ⟨res, e1, e2⟩ := Option.bind_eq_some_iff.mp e
      have hlen : (startE p.fd vs).length = (start p.N xs).length := by
        rw [start_len]
        unfold startE
        rw [List.length_append, List.length_map, List.length_replicate, ← rs.length, hl, c3]
      have get : ∀ (i : Nat) (b : Bool) (v : PV), (startE p.fd vs)[i]? = some (some (b, v)) → b = false ∧ vs[i]? = some v := by
        intro i b v h
        unfold startE at h
        by_cases hi : i < vs.length
        · rw [List.getElem?_append_left (by simpa using hi), List.getElem?_map] at h
          obtain ⟨w, hw, h2⟩ := Option.map_eq_some_iff.mp h
          cases h2
          exact ⟨rfl, hw⟩
        · rw [List.getElem?_append_right (by simpa using hi), List.getElem?_replicate] at h
          split at h <;> cases h
      have st : StOk W F ph H F ph hp (startE p.fd vs) (start p.N xs) H := by
        refine ⟨Ext.refl, hR, ⟨hlen, fun i v h => ?_, fun i v h => ?_, fun i j v w b h => ?_⟩⟩
        · obtain ⟨_, hv⟩ := get i false v h
          obtain ⟨x, hx, rx⟩ := rs.get hv
          refine ⟨x, ?_, rx⟩
          unfold L2.start
          have hi : i < xs.length := (List.getElem?_eq_some_iff.mp hx).1
          rw [List.getElem?_append_left (by simpa using hi), List.getElem?_map, hx]; rfl
        · have := (get i true v h).1; cases this
        · have := (get i true v h).1; cases this
      refine ⟨F, ph, H, F, ph, hp, startE p.fd vs, res, st, e1, ?_⟩
      obtain ⟨fl, env, hpR⟩ := res
      cases fl with
      | nx =>
        have e2 : trim hp.length (false, .non) hpR = (r, hp1) := Option.some.inj e2
        exact fun F' ph' σ H' t l => trim_end hR e2 t.ext t.rel (RRep.of .non) q
      | rt v =>
        have e2 : trim hp.length v hpR = (r, hp1) := Option.some.inj e2
        exact fun F' ph' x H' x1 hR' rr => trim_end hR e2 x1 hR' rr q
      | bk => cases e2
      | ct => cases e2
end
end MP
set_option maxRecDepth 100000
/-! MiniPy: from the evaluator's word to the law. -/
namespace MP
open PySem PySem.Spec PyProof.Rows L2
/-- the written part holds no list, and no tuple with a dict of its own -/
def noL (K : PySem.W.Frag) : Bool := K.all fun p => !(p.2.cls == Value.type "list") && (!(p.2.cls == Value.type "tuple") || p.2.dict.isNone)
theorem frag_mem {a : Addr} {o : Obj} : ∀ {K : PySem.W.Frag}, K.lookup a = some o → (a, o) ∈ K
  | [], h => nomatch (show (none : Option Obj) = some o from h)
  | (b, u) :: r, h => by
    by_cases hb : a = b
    · subst hb
      have h : some u = some o := by
        rw [← h]
        show some u = List.lookup a ((a, u) :: r)
        rw [List.lookup_cons]; simp
      cases h
      exact List.mem_cons_self
    · have h2 : List.lookup a r = some o := by
        rw [← h]
        show List.lookup a r = List.lookup a ((b, u) :: r)
        rw [List.lookup_cons]
        have : (a == b) = false := by simpa using hb
        rw [this]
      exact List.mem_cons_of_mem _ (frag_mem h2)
theorem noL_sq {K : PySem.W.Frag} {H : Hp} {a : Addr} {xs : List V} (h : noL K = true) (s : SqL K H a xs) : Rd H a (.lst xs) := by
  rcases s with s | ⟨o, its, n, lk, hc, _⟩
  · exact s
  · exfalso
    have hm : (a, o) ∈ K := frag_mem lk
    have := List.all_eq_true.mp h _ hm
    rw [hc] at this
    simp at this
theorem noL_kd {K : PySem.W.Frag} (h : noL K = true) : ∀ (a : Addr) (o : Obj), K.lookup a = some o → o.cls = .type "tuple" → o.dict = none := by
  intro a o lk hc
  have := List.all_eq_true.mp h _ (frag_mem lk)
  rw [hc] at this
  simp only [Bool.and_eq_true, Bool.or_eq_true] at this
  rcases this.2 with z | z
  · simp at z
  · simpa using z
def obsM (fa : List He.Fa) (fn : List He.DefD) (ex : PySem.W.Frag → Bool) (K : PySem.W.Frag) : He.AlD × Bool := (He.obsD fa fn K, noL K && ex K)
def hookM (n : Nat) (fa : List He.Fa) (fn : List He.DefD) (ex : PySem.W.Frag → Bool) : PySem.W.Hook where
  α := He.AlD × Bool
  obs := fun s => obsM fa fn ex (He.frG s.heap.get? (He.asD s.heap.get? n))
  val := fun _ => (He.valD fn, true)
  says := fun _ h => ∃ K : PySem.W.Frag, K.In h ∧ He.SaysD fa fn K ∧ noL K = true ∧ ex K = true
  of := fun _ _ e => by
    have e1 := congrArg (fun z : He.AlD × Bool => z.1) e
    have e2 := congrArg (fun z : He.AlD × Bool => z.2) e
    have e2 : (noL _ && ex _) = true := e2
    rw [Bool.and_eq_true] at e2
    exact ⟨_, He.frG_in, e1, e2.1, e2.2⟩
  keeps := fun _ _ _ ⟨K, hK, c⟩ k => ⟨K, PySem.W.Frag.In.keeps hK k, c⟩
def obsMG (n : Nat) (fa : List He.Fa) (fn : List He.DefD) (ex : PySem.W.Frag → Bool) (g : Addr → Option Obj) : He.AlD × Bool := obsM fa fn ex (He.frG g (He.asD g n))
theorem obsMG_eq {n : Nat} {fa : List He.Fa} {fn : List He.DefD} {ex : PySem.W.Frag → Bool} {g : Addr → Option Obj} {s : Shared} (h : ∀ a, g a = s.heap.get? a) : obsMG n fa fn ex g = (hookM n fa fn ex).obs s := by
  have e : g = s.heap.get? := funext h
  rw [e] <;> rfl
theorem walk_ofM {l : PySem.W.OpenLaw} {n k : Nat} {q : Program} {loose : List Str} {XP : (Str → Option Value) → Heap → Prop} {YP : World → Heap → Prop} {d : DefRec} {x : Str}
    (hn : l.most = some n) (hn2 : n ≤ sizeLine) (hdf : d.params.defaults = []) (hr : Room k callerA)
    (F : ∀ (w : World) (mg : Str → Option Value) (fa : Addr) (h : Heap), YP w h → h.Ns mainGlobals mg → mg d.name = some (.ref fa) →
      ∃ (K : PySem.W.Frag) (fd : FuncData) (sp : Sp), K.In h ∧ (∀ (s : Shared) (u : Value), BindsTo s fd ⟨[u], []⟩ [(x, u)]) ∧
        (∀ (H : Hp) (a : Addr) (ns : List Int), ns.length ≤ n → (∀ z ∈ ns, Builtin.Int.intBits z ≤ 1048576) → Only H → SqL K H a (ns.map V.int) → sp [.ref a] H (fun v _ => v = .bl true) fun _ _ _ => False) ∧
        ∀ base : Heap, K.In base → base.Ns mainGlobals mg → FnOk l.prog w K mg base CX0 k fa fd [x] sp) :
    PySem.W.WalkO q loose XP YP l.row.toRowW d [] (fun f vs => PySem.call f vs) := by
  refine Att.attach_callB hn hdf fun w s₀ s₁ mg mb fa o pm cd doc a vs ns Gr Y ho hd hcd hmg hobj hints hlen hbits hg => ?_
  obtain ⟨K, fd, sp, KX, hb, hsp, hF⟩ := F w mg fa _ Y Gr.T.g hmg
  exact law_call KX Gr.T.g Gr.T.b Gr.T.builtins Gr.T.nolimit hg hobj hints (Nat.le_trans hlen hn2) hr hF hb (fun H hO hS => hsp H a ns hlen hbits hO hS) fun H e s' => id
/-- the law's own promise, from what the evaluator says -/
theorem sp_law {W : Wd} {G : Gl} {k f : Nat} {H : Hp} {a : Addr} {ns : List Int} (hR : Rd H a (.lst (ns.map V.int))) {hp1 : Hs} (e : callF G k f [.lst (ns.map PV.int)] [] = some ((false, .bl true), hp1)) :
    spF W G k f 1 [.ref a] H (fun v _ => v = .bl true) fun _ _ _ => False := by
  have rep : Rep W (fun b => if b = a then some (.lst (ns.map V.int)) else none) [] (.lst (ns.map PV.int)) (.ref a) := .obj (o := .lst (ns.map V.int)) (if_pos rfl) (.lst (RepA.of_ints ns))
  refine ⟨fun b => if b = a then some (.lst (ns.map V.int)) else none, [], [], [.lst (ns.map PV.int)], (false, .bl true), hp1, ⟨fun b o h => ?_, rfl, List.nodup_nil, fun n b v h => by simp at h, fun n v h => by simp at h, fun b vs h => by
    split at h
    · cases h
    · cases h⟩, .cons rep .nil, rfl, e, fun F' ph' x H' _ _ rr => ?_⟩
  · split at h
    · rename_i hb
      subst hb
      cases h
      exact hR
    · cases h
  · unfold RRep at rr
    simp only [Bool.false_eq_true, if_false] at rr
    exact rr.blV
end MP
set_option maxRecDepth 100000
/-! MiniPy: a program's facts. -/
namespace MP
open PySem PySem.Spec PyProof.Rows L2
def PDef.toD (p : PDef) : He.DefD := ⟨(p.nm, none), p.nm, p.nm, p.params, p.stmts, p.scope, [], []⟩
def factsOf (ds : List PDef) (cf : List He.Fa) : List He.Fa := ds.map (fun p => He.Fa.glo p.nm) ++ (bnames.map He.Fa.free ++ cf)
def wdOf (ds : List PDef) (P : Program) (w : World) (K : PySem.W.Frag) : Wd := ⟨P, w, K, fun i => (ds[i]?).map fun p => He.fAd K (p.nm, none)⟩
/-- the parameters are bound one by one -/
def BindP (p : PDef) : Prop := ∀ (kV doc pm : Value) (an : Option Addr) (cdv ct : Value) (us : List Value), us.length = p.ps.length → bindArgs (PySem.W.fnOf p.nm p.nm p.params p.stmts p.scope .none kV doc pm an cdv ct) ⟨us, []⟩ = pure (p.ps.zip us)
theorem prog_of {ds : List PDef} {cs : List (Str × PV)} {cf : List He.Fa} {P : Program} {w : World} {K : PySem.W.Frag} {h : Heap} {mg : Str → Option Value} (X : K.In h) (Gh : h.Ns mainGlobals mg) (c : He.SaysD (factsOf ds cf) (ds.map PDef.toD) K) (nl : noL K = true)
    (hb : ∀ p ∈ ds, BindP p) (hd : ∀ p ∈ ds, p.fd.dfl = [] ∧ p.fd.np = p.ps.length) (hc : ∀ (g : Nat) (x : Str) (v : PV), cs[g]? = some (x, v) → ∃ u y, mg x = some u ∧ RelV y u ∧ ∀ F ph, Rep (wdOf ds P w K) F ph v y) : Prog (wdOf ds P w K) mg ds cs := by
  refine ⟨fun i p hp => ?_, fun x hx => ?_, hc, noL_kd nl⟩
  · have hm := List.mem_of_getElem? hp
    obtain ⟨fd, FD⟩ := c.def_ i (d := p.toD) (by rw [List.getElem?_map, hp]; rfl)
    have hi : i < ds.length := (List.getElem?_eq_some_iff.mp hp).1
    have g := He.glo_ok X Gh (c.fact i (f := .glo p.nm) (by unfold factsOf; rw [List.getElem?_append_left (by simpa using hi), List.getElem?_map, hp]; rfl))
    obtain ⟨d1, d2⟩ := hd p hm
    refine ⟨He.fAd K (p.nm, none), fd, ⟨⟨_, FD⟩, g, by show (ds[i]?).map _ = _; rw [hp]; rfl, fun n hn => ?_⟩⟩
    rw [d1] at hn ⊢
    refine ⟨[], [], ?_, .nil, fun F ph => ?_⟩
    · have FD : FunD K p.nm p.nm p.params p.stmts p.scope [] [] (He.fAd K (p.nm, none)) fd := FD
      exact FD.bindsN (hb p hm)
    · rw [List.drop_nil]; exact .nil
  · obtain ⟨j, hj⟩ := List.getElem?_of_mem hx
    refine He.free_ok X Gh (c.fact (ds.length + j) (f := .free x) ?_)
    have hjl : j < bnames.length := (List.getElem?_eq_some_iff.mp hj).1
    unfold factsOf
    rw [List.getElem?_append_right (by simp), List.length_map, Nat.add_sub_cancel_left, List.getElem?_append_left (by simpa using hjl), List.getElem?_map, hj]; rfl
/-- the law's def, told by the evaluator -/
theorem law_fact {l : PySem.W.OpenLaw} {ds : List PDef} {cs : List (Str × PV)} {cf : List He.Fa} {w : World} {K : PySem.W.Frag} {h : Heap} {mg : Str → Option Value} {fa : Addr} {k f : Nat} {p : PDef} {x : Str} (X : K.In h) (Gh : h.Ns mainGlobals mg) (c : He.SaysD (factsOf ds cf) (ds.map PDef.toD) K) (nl : noL K = true)
    (hb : ∀ p ∈ ds, BindP p) (hd : ∀ p ∈ ds, p.fd.dfl = [] ∧ p.fd.np = p.ps.length) (ck : ∀ p ∈ ds, pchk ds cs p = true) (hc : ∀ (base : Heap), K.In base → base.Ns mainGlobals mg → ∀ (g : Nat) (x : Str) (v : PV), cs[g]? = some (x, v) → ∃ u y, mg x = some u ∧ RelV y u ∧ ∀ F ph, Rep (wdOf ds l.prog w K) F ph v y)
    (hp : ds[f]? = some p) (hps : p.ps = [x]) (hfa : mg p.nm = some (.ref fa))
    (pure_ : ∀ ns : List Int, ns.length ≤ 63 → (∀ z ∈ ns, Builtin.Int.intBits z ≤ 1048576) → ∃ hp1, callF (glOf ds cs) k f [.lst (ns.map PV.int)] [] = some ((false, .bl true), hp1)) :
    ∃ (K : PySem.W.Frag) (fd : FuncData) (sp : Sp), K.In h ∧ (∀ (s : Shared) (u : Value), BindsTo s fd ⟨[u], []⟩ [(x, u)]) ∧
        (∀ (H : Hp) (a : Addr) (ns : List Int), ns.length ≤ 63 → (∀ z ∈ ns, Builtin.Int.intBits z ≤ 1048576) → Only H → SqL K H a (ns.map V.int) → sp [.ref a] H (fun v _ => v = .bl true) fun _ _ _ => False) ∧
        ∀ base : Heap, K.In base → base.Ns mainGlobals mg → FnOk l.prog w K mg base CX0 k fa fd [x] sp := by
  have PG := prog_of (P := l.prog) (w := w) X Gh c nl hb hd (hc h X Gh)
  obtain ⟨a, fd, D⟩ := PG.at_ f p hp
  have ea : a = fa := by
    have := D.mg.symm.trans hfa
    cases this; rfl
  subst ea
  obtain ⟨d1, d2⟩ := hd p (List.mem_of_getElem? hp)
  refine ⟨K, fd, spF (wdOf ds l.prog w K) (glOf ds cs) k f p.fd.np, X, fun s u => ?_, fun H a ns hl hbits _ hS => ?_, fun base _ _ => ?_⟩
  · obtain ⟨fd2, FD⟩ := c.def_ f (d := p.toD) (by rw [List.getElem?_map, hp]; rfl)
    obtain ⟨dvs, FD3⟩ := D.fun_
    have e1 : a = He.fAd K (p.nm, none) := by
      have := D.fa
      have h2 : (ds[f]?).map (fun p => He.fAd K (p.nm, none)) = some a := this
      rw [hp] at h2
      exact (Option.some.inj h2).symm
    have FD : FunD K p.nm p.nm p.params p.stmts p.scope [] [] (He.fAd K (p.nm, none)) fd2 := FD
    have e2 : fd2 = fd := by
      obtain ⟨oc, od, dV, kV, doc, pm, an, cdv, ct, osl, h1, lk, _⟩ := FD.ex
      obtain ⟨oc', od', dV', kV', doc', pm', an', cdv', ct', osl', h1', lk', _⟩ := FD3.ex
      rw [e1] at lk'
      have lk' : K.lookup (He.fAd K (p.nm, none)) = some ⟨oc', od', .func fd, osl'⟩ := lk'
      rw [lk] at lk'
      cases lk'
      rfl
    subst e2
    have bb := FD.bindsA (ps := p.ps) (hb p (List.mem_of_getElem? hp)) s [u] (by rw [hps]; rfl)
    rw [hps] at bb
    exact bb
  · obtain ⟨hp1, e⟩ := pure_ ns hl hbits
    rw [d2, hps]
    exact sp_law (noL_sq nl hS) e
  · have := fn_any (base := base) PG ck k f p a fd hp D
    rw [hps] at this
    exact this
def AllPD {α : Type} (Q : α → Prop) : List α → Prop
  | [] => True
  | p :: l => Q p ∧ AllPD Q l
theorem AllPD.mem {α : Type} {Q : α → Prop} : ∀ {l : List α}, AllPD Q l → ∀ p ∈ l, Q p
  | [], _, p, h => by simp at h
  | q :: l, a, p, h => (List.mem_cons.mp h).elim (fun e => e ▸ a.1) (AllPD.mem a.2 p)
theorem AllPD.append {α : Type} {Q : α → Prop} : ∀ {l m : List α}, AllPD Q l → AllPD Q m → AllPD Q (l ++ m)
  | [], _, _, h => h
  | _ :: l, _, a, h => ⟨a.1, AllPD.append a.2 h⟩
end MP
/-! Pure runs: rules for the evaluator's loops, and values that stand for typed data. -/
namespace MX
open MP
open PySem (Str)
/-- the run ends, and Q holds of what it gives -/
def Wp {α : Type} (x : Option α) (Q : α → Prop) : Prop := ∃ a, x = some a ∧ Q a
theorem Wp_some {α : Type} (a : α) (Q : α → Prop) : Wp (some a) Q = Q a := by simp [Wp]
theorem Wp_none {α : Type} (Q : α → Prop) : Wp none Q = False := by simp [Wp]
theorem Wp_bind {α β : Type} (x : Option α) (f : α → Option β) (Q : β → Prop) : Wp (x.bind f) Q = Wp x fun a => Wp (f a) Q := by
  cases x <;> simp [Wp]
theorem Wp_map {α β : Type} (x : Option α) (f : α → β) (Q : β → Prop) : Wp (x.map f) Q = Wp x fun a => Q (f a) := by
  cases x <;> simp [Wp]
theorem Wp.mono {α : Type} {x : Option α} {P Q : α → Prop} (h : Wp x P) (i : ∀ a, P a → Q a) : Wp x Q := by
  obtain ⟨a, e, p⟩ := h
  exact ⟨a, e, i a p⟩
theorem Wp_eq {α : Type} {x : Option α} {a : α} (h : Wp x fun b => b = a) : x = some a := by
  obtain ⟨b, e, p⟩ := h
  rw [e, p]
theorem Wp_of {α : Type} {x : Option α} {a : α} {Q : α → Prop} (e : x = some a) (h : Q a) : Wp x Q := ⟨a, e, h⟩
theorem bnd_some {β : Type} (p : Rv × Hs) (f : PV → Hs → Option β) : bnd (some p) f = f p.1.2 p.2 := rfl
theorem bndL_some {β : Type} (p : List PV × Hs) (f : List PV → Hs → Option β) : bndL (some p) f = f p.1 p.2 := rfl
theorem bndB_some {β : Type} (o b : Bool) (hp : Hs) (f : Bool → Hs → Option β) : bndB (some ((o, .bl b), hp)) f = f b hp := rfl
theorem Wp_bnd {β : Type} (r : Option (Rv × Hs)) (f : PV → Hs → Option β) (Q : β → Prop) : Wp (bnd r f) Q = Wp r fun p => Wp (f p.1.2 p.2) Q := Wp_bind _ _ _
theorem Wp_bndL {β : Type} (r : Option (List PV × Hs)) (f : List PV → Hs → Option β) (Q : β → Prop) : Wp (bndL r f) Q = Wp r fun p => Wp (f p.1 p.2) Q := Wp_bind _ _ _
theorem Wp_ite {α : Type} {c : Prop} [Decidable c] {x y : Option α} {Q : α → Prop} (h1 : c → Wp x Q) (h2 : ¬ c → Wp y Q) : Wp (if c then x else y) Q := by
  split
  · exact h1 ‹_›
  · exact h2 ‹_›

/-! ### loops -/
theorem Wp_for {α : Type} {enc : α → PV} {tg : Tg} {body : FEnv → Hs → XR} {Q : Flow × FEnv × Hs → Prop} (I : List α → List α → FEnv → Hs → Prop)
    (step : ∀ done x rest env hp, I done (x :: rest) env hp → Wp ((setF tg (enc x) env).bind fun env1 => body env1 hp) fun r => match r.1 with
      | .nx => I (done ++ [x]) rest r.2.1 r.2.2 | .ct => I (done ++ [x]) rest r.2.1 r.2.2 | .bk => Q (.nx, r.2.1, r.2.2) | .rt v => Q (.rt v, r.2.1, r.2.2)) :
    ∀ (rest done : List α) (env : FEnv) (hp : Hs), I done rest env hp → (∀ env hp, I (done ++ rest) [] env hp → Q (.nx, env, hp)) → Wp (forE tg body (rest.map enc) env hp) Q
  | [], done, env, hp, h, fin => by
    refine ⟨_, rfl, fin _ _ ?_⟩
    rw [List.append_nil]
    exact h
  | x :: rest, done, env, hp, h, fin => by
    have st := step done x rest env hp h
    show Wp ((setF tg (enc x) env).bind fun env1 => (body env1 hp).bind (turnE (forE tg body (rest.map enc)))) Q
    rw [Wp_bind] at st ⊢
    refine st.mono fun env1 h1 => ?_
    rw [Wp_bind]
    refine Wp.mono h1 fun r hr => ?_
    obtain ⟨f, e2, h2⟩ := r
    cases f with
    | nx => exact Wp_for I step rest (done ++ [x]) e2 h2 hr (by simpa using fin)
    | ct => exact Wp_for I step rest (done ++ [x]) e2 h2 hr (by simpa using fin)
    | bk => exact ⟨_, rfl, hr⟩
    | rt v => exact ⟨_, rfl, hr⟩
theorem Wp_rng {tg : Tg} {body : FEnv → Hs → XR} {Q : Flow × FEnv × Hs → Prop} (n : Nat) (I : Nat → FEnv → Hs → Prop) {env : FEnv} {hp : Hs} (h0 : I 0 env hp)
    (step : ∀ k env hp, k < n → I k env hp → Wp ((setF tg (.int (k : Int)) env).bind fun env1 => body env1 hp) fun r => match r.1 with
      | .nx => I (k + 1) r.2.1 r.2.2 | .ct => I (k + 1) r.2.1 r.2.2 | .bk => Q (.nx, r.2.1, r.2.2) | .rt v => Q (.rt v, r.2.1, r.2.2))
    (fin : ∀ env hp, I n env hp → Q (.nx, env, hp)) : Wp (forE tg body (upTo 0 n) env hp) Q := by
  have e : upTo 0 n = (List.range n).map fun (k : Nat) => PV.int (k : Int) := by simp [upTo]
  rw [e]
  refine Wp_for (fun done rest env hp => done ++ rest = List.range n ∧ I done.length env hp) ?_ (List.range n) [] env hp ⟨rfl, h0⟩ (fun env hp h => fin env hp ?_)
  · intro done x rest env hp ⟨hd, hI⟩
    have hx : x = done.length := by
      have : (List.range n)[done.length]? = some x := by rw [← hd]; simp
      rw [List.getElem?_range] at this
      · exact (Option.some.inj this).symm
      · have := congrArg List.length hd
        simp at this
        omega
    have hl : done.length < n := by
      have := congrArg List.length hd
      simp at this
      omega
    subst hx
    refine (step done.length env hp hl hI).mono fun r hr => ?_
    obtain ⟨f, e2, h2⟩ := r
    cases f with
    | nx => exact ⟨by simpa using hd, by simpa using hr⟩
    | ct => exact ⟨by simpa using hd, by simpa using hr⟩
    | bk => exact hr
    | rt v => exact hr
  · simpa using h.2
theorem Wp_whl {c : FEnv → Hs → Option (Rv × Hs)} {body : FEnv → Hs → XR} {Q : Flow × FEnv × Hs → Prop} (I : Nat → FEnv → Hs → Prop)
    (step : ∀ m env hp, I m env hp → Wp (c env hp) fun r => ∃ b, r.1.2 = .bl b ∧ (b = false → Q (.nx, env, r.2)) ∧ (b = true → Wp (body env r.2) fun r => match r.1 with
      | .nx => ∃ m', m' < m ∧ I m' r.2.1 r.2.2 | .ct => ∃ m', m' < m ∧ I m' r.2.1 r.2.2 | .bk => Q (.nx, r.2.1, r.2.2) | .rt v => Q (.rt v, r.2.1, r.2.2))) :
    ∀ (wf m : Nat) (env : FEnv) (hp : Hs), m < wf → I m env hp → Wp (whlE c body wf env hp) Q
  | 0, m, env, hp, hm, _ => absurd hm (Nat.not_lt_zero _)
  | wf + 1, m, env, hp, hm, h => by
    have st := step m env hp h
    show Wp (bndB (c env hp) fun b hp1 => if b = true then (body env hp1).bind (turnE (whlE c body wf)) else some (.nx, env, hp1)) Q
    obtain ⟨⟨⟨o, v⟩, h1⟩, e, b, hb, hf, ht⟩ := st
    simp only at hb
    subst hb
    rw [e, bndB_some]
    cases b with
    | false => exact ⟨_, rfl, hf rfl⟩
    | true =>
      rw [if_pos rfl, Wp_bind]
      refine (ht rfl).mono fun r hr => ?_
      obtain ⟨f, e2, h2⟩ := r
      cases f with
      | nx =>
        obtain ⟨m', hm', hI⟩ := hr
        exact Wp_whl I step wf m' e2 h2 (by omega) hI
      | ct =>
        obtain ⟨m', hm', hI⟩ := hr
        exact Wp_whl I step wf m' e2 h2 (by omega) hI
      | bk => exact ⟨_, rfl, hr⟩
      | rt v => exact ⟨_, rfl, hr⟩

/-! ### comprehensions -/
/-- the items have a type -/
theorem lcE_map {α : Type} {f : PV → Hs → Option (List PV × Hs)} {enc : α → PV} {g : α → List PV} {hp : Hs} : ∀ {xs : List α}, (∀ x, x ∈ xs → f (enc x) hp = some (g x, hp)) → lcE f (xs.map enc) hp = some (xs.flatMap g, hp)
  | [], _ => rfl
  | x :: xs, h => by
    show bndL (f (enc x) hp) (fun ys hp1 => bndL (lcE f (xs.map enc) hp1) fun zs hp2 => some (ys ++ zs, hp2)) = _
    rw [h x (by simp)]
    show bndL (lcE f (xs.map enc) hp) (fun zs hp2 => some (g x ++ zs, hp2)) = _
    rw [lcE_map (fun y hy => h y (by simp [hy]))]
    rfl
theorem lcE_map1 {α : Type} {f : PV → Hs → Option (List PV × Hs)} {enc : α → PV} {g : α → PV} {hp : Hs} {xs : List α} (h : ∀ x, x ∈ xs → f (enc x) hp = some ([g x], hp)) : lcE f (xs.map enc) hp = some (xs.map g, hp) := by
  rw [lcE_map h]
  congr 2
  clear h
  induction xs with
  | nil => rfl
  | cons x xs ih => rw [List.flatMap_cons, ih]; rfl
theorem lcE_filter {α : Type} {f : PV → Hs → Option (List PV × Hs)} {enc : α → PV} {p : α → Bool} {g : α → PV} {hp : Hs} {xs : List α} (h : ∀ x, x ∈ xs → f (enc x) hp = some (if p x = true then [g x] else [], hp)) : lcE f (xs.map enc) hp = some ((xs.filter p).map g, hp) := by
  rw [lcE_map h]
  congr 2
  clear h
  induction xs with
  | nil => rfl
  | cons x xs ih =>
    rw [List.flatMap_cons, ih, List.filter_cons]
    split <;> simp
theorem Wp_lc {α : Type} {f : PV → Hs → Option (List PV × Hs)} {enc : α → PV} {Q : List PV × Hs → Prop} (I : List α → List α → List PV → Hs → Prop)
    (step : ∀ done x rest acc hp, I done (x :: rest) acc hp → Wp (f (enc x) hp) fun r => I (done ++ [x]) rest (acc ++ r.1) r.2) :
    ∀ (rest done : List α) (acc : List PV) (hp : Hs), I done rest acc hp → (∀ acc' hp, I (done ++ rest) [] (acc ++ acc') hp → Q (acc', hp)) → Wp (lcE f (rest.map enc) hp) Q
  | [], done, acc, hp, h, fin => ⟨_, rfl, fin _ _ (by simpa using h)⟩
  | x :: rest, done, acc, hp, h, fin => by
    show Wp (bndL (f (enc x) hp) fun ys hp1 => bndL (lcE f (rest.map enc) hp1) fun zs hp2 => some (ys ++ zs, hp2)) Q
    rw [Wp_bndL]
    refine (step done x rest acc hp h).mono fun r hr => ?_
    rw [Wp_bndL]
    refine Wp_lc (Q := fun p => Wp (some (r.1 ++ p.1, p.2)) Q) I step rest (done ++ [x]) (acc ++ r.1) r.2 hr fun acc' hp' h' => ⟨_, rfl, fin _ _ ?_⟩
    simpa using h'
theorem upTo_map (n : Nat) : upTo 0 n = (List.range n).map fun (k : Nat) => PV.int (k : Int) := by simp [upTo]
end MX
/-! Pure runs: the evaluator's rows as rules, operations on values that stand for typed data. -/
namespace MX
open MP
open PySem (Str)
def nt (n : Nat) : PV := .int (n : Int)
@[simp] theorem nt_eq (n : Nat) : nt n = .int (n : Int) := rfl

/-! ### rows of the evaluator -/
section
variable (gl : Nat → Option PV) (call : CallT) (wf : Nat)
@[simp] theorem ev_var (i : Nat) (env : Env) (hp : Hs) : ev gl call (.var i) env hp = (env[i]?.bind id).map fun v => ((false, v), hp) := rfl
@[simp] theorem ev_glb (i : Nat) (env : Env) (hp : Hs) : ev gl call (.glb i) env hp = (gl i).map fun v => ((false, v), hp) := rfl
@[simp] theorem ev_fnv (i : Nat) (env : Env) (hp : Hs) : ev gl call (.fnv i) env hp = some ((false, .fn i), hp) := rfl
@[simp] theorem ev_non (env : Env) (hp : Hs) : ev gl call .non env hp = some ((false, .non), hp) := rfl
@[simp] theorem ev_bl (b : Bool) (env : Env) (hp : Hs) : ev gl call (.bl b) env hp = some ((false, .bl b), hp) := rfl
@[simp] theorem ev_int (i : Int) (env : Env) (hp : Hs) : ev gl call (.int i) env hp = some ((false, .int i), hp) := rfl
@[simp] theorem ev_str (s : Str) (env : Env) (hp : Hs) : ev gl call (.str s) env hp = some ((false, .str s), hp) := rfl
@[simp] theorem ev_tup (es : ME) (env : Env) (hp : Hs) : ev gl call (.tup es) env hp = mk false .tup (evL gl call es env hp) := rfl
@[simp] theorem ev_lst (es : ME) (env : Env) (hp : Hs) : ev gl call (.lst es) env hp = mk true .lst (evL gl call es env hp) := rfl
@[simp] theorem ev_edct (env : Env) (hp : Hs) : ev gl call .edct env hp = some ((true, .dct []), hp) := rfl
@[simp] theorem ev_dsp (k v : ME) (env : Env) (hp : Hs) : ev gl call (.dsp k v) env hp = bnd (ev gl call k env hp) fun x hp1 => bnd (ev gl call v env hp1) fun y hp2 => if (isKey x || isTKey x) = true then some ((true, .dct [(x, y)]), hp2) else none := rfl
@[simp] theorem ev_bin (op : Bop) (a b : ME) (env : Env) (hp : Hs) : ev gl call (.bin op a b) env hp = bnd (ev gl call a env hp) fun x hp1 => bnd (ev gl call b env hp1) fun y hp2 => (binP op x y).map fun r => (r, hp2) := rfl
@[simp] theorem ev_neg (a : ME) (env : Env) (hp : Hs) : ev gl call (.neg a) env hp = bnd (ev gl call a env hp) fun x hp1 => (asI x).map fun i => ((false, .int (-i)), hp1) := rfl
@[simp] theorem ev_not (a : ME) (env : Env) (hp : Hs) : ev gl call (.not a) env hp = bndB (ev gl call a env hp) fun b hp1 => some ((false, .bl !b), hp1) := rfl
@[simp] theorem ev_and (a b : ME) (env : Env) (hp : Hs) : ev gl call (.and a b) env hp = bndB (ev gl call a env hp) fun c hp1 => if c = true then bndB (ev gl call b env hp1) fun d hp2 => some ((false, .bl d), hp2) else some ((false, .bl false), hp1) := rfl
@[simp] theorem ev_or (a b : ME) (env : Env) (hp : Hs) : ev gl call (.or a b) env hp = bndB (ev gl call a env hp) fun c hp1 => if c = true then some ((false, .bl true), hp1) else bndB (ev gl call b env hp1) fun d hp2 => some ((false, .bl d), hp2) := rfl
@[simp] theorem ev_cmp (op : Cop) (a b : ME) (env : Env) (hp : Hs) : ev gl call (.cmp op a b) env hp = bnd (ev gl call a env hp) fun x hp1 => bnd (ev gl call b env hp1) fun y hp2 => (cmpP op x (drfC op y hp2)).map fun c => ((false, .bl c), hp2) := rfl
@[simp] theorem ev_chn (op op' : Cop) (a b c : ME) (env : Env) (hp : Hs) : ev gl call (.chn op op' a b c) env hp = bnd (ev gl call a env hp) fun x hp1 => bnd (ev gl call b env hp1) fun y hp2 => (cmpP op x y).bind fun k =>
      if k = true then bnd (ev gl call c env hp2) fun z hp3 => (cmpP op' y z).map fun k' => ((false, .bl k'), hp3) else some ((false, .bl false), hp2) := rfl
@[simp] theorem ev_ife (c a b : ME) (env : Env) (hp : Hs) : ev gl call (.ife c a b) env hp = bndB (ev gl call c env hp) fun k hp1 => if k = true then ev gl call a env hp1 else ev gl call b env hp1 := rfl
@[simp] theorem ev_call (f : Nat) (es : ME) (env : Env) (hp : Hs) : ev gl call (.call f es) env hp = bndL (evL gl call es env hp) fun vs hp1 => call f vs hp1 := rfl
@[simp] theorem ev_bcl (f : Bfn) (es : ME) (env : Env) (hp : Hs) : ev gl call (.bcl f es) env hp = bndL (evL gl call es env hp) fun vs hp1 => (bclP f (drfA vs hp1)).map fun r => (r, hp1) := rfl
@[simp] theorem ev_callv (i : Nat) (es : ME) (env : Env) (hp : Hs) : ev gl call (.callv i es) env hp = (env[i]?.bind id).bind fun v => (match v with
    | .fn f => bndL (evL gl call es env hp) fun vs hp1 => call f vs hp1
    | _ => none) := rfl
@[simp] theorem ev_isi (a : ME) (t : Ty) (env : Env) (hp : Hs) : ev gl call (.isi a t) env hp = bnd (ev gl call a env hp) fun x hp1 => (isiP x t).map fun b => ((false, .bl b), hp1) := rfl
@[simp] theorem ev_mth (m : Mth) (o es : ME) (env : Env) (hp : Hs) : ev gl call (.mth m o es) env hp = bnd (ev gl call o env hp) fun x hp1 => bndL (evL gl call es env hp1) fun vs hp2 => (mthP m x vs).map fun v => ((false, v), hp2) := rfl
@[simp] theorem ev_idx (a i : ME) (env : Env) (hp : Hs) : ev gl call (.idx a i) env hp = bnd (ev gl call a env hp) fun x hp1 => bnd (ev gl call i env hp1) fun y hp2 => (idxP (drf x hp2) y).map fun v => ((false, v), hp2) := rfl
@[simp] theorem ev_slc (a lo hi : ME) (env : Env) (hp : Hs) : ev gl call (.slc a lo hi) env hp = bnd (ev gl call a env hp) fun x hp1 =>
      (if lo.isNil then some (none, hp1) else bnd (ev gl call lo env hp1) fun l hp2 => (asI l).map fun i => (some i, hp2)).bind fun p =>
      (if hi.isNil then some (none, p.2) else bnd (ev gl call hi env p.2) fun h hp3 => (asI h).map fun i => (some i, hp3)).bind fun q =>
      (slcP x p.1 q.1).map fun r => (r, q.2) := rfl
@[simp] theorem ev_rev (a : ME) (env : Env) (hp : Hs) : ev gl call (.rev a) env hp = bnd (ev gl call a env hp) fun x hp1 => (revP x).map fun r => (r, hp1) := rfl
/-- the turn of a comprehension -/
def lcB (elt : ME) (t : Tg) (c : ME) (env : Env) (x : PV) (hp : Hs) : Option (List PV × Hs) := (setTg t x (wipeE env t.slots)).bind fun env1 => bndB (ev gl call c env1 hp) fun b hp1 =>
        if b = true then one (ev gl call elt env1 hp1) else some ([], hp1)
@[simp] theorem ev_lc (elt : ME) (t : Tg) (k : Ik) (it c : ME) (env : Env) (hp : Hs) : ev gl call (.lc elt t k it c) env hp = bndL (wK k (ev gl call it env hp) (evL gl call it env hp)) fun xs hp1 =>
      mk true .lst (lcE (lcB gl call elt t c env) xs hp1) := rfl
def lcB2 (elt : ME) (t : Tg) (c : ME) (t1 : Tg) (k1 : Ik) (it1 c1 : ME) (env : Env) (x : PV) (hp : Hs) : Option (List PV × Hs) := (setTg t x (wipeE env (t.slots ++ t1.slots))).bind fun env1 => bndB (ev gl call c env1 hp) fun b hp1 =>
        if b = true then bndL (wK k1 (ev gl call it1 env1 hp1) (evL gl call it1 env1 hp1)) fun xs1 hp2 =>
          lcE (lcB gl call elt t1 c1 env1) xs1 hp2
        else some ([], hp1)
@[simp] theorem ev_lc2 (elt : ME) (t : Tg) (k : Ik) (it c : ME) (t1 : Tg) (k1 : Ik) (it1 c1 : ME) (env : Env) (hp : Hs) : ev gl call (.lc2 elt t k it c t1 k1 it1 c1) env hp = bndL (wK k (ev gl call it env hp) (evL gl call it env hp)) fun xs hp1 =>
      mk true .lst (lcE (lcB2 gl call elt t c t1 k1 it1 c1 env) xs hp1) := rfl
@[simp] theorem ev_hp (e : ME) (env : Env) (hp : Hs) : ev gl call (.hp e) env hp = (ev gl call e env hp).bind fun p => if (p.1.1 && clean p.1) = true then some ((false, .ref p.2.length), p.2 ++ [p.1.2]) else none := rfl
@[simp] theorem ev_rngx (tp : Bool) (es : ME) (env : Env) (hp : Hs) : ev gl call (.rngx tp es) env hp = bndL (evL gl call es env hp) fun vs hp1 => (rngP vs).bind fun xs => if xs.length ≤ LINE then some (if tp = true then (false, .tup xs) else (true, .lst xs), hp1) else none := rfl
@[simp] theorem ev_mxd (a d : ME) (env : Env) (hp : Hs) : ev gl call (.mxd a d) env hp = bnd (ev gl call a env hp) fun x hp1 => bnd (ev gl call d env hp1) fun y hp2 => (mxdP x y).map fun v => ((false, v), hp2) := rfl
@[simp] theorem evL_nil (env : Env) (hp : Hs) : evL gl call .nil env hp = some ([], hp) := rfl
@[simp] theorem evL_cons (e es : ME) (env : Env) (hp : Hs) : evL gl call (.cons e es) env hp = bnd (ev gl call e env hp) fun x hp1 => bndL (evL gl call es env hp1) fun vs hp2 => some (x :: vs, hp2) := rfl
@[simp] theorem exec_nil (env : FEnv) (hp : Hs) : exec gl call wf .nil env hp = some (.nx, env, hp) := rfl
@[simp] theorem exec_cons (s r : MS) (env : FEnv) (hp : Hs) : exec gl call wf (.cons s r) env hp = (exec gl call wf s env hp).bind (seqE (exec gl call wf r)) := rfl
@[simp] theorem exec_asg_nm (i : Nat) (e : ME) (env : FEnv) (hp : Hs) : exec gl call wf (.asg (.nm i) e) env hp = (evK gl call e env hp).bind fun p => some (.nx, p.2.1.set i (some p.1), p.2.2) := rfl
@[simp] theorem exec_asg_tp (ts : Tg) (e : ME) (env : FEnv) (hp : Hs) : exec gl call wf (.asg (.tp ts) e) env hp = (evK gl call e env hp).bind fun p => (setF (.tp ts) p.1.2 p.2.1).map fun env2 => (.nx, env2, p.2.2) := rfl
@[simp] theorem exec_aug (i : Nat) (op : Bop) (e : ME) (env : FEnv) (hp : Hs) : exec gl call wf (.aug i op e) env hp = (env[i]?.bind id).bind fun x => bnd (ev gl call e (unf env) hp) fun y hp1 => (augP op x.2 y).map fun v => (.nx, env.set i (some (false, v)), hp1) := rfl
@[simp] theorem exec_seti_var (n : Nat) (i e : ME) (env : FEnv) (hp : Hs) : exec gl call wf (.seti (.var n) i e) env hp = bnd (ev gl call e (unf env) hp) fun v hp1 =>
    bnd (ev gl call i (unf env) hp1) fun j hp2 => if (v.lf && j.lf) = true then mutF n (fun c => putP c j v) env hp2 else none := rfl
theorem exec_seti (o i e : ME) (env : FEnv) (hp : Hs) : exec gl call wf (.seti o i e) env hp = bnd (ev gl call e (unf env) hp) fun v hp1 => (match o.varOf with
    | some n => bnd (ev gl call i (unf env) hp1) fun j hp2 => if (v.lf && j.lf) = true then mutF n (fun c => putP c j v) env hp2 else none
    | none => bnd (ev gl call o (unf env) hp1) fun x hp2 => bnd (ev gl call i (unf env) hp2) fun j hp3 => if (v.lf && j.lf) = true then refF x (fun c => putP c j v) env hp3 else none) := rfl
@[simp] theorem exec_app (n : Nat) (e : ME) (env : FEnv) (hp : Hs) : exec gl call wf (.app n e) env hp = bnd (ev gl call e (unf env) hp) fun v hp1 => if v.lf = true then ownF n (appP v) env hp1
      else bnd (ev gl call e (vis (frzV e.vars env)) hp) fun v hp1 => ownF n (appP v) (frzV e.vars env) hp1 := rfl
@[simp] theorem exec_ext (n : Nat) (e : ME) (env : FEnv) (hp : Hs) : exec gl call wf (.ext n e) env hp = (ev gl call e (unf env) hp).bind fun p => if (p.1.1 && clean p.1) = true then ownF n (extP p.1.2) env p.2 else none := rfl
@[simp] theorem exec_apx (o e : ME) (env : FEnv) (hp : Hs) : exec gl call wf (.apx o e) env hp = bnd (ev gl call o (unf env) hp) fun x hp1 => if isRefL x hp1 = true then bnd (ev gl call e (unf env) hp1) fun v hp2 => if v.lf = true then refF x (appP v) env hp2 else none else none := rfl
@[simp] theorem exec_sda (n : Nat) (k d e : ME) (env : FEnv) (hp : Hs) : exec gl call wf (.sda n k d e) env hp = bnd (ev gl call k (unf env) hp) fun j hp1 => bnd (ev gl call d (unf env) hp1) fun w hp2 => if (j.lf && w.lf) = true then (match env[n]? with
    | some (some (true, .dct kvs)) => if (isTKey j && (keysP kvs).all isTKey) && decide (kvs.length < LINE) then (if isRefL ((getKv j kvs).getD w) hp2 = true then
        bnd (ev gl call e (unf (env.set n (some (true, .dct (sdKv j w kvs))))) hp2) fun v hp3 => if v.lf = true then refF ((getKv j kvs).getD w) (appP v) (env.set n (some (true, .dct (sdKv j w kvs)))) hp3 else none else none) else none
    | _ => none) else none := rfl
@[simp] theorem exec_popa (t n : Nat) (e : ME) (env : FEnv) (hp : Hs) : exec gl call wf (.popa t n e) env hp = bnd (ev gl call e (unf env) hp) fun j hp1 => (match env[n]? with
    | some (some (true, c)) => (popP j c).bind fun q => (match env[t]? with
      | some (some (false, .tup xs)) => if xs.length + 1 ≤ LINE then some (.nx, (env.set n (some (true, q.2))).set t (some (false, .tup (xs ++ [q.1]))), hp1) else none
      | _ => none)
    | _ => none) := rfl
@[simp] theorem exec_fors (t : Tg) (it : ME) (b : MS) (env : FEnv) (hp : Hs) : exec gl call wf (.fors t it b) env hp = (evK gl call it env hp).bind fun p => (match p.1.2 with
    | .ref n => forS t (exec gl call wf b) n wf 0 p.2.1 p.2.2
    | _ => none) := rfl
@[simp] theorem exec_mov (i j : Nat) (env : FEnv) (hp : Hs) : exec gl call wf (.mov i j) env hp = (env[j]?.bind id).map fun r => (.nx, (if r.1 = true then env.set j none else env).set i (some r), hp) := rfl
@[simp] theorem exec_pop (t n : Nat) (e : ME) (env : FEnv) (hp : Hs) : exec gl call wf (.pop t n e) env hp = bnd (ev gl call e (unf env) hp) fun j hp1 => (match env[n]? with
    | some (some (true, c)) => (popP j c).map fun q => (.nx, (env.set n (some (true, q.2))).set t (some (false, q.1)), hp1)
    | _ => none) := rfl
@[simp] theorem exec_ife (c : ME) (a b : MS) (env : FEnv) (hp : Hs) : exec gl call wf (.ife c a b) env hp = bndB (ev gl call c (unf env) hp) fun k hp1 => if k = true then exec gl call wf a env hp1 else exec gl call wf b env hp1 := rfl
@[simp] theorem exec_whl (c : ME) (b : MS) (env : FEnv) (hp : Hs) : exec gl call wf (.whl c b) env hp = whlE (fun env hp => ev gl call c (unf env) hp) (exec gl call wf b) wf env hp := rfl
@[simp] theorem exec_for (t : Tg) (k : Ik) (it : ME) (b : MS) (env : FEnv) (hp : Hs) : exec gl call wf (.for_ t k it b) env hp = (evIK gl call k it env hp).bind fun p => forE t (exec gl call wf b) p.1 p.2.1 p.2.2 := rfl
theorem exec_ret (e : ME) (env : FEnv) (hp : Hs) : exec gl call wf (.ret e) env hp = (match e.varOf with
    | some i => (env[i]?.bind id).map fun r => (.rt r, env, hp)
    | none => (ev gl call e (unf env) hp).map fun p => (.rt p.1, env, p.2)) := rfl
@[simp] theorem exec_retn (env : FEnv) (hp : Hs) : exec gl call wf .retn env hp = some (.rt (false, .non), env, hp) := rfl
@[simp] theorem exec_brk (env : FEnv) (hp : Hs) : exec gl call wf .brk env hp = some (.bk, env, hp) := rfl
@[simp] theorem exec_cnt (env : FEnv) (hp : Hs) : exec gl call wf .cnt env hp = some (.ct, env, hp) := rfl
@[simp] theorem exec_pas (env : FEnv) (hp : Hs) : exec gl call wf .pas env hp = some (.nx, env, hp) := rfl
@[simp] theorem exec_exp (e : ME) (env : FEnv) (hp : Hs) : exec gl call wf (.exp e) env hp = (evK gl call e env hp).map fun p => (.nx, p.2.1, p.2.2) := rfl
@[simp] theorem evIK_val (it : ME) (env : FEnv) (hp : Hs) : evIK gl call .val it env hp = (evK gl call it env hp).bind fun p => (itemsP p.1.2).map fun xs => (xs, p.2.1, p.2.2) := rfl
@[simp] theorem evIK_rng (it : ME) (env : FEnv) (hp : Hs) : evIK gl call .rng it env hp = bndL (evL gl call it (unf env) hp) fun vs hp1 => (rngP vs).map fun xs => (xs, env, hp1) := rfl
@[simp] theorem evIK_rrng (it : ME) (env : FEnv) (hp : Hs) : evIK gl call .rrng it env hp = bndL (evL gl call it (unf env) hp) fun vs hp1 => (rngP vs).map fun xs => (xs.reverse, env, hp1) := rfl
end
@[simp] theorem bnd_some' {β : Type} (p : Rv × Hs) (f : PV → Hs → Option β) : bnd (some p) f = f p.1.2 p.2 := rfl
@[simp] theorem bndL_some' {β : Type} (p : List PV × Hs) (f : List PV → Hs → Option β) : bndL (some p) f = f p.1 p.2 := rfl
@[simp] theorem bndB_some' {β : Type} (o b : Bool) (hp : Hs) (f : Bool → Hs → Option β) : bndB (some ((o, .bl b), hp)) f = f b hp := rfl
@[simp] theorem one_some (p : Rv × Hs) : one (some p) = some ([p.1.2], p.2) := rfl
@[simp] theorem wK_val (p : Rv × Hs) (rl : Option (List PV × Hs)) : wK .val (some p) rl = (itemsP p.1.2).map fun xs => (xs, p.2) := rfl
@[simp] theorem wK_rng (p : List PV × Hs) (rv : Option (Rv × Hs)) : wK .rng rv (some p) = (rngP p.1).map fun xs => (xs, p.2) := rfl
@[simp] theorem wK_rrng (p : List PV × Hs) (rv : Option (Rv × Hs)) : wK .rrng rv (some p) = (rngP p.1).map fun xs => (xs.reverse, p.2) := rfl
@[simp] theorem seqE_nx (rest : FEnv → Hs → XR) (env : FEnv) (hp : Hs) : seqE rest (.nx, env, hp) = rest env hp := rfl
@[simp] theorem seqE_rt (rest : FEnv → Hs → XR) (v : Rv) (env : FEnv) (hp : Hs) : seqE rest (.rt v, env, hp) = some (.rt v, env, hp) := rfl
@[simp] theorem seqE_bk (rest : FEnv → Hs → XR) (env : FEnv) (hp : Hs) : seqE rest (.bk, env, hp) = some (.bk, env, hp) := rfl
@[simp] theorem seqE_ct (rest : FEnv → Hs → XR) (env : FEnv) (hp : Hs) : seqE rest (.ct, env, hp) = some (.ct, env, hp) := rfl
@[simp] theorem unf_nil : unf [] = [] := rfl
@[simp] theorem unf_some (r : Rv) (l : FEnv) : unf (some r :: l) = some r.2 :: unf l := rfl
@[simp] theorem unf_none (l : FEnv) : unf (none :: l) = none :: unf l := rfl
@[simp] theorem unf_cons (o : Option Rv) (l : FEnv) : unf (o :: l) = o.map (·.2) :: unf l := rfl
@[simp] theorem drfA_nil (hp : Hs) : drfA [] hp = [] := rfl
@[simp] theorem drfA_cons (x : PV) (r : List PV) (hp : Hs) : drfA (x :: r) hp = drfL x hp :: r := rfl
@[simp] theorem drfL_tup (xs : List PV) (hp : Hs) : drfL (.tup xs) hp = .tup xs := rfl
@[simp] theorem drfL_lst (xs : List PV) (hp : Hs) : drfL (.lst xs) hp = .lst xs := rfl
@[simp] theorem drfL_dct (xs : List (PV × PV)) (hp : Hs) : drfL (.dct xs) hp = .dct xs := rfl
@[simp] theorem drfL_pst (xs : List PV) (hp : Hs) : drfL (.pst xs) hp = .pst xs := rfl
@[simp] theorem drfL_int (i : Int) (hp : Hs) : drfL (.int i) hp = .int i := rfl
@[simp] theorem drfL_bl (i : Bool) (hp : Hs) : drfL (.bl i) hp = .bl i := rfl
@[simp] theorem drfL_str (i : Str) (hp : Hs) : drfL (.str i) hp = .str i := rfl
@[simp] theorem drfL_non (hp : Hs) : drfL .non hp = .non := rfl
@[simp] theorem drfC_in (y : PV) (hp : Hs) : drfC .isin y hp = drfL y hp := rfl
@[simp] theorem drfC_nin (y : PV) (hp : Hs) : drfC .nin y hp = drfL y hp := rfl
@[simp] theorem drfC_eq (y : PV) (hp : Hs) : drfC .eq y hp = y := rfl
@[simp] theorem drfC_ne (y : PV) (hp : Hs) : drfC .ne y hp = y := rfl
@[simp] theorem drfC_lt (y : PV) (hp : Hs) : drfC .lt y hp = y := rfl
@[simp] theorem drfC_le (y : PV) (hp : Hs) : drfC .le y hp = y := rfl
@[simp] theorem drfC_gt (y : PV) (hp : Hs) : drfC .gt y hp = y := rfl
@[simp] theorem drfC_ge (y : PV) (hp : Hs) : drfC .ge y hp = y := rfl
@[simp] theorem drfC_is (y : PV) (hp : Hs) : drfC .is y hp = y := rfl
@[simp] theorem drfC_isnt (y : PV) (hp : Hs) : drfC .isnt y hp = y := rfl
theorem drfL_ref {n : Nat} {hp : Hs} {xs : List PV} (h : hp[n]? = some (.lst xs)) : drfL (.ref n) hp = .lst xs := by simp only [drfL, h]
@[simp] theorem setTg_tpl (ts : Tg) (xs : List PV) (env : Env) : setTg (.tp ts) (.lst xs) env = setTgs ts xs env := rfl
@[simp] theorem setF_tpl (ts : Tg) (xs : List PV) (env : FEnv) : setF (.tp ts) (.lst xs) env = setFs ts xs env := rfl
@[simp] theorem asI_int (i : Int) : asI (.int i) = some i := rfl
@[simp] theorem asB_bl (b : Bool) : asB (.bl b) = some b := rfl
@[simp] theorem setTg_nm (i : Nat) (v : PV) (env : Env) : setTg (.nm i) v env = some (env.set i (some v)) := rfl
@[simp] theorem setTg_tp (ts : Tg) (xs : List PV) (env : Env) : setTg (.tp ts) (.tup xs) env = setTgs ts xs env := rfl
@[simp] theorem setTgs_nil (env : Env) : setTgs .nil [] env = some env := rfl
@[simp] theorem setTgs_cons (t ts : Tg) (x : PV) (xs : List PV) (env : Env) : setTgs (.cons t ts) (x :: xs) env = (setTg t x env).bind fun env1 => setTgs ts xs env1 := rfl
@[simp] theorem setF_nm (i : Nat) (v : PV) (env : FEnv) : setF (.nm i) v env = some (env.set i (some (false, v))) := rfl
@[simp] theorem setF_tp (ts : Tg) (xs : List PV) (env : FEnv) : setF (.tp ts) (.tup xs) env = setFs ts xs env := rfl
@[simp] theorem setFs_nil (env : FEnv) : setFs .nil [] env = some env := rfl
@[simp] theorem setFs_cons (t ts : Tg) (x : PV) (xs : List PV) (env : FEnv) : setFs (.cons t ts) (x :: xs) env = (setF t x env).bind fun env1 => setFs ts xs env1 := rfl
@[simp] theorem slots_nm (i : Nat) : (Tg.nm i).slots = [i] := rfl
@[simp] theorem slots_tp (ts : Tg) : (Tg.tp ts).slots = ts.slots := rfl
@[simp] theorem slots_nil : Tg.nil.slots = [] := rfl
@[simp] theorem slots_cons (t ts : Tg) : (Tg.cons t ts).slots = t.slots ++ ts.slots := rfl
@[simp] theorem wipeE_nil (env : Env) : wipeE env [] = env := rfl
@[simp] theorem wipeE_cons (env : Env) (v : Nat) (vs : List Nat) : wipeE env (v :: vs) = (wipeE env vs).set v none := rfl
/-- a value that is no variable -/
@[simp] theorem evK_var (gl : Nat → Option PV) (call : CallT) (i : Nat) (env : FEnv) (hp : Hs) : evK gl call (.var i) env hp = (env[i]?.bind id).map fun r => ((false, r.2), frzAt i env, hp) := rfl
theorem evK_ev (gl : Nat → Option PV) (call : CallT) (e : ME) (env : FEnv) (hp : Hs) (h : e.varOf = none) : evK gl call e env hp = (ev gl call e (unf env) hp).map fun p => (p.1, keep p.1 env, p.2) := by
  unfold evK
  rw [h]
theorem keep_clean {r : Rv} (env : FEnv) (h : clean r = true) : keep r env = env := if_pos h
@[simp] theorem mk_some (own : Bool) (c : List PV → PV) (p : List PV × Hs) : mk own c (some p) = if p.1.length ≤ LINE then some ((own, c p.1), p.2) else none := rfl
end MX
/-! Pure runs: operations on values that stand for typed data. -/
namespace MX
open MP
open PySem (Str)
/-- a kind of data, written as values -/
structure EncOk {α : Type} [BEq α] [LawfulBEq α] (enc : α → PV) (d : Nat) : Prop where
  dat : ∀ a, (enc a).dat = true
  dep : ∀ a, (enc a).dep ≤ d
  eqv : ∀ a b, eqP (enc a) (enc b) = (a == b)
  lf : ∀ a, (enc a).lf = true
theorem datAll_iff (xs : List PV) : datAll xs = true ↔ ∀ x ∈ xs, x.dat = true := by
  induction xs with
  | nil => simp [datAll]
  | cons x xs ih => simp [datAll, ih]
theorem lfAll_iff (xs : List PV) : lfAll xs = true ↔ ∀ x ∈ xs, x.lf = true := by
  induction xs with
  | nil => simp [lfAll]
  | cons x xs ih => simp [lfAll, ih]
theorem depAll_le (xs : List PV) (d : Nat) : depAll xs ≤ d ↔ ∀ x ∈ xs, x.dep ≤ d := by
  induction xs with
  | nil => simp [depAll]
  | cons x xs ih => simp [depAll, ih, Nat.max_le]
section
variable {α : Type} [BEq α] [LawfulBEq α] {enc : α → PV} {d : Nat} (E : EncOk enc d)
include E
theorem EncOk.datAll (xs : List α) : datAll (xs.map enc) = true := by
  rw [datAll_iff]; intro x hx
  obtain ⟨a, _, rfl⟩ := List.mem_map.mp hx
  exact E.dat a
theorem EncOk.lfAll (xs : List α) : lfAll (xs.map enc) = true := by
  rw [lfAll_iff]; intro x hx
  obtain ⟨a, _, rfl⟩ := List.mem_map.mp hx
  exact E.lf a
theorem EncOk.depAll (xs : List α) : depAll (xs.map enc) ≤ d := by
  rw [depAll_le]; intro x hx
  obtain ⟨a, _, rfl⟩ := List.mem_map.mp hx
  exact E.dep a
theorem EncOk.eqAll : ∀ (xs ys : List α), eqAll (xs.map enc) (ys.map enc) = (xs == ys)
  | [], [] => rfl
  | [], _ :: _ => rfl
  | _ :: _, [] => rfl
  | x :: xs, y :: ys => by
    show (eqP (enc x) (enc y) && MP.eqAll (xs.map enc) (ys.map enc)) = _
    rw [E.eqv, EncOk.eqAll xs ys]
    rfl
theorem EncOk.tup : EncOk (fun xs : List α => PV.tup (xs.map enc)) (d + 1) where
  dat xs := E.datAll xs
  dep xs := Nat.add_le_add_right (E.depAll xs) 1
  eqv xs ys := E.eqAll xs ys
  lf xs := E.lfAll xs
theorem EncOk.memP (a : α) (xs : List α) : memP (enc a) (xs.map enc) = decide (a ∈ xs) := by
  unfold MP.memP
  rw [List.any_map]
  induction xs with
  | nil => simp
  | cons x xs ih =>
    rw [List.any_cons, ih]
    simp only [Function.comp, E.eqv]
    by_cases h : x = a
    · simp [h]
    · simp [h, Ne.symm h]
theorem EncOk.okMem (a : α) (xs : List α) (h : d ≤ 60) : okMem (enc a) (xs.map enc) = true := by
  unfold MP.okMem
  rw [E.dat, E.datAll]
  simp only [Bool.true_and, decide_eq_true_eq]
  exact Nat.le_trans (Nat.min_le_left _ _) (Nat.le_trans (E.dep a) h)
theorem EncOk.findP (a : α) (xs : List α) : findP (enc a) (xs.map enc) = if a ∈ xs then some (xs.idxOf a) else none := by
  induction xs with
  | nil => simp [MP.findP]
  | cons x xs ih =>
    show (if eqP (enc x) (enc a) = true then some 0 else (MP.findP (enc a) (xs.map enc)).map (· + 1)) = _
    rw [E.eqv, ih, List.idxOf_cons]
    by_cases h : x = a
    · simp [h]
    · have h' : ¬ a = x := fun e => h e.symm
      have h2 : (x == a) = false := by simp [h]
      simp [h, h', h2]
theorem EncOk.isin_lst (a : α) (xs : List α) (h : d ≤ 60) : cmpP .isin (enc a) (.lst (xs.map enc)) = some (decide (a ∈ xs)) := by
  simp [cmpP, inP, E.okMem a xs h, E.memP]
theorem EncOk.isin_tup (a : α) (xs : List α) (h : d ≤ 60) : cmpP .isin (enc a) (.tup (xs.map enc)) = some (decide (a ∈ xs)) := by
  simp [cmpP, inP, E.okMem a xs h, E.memP]
theorem EncOk.nin_lst (a : α) (xs : List α) (h : d ≤ 60) : cmpP .nin (enc a) (.lst (xs.map enc)) = some (decide (a ∉ xs)) := by
  simp [cmpP, inP, E.okMem a xs h, E.memP]
theorem EncOk.nin_tup (a : α) (xs : List α) (h : d ≤ 60) : cmpP .nin (enc a) (.tup (xs.map enc)) = some (decide (a ∉ xs)) := by
  simp [cmpP, inP, E.okMem a xs h, E.memP]
theorem EncOk.eq_ (a b : α) (h : d ≤ 60) : cmpP .eq (enc a) (enc b) = some (a == b) := by
  have : min (enc a).dep (enc b).dep ≤ 60 := Nat.le_trans (Nat.min_le_left _ _) (Nat.le_trans (E.dep a) h)
  simp [cmpP, okEq, E.dat, E.eqv, this]
theorem EncOk.ne_ (a b : α) (h : d ≤ 60) : cmpP .ne (enc a) (enc b) = some (!(a == b)) := by
  have : min (enc a).dep (enc b).dep ≤ 60 := Nat.le_trans (Nat.min_le_left _ _) (Nat.le_trans (E.dep a) h)
  simp [cmpP, okEq, E.dat, E.eqv, this]
theorem EncOk.index_lst (a : α) (xs : List α) (h : d ≤ 60) (m : a ∈ xs) : mthP .index (.lst (xs.map enc)) [enc a] = some (.int (xs.idxOf a : Nat)) := by
  simp [mthP, E.okMem a xs h, E.findP, m]
theorem EncOk.index_tup (a : α) (xs : List α) (h : d ≤ 60) (m : a ∈ xs) : mthP .index (.tup (xs.map enc)) [enc a] = some (.int (xs.idxOf a : Nat)) := by
  simp [mthP, E.okMem a xs h, E.findP, m]
theorem EncOk.memE (a : α) (xs : List α) : MP.memP (enc a) (xs.map enc) = true ↔ a ∈ xs := by rw [E.memP]; simp
theorem EncOk.dedup (acc xs : List α) : dedup (acc.map enc) (xs.map enc) = (xs.foldl (fun l x => if x ∈ l then l else l ++ [x]) acc).map enc := by
  induction xs generalizing acc with
  | nil => rfl
  | cons x xs ih =>
    show (if MP.memP (enc x) (acc.map enc) = true then MP.dedup (acc.map enc) (xs.map enc) else MP.dedup (acc.map enc ++ [enc x]) (xs.map enc)) = _
    rw [E.memP, List.foldl_cons]
    by_cases h : x ∈ acc
    · simp [h, ih]
    · simp only [h, decide_false, Bool.false_eq_true, if_false]
      rw [← ih, List.map_append]; rfl
end
theorem ntOk : EncOk nt 0 where
  dat _ := rfl
  dep _ := Nat.le_refl _
  eqv a b := by
    show (((a : Int)) == (b : Int)) = _
    rw [Bool.eq_iff_iff, beq_iff_eq, beq_iff_eq]; omega
  lf _ := rfl
theorem intOk : EncOk PV.int 0 where
  dat _ := rfl
  dep _ := Nat.le_refl _
  eqv a b := by
    show (a == b) = _
    rfl
  lf _ := rfl
theorem strOk : EncOk PV.str 0 where
  dat _ := rfl
  dep _ := Nat.le_refl _
  eqv a b := by
    show (a == b) = _
    rfl
  lf _ := rfl
/-- a tuple of numbers -/
def mv (l : List Nat) : PV := .tup (l.map nt)
@[simp] theorem mv_eq (l : List Nat) : mv l = .tup (l.map nt) := rfl
theorem mvOk : EncOk mv 1 := ntOk.tup
/-- a text of signs -/
def tx (w : List Nat) : PV := .str ⟨w.toArray⟩
@[simp] theorem tx_eq (w : List Nat) : tx w = .str ⟨w.toArray⟩ := rfl
theorem txOk : EncOk tx 0 where
  dat _ := rfl
  dep _ := Nat.le_refl _
  eqv a b := by
    show ((⟨a.toArray⟩ : Str) == ⟨b.toArray⟩) = _
    rw [Bool.eq_iff_iff]; simp
  lf _ := rfl

/-! ### numbers -/
@[simp] theorem cmp_eq_int (a b : Int) : cmpP .eq (.int a) (.int b) = some (decide (a = b)) := by rw [intOk.eq_ a b (by decide)]; rfl
@[simp] theorem cmp_ne_int (a b : Int) : cmpP .ne (.int a) (.int b) = some (decide (a ≠ b)) := by rw [intOk.ne_ a b (by decide)]; congr 1; rw [Bool.eq_iff_iff]; simp
theorem okLt_int (a b : Int) : okLt (.int a) (.int b) = true := by simp [okLt, alk, PV.dat, PV.dep, eqP]
@[simp] theorem cmp_lt_int (a b : Int) : cmpP .lt (.int a) (.int b) = some (decide (a < b)) := by simp [cmpP, okLt_int, ltP]
@[simp] theorem cmp_gt_int (a b : Int) : cmpP .gt (.int a) (.int b) = some (decide (b < a)) := by simp [cmpP, okLt_int, ltP]
@[simp] theorem cmp_le_int (a b : Int) : cmpP .le (.int a) (.int b) = some (decide (a ≤ b)) := by
  simp [cmpP, okLt_int, ltP]
  rw [Bool.eq_iff_iff]; simp
@[simp] theorem cmp_ge_int (a b : Int) : cmpP .ge (.int a) (.int b) = some (decide (b ≤ a)) := by
  simp [cmpP, okLt_int, ltP]
  rw [Bool.eq_iff_iff]; simp
@[simp] theorem cmp_eq_str (a b : Str) : cmpP .eq (.str a) (.str b) = some (decide (a = b)) := by rw [strOk.eq_ a b (by decide)]; rfl
@[simp] theorem cmp_ne_str (a b : Str) : cmpP .ne (.str a) (.str b) = some (decide (a ≠ b)) := by rw [strOk.ne_ a b (by decide)]; congr 1; rw [Bool.eq_iff_iff]; simp
@[simp] theorem cmp_eq_bl (a b : Bool) : cmpP .eq (.bl a) (.bl b) = some (a == b) := by simp [cmpP, okEq, PV.dat, PV.dep, eqP]
@[simp] theorem cmp_ne_bl (a b : Bool) : cmpP .ne (.bl a) (.bl b) = some (a != b) := rfl
@[simp] theorem bin_add_int (a b : Int) : binP .add (.int a) (.int b) = some (false, .int (a + b)) := rfl
@[simp] theorem bin_sub_int (a b : Int) : binP .sub (.int a) (.int b) = some (false, .int (a - b)) := rfl
theorem bin_mul_int (a b : Int) (h : (big a || big b) = true) : binP .mul (.int a) (.int b) = some (false, .int (a * b)) := if_pos h
theorem bin_mod_int (a b : Int) (h : b ≠ 0) : binP .mod (.int a) (.int b) = some (false, .int (a.fmod b)) := if_pos h
theorem bin_fdiv_int (a b : Int) (h : b ≠ 0) (h2 : b.natAbs < 1073741824) : binP .fdiv (.int a) (.int b) = some (false, .int (a.fdiv b)) := if_pos ⟨h, h2⟩
@[simp] theorem bin_add_str (a b : Str) : binP .add (.str a) (.str b) = if a.length + b.length ≤ LINE then some (false, .str (a ++ b)) else none := rfl
@[simp] theorem bin_add_tup (a b : List PV) : binP .add (.tup a) (.tup b) = if a.length + b.length ≤ LINE then some (false, .tup (a ++ b)) else none := rfl
@[simp] theorem bin_add_lst (a b : List PV) : binP .add (.lst a) (.lst b) = if a.length + b.length ≤ LINE then some (true, .lst (a ++ b)) else none := rfl
@[simp] theorem isin_lst_nt (a : Nat) (xs : List Nat) : cmpP .isin (.int (a : Int)) (.lst (xs.map nt)) = some (decide (a ∈ xs)) := ntOk.isin_lst a xs (by decide)
@[simp] theorem isin_tup_nt (a : Nat) (xs : List Nat) : cmpP .isin (.int (a : Int)) (.tup (xs.map nt)) = some (decide (a ∈ xs)) := ntOk.isin_tup a xs (by decide)
@[simp] theorem nin_lst_nt (a : Nat) (xs : List Nat) : cmpP .nin (.int (a : Int)) (.lst (xs.map nt)) = some (decide (a ∉ xs)) := ntOk.nin_lst a xs (by decide)
@[simp] theorem nin_tup_nt (a : Nat) (xs : List Nat) : cmpP .nin (.int (a : Int)) (.tup (xs.map nt)) = some (decide (a ∉ xs)) := ntOk.nin_tup a xs (by decide)
@[simp] theorem isin_lst_mv (a : List Nat) (xs : List (List Nat)) : cmpP .isin (.tup (a.map nt)) (.lst (xs.map mv)) = some (decide (a ∈ xs)) := mvOk.isin_lst a xs (by decide)
@[simp] theorem nin_lst_mv (a : List Nat) (xs : List (List Nat)) : cmpP .nin (.tup (a.map nt)) (.lst (xs.map mv)) = some (decide (a ∉ xs)) := mvOk.nin_lst a xs (by decide)
@[simp] theorem lfAll_nt (xs : List Nat) : lfAll (xs.map nt) = true := ntOk.lfAll xs
@[simp] theorem lfAll_mv (xs : List (List Nat)) : lfAll (xs.map mv) = true := mvOk.lfAll xs
@[simp] theorem lfAll_tx (xs : List (List Nat)) : lfAll (xs.map tx) = true := txOk.lfAll xs
@[simp] theorem lfAll_int (xs : List Int) : lfAll (xs.map PV.int) = true := intOk.lfAll xs
@[simp] theorem lfAll_nil : lfAll [] = true := rfl
@[simp] theorem lfAll_cons (x : PV) (xs : List PV) : lfAll (x :: xs) = (x.lf && lfAll xs) := rfl
@[simp] theorem lf_tup (xs : List PV) : (PV.tup xs).lf = lfAll xs := rfl
@[simp] theorem lf_int (i : Int) : (PV.int i).lf = true := rfl
@[simp] theorem lf_bl (i : Bool) : (PV.bl i).lf = true := rfl
@[simp] theorem lf_str (i : Str) : (PV.str i).lf = true := rfl
@[simp] theorem lf_non : PV.non.lf = true := rfl
@[simp] theorem lf_lst (xs : List PV) : (PV.lst xs).lf = false := rfl
@[simp] theorem lf_dct (xs : List (PV × PV)) : (PV.dct xs).lf = false := rfl
@[simp] theorem lf_ref (n : Nat) : (PV.ref n).lf = true := rfl
@[simp] theorem clean_false (v : PV) : clean (false, v) = v.lf := rfl
@[simp] theorem clean_lst (xs : List PV) : clean (true, .lst xs) = lfAll xs := rfl
@[simp] theorem clean_dct (kvs : List (PV × PV)) : clean (true, .dct kvs) = kvs.all fun p => p.1.lf && p.2.lf := rfl
@[simp] theorem keep_true {r : Rv} (env : FEnv) : keep r env = if clean r = true then env else frz env := rfl
@[simp] theorem atP_nat {α : Type} (xs : List α) (i : Nat) : atP xs (i : Int) = xs[i]? := by simp [atP]
@[simp] theorem atP_zero {α : Type} (xs : List α) : atP xs 0 = xs[0]? := by simp [atP]
@[simp] theorem atP_one {α : Type} (xs : List α) : atP xs 1 = xs[1]? := by simp [atP]
@[simp] theorem atP_two {α : Type} (xs : List α) : atP xs 2 = xs[2]? := by simp [atP]
@[simp] theorem atP_neg1 {α : Type} (xs : List α) : atP xs (-1) = xs.getLast? := by
  unfold atP
  rw [if_neg (by decide), List.getLast?_eq_getElem?]
  split
  · congr 1; omega
  · have : xs.length = 0 := by omega
    simp [List.length_eq_zero_iff.mp this]
@[simp] theorem idx_tup (xs : List PV) (i : Int) : idxP (.tup xs) (.int i) = atP xs i := rfl
@[simp] theorem idx_lst (xs : List PV) (i : Int) : idxP (.lst xs) (.int i) = atP xs i := rfl
@[simp] theorem idx_str (z : Str) (i : Int) : idxP (.str z) (.int i) = if z.length ≤ LINE then (atP z.cps.toList i).map chr1 else none := rfl
theorem idx_dct (kvs : List (PV × PV)) (i : PV) : idxP (.dct kvs) i = if okKey i kvs then getKv i kvs else none := rfl
@[simp] theorem drf_tup (xs : List PV) (hp : Hs) : drf (.tup xs) hp = .tup xs := rfl
@[simp] theorem drf_lst (xs : List PV) (hp : Hs) : drf (.lst xs) hp = .lst xs := rfl
@[simp] theorem drf_dct (xs : List (PV × PV)) (hp : Hs) : drf (.dct xs) hp = .dct xs := rfl
@[simp] theorem drf_str (z : Str) (hp : Hs) : drf (.str z) hp = .str z := rfl
@[simp] theorem drf_ref (n : Nat) (hp : Hs) : drf (.ref n) hp = (hp[n]?).getD (.ref n) := rfl
@[simp] theorem len_tup (xs : List PV) : bclP .len [.tup xs] = some (false, .int xs.length) := rfl
@[simp] theorem len_lst (xs : List PV) : bclP .len [.lst xs] = some (false, .int xs.length) := rfl
@[simp] theorem len_dct (xs : List (PV × PV)) : bclP .len [.dct xs] = some (false, .int xs.length) := rfl
@[simp] theorem len_str (z : Str) : bclP .len [.str z] = if z.length ≤ LINE then some (false, .int z.length) else none := rfl
@[simp] theorem int_int (i : Int) : bclP .int [.int i] = some (false, .int i) := rfl
@[simp] theorem int_bl (i : Bool) : bclP .int [.bl i] = some (false, .int (b2i i)) := rfl
@[simp] theorem tuple_tup (xs : List PV) : bclP .tuple [.tup xs] = some (false, .tup xs) := rfl
@[simp] theorem tuple_lst (xs : List PV) : bclP .tuple [.lst xs] = some (false, .tup xs) := rfl
@[simp] theorem list_tup (xs : List PV) : bclP .list [.tup xs] = some (true, .lst xs) := rfl
@[simp] theorem list_lst (xs : List PV) : bclP .list [.lst xs] = some (true, .lst xs) := rfl
@[simp] theorem max_ii (i j : Int) : bclP .max [.int i, .int j] = some (false, .int (if j > i then j else i)) := rfl
@[simp] theorem min_ii (i j : Int) : bclP .min [.int i, .int j] = some (false, .int (if j < i then j else i)) := rfl
theorem all_lst {xs : List PV} {bs : List Bool} (h : boolsP xs = some bs) : bclP .all [.lst xs] = some (false, .bl (bs.all id)) := by simp [bclP, h]
theorem any_lst {xs : List PV} {bs : List Bool} (h : boolsP xs = some bs) : bclP .any [.lst xs] = some (false, .bl (bs.any id)) := by simp [bclP, h]
theorem boolsP_map {α : Type} (f : α → Bool) (xs : List α) : boolsP (xs.map fun a => PV.bl (f a)) = some (xs.map f) := by
  induction xs with
  | nil => rfl
  | cons x xs ih => simp [boolsP, ih]
@[simp] theorem all_map {α : Type} (f : α → Bool) (xs : List α) : bclP .all [.lst (xs.map fun a => PV.bl (f a))] = some (false, .bl (xs.all f)) := by
  rw [all_lst (boolsP_map f xs), List.all_map]; rfl
@[simp] theorem any_map {α : Type} (f : α → Bool) (xs : List α) : bclP .any [.lst (xs.map fun a => PV.bl (f a))] = some (false, .bl (xs.any f)) := by
  rw [any_lst (boolsP_map f xs), List.any_map]; rfl
@[simp] theorem items_tup (xs : List PV) : itemsP (.tup xs) = some xs := rfl
@[simp] theorem items_lst (xs : List PV) : itemsP (.lst xs) = some xs := rfl
@[simp] theorem items_str (z : Str) : itemsP (.str z) = some (z.cps.toList.map chr1) := rfl
theorem rng_nat (n : Nat) (h : n < 2 ^ 62) : rngP [.int (n : Int)] = some (upTo 0 n) := by
  have : okRng (n : Int) = true := by
    simp only [okRng, decide_eq_true_eq]
    constructor
    · exact Int.le_trans (by decide) (Int.natCast_nonneg n)
    · exact_mod_cast h
  simp [rngP, this]
@[simp] theorem rng_two : rngP [.int 2] = some [.int 0, .int 1] := rfl
@[simp] theorem isi_non (t : Ty) : isiP .non t = some false := rfl
@[simp] theorem isi_bl (b : Bool) (t : Ty) : isiP (.bl b) t = some (match t with | .int => true | .bool => true | _ => false) := rfl
@[simp] theorem isi_int (b : Int) (t : Ty) : isiP (.int b) t = some (match t with | .int => true | _ => false) := rfl
@[simp] theorem isi_str (b : Str) (t : Ty) : isiP (.str b) t = some (match t with | .str => true | _ => false) := rfl
@[simp] theorem isi_tup (b : List PV) (t : Ty) : isiP (.tup b) t = some (match t with | .tuple => true | _ => false) := rfl
@[simp] theorem isi_lst (b : List PV) (t : Ty) : isiP (.lst b) t = some (match t with | .list => true | _ => false) := rfl
@[simp] theorem frzAt_def (i : Nat) (env : FEnv) : frzAt i env = match env[i]? with | some o => env.set i (frz1 o) | none => env := rfl
@[simp] theorem frz1_some (r : Rv) : frz1 (some r) = some (false, r.2) := rfl
@[simp] theorem frz1_none : frz1 none = none := rfl
@[simp] theorem frz_nil : frz [] = [] := rfl
@[simp] theorem frz_cons (o : Option Rv) (l : FEnv) : frz (o :: l) = frz1 o :: frz l := rfl
@[simp] theorem vis_nil : vis [] = [] := rfl
@[simp] theorem vis_cons (o : Option Rv) (l : FEnv) : vis (o :: l) = vis1 o :: vis l := rfl
@[simp] theorem vis1_f (v : PV) : vis1 (some (false, v)) = some v := rfl
@[simp] theorem vis1_t (v : PV) : vis1 (some (true, v)) = none := rfl
@[simp] theorem vis1_n : vis1 none = none := rfl
theorem trim_same (r : Rv) (hp : Hs) : trim hp.length r hp = (r, hp) := if_pos rfl
@[simp] theorem endF_rt (n : Nat) (v : Rv) (env : FEnv) (hp : Hs) : endF n (.rt v, env, hp) = some (trim n v hp) := rfl
@[simp] theorem endF_nx (n : Nat) (env : FEnv) (hp : Hs) : endF n (.nx, env, hp) = some (trim n (false, .non) hp) := rfl
/-- a call of a def -/
theorem callF_def {G : Gl} {k f : Nat} {args : List PV} {hp : Hs} {fd : Fd} (h : G.fns f = some fd) (hd : fd.dfl = []) (hn : args.length = fd.np) :
    callF G (k + 1) f args hp = (exec G.cst (callF G k) WF fd.body ((args.map fun v => some (false, v)) ++ List.replicate (fd.ns - fd.np) none) hp).bind (endF hp.length) := by
  have e : fillA fd args = args := by simp [fillA, hd]
  show (G.fns f).bind _ = _
  rw [h]
  show (if (fillA fd args).length = fd.np then _ else none) = _
  rw [e, if_pos hn]; rfl
/-- .. that leaves the heap's length as it was -/
theorem call_eq {G : Gl} {k f : Nat} {args : List PV} {hp : Hs} {fd : Fd} {v : Rv} (h : G.fns f = some fd) (hd : fd.dfl = []) (hn : args.length = fd.np)
    (w : Wp (exec G.cst (callF G k) WF fd.body ((args.map fun v => some (false, v)) ++ List.replicate (fd.ns - fd.np) none) hp) fun r => r.1 = .rt v ∧ r.2.2 = hp) :
    callF G (k + 1) f args hp = some (v, hp) := by
  obtain ⟨⟨f1, e1, h1⟩, e, rfl, rfl⟩ := w
  rw [callF_def h hd hn, e]
  show some (trim _ _ _) = _
  rw [trim_same]
theorem Wp_call {G : Gl} {k f : Nat} {args : List PV} {hp : Hs} {fd : Fd} {Q : Rv × Hs → Prop} (h : G.fns f = some fd) (hd : fd.dfl = []) (hn : args.length = fd.np)
    (w : Wp (exec G.cst (callF G k) WF fd.body ((args.map fun v => some (false, v)) ++ List.replicate (fd.ns - fd.np) none) hp) fun r => ∃ v, r.1 = .rt v ∧ r.2.2.length = hp.length ∧ Q (v, r.2.2)) :
    Wp (callF G (k + 1) f args hp) Q := by
  obtain ⟨⟨f1, e1, h1⟩, e, v, rfl, hl, q⟩ := w
  refine ⟨(v, h1), ?_, q⟩
  rw [callF_def h hd hn, e]
  show some (trim _ _ _) = _
  simp only at hl
  rw [← hl, trim_same]
end MX
/-! Pure runs: one step after another. -/
namespace MX
open MP
open PySem (Str)
@[simp] theorem varOf_var (i : Nat) : (ME.var i).varOf = some i := rfl
@[simp] theorem isNil_var (i : Nat) : (ME.var i).isNil = false := rfl
@[simp] theorem varOf_glb (g : Nat) : (ME.glb g).varOf = none := rfl
@[simp] theorem isNil_glb (g : Nat) : (ME.glb g).isNil = false := rfl
@[simp] theorem varOf_fnv (f : Nat) : (ME.fnv f).varOf = none := rfl
@[simp] theorem isNil_fnv (f : Nat) : (ME.fnv f).isNil = false := rfl
@[simp] theorem varOf_non  : ME.non.varOf = none := rfl
@[simp] theorem isNil_non  : ME.non.isNil = false := rfl
@[simp] theorem varOf_bl (b : Bool) : (ME.bl b).varOf = none := rfl
@[simp] theorem isNil_bl (b : Bool) : (ME.bl b).isNil = false := rfl
@[simp] theorem varOf_int (i : Int) : (ME.int i).varOf = none := rfl
@[simp] theorem isNil_int (i : Int) : (ME.int i).isNil = false := rfl
@[simp] theorem varOf_str (s : PySem.Str) : (ME.str s).varOf = none := rfl
@[simp] theorem isNil_str (s : PySem.Str) : (ME.str s).isNil = false := rfl
@[simp] theorem varOf_nil  : ME.nil.varOf = none := rfl
@[simp] theorem isNil_nil  : ME.nil.isNil = true := rfl
@[simp] theorem varOf_cons (e es : ME) : (ME.cons e es).varOf = none := rfl
@[simp] theorem isNil_cons (e es : ME) : (ME.cons e es).isNil = false := rfl
@[simp] theorem varOf_tup (es : ME) : (ME.tup es).varOf = none := rfl
@[simp] theorem isNil_tup (es : ME) : (ME.tup es).isNil = false := rfl
@[simp] theorem varOf_lst (es : ME) : (ME.lst es).varOf = none := rfl
@[simp] theorem isNil_lst (es : ME) : (ME.lst es).isNil = false := rfl
@[simp] theorem varOf_edct  : ME.edct.varOf = none := rfl
@[simp] theorem isNil_edct  : ME.edct.isNil = false := rfl
@[simp] theorem varOf_dsp (k v : ME) : (ME.dsp k v).varOf = none := rfl
@[simp] theorem isNil_dsp (k v : ME) : (ME.dsp k v).isNil = false := rfl
@[simp] theorem varOf_bin (op : Bop) (a b : ME) : (ME.bin op a b).varOf = none := rfl
@[simp] theorem isNil_bin (op : Bop) (a b : ME) : (ME.bin op a b).isNil = false := rfl
@[simp] theorem varOf_neg (a : ME) : (ME.neg a).varOf = none := rfl
@[simp] theorem isNil_neg (a : ME) : (ME.neg a).isNil = false := rfl
@[simp] theorem varOf_not (a : ME) : (ME.not a).varOf = none := rfl
@[simp] theorem isNil_not (a : ME) : (ME.not a).isNil = false := rfl
@[simp] theorem varOf_and (a b : ME) : (ME.and a b).varOf = none := rfl
@[simp] theorem isNil_and (a b : ME) : (ME.and a b).isNil = false := rfl
@[simp] theorem varOf_or (a b : ME) : (ME.or a b).varOf = none := rfl
@[simp] theorem isNil_or (a b : ME) : (ME.or a b).isNil = false := rfl
@[simp] theorem varOf_cmp (op : Cop) (a b : ME) : (ME.cmp op a b).varOf = none := rfl
@[simp] theorem isNil_cmp (op : Cop) (a b : ME) : (ME.cmp op a b).isNil = false := rfl
@[simp] theorem varOf_chn (op op2 : Cop) (a b c : ME) : (ME.chn op op2 a b c).varOf = none := rfl
@[simp] theorem isNil_chn (op op2 : Cop) (a b c : ME) : (ME.chn op op2 a b c).isNil = false := rfl
@[simp] theorem varOf_ife (c a b : ME) : (ME.ife c a b).varOf = none := rfl
@[simp] theorem isNil_ife (c a b : ME) : (ME.ife c a b).isNil = false := rfl
@[simp] theorem varOf_call (f : Nat) (es : ME) : (ME.call f es).varOf = none := rfl
@[simp] theorem isNil_call (f : Nat) (es : ME) : (ME.call f es).isNil = false := rfl
@[simp] theorem varOf_bcl (f : Bfn) (es : ME) : (ME.bcl f es).varOf = none := rfl
@[simp] theorem isNil_bcl (f : Bfn) (es : ME) : (ME.bcl f es).isNil = false := rfl
@[simp] theorem varOf_isi (a : ME) (t : Ty) : (ME.isi a t).varOf = none := rfl
@[simp] theorem varOf_rngx (tp : Bool) (es : ME) : (ME.rngx tp es).varOf = none := rfl
@[simp] theorem varOf_callv (i : Nat) (es : ME) : (ME.callv i es).varOf = none := rfl
@[simp] theorem varOf_mxd (a d : ME) : (ME.mxd a d).varOf = none := rfl
@[simp] theorem isNil_isi (a : ME) (t : Ty) : (ME.isi a t).isNil = false := rfl
@[simp] theorem isNil_rngx (tp : Bool) (es : ME) : (ME.rngx tp es).isNil = false := rfl
@[simp] theorem isNil_callv (i : Nat) (es : ME) : (ME.callv i es).isNil = false := rfl
@[simp] theorem isNil_mxd (a d : ME) : (ME.mxd a d).isNil = false := rfl
@[simp] theorem varOf_mth (m : Mth) (o es : ME) : (ME.mth m o es).varOf = none := rfl
@[simp] theorem isNil_mth (m : Mth) (o es : ME) : (ME.mth m o es).isNil = false := rfl
@[simp] theorem varOf_idx (a i : ME) : (ME.idx a i).varOf = none := rfl
@[simp] theorem isNil_idx (a i : ME) : (ME.idx a i).isNil = false := rfl
@[simp] theorem varOf_slc (a lo hi : ME) : (ME.slc a lo hi).varOf = none := rfl
@[simp] theorem isNil_slc (a lo hi : ME) : (ME.slc a lo hi).isNil = false := rfl
@[simp] theorem varOf_rev (a : ME) : (ME.rev a).varOf = none := rfl
@[simp] theorem isNil_rev (a : ME) : (ME.rev a).isNil = false := rfl
@[simp] theorem varOf_lc (elt : ME) (t : Tg) (k : Ik) (it c : ME) : (ME.lc elt t k it c).varOf = none := rfl
@[simp] theorem isNil_lc (elt : ME) (t : Tg) (k : Ik) (it c : ME) : (ME.lc elt t k it c).isNil = false := rfl
@[simp] theorem varOf_lc2 (elt : ME) (t : Tg) (k : Ik) (it c : ME) (t1 : Tg) (k1 : Ik) (it1 c1 : ME) : (ME.lc2 elt t k it c t1 k1 it1 c1).varOf = none := rfl
@[simp] theorem isNil_lc2 (elt : ME) (t : Tg) (k : Ik) (it c : ME) (t1 : Tg) (k1 : Ik) (it1 c1 : ME) : (ME.lc2 elt t k it c t1 k1 it1 c1).isNil = false := rfl
@[simp] theorem varOf_hp (e : ME) : (ME.hp e).varOf = none := rfl
@[simp] theorem isNil_hp (e : ME) : (ME.hp e).isNil = false := rfl
@[simp] theorem evK_glb (gl : Nat → Option PV) (call : CallT) (g : Nat) (env : FEnv) (hp : Hs) : evK gl call (ME.glb g) env hp = (ev gl call (ME.glb g) (unf env) hp).map fun p => (p.1, keep p.1 env, p.2) := rfl
@[simp] theorem evK_fnv (gl : Nat → Option PV) (call : CallT) (f : Nat) (env : FEnv) (hp : Hs) : evK gl call (ME.fnv f) env hp = (ev gl call (ME.fnv f) (unf env) hp).map fun p => (p.1, keep p.1 env, p.2) := rfl
@[simp] theorem evK_non (gl : Nat → Option PV) (call : CallT)  (env : FEnv) (hp : Hs) : evK gl call ME.non env hp = (ev gl call ME.non (unf env) hp).map fun p => (p.1, keep p.1 env, p.2) := rfl
@[simp] theorem evK_bl (gl : Nat → Option PV) (call : CallT) (b : Bool) (env : FEnv) (hp : Hs) : evK gl call (ME.bl b) env hp = (ev gl call (ME.bl b) (unf env) hp).map fun p => (p.1, keep p.1 env, p.2) := rfl
@[simp] theorem evK_int (gl : Nat → Option PV) (call : CallT) (i : Int) (env : FEnv) (hp : Hs) : evK gl call (ME.int i) env hp = (ev gl call (ME.int i) (unf env) hp).map fun p => (p.1, keep p.1 env, p.2) := rfl
@[simp] theorem evK_str (gl : Nat → Option PV) (call : CallT) (s : PySem.Str) (env : FEnv) (hp : Hs) : evK gl call (ME.str s) env hp = (ev gl call (ME.str s) (unf env) hp).map fun p => (p.1, keep p.1 env, p.2) := rfl
@[simp] theorem evK_nil (gl : Nat → Option PV) (call : CallT)  (env : FEnv) (hp : Hs) : evK gl call ME.nil env hp = (ev gl call ME.nil (unf env) hp).map fun p => (p.1, keep p.1 env, p.2) := rfl
@[simp] theorem evK_cons (gl : Nat → Option PV) (call : CallT) (e es : ME) (env : FEnv) (hp : Hs) : evK gl call (ME.cons e es) env hp = (ev gl call (ME.cons e es) (unf env) hp).map fun p => (p.1, keep p.1 env, p.2) := rfl
@[simp] theorem evK_tup (gl : Nat → Option PV) (call : CallT) (es : ME) (env : FEnv) (hp : Hs) : evK gl call (ME.tup es) env hp = (ev gl call (ME.tup es) (unf env) hp).map fun p => (p.1, keep p.1 env, p.2) := rfl
@[simp] theorem evK_lst (gl : Nat → Option PV) (call : CallT) (es : ME) (env : FEnv) (hp : Hs) : evK gl call (ME.lst es) env hp = (ev gl call (ME.lst es) (unf env) hp).map fun p => (p.1, keep p.1 env, p.2) := rfl
@[simp] theorem evK_edct (gl : Nat → Option PV) (call : CallT)  (env : FEnv) (hp : Hs) : evK gl call ME.edct env hp = (ev gl call ME.edct (unf env) hp).map fun p => (p.1, keep p.1 env, p.2) := rfl
@[simp] theorem evK_dsp (gl : Nat → Option PV) (call : CallT) (k v : ME) (env : FEnv) (hp : Hs) : evK gl call (ME.dsp k v) env hp = (ev gl call (ME.dsp k v) (unf env) hp).map fun p => (p.1, keep p.1 env, p.2) := rfl
@[simp] theorem evK_bin (gl : Nat → Option PV) (call : CallT) (op : Bop) (a b : ME) (env : FEnv) (hp : Hs) : evK gl call (ME.bin op a b) env hp = (ev gl call (ME.bin op a b) (unf env) hp).map fun p => (p.1, keep p.1 env, p.2) := rfl
@[simp] theorem evK_neg (gl : Nat → Option PV) (call : CallT) (a : ME) (env : FEnv) (hp : Hs) : evK gl call (ME.neg a) env hp = (ev gl call (ME.neg a) (unf env) hp).map fun p => (p.1, keep p.1 env, p.2) := rfl
@[simp] theorem evK_not (gl : Nat → Option PV) (call : CallT) (a : ME) (env : FEnv) (hp : Hs) : evK gl call (ME.not a) env hp = (ev gl call (ME.not a) (unf env) hp).map fun p => (p.1, keep p.1 env, p.2) := rfl
@[simp] theorem evK_and (gl : Nat → Option PV) (call : CallT) (a b : ME) (env : FEnv) (hp : Hs) : evK gl call (ME.and a b) env hp = (ev gl call (ME.and a b) (unf env) hp).map fun p => (p.1, keep p.1 env, p.2) := rfl
@[simp] theorem evK_or (gl : Nat → Option PV) (call : CallT) (a b : ME) (env : FEnv) (hp : Hs) : evK gl call (ME.or a b) env hp = (ev gl call (ME.or a b) (unf env) hp).map fun p => (p.1, keep p.1 env, p.2) := rfl
@[simp] theorem evK_cmp (gl : Nat → Option PV) (call : CallT) (op : Cop) (a b : ME) (env : FEnv) (hp : Hs) : evK gl call (ME.cmp op a b) env hp = (ev gl call (ME.cmp op a b) (unf env) hp).map fun p => (p.1, keep p.1 env, p.2) := rfl
@[simp] theorem evK_chn (gl : Nat → Option PV) (call : CallT) (op op2 : Cop) (a b c : ME) (env : FEnv) (hp : Hs) : evK gl call (ME.chn op op2 a b c) env hp = (ev gl call (ME.chn op op2 a b c) (unf env) hp).map fun p => (p.1, keep p.1 env, p.2) := rfl
@[simp] theorem evK_ife (gl : Nat → Option PV) (call : CallT) (c a b : ME) (env : FEnv) (hp : Hs) : evK gl call (ME.ife c a b) env hp = (ev gl call (ME.ife c a b) (unf env) hp).map fun p => (p.1, keep p.1 env, p.2) := rfl
@[simp] theorem evK_call (gl : Nat → Option PV) (call : CallT) (f : Nat) (es : ME) (env : FEnv) (hp : Hs) : evK gl call (ME.call f es) env hp = (ev gl call (ME.call f es) (unf env) hp).map fun p => (p.1, keep p.1 env, p.2) := rfl
@[simp] theorem evK_bcl (gl : Nat → Option PV) (call : CallT) (f : Bfn) (es : ME) (env : FEnv) (hp : Hs) : evK gl call (ME.bcl f es) env hp = (ev gl call (ME.bcl f es) (unf env) hp).map fun p => (p.1, keep p.1 env, p.2) := rfl
@[simp] theorem evK_isi (gl : Nat → Option PV) (call : CallT) (a : ME) (t : Ty) (env : FEnv) (hp : Hs) : evK gl call (ME.isi a t) env hp = (ev gl call (ME.isi a t) (unf env) hp).map fun p => (p.1, keep p.1 env, p.2) := rfl
@[simp] theorem evK_rngx (gl : Nat → Option PV) (call : CallT) (tp : Bool) (es : ME) (env : FEnv) (hp : Hs) : evK gl call (ME.rngx tp es) env hp = (ev gl call (ME.rngx tp es) (unf env) hp).map fun p => (p.1, keep p.1 env, p.2) := rfl
@[simp] theorem evK_callv (gl : Nat → Option PV) (call : CallT) (i : Nat) (es : ME) (env : FEnv) (hp : Hs) : evK gl call (ME.callv i es) env hp = (ev gl call (ME.callv i es) (unf env) hp).map fun p => (p.1, keep p.1 env, p.2) := rfl
@[simp] theorem evK_mxd (gl : Nat → Option PV) (call : CallT) (a d : ME) (env : FEnv) (hp : Hs) : evK gl call (ME.mxd a d) env hp = (ev gl call (ME.mxd a d) (unf env) hp).map fun p => (p.1, keep p.1 env, p.2) := rfl
@[simp] theorem evK_mth (gl : Nat → Option PV) (call : CallT) (m : Mth) (o es : ME) (env : FEnv) (hp : Hs) : evK gl call (ME.mth m o es) env hp = (ev gl call (ME.mth m o es) (unf env) hp).map fun p => (p.1, keep p.1 env, p.2) := rfl
@[simp] theorem evK_idx (gl : Nat → Option PV) (call : CallT) (a i : ME) (env : FEnv) (hp : Hs) : evK gl call (ME.idx a i) env hp = (ev gl call (ME.idx a i) (unf env) hp).map fun p => (p.1, keep p.1 env, p.2) := rfl
@[simp] theorem evK_slc (gl : Nat → Option PV) (call : CallT) (a lo hi : ME) (env : FEnv) (hp : Hs) : evK gl call (ME.slc a lo hi) env hp = (ev gl call (ME.slc a lo hi) (unf env) hp).map fun p => (p.1, keep p.1 env, p.2) := rfl
@[simp] theorem evK_rev (gl : Nat → Option PV) (call : CallT) (a : ME) (env : FEnv) (hp : Hs) : evK gl call (ME.rev a) env hp = (ev gl call (ME.rev a) (unf env) hp).map fun p => (p.1, keep p.1 env, p.2) := rfl
@[simp] theorem evK_lc (gl : Nat → Option PV) (call : CallT) (elt : ME) (t : Tg) (k : Ik) (it c : ME) (env : FEnv) (hp : Hs) : evK gl call (ME.lc elt t k it c) env hp = (ev gl call (ME.lc elt t k it c) (unf env) hp).map fun p => (p.1, keep p.1 env, p.2) := rfl
@[simp] theorem evK_lc2 (gl : Nat → Option PV) (call : CallT) (elt : ME) (t : Tg) (k : Ik) (it c : ME) (t1 : Tg) (k1 : Ik) (it1 c1 : ME) (env : FEnv) (hp : Hs) : evK gl call (ME.lc2 elt t k it c t1 k1 it1 c1) env hp = (ev gl call (ME.lc2 elt t k it c t1 k1 it1 c1) (unf env) hp).map fun p => (p.1, keep p.1 env, p.2) := rfl
@[simp] theorem evK_hp (gl : Nat → Option PV) (call : CallT) (e : ME) (env : FEnv) (hp : Hs) : evK gl call (ME.hp e) env hp = (ev gl call (ME.hp e) (unf env) hp).map fun p => (p.1, keep p.1 env, p.2) := rfl
@[simp] theorem exec_ret_glb (gl : Nat → Option PV) (call : CallT) (wf : Nat) (g : Nat) (env : FEnv) (hp : Hs) : exec gl call wf (.ret (ME.glb g)) env hp = (ev gl call (ME.glb g) (unf env) hp).map fun p => (.rt p.1, env, p.2) := rfl
@[simp] theorem exec_ret_fnv (gl : Nat → Option PV) (call : CallT) (wf : Nat) (f : Nat) (env : FEnv) (hp : Hs) : exec gl call wf (.ret (ME.fnv f)) env hp = (ev gl call (ME.fnv f) (unf env) hp).map fun p => (.rt p.1, env, p.2) := rfl
@[simp] theorem exec_ret_non (gl : Nat → Option PV) (call : CallT) (wf : Nat)  (env : FEnv) (hp : Hs) : exec gl call wf (.ret ME.non) env hp = (ev gl call ME.non (unf env) hp).map fun p => (.rt p.1, env, p.2) := rfl
@[simp] theorem exec_ret_bl (gl : Nat → Option PV) (call : CallT) (wf : Nat) (b : Bool) (env : FEnv) (hp : Hs) : exec gl call wf (.ret (ME.bl b)) env hp = (ev gl call (ME.bl b) (unf env) hp).map fun p => (.rt p.1, env, p.2) := rfl
@[simp] theorem exec_ret_int (gl : Nat → Option PV) (call : CallT) (wf : Nat) (i : Int) (env : FEnv) (hp : Hs) : exec gl call wf (.ret (ME.int i)) env hp = (ev gl call (ME.int i) (unf env) hp).map fun p => (.rt p.1, env, p.2) := rfl
@[simp] theorem exec_ret_str (gl : Nat → Option PV) (call : CallT) (wf : Nat) (s : PySem.Str) (env : FEnv) (hp : Hs) : exec gl call wf (.ret (ME.str s)) env hp = (ev gl call (ME.str s) (unf env) hp).map fun p => (.rt p.1, env, p.2) := rfl
@[simp] theorem exec_ret_nil (gl : Nat → Option PV) (call : CallT) (wf : Nat)  (env : FEnv) (hp : Hs) : exec gl call wf (.ret ME.nil) env hp = (ev gl call ME.nil (unf env) hp).map fun p => (.rt p.1, env, p.2) := rfl
@[simp] theorem exec_ret_cons (gl : Nat → Option PV) (call : CallT) (wf : Nat) (e es : ME) (env : FEnv) (hp : Hs) : exec gl call wf (.ret (ME.cons e es)) env hp = (ev gl call (ME.cons e es) (unf env) hp).map fun p => (.rt p.1, env, p.2) := rfl
@[simp] theorem exec_ret_tup (gl : Nat → Option PV) (call : CallT) (wf : Nat) (es : ME) (env : FEnv) (hp : Hs) : exec gl call wf (.ret (ME.tup es)) env hp = (ev gl call (ME.tup es) (unf env) hp).map fun p => (.rt p.1, env, p.2) := rfl
@[simp] theorem exec_ret_lst (gl : Nat → Option PV) (call : CallT) (wf : Nat) (es : ME) (env : FEnv) (hp : Hs) : exec gl call wf (.ret (ME.lst es)) env hp = (ev gl call (ME.lst es) (unf env) hp).map fun p => (.rt p.1, env, p.2) := rfl
@[simp] theorem exec_ret_edct (gl : Nat → Option PV) (call : CallT) (wf : Nat)  (env : FEnv) (hp : Hs) : exec gl call wf (.ret ME.edct) env hp = (ev gl call ME.edct (unf env) hp).map fun p => (.rt p.1, env, p.2) := rfl
@[simp] theorem exec_ret_dsp (gl : Nat → Option PV) (call : CallT) (wf : Nat) (k v : ME) (env : FEnv) (hp : Hs) : exec gl call wf (.ret (ME.dsp k v)) env hp = (ev gl call (ME.dsp k v) (unf env) hp).map fun p => (.rt p.1, env, p.2) := rfl
@[simp] theorem exec_ret_bin (gl : Nat → Option PV) (call : CallT) (wf : Nat) (op : Bop) (a b : ME) (env : FEnv) (hp : Hs) : exec gl call wf (.ret (ME.bin op a b)) env hp = (ev gl call (ME.bin op a b) (unf env) hp).map fun p => (.rt p.1, env, p.2) := rfl
@[simp] theorem exec_ret_neg (gl : Nat → Option PV) (call : CallT) (wf : Nat) (a : ME) (env : FEnv) (hp : Hs) : exec gl call wf (.ret (ME.neg a)) env hp = (ev gl call (ME.neg a) (unf env) hp).map fun p => (.rt p.1, env, p.2) := rfl
@[simp] theorem exec_ret_not (gl : Nat → Option PV) (call : CallT) (wf : Nat) (a : ME) (env : FEnv) (hp : Hs) : exec gl call wf (.ret (ME.not a)) env hp = (ev gl call (ME.not a) (unf env) hp).map fun p => (.rt p.1, env, p.2) := rfl
@[simp] theorem exec_ret_and (gl : Nat → Option PV) (call : CallT) (wf : Nat) (a b : ME) (env : FEnv) (hp : Hs) : exec gl call wf (.ret (ME.and a b)) env hp = (ev gl call (ME.and a b) (unf env) hp).map fun p => (.rt p.1, env, p.2) := rfl
@[simp] theorem exec_ret_or (gl : Nat → Option PV) (call : CallT) (wf : Nat) (a b : ME) (env : FEnv) (hp : Hs) : exec gl call wf (.ret (ME.or a b)) env hp = (ev gl call (ME.or a b) (unf env) hp).map fun p => (.rt p.1, env, p.2) := rfl
@[simp] theorem exec_ret_cmp (gl : Nat → Option PV) (call : CallT) (wf : Nat) (op : Cop) (a b : ME) (env : FEnv) (hp : Hs) : exec gl call wf (.ret (ME.cmp op a b)) env hp = (ev gl call (ME.cmp op a b) (unf env) hp).map fun p => (.rt p.1, env, p.2) := rfl
@[simp] theorem exec_ret_chn (gl : Nat → Option PV) (call : CallT) (wf : Nat) (op op2 : Cop) (a b c : ME) (env : FEnv) (hp : Hs) : exec gl call wf (.ret (ME.chn op op2 a b c)) env hp = (ev gl call (ME.chn op op2 a b c) (unf env) hp).map fun p => (.rt p.1, env, p.2) := rfl
@[simp] theorem exec_ret_ife (gl : Nat → Option PV) (call : CallT) (wf : Nat) (c a b : ME) (env : FEnv) (hp : Hs) : exec gl call wf (.ret (ME.ife c a b)) env hp = (ev gl call (ME.ife c a b) (unf env) hp).map fun p => (.rt p.1, env, p.2) := rfl
@[simp] theorem exec_ret_call (gl : Nat → Option PV) (call : CallT) (wf : Nat) (f : Nat) (es : ME) (env : FEnv) (hp : Hs) : exec gl call wf (.ret (ME.call f es)) env hp = (ev gl call (ME.call f es) (unf env) hp).map fun p => (.rt p.1, env, p.2) := rfl
@[simp] theorem exec_ret_bcl (gl : Nat → Option PV) (call : CallT) (wf : Nat) (f : Bfn) (es : ME) (env : FEnv) (hp : Hs) : exec gl call wf (.ret (ME.bcl f es)) env hp = (ev gl call (ME.bcl f es) (unf env) hp).map fun p => (.rt p.1, env, p.2) := rfl
@[simp] theorem exec_ret_isi (gl : Nat → Option PV) (call : CallT) (wf : Nat) (a : ME) (t : Ty) (env : FEnv) (hp : Hs) : exec gl call wf (.ret (ME.isi a t)) env hp = (ev gl call (ME.isi a t) (unf env) hp).map fun p => (.rt p.1, env, p.2) := rfl
@[simp] theorem exec_ret_rngx (gl : Nat → Option PV) (call : CallT) (wf : Nat) (tp : Bool) (es : ME) (env : FEnv) (hp : Hs) : exec gl call wf (.ret (ME.rngx tp es)) env hp = (ev gl call (ME.rngx tp es) (unf env) hp).map fun p => (.rt p.1, env, p.2) := rfl
@[simp] theorem exec_ret_callv (gl : Nat → Option PV) (call : CallT) (wf : Nat) (i : Nat) (es : ME) (env : FEnv) (hp : Hs) : exec gl call wf (.ret (ME.callv i es)) env hp = (ev gl call (ME.callv i es) (unf env) hp).map fun p => (.rt p.1, env, p.2) := rfl
@[simp] theorem exec_ret_mxd (gl : Nat → Option PV) (call : CallT) (wf : Nat) (a d : ME) (env : FEnv) (hp : Hs) : exec gl call wf (.ret (ME.mxd a d)) env hp = (ev gl call (ME.mxd a d) (unf env) hp).map fun p => (.rt p.1, env, p.2) := rfl
@[simp] theorem exec_ret_mth (gl : Nat → Option PV) (call : CallT) (wf : Nat) (m : Mth) (o es : ME) (env : FEnv) (hp : Hs) : exec gl call wf (.ret (ME.mth m o es)) env hp = (ev gl call (ME.mth m o es) (unf env) hp).map fun p => (.rt p.1, env, p.2) := rfl
@[simp] theorem exec_ret_idx (gl : Nat → Option PV) (call : CallT) (wf : Nat) (a i : ME) (env : FEnv) (hp : Hs) : exec gl call wf (.ret (ME.idx a i)) env hp = (ev gl call (ME.idx a i) (unf env) hp).map fun p => (.rt p.1, env, p.2) := rfl
@[simp] theorem exec_ret_slc (gl : Nat → Option PV) (call : CallT) (wf : Nat) (a lo hi : ME) (env : FEnv) (hp : Hs) : exec gl call wf (.ret (ME.slc a lo hi)) env hp = (ev gl call (ME.slc a lo hi) (unf env) hp).map fun p => (.rt p.1, env, p.2) := rfl
@[simp] theorem exec_ret_rev (gl : Nat → Option PV) (call : CallT) (wf : Nat) (a : ME) (env : FEnv) (hp : Hs) : exec gl call wf (.ret (ME.rev a)) env hp = (ev gl call (ME.rev a) (unf env) hp).map fun p => (.rt p.1, env, p.2) := rfl
@[simp] theorem exec_ret_lc (gl : Nat → Option PV) (call : CallT) (wf : Nat) (elt : ME) (t : Tg) (k : Ik) (it c : ME) (env : FEnv) (hp : Hs) : exec gl call wf (.ret (ME.lc elt t k it c)) env hp = (ev gl call (ME.lc elt t k it c) (unf env) hp).map fun p => (.rt p.1, env, p.2) := rfl
@[simp] theorem exec_ret_lc2 (gl : Nat → Option PV) (call : CallT) (wf : Nat) (elt : ME) (t : Tg) (k : Ik) (it c : ME) (t1 : Tg) (k1 : Ik) (it1 c1 : ME) (env : FEnv) (hp : Hs) : exec gl call wf (.ret (ME.lc2 elt t k it c t1 k1 it1 c1)) env hp = (ev gl call (ME.lc2 elt t k it c t1 k1 it1 c1) (unf env) hp).map fun p => (.rt p.1, env, p.2) := rfl
@[simp] theorem exec_ret_hp (gl : Nat → Option PV) (call : CallT) (wf : Nat) (e : ME) (env : FEnv) (hp : Hs) : exec gl call wf (.ret (ME.hp e)) env hp = (ev gl call (ME.hp e) (unf env) hp).map fun p => (.rt p.1, env, p.2) := rfl
@[simp] theorem exec_ret_var (gl : Nat → Option PV) (call : CallT) (wf i : Nat) (env : FEnv) (hp : Hs) : exec gl call wf (.ret (.var i)) env hp = (env[i]?.bind id).map fun r => (.rt r, env, hp) := rfl
@[simp] theorem Wp_some' {α : Type} (a : α) (Q : α → Prop) : Wp (some a) Q = Q a := Wp_some a Q
@[simp] theorem Wp_none' {α : Type} (Q : α → Prop) : Wp none Q = False := Wp_none Q
@[simp] theorem Wp_bind' {α β : Type} (x : Option α) (f : α → Option β) (Q : β → Prop) : Wp (x.bind f) Q = Wp x fun a => Wp (f a) Q := Wp_bind x f Q
@[simp] theorem Wp_map' {α β : Type} (x : Option α) (f : α → β) (Q : β → Prop) : Wp (x.map f) Q = Wp x fun a => Q (f a) := Wp_map x f Q
@[simp] theorem Wp_bnd' {β : Type} (r : Option (Rv × Hs)) (f : PV → Hs → Option β) (Q : β → Prop) : Wp (bnd r f) Q = Wp r fun p => Wp (f p.1.2 p.2) Q := Wp_bnd r f Q
@[simp] theorem Wp_bndL' {β : Type} (r : Option (List PV × Hs)) (f : List PV → Hs → Option β) (Q : β → Prop) : Wp (bndL r f) Q = Wp r fun p => Wp (f p.1 p.2) Q := Wp_bndL r f Q
@[simp] theorem Wp_bndB' {β : Type} (r : Option (Rv × Hs)) (f : Bool → Hs → Option β) (Q : β → Prop) : Wp (bndB r f) Q = Wp r fun p => ∃ b, p.1.2 = .bl b ∧ Wp (f b p.2) Q := by
  unfold bndB
  rw [Wp_bnd]
  congr 1
  funext p
  cases h : p.1.2 <;> simp [asB]
@[simp] theorem Wp_mk (own : Bool) (c : List PV → PV) (r : Option (List PV × Hs)) (Q : Rv × Hs → Prop) : Wp (mk own c r) Q = Wp r fun p => p.1.length ≤ LINE ∧ Q ((own, c p.1), p.2) := by
  unfold mk
  rw [Wp_bndL]
  congr 1
  funext p
  split <;> simp [*]
@[simp] theorem Wp_one (r : Option (Rv × Hs)) (Q : List PV × Hs → Prop) : Wp (one r) Q = Wp r fun p => Q ([p.1.2], p.2) := by
  unfold one
  rw [Wp_bnd]; simp
@[simp] theorem Wp_wK_val (rv : Option (Rv × Hs)) (rl : Option (List PV × Hs)) (Q : List PV × Hs → Prop) : Wp (wK .val rv rl) Q = Wp rv fun p => Wp (itemsP p.1.2) fun xs => Q (xs, p.2) := by
  show Wp (bnd rv fun x hp => (itemsP x).map fun xs => (xs, hp)) Q = _
  simp only [Wp_bnd', Wp_map']
@[simp] theorem Wp_wK_rng (rv : Option (Rv × Hs)) (rl : Option (List PV × Hs)) (Q : List PV × Hs → Prop) : Wp (wK .rng rv rl) Q = Wp rl fun p => Wp (rngP p.1) fun xs => Q (xs, p.2) := by
  show Wp (bndL rl fun vs hp => (rngP vs).map fun xs => (xs, hp)) Q = _
  simp only [Wp_bndL', Wp_map']
@[simp] theorem Wp_wK_rrng (rv : Option (Rv × Hs)) (rl : Option (List PV × Hs)) (Q : List PV × Hs → Prop) : Wp (wK .rrng rv rl) Q = Wp rl fun p => Wp (rngP p.1) fun xs => Q (xs.reverse, p.2) := by
  show Wp (bndL rl fun vs hp => (rngP vs).map fun xs => (xs.reverse, hp)) Q = _
  simp only [Wp_bndL', Wp_map']
@[simp high] theorem Wp_if_none {α : Type} (c : Prop) [Decidable c] (x : Option α) (Q : α → Prop) : Wp (if c then x else none) Q = (c ∧ Wp x Q) := by
  split <;> simp [*]
@[simp] theorem LINE_eq : LINE = 16777216 := rfl
@[simp] theorem lfAll_append (xs ys : List PV) : lfAll (xs ++ ys) = (lfAll xs && lfAll ys) := by
  induction xs with
  | nil => simp
  | cons x xs ih => simp [ih, Bool.and_assoc]
@[simp] theorem lfAll_map {α : Type} (f : α → PV) (xs : List α) (h : ∀ x, (f x).lf = true) : lfAll (xs.map f) = true := by
  rw [lfAll_iff]
  intro y hy
  obtain ⟨x, _, rfl⟩ := List.mem_map.mp hy
  exact h x
@[simp] theorem lcB_def (gl : Nat → Option PV) (call : CallT) (elt : ME) (t : Tg) (c : ME) (env : Env) (x : PV) (hp : Hs) : lcB gl call elt t c env x hp = (setTg t x (wipeE env t.slots)).bind fun env1 => bndB (ev gl call c env1 hp) fun b hp1 =>
        if b = true then one (ev gl call elt env1 hp1) else some ([], hp1) := rfl
@[simp] theorem lcE_nil (f : PV → Hs → Option (List PV × Hs)) (hp : Hs) : lcE f [] hp = some ([], hp) := rfl
@[simp] theorem Wp_lcE_cons (f : PV → Hs → Option (List PV × Hs)) (x : PV) (xs : List PV) (hp : Hs) (Q : List PV × Hs → Prop) : Wp (lcE f (x :: xs) hp) Q = Wp (f x hp) fun a => Wp (lcE f xs a.2) fun b => Q (a.1 ++ b.1, b.2) := by
  show Wp (bndL (f x hp) fun ys hp1 => bndL (lcE f xs hp1) fun zs hp2 => some (ys ++ zs, hp2)) Q = _
  rw [Wp_bndL]
  congr 1
  funext a
  rw [Wp_bndL]
  simp only [Wp_some]
@[simp] theorem forE_nil (tg : Tg) (body : FEnv → Hs → XR) (env : FEnv) (hp : Hs) : forE tg body [] env hp = some (.nx, env, hp) := rfl
theorem forE_cons (tg : Tg) (body : FEnv → Hs → XR) (x : PV) (xs : List PV) (env : FEnv) (hp : Hs) : forE tg body (x :: xs) env hp = (setF tg x env).bind fun env1 => (body env1 hp).bind (turnE (forE tg body xs)) := rfl
@[simp] theorem turnE_nx (next : FEnv → Hs → XR) (env : FEnv) (hp : Hs) : turnE next (.nx, env, hp) = next env hp := rfl
@[simp] theorem turnE_ct (next : FEnv → Hs → XR) (env : FEnv) (hp : Hs) : turnE next (.ct, env, hp) = next env hp := rfl
@[simp] theorem turnE_bk (next : FEnv → Hs → XR) (env : FEnv) (hp : Hs) : turnE next (.bk, env, hp) = some (.nx, env, hp) := rfl
@[simp] theorem turnE_rt (next : FEnv → Hs → XR) (v : Rv) (env : FEnv) (hp : Hs) : turnE next (.rt v, env, hp) = some (.rt v, env, hp) := rfl
@[simp] theorem ownF_def (i : Nat) (f : PV → Option PV) (env : FEnv) (hp : Hs) : ownF i f env hp = match env[i]? with
  | some (some (true, v)) => (f v).map fun v' => (.nx, env.set i (some (true, v')), hp)
  | _ => none := rfl
@[simp] theorem mutF_def (i : Nat) (f : PV → Option PV) (env : FEnv) (hp : Hs) : mutF i f env hp = match env[i]? with
  | some (some (true, v)) => (f v).map fun v' => (.nx, env.set i (some (true, v')), hp)
  | some (some (false, .ref n)) => (hp[n]?.bind f).map fun v' => (.nx, env, hp.set n v')
  | _ => none := rfl
@[simp] theorem appP_lst (v : PV) (xs : List PV) : appP v (.lst xs) = if xs.length < LINE then some (.lst (xs ++ [v])) else none := rfl
@[simp] theorem popP_zero (x : PV) (xs : List PV) : popP (.int 0) (.lst (x :: xs)) = some (x, .lst xs) := rfl
theorem putP_dct (i v : PV) (kvs : List (PV × PV)) : putP (.dct kvs) i v = if okKey i kvs && decide (kvs.length < LINE) then some (.dct (setKv i v kvs)) else none := rfl
theorem in_dct (x : PV) (kvs : List (PV × PV)) : cmpP .isin x (.dct kvs) = if okKey x kvs then some (memP x (keysP kvs)) else none := rfl
theorem nin_dct (x : PV) (kvs : List (PV × PV)) : cmpP .nin x (.dct kvs) = (if okKey x kvs then some (memP x (keysP kvs)) else none).map not := rfl
@[simp] theorem Wp_ite_iff {α : Type} (c : Prop) [Decidable c] (x y : Option α) (Q : α → Prop) : Wp (if c then x else y) Q = ((c → Wp x Q) ∧ (¬ c → Wp y Q)) := by
  by_cases h : c <;> simp [h]
/-- an invariant behind a name -/
theorem mkI4 {α β γ δ : Type} (P : α → β → γ → δ → Prop) : ∃ I : α → β → γ → δ → Prop, ∀ a b c d, I a b c d ↔ P a b c d := ⟨P, fun _ _ _ _ => Iff.rfl⟩
theorem mkI3 {α β γ : Type} (P : α → β → γ → Prop) : ∃ I : α → β → γ → Prop, ∀ a b c, I a b c ↔ P a b c := ⟨P, fun _ _ _ => Iff.rfl⟩
theorem upTo_nt (n : Nat) : upTo 0 n = (List.range n).map nt := upTo_map n
theorem rng_nt (n : Nat) (h : n ≤ 16777216) : rngP [.int (n : Int)] = some ((List.range n).map nt) := by rw [rng_nat n (Nat.lt_of_le_of_lt h (by decide)), upTo_nt]
/-- a turn of a comprehension over one name without a test -/
theorem lcB_ok {gl : Nat → Option PV} {call : CallT} {elt : ME} {t : Tg} {env env1 : Env} {x y : PV} {o : Bool} {hp : Hs} (h1 : setTg t x (wipeE env t.slots) = some env1) (h2 : ev gl call elt env1 hp = some ((o, y), hp)) :
    lcB gl call elt t (.bl true) env x hp = some ([y], hp) := by
  unfold lcB
  rw [h1]
  show bndB (some ((false, .bl true), hp)) _ = _
  rw [bndB_some', if_pos rfl, h2]; rfl
theorem getKv_enc {α β : Type} [BEq α] [LawfulBEq α] {enc : α → PV} {d : Nat} (E : EncOk enc d) (e2 : β → PV) (a : α) (kvs : List (α × β)) : getKv (enc a) (kvs.map fun p => (enc p.1, e2 p.2)) = (kvs.lookup a).map e2 := by
  induction kvs with
  | nil => rfl
  | cons p kvs ih =>
    obtain ⟨k, v⟩ := p
    show (if eqP (enc k) (enc a) = true then some (e2 v) else getKv (enc a) (kvs.map fun p => (enc p.1, e2 p.2))) = _
    rw [E.eqv, ih, List.lookup_cons]
    by_cases h : k = a
    · subst h; simp
    · have h2 : (a == k) = false := by simp [Ne.symm h]
      simp [h, h2]
theorem setKv_new {α β : Type} [BEq α] [LawfulBEq α] {enc : α → PV} {d : Nat} (E : EncOk enc d) (e2 : β → PV) (a : α) (b : β) (kvs : List (α × β)) (h : a ∉ kvs.map (·.1)) : setKv (enc a) (e2 b) (kvs.map fun p => (enc p.1, e2 p.2)) = (kvs ++ [(a, b)]).map fun p => (enc p.1, e2 p.2) := by
  induction kvs with
  | nil => rfl
  | cons p kvs ih =>
    obtain ⟨k, v⟩ := p
    simp at h
    have hk : (k == a) = false := by simp [Ne.symm h.1]
    show (if eqP (enc k) (enc a) = true then (enc k, e2 b) :: kvs.map (fun p => (enc p.1, e2 p.2)) else (enc k, e2 v) :: setKv (enc a) (e2 b) (kvs.map fun p => (enc p.1, e2 p.2))) = _
    rw [E.eqv, hk, ih (by simpa using h.2)]
    rfl
theorem keysP_enc {α β : Type} (enc : α → PV) (e2 : β → PV) (kvs : List (α × β)) : keysP (kvs.map fun p => (enc p.1, e2 p.2)) = (kvs.map (·.1)).map enc := by simp [keysP]
/-- keys of one simple kind -/
theorem okKey_s {α β : Type} {enc : α → PV} (K : ∀ a, isKey (enc a) = true) (e2 : β → PV) (a : α) (kvs : List (α × β)) : okKey (enc a) (kvs.map fun p => (enc p.1, e2 p.2)) = true := by
  unfold okKey
  rw [keysP_enc, K]
  simp [K]
theorem okKey_t {α β : Type} {enc : α → PV} (K : ∀ a, isTKey (enc a) = true) (e2 : β → PV) (a : α) (kvs : List (α × β)) : okKey (enc a) (kvs.map fun p => (enc p.1, e2 p.2)) = true := by
  unfold okKey
  rw [keysP_enc, K]
  simp [K]
theorem isTKey_mv (l : List Nat) : isTKey (mv l) = true := by
  show (l.map nt).all isKey = true
  simp [isKey]
theorem Wp_iff {α : Type} {x : Option α} {Q : α → Prop} (h : Wp x Q) : ∃ a, x = some a ∧ Q a := h
end MX
/-! Pure runs: rows of numbers, their order; sorted lists; sets of numbers. -/
namespace MX
open MP
open PySem (Str)
abbrev Row := List Nat
theorem ltAll_nt (a b : List Nat) : ltAll (a.map nt) (b.map nt) = decide (a < b) := by
  induction a generalizing b with
  | nil => cases b <;> simp [ltAll]
  | cons x a ih =>
    cases b with
    | nil => simp [ltAll]
    | cons y b =>
      show (if eqP (nt x) (nt y) = true then ltAll (a.map nt) (b.map nt) else ltP (nt x) (nt y)) = _
      rw [ntOk.eqv, ih, Bool.eq_iff_iff]
      by_cases h : x = y
      · subst h; simp
      · simp [h, ltP, List.cons_lt_cons_iff]
theorem alk_nt (a b : List Nat) : alkAll (a.map nt) (b.map nt) = true := by
  induction a generalizing b with
  | nil => cases b <;> rfl
  | cons x a ih =>
    cases b with
    | nil => rfl
    | cons y b => exact ih b
/-- an order of data -/
structure OrdOk {α : Type} (enc : α → PV) (le : α → α → Bool) : Prop where
  le_ : ∀ a b, leP (enc a) (enc b) = le a b
  alk : ∀ a b, alk (enc a) (enc b) = true
  dep : ∀ a, (enc a).dep ≤ 60
  dat : ∀ a, (enc a).dat = true
  anti : ∀ a b, le a b = true → le b a = true → a = b
  trans : ∀ a b c, le a b = true → le b c = true → le a c = true
  total : ∀ a b, (le a b || le b a) = true
def rle (a b : Row) : Bool := decide (a ≤ b)
theorem mvOrd : OrdOk mv rle where
  le_ a b := by
    show (!ltAll (b.map nt) (a.map nt)) = _
    rw [ltAll_nt, Bool.eq_iff_iff]
    simp [rle]
  alk a b := alk_nt a b
  dep a := Nat.le_trans (mvOk.dep a) (by decide)
  dat a := mvOk.dat a
  anti a b h g := List.le_antisymm (by simpa [rle] using h) (by simpa [rle] using g)
  trans a b c h g := by simp only [rle, decide_eq_true_eq] at *; exact List.le_trans h g
  total a b := by simp only [rle, Bool.or_eq_true, decide_eq_true_eq]; exact List.le_total a b
def nle (a b : Nat) : Bool := decide (a ≤ b)
theorem ntOrd : OrdOk nt nle where
  le_ a b := by
    show (!decide ((b : Int) < (a : Int))) = _
    rw [Bool.eq_iff_iff]; simp [nle]
  alk a b := rfl
  dep a := by show 0 ≤ 60; decide
  dat a := rfl
  anti a b h g := by simp only [nle, decide_eq_true_eq] at *; omega
  trans a b c h g := by simp only [nle, decide_eq_true_eq] at *; omega
  total a b := by simp only [nle, Bool.or_eq_true, decide_eq_true_eq]; omega
/-- a pair of numbers -/
abbrev Pr := Nat × Nat
def pv (p : Pr) : PV := .tup [.int (p.1 : Int), .int (p.2 : Int)]
@[simp] theorem pv_eq (p : Pr) : pv p = .tup [.int (p.1 : Int), .int (p.2 : Int)] := rfl
def prow (p : Pr) : Row := [p.1, p.2]
theorem pv_row (p : Pr) : pv p = mv (prow p) := rfl
theorem prow_inj {p q : Pr} (h : prow p = prow q) : p = q := by
  obtain ⟨a, b⟩ := p; obtain ⟨c, d⟩ := q; simp [prow] at h; simp [h]
theorem pvOk : EncOk pv 1 where
  dat p := mvOk.dat (prow p)
  dep p := mvOk.dep (prow p)
  eqv p q := by
    rw [pv_row, pv_row, mvOk.eqv, Bool.eq_iff_iff, beq_iff_eq, beq_iff_eq]
    exact ⟨prow_inj, fun h => by rw [h]⟩
  lf p := mvOk.lf (prow p)
def ple (p q : Pr) : Bool := rle (prow p) (prow q)
theorem pvOrd : OrdOk pv ple where
  le_ a b := mvOrd.le_ (prow a) (prow b)
  alk a b := mvOrd.alk (prow a) (prow b)
  dep a := mvOrd.dep (prow a)
  dat a := mvOrd.dat (prow a)
  anti a b h g := prow_inj (mvOrd.anti _ _ h g)
  trans a b c h g := mvOrd.trans _ _ _ h g
  total a b := mvOrd.total _ _
section
variable {α : Type} {enc : α → PV} {le : α → α → Bool} (O : OrdOk enc le)
include O
theorem OrdOk.sortMap (xs : List α) : (xs.map enc).mergeSort leP = (xs.mergeSort le).map enc := (List.map_mergeSort (f := enc) (r := le) (s := leP) (l := xs) fun a _ b _ => (O.le_ a b).symm).symm
theorem OrdOk.sortP (xs : List α) (h : (∀ x ∈ xs, notTup0 (enc x) = true) ∨ (xs.length ≤ 1 ∧ ∀ x ∈ xs, enc x ≠ .non)) (hl : xs.length ≤ 16777216) : sortP (xs.map enc) = some ((xs.mergeSort le).map enc) := by
  unfold MP.sortP
  by_cases hk : okSort (xs.map enc) = true
  · rw [if_pos hk, O.sortMap]
  · rw [if_neg hk]
    rcases h with h | ⟨h, hn⟩
    · exfalso
      apply hk
      simp only [okSort, Bool.and_eq_true, List.all_eq_true, decide_eq_true_eq, List.length_map]
      refine ⟨⟨⟨fun x hx y hy => ?_, fun x hx => ?_⟩, fun x hx => ?_⟩, hl⟩
      · obtain ⟨a, ha, rfl⟩ := List.mem_map.mp hx
        obtain ⟨b, hb, rfl⟩ := List.mem_map.mp hy
        exact O.alk a b
      · obtain ⟨a, ha, rfl⟩ := List.mem_map.mp hx
        exact h a ha
      · obtain ⟨a, ha, rfl⟩ := List.mem_map.mp hx
        exact O.dep a
    · have e : xs.mergeSort le = xs := by
        match xs, h with
        | [], _ => simp
        | [x], _ => simp
      rw [e, if_pos]
      simp only [okSort1, Bool.and_eq_true, List.all_eq_true, decide_eq_true_eq, List.length_map, Bool.not_eq_true']
      refine ⟨h, fun y hy => ?_⟩
      obtain ⟨a, ha, rfl⟩ := List.mem_map.mp hy
      refine ⟨⟨O.dat a, O.dep a⟩, ?_⟩
      have := hn a ha
      cases hz : enc a <;> simp [eqP] <;> exact absurd hz this
theorem OrdOk.sorted_lst (xs : List α) (h : (∀ x ∈ xs, notTup0 (enc x) = true) ∨ (xs.length ≤ 1 ∧ ∀ x ∈ xs, enc x ≠ .non)) (hl : xs.length ≤ 16777216) : bclP .sorted [.lst (xs.map enc)] = some (true, .lst ((xs.mergeSort le).map enc)) := by
  show (MP.sortP (xs.map enc)).map _ = _
  rw [O.sortP xs h hl]; rfl
theorem OrdOk.sorted_tup (xs : List α) (h : (∀ x ∈ xs, notTup0 (enc x) = true) ∨ (xs.length ≤ 1 ∧ ∀ x ∈ xs, enc x ≠ .non)) (hl : xs.length ≤ 16777216) : bclP .sorted [.tup (xs.map enc)] = some (true, .lst ((xs.mergeSort le).map enc)) := by
  show (MP.sortP (xs.map enc)).map _ = _
  rw [O.sortP xs h hl]; rfl
/-- strictly before -/
def OrdOk.lt (_ : OrdOk enc le) (a b : α) : Prop := le a b = true ∧ a ≠ b
theorem OrdOk.lt_trans {a b c : α} (h : O.lt a b) (g : O.lt b c) : O.lt a c := ⟨O.trans _ _ _ h.1 g.1, fun e => by subst e; exact h.2 (O.anti _ _ h.1 g.1)⟩
theorem OrdOk.lt_irrefl {a : α} (h : O.lt a a) : False := h.2 rfl
theorem OrdOk.sorts (xs : List α) (hn : xs.Nodup) : (xs.mergeSort le).Pairwise O.lt := by
  have h1 : (xs.mergeSort le).Pairwise fun a b => le a b = true := List.pairwise_mergeSort (fun a b c h g => O.trans a b c h g) (fun a b => by simpa using O.total a b) xs
  have h2 : (xs.mergeSort le).Nodup := (List.mergeSort_perm xs le).nodup_iff.mpr hn
  exact (h1.and h2)
/-- two rising lists with the same items -/
theorem OrdOk.uniq {xs ys : List α} (hx : xs.Pairwise O.lt) (hy : ys.Pairwise O.lt) (h : ∀ a, a ∈ xs ↔ a ∈ ys) : xs = ys := by
  induction xs generalizing ys with
  | nil =>
    cases ys with
    | nil => rfl
    | cons y ys => exact absurd ((h y).mpr (by simp)) (by simp)
  | cons x xs ih =>
    cases ys with
    | nil => exact absurd ((h x).mp (by simp)) (by simp)
    | cons y ys =>
      rw [List.pairwise_cons] at hx hy
      have e : x = y := by
        rcases List.mem_cons.mp ((h x).mp (by simp)) with e | e
        · exact e
        · rcases List.mem_cons.mp ((h y).mpr (by simp)) with e2 | e2
          · exact e2.symm
          · exact absurd (O.lt_trans (hx.1 y e2) (hy.1 x e)) fun z => O.lt_irrefl z
      subst e
      congr 1
      refine ih hx.2 hy.2 fun a => ⟨fun ha => ?_, fun ha => ?_⟩
      · rcases List.mem_cons.mp ((h a).mp (List.mem_cons_of_mem _ ha)) with e | e
        · subst e; exact absurd (hx.1 a ha) fun z => O.lt_irrefl z
        · exact e
      · rcases List.mem_cons.mp ((h a).mpr (List.mem_cons_of_mem _ ha)) with e | e
        · subst e; exact absurd (hy.1 a ha) fun z => O.lt_irrefl z
        · exact e
theorem OrdOk.sort_eq {xs ys : List α} (hn : xs.Nodup) (hy : ys.Pairwise O.lt) (h : ∀ a, a ∈ xs ↔ a ∈ ys) : xs.mergeSort le = ys := O.uniq (O.sorts xs hn) hy fun a => by rw [List.mem_mergeSort]; exact h a
theorem OrdOk.nodup {xs : List α} (h : xs.Pairwise O.lt) : xs.Nodup := h.imp fun z => z.2
theorem OrdOk.sort_id {xs : List α} (h : xs.Pairwise O.lt) : xs.mergeSort le = xs := O.sort_eq (O.nodup h) h fun _ => Iff.rfl
end
theorem mem_sort {α : Type} {le : α → α → Bool} {a : α} {xs : List α} : a ∈ xs.mergeSort le ↔ a ∈ xs := List.mem_mergeSort
theorem notTup0_mv {l : Row} (h : l ≠ []) : notTup0 (mv l) = true := by
  cases l with
  | nil => exact absurd rfl h
  | cons => rfl
theorem sorted_nt (xs : List Nat) (hl : xs.length ≤ 16777216) : bclP .sorted [.lst (xs.map nt)] = some (true, .lst ((xs.mergeSort nle).map nt)) := ntOrd.sorted_lst xs (.inl fun _ _ => rfl) hl
theorem sorted_ntT (xs : List Nat) (hl : xs.length ≤ 16777216) : bclP .sorted [.tup (xs.map nt)] = some (true, .lst ((xs.mergeSort nle).map nt)) := ntOrd.sorted_tup xs (.inl fun _ _ => rfl) hl
theorem sorted_pv (xs : List Pr) (hl : xs.length ≤ 16777216) : bclP .sorted [.lst (xs.map pv)] = some (true, .lst ((xs.mergeSort ple).map pv)) := pvOrd.sorted_lst xs (.inl fun _ _ => rfl) hl
theorem sorted_pvT (xs : List Pr) (hl : xs.length ≤ 16777216) : bclP .sorted [.tup (xs.map pv)] = some (true, .lst ((xs.mergeSort ple).map pv)) := pvOrd.sorted_tup xs (.inl fun _ _ => rfl) hl
theorem sorted_mv (xs : List Row) (h : (∀ x ∈ xs, x ≠ []) ∨ xs.length ≤ 1) (hl : xs.length ≤ 16777216) : bclP .sorted [.lst (xs.map mv)] = some (true, .lst ((xs.mergeSort rle).map mv)) :=
  mvOrd.sorted_lst xs (h.imp (fun h x hx => notTup0_mv (h x hx)) fun h => ⟨h, fun _ _ e => nomatch e⟩) hl
theorem sorted_mvT (xs : List Row) (h : (∀ x ∈ xs, x ≠ []) ∨ xs.length ≤ 1) (hl : xs.length ≤ 16777216) : bclP .sorted [.tup (xs.map mv)] = some (true, .lst ((xs.mergeSort rle).map mv)) :=
  mvOrd.sorted_tup xs (h.imp (fun h x hx => notTup0_mv (h x hx)) fun h => ⟨h, fun _ _ e => nomatch e⟩) hl
/-- rows of one width, none twice: they can be sorted -/
theorem width_ok {xs : List Row} {d : Nat} (hw : ∀ x ∈ xs, x.length = d) (hn : xs.Nodup) : (∀ x ∈ xs, x ≠ []) ∨ xs.length ≤ 1 := by
  cases d with
  | zero =>
    right
    match xs, hw, hn with
    | [], _, _ => simp
    | [_], _, _ => simp
    | x :: y :: r, hw, hn =>
      have h1 := List.length_eq_zero_iff.mp (hw x (by simp))
      have h2 := List.length_eq_zero_iff.mp (hw y (by simp))
      subst h1 h2
      simp at hn
  | succ d => left; intro x hx e; have := hw x hx; rw [e] at this; simp at this
/-! ### sets -/
/-- the different ones, at their first places -/
def uq {α : Type} [DecidableEq α] (xs : List α) : List α := xs.foldl (fun l x => if x ∈ l then l else l ++ [x]) []
theorem uqf {α : Type} [DecidableEq α] (xs acc : List α) (h : acc.Nodup) : (xs.foldl (fun l x => if x ∈ l then l else l ++ [x]) acc).Nodup ∧ ∀ a, a ∈ xs.foldl (fun l x => if x ∈ l then l else l ++ [x]) acc ↔ a ∈ acc ∨ a ∈ xs := by
  induction xs generalizing acc with
  | nil => exact ⟨h, by simp⟩
  | cons x xs ih =>
    rw [List.foldl_cons]
    by_cases hx : x ∈ acc
    · rw [if_pos hx]
      obtain ⟨h1, h2⟩ := ih acc h
      refine ⟨h1, fun a => ?_⟩
      rw [h2]
      simp only [List.mem_cons]
      constructor
      · rintro (h | h)
        · exact .inl h
        · exact .inr (.inr h)
      · rintro (h | rfl | h)
        · exact .inl h
        · exact .inl hx
        · exact .inr h
    · rw [if_neg hx]
      have hn : (acc ++ [x]).Nodup := by
        rw [List.nodup_append]
        exact ⟨h, by simp, fun a ha b hb e => by simp at hb; subst hb; subst e; exact hx ha⟩
      obtain ⟨h1, h2⟩ := ih _ hn
      refine ⟨h1, fun a => ?_⟩
      rw [h2]
      simp only [List.mem_append, List.mem_cons, List.not_mem_nil, or_false]
      exact or_assoc
theorem uq_nodup {α : Type} [DecidableEq α] (xs : List α) : (uq xs).Nodup := (uqf xs [] List.nodup_nil).1
theorem mem_uq {α : Type} [DecidableEq α] {xs : List α} {a : α} : a ∈ uq xs ↔ a ∈ xs := by
  have := (uqf xs [] List.nodup_nil).2 a
  simpa [uq] using this
theorem dd_uq {α : Type} [DecidableEq α] {enc : α → PV} {d : Nat} (E : EncOk enc d) (xs : List α) : dedup [] (xs.map enc) = (uq xs).map enc := by
  have := E.dedup [] xs
  simpa [uq] using this
/-- the names, rising -/
def su (xs : List Nat) : List Nat := (uq xs).mergeSort nle
theorem su_lt (xs : List Nat) : (su xs).Pairwise ntOrd.lt := ntOrd.sorts _ (uq_nodup xs)
theorem mem_su {xs : List Nat} {a : Nat} : a ∈ su xs ↔ a ∈ xs := by rw [su, mem_sort, mem_uq]
theorem nlt_iff {a b : Nat} : ntOrd.lt a b ↔ a < b := by simp [OrdOk.lt, nle]; omega
theorem intsP_nt (a : List Nat) : intsP (a.map nt) = some (a.map fun (x : Nat) => (x : Int)) := by
  induction a with
  | nil => rfl
  | cons x a ih => simp [intsP, ih]
theorem set_nt (xs : List Nat) (hl : xs.length < 1000) : bclP .set [.lst (xs.map nt)] = some (true, .pst ((uq xs).map nt)) := by
  show setP (xs.map nt) = _
  unfold setP
  split
  · rw [dd_uq ntOk]
  · rw [if_pos (by simp [okInts, intsP_nt, hl]), dd_uq ntOk]
theorem sorted_pst (xs : List Nat) (hl : xs.length < 64) : bclP .sorted [.pst (xs.map nt)] = some (true, .lst ((xs.mergeSort nle).map nt)) := by
  show (if okRows (xs.map nt) = true ∧ xs.map nt ≠ [] then some (true, PV.lst ((xs.map nt).mergeSort leP)) else if okInts (xs.map nt) = true ∧ (xs.map nt).length < 64 then some (true, PV.lst ((xs.map nt).mergeSort leP)) else none) = _
  rw [ntOrd.sortMap]
  split
  · rfl
  · rw [if_pos ⟨by simp [okInts, intsP_nt]; omega, by simpa using hl⟩]
theorem length_uq_le {α : Type} [DecidableEq α] (xs : List α) : (uq xs).length ≤ xs.length := by
  have : ∀ (xs acc : List α), (xs.foldl (fun l x => if x ∈ l then l else l ++ [x]) acc).length ≤ acc.length + xs.length := by
    intro xs
    induction xs with
    | nil => simp
    | cons x xs ih =>
      intro acc
      rw [List.foldl_cons]
      refine Nat.le_trans (ih _) ?_
      split <;> simp <;> omega
  have h := this xs []
  simpa [uq] using h
theorem len_sub {α : Type} [DecidableEq α] : ∀ (xs ys : List α), xs.Nodup → (∀ x ∈ xs, x ∈ ys) → xs.length ≤ ys.length
  | [], _, _, _ => Nat.zero_le _
  | x :: xs, ys, h, hs => by
    rw [List.nodup_cons] at h
    have hx : x ∈ ys := hs x (by simp)
    have := len_sub xs (ys.erase x) h.2 fun y hy => by
      have ne : y ≠ x := fun e => h.1 (e ▸ hy)
      exact (List.mem_erase_of_ne ne).mpr (hs y (List.mem_cons_of_mem _ hy))
    rw [List.length_erase_of_mem hx] at this
    have := List.length_pos_of_mem hx
    simp
    omega
/-- different numbers below a bound -/
theorem nodup_le {xs : List Nat} (h : xs.Nodup) {b : Nat} (hb : ∀ x ∈ xs, x < b) : xs.length ≤ b := by
  have := len_sub xs (List.range b) h fun x hx => List.mem_range.mpr (hb x hx)
  simpa using this
end MX
/-! Pure runs: worlds, formulas, their truth; rows for names. -/
namespace MX
open MP
open PySem (Str)
/-! ### words -/
@[simp] theorem w_true_false : (PySem.Str.ofString "true" = PySem.Str.ofString "false") = False := eq_false (by decide +kernel)
@[simp] theorem w_true_same : (PySem.Str.ofString "true" = PySem.Str.ofString "same") = False := eq_false (by decide +kernel)
@[simp] theorem w_true_mark : (PySem.Str.ofString "true" = PySem.Str.ofString "mark") = False := eq_false (by decide +kernel)
@[simp] theorem w_true_arrow : (PySem.Str.ofString "true" = PySem.Str.ofString "arrow") = False := eq_false (by decide +kernel)
@[simp] theorem w_true_not : (PySem.Str.ofString "true" = PySem.Str.ofString "not") = False := eq_false (by decide +kernel)
@[simp] theorem w_true_and : (PySem.Str.ofString "true" = PySem.Str.ofString "and") = False := eq_false (by decide +kernel)
@[simp] theorem w_true_or : (PySem.Str.ofString "true" = PySem.Str.ofString "or") = False := eq_false (by decide +kernel)
@[simp] theorem w_true_some : (PySem.Str.ofString "true" = PySem.Str.ofString "some") = False := eq_false (by decide +kernel)
@[simp] theorem w_true_all : (PySem.Str.ofString "true" = PySem.Str.ofString "all") = False := eq_false (by decide +kernel)
@[simp] theorem w_true_least : (PySem.Str.ofString "true" = PySem.Str.ofString "least") = False := eq_false (by decide +kernel)
@[simp] theorem w_false_true : (PySem.Str.ofString "false" = PySem.Str.ofString "true") = False := eq_false (by decide +kernel)
@[simp] theorem w_false_same : (PySem.Str.ofString "false" = PySem.Str.ofString "same") = False := eq_false (by decide +kernel)
@[simp] theorem w_false_mark : (PySem.Str.ofString "false" = PySem.Str.ofString "mark") = False := eq_false (by decide +kernel)
@[simp] theorem w_false_arrow : (PySem.Str.ofString "false" = PySem.Str.ofString "arrow") = False := eq_false (by decide +kernel)
@[simp] theorem w_false_not : (PySem.Str.ofString "false" = PySem.Str.ofString "not") = False := eq_false (by decide +kernel)
@[simp] theorem w_false_and : (PySem.Str.ofString "false" = PySem.Str.ofString "and") = False := eq_false (by decide +kernel)
@[simp] theorem w_false_or : (PySem.Str.ofString "false" = PySem.Str.ofString "or") = False := eq_false (by decide +kernel)
@[simp] theorem w_false_some : (PySem.Str.ofString "false" = PySem.Str.ofString "some") = False := eq_false (by decide +kernel)
@[simp] theorem w_false_all : (PySem.Str.ofString "false" = PySem.Str.ofString "all") = False := eq_false (by decide +kernel)
@[simp] theorem w_false_least : (PySem.Str.ofString "false" = PySem.Str.ofString "least") = False := eq_false (by decide +kernel)
@[simp] theorem w_same_true : (PySem.Str.ofString "same" = PySem.Str.ofString "true") = False := eq_false (by decide +kernel)
@[simp] theorem w_same_false : (PySem.Str.ofString "same" = PySem.Str.ofString "false") = False := eq_false (by decide +kernel)
@[simp] theorem w_same_mark : (PySem.Str.ofString "same" = PySem.Str.ofString "mark") = False := eq_false (by decide +kernel)
@[simp] theorem w_same_arrow : (PySem.Str.ofString "same" = PySem.Str.ofString "arrow") = False := eq_false (by decide +kernel)
@[simp] theorem w_same_not : (PySem.Str.ofString "same" = PySem.Str.ofString "not") = False := eq_false (by decide +kernel)
@[simp] theorem w_same_and : (PySem.Str.ofString "same" = PySem.Str.ofString "and") = False := eq_false (by decide +kernel)
@[simp] theorem w_same_or : (PySem.Str.ofString "same" = PySem.Str.ofString "or") = False := eq_false (by decide +kernel)
@[simp] theorem w_same_some : (PySem.Str.ofString "same" = PySem.Str.ofString "some") = False := eq_false (by decide +kernel)
@[simp] theorem w_same_all : (PySem.Str.ofString "same" = PySem.Str.ofString "all") = False := eq_false (by decide +kernel)
@[simp] theorem w_same_least : (PySem.Str.ofString "same" = PySem.Str.ofString "least") = False := eq_false (by decide +kernel)
@[simp] theorem w_mark_true : (PySem.Str.ofString "mark" = PySem.Str.ofString "true") = False := eq_false (by decide +kernel)
@[simp] theorem w_mark_false : (PySem.Str.ofString "mark" = PySem.Str.ofString "false") = False := eq_false (by decide +kernel)
@[simp] theorem w_mark_same : (PySem.Str.ofString "mark" = PySem.Str.ofString "same") = False := eq_false (by decide +kernel)
@[simp] theorem w_mark_arrow : (PySem.Str.ofString "mark" = PySem.Str.ofString "arrow") = False := eq_false (by decide +kernel)
@[simp] theorem w_mark_not : (PySem.Str.ofString "mark" = PySem.Str.ofString "not") = False := eq_false (by decide +kernel)
@[simp] theorem w_mark_and : (PySem.Str.ofString "mark" = PySem.Str.ofString "and") = False := eq_false (by decide +kernel)
@[simp] theorem w_mark_or : (PySem.Str.ofString "mark" = PySem.Str.ofString "or") = False := eq_false (by decide +kernel)
@[simp] theorem w_mark_some : (PySem.Str.ofString "mark" = PySem.Str.ofString "some") = False := eq_false (by decide +kernel)
@[simp] theorem w_mark_all : (PySem.Str.ofString "mark" = PySem.Str.ofString "all") = False := eq_false (by decide +kernel)
@[simp] theorem w_mark_least : (PySem.Str.ofString "mark" = PySem.Str.ofString "least") = False := eq_false (by decide +kernel)
@[simp] theorem w_arrow_true : (PySem.Str.ofString "arrow" = PySem.Str.ofString "true") = False := eq_false (by decide +kernel)
@[simp] theorem w_arrow_false : (PySem.Str.ofString "arrow" = PySem.Str.ofString "false") = False := eq_false (by decide +kernel)
@[simp] theorem w_arrow_same : (PySem.Str.ofString "arrow" = PySem.Str.ofString "same") = False := eq_false (by decide +kernel)
@[simp] theorem w_arrow_mark : (PySem.Str.ofString "arrow" = PySem.Str.ofString "mark") = False := eq_false (by decide +kernel)
@[simp] theorem w_arrow_not : (PySem.Str.ofString "arrow" = PySem.Str.ofString "not") = False := eq_false (by decide +kernel)
@[simp] theorem w_arrow_and : (PySem.Str.ofString "arrow" = PySem.Str.ofString "and") = False := eq_false (by decide +kernel)
@[simp] theorem w_arrow_or : (PySem.Str.ofString "arrow" = PySem.Str.ofString "or") = False := eq_false (by decide +kernel)
@[simp] theorem w_arrow_some : (PySem.Str.ofString "arrow" = PySem.Str.ofString "some") = False := eq_false (by decide +kernel)
@[simp] theorem w_arrow_all : (PySem.Str.ofString "arrow" = PySem.Str.ofString "all") = False := eq_false (by decide +kernel)
@[simp] theorem w_arrow_least : (PySem.Str.ofString "arrow" = PySem.Str.ofString "least") = False := eq_false (by decide +kernel)
@[simp] theorem w_not_true : (PySem.Str.ofString "not" = PySem.Str.ofString "true") = False := eq_false (by decide +kernel)
@[simp] theorem w_not_false : (PySem.Str.ofString "not" = PySem.Str.ofString "false") = False := eq_false (by decide +kernel)
@[simp] theorem w_not_same : (PySem.Str.ofString "not" = PySem.Str.ofString "same") = False := eq_false (by decide +kernel)
@[simp] theorem w_not_mark : (PySem.Str.ofString "not" = PySem.Str.ofString "mark") = False := eq_false (by decide +kernel)
@[simp] theorem w_not_arrow : (PySem.Str.ofString "not" = PySem.Str.ofString "arrow") = False := eq_false (by decide +kernel)
@[simp] theorem w_not_and : (PySem.Str.ofString "not" = PySem.Str.ofString "and") = False := eq_false (by decide +kernel)
@[simp] theorem w_not_or : (PySem.Str.ofString "not" = PySem.Str.ofString "or") = False := eq_false (by decide +kernel)
@[simp] theorem w_not_some : (PySem.Str.ofString "not" = PySem.Str.ofString "some") = False := eq_false (by decide +kernel)
@[simp] theorem w_not_all : (PySem.Str.ofString "not" = PySem.Str.ofString "all") = False := eq_false (by decide +kernel)
@[simp] theorem w_not_least : (PySem.Str.ofString "not" = PySem.Str.ofString "least") = False := eq_false (by decide +kernel)
@[simp] theorem w_and_true : (PySem.Str.ofString "and" = PySem.Str.ofString "true") = False := eq_false (by decide +kernel)
@[simp] theorem w_and_false : (PySem.Str.ofString "and" = PySem.Str.ofString "false") = False := eq_false (by decide +kernel)
@[simp] theorem w_and_same : (PySem.Str.ofString "and" = PySem.Str.ofString "same") = False := eq_false (by decide +kernel)
@[simp] theorem w_and_mark : (PySem.Str.ofString "and" = PySem.Str.ofString "mark") = False := eq_false (by decide +kernel)
@[simp] theorem w_and_arrow : (PySem.Str.ofString "and" = PySem.Str.ofString "arrow") = False := eq_false (by decide +kernel)
@[simp] theorem w_and_not : (PySem.Str.ofString "and" = PySem.Str.ofString "not") = False := eq_false (by decide +kernel)
@[simp] theorem w_and_or : (PySem.Str.ofString "and" = PySem.Str.ofString "or") = False := eq_false (by decide +kernel)
@[simp] theorem w_and_some : (PySem.Str.ofString "and" = PySem.Str.ofString "some") = False := eq_false (by decide +kernel)
@[simp] theorem w_and_all : (PySem.Str.ofString "and" = PySem.Str.ofString "all") = False := eq_false (by decide +kernel)
@[simp] theorem w_and_least : (PySem.Str.ofString "and" = PySem.Str.ofString "least") = False := eq_false (by decide +kernel)
@[simp] theorem w_or_true : (PySem.Str.ofString "or" = PySem.Str.ofString "true") = False := eq_false (by decide +kernel)
@[simp] theorem w_or_false : (PySem.Str.ofString "or" = PySem.Str.ofString "false") = False := eq_false (by decide +kernel)
@[simp] theorem w_or_same : (PySem.Str.ofString "or" = PySem.Str.ofString "same") = False := eq_false (by decide +kernel)
@[simp] theorem w_or_mark : (PySem.Str.ofString "or" = PySem.Str.ofString "mark") = False := eq_false (by decide +kernel)
@[simp] theorem w_or_arrow : (PySem.Str.ofString "or" = PySem.Str.ofString "arrow") = False := eq_false (by decide +kernel)
@[simp] theorem w_or_not : (PySem.Str.ofString "or" = PySem.Str.ofString "not") = False := eq_false (by decide +kernel)
@[simp] theorem w_or_and : (PySem.Str.ofString "or" = PySem.Str.ofString "and") = False := eq_false (by decide +kernel)
@[simp] theorem w_or_some : (PySem.Str.ofString "or" = PySem.Str.ofString "some") = False := eq_false (by decide +kernel)
@[simp] theorem w_or_all : (PySem.Str.ofString "or" = PySem.Str.ofString "all") = False := eq_false (by decide +kernel)
@[simp] theorem w_or_least : (PySem.Str.ofString "or" = PySem.Str.ofString "least") = False := eq_false (by decide +kernel)
@[simp] theorem w_some_true : (PySem.Str.ofString "some" = PySem.Str.ofString "true") = False := eq_false (by decide +kernel)
@[simp] theorem w_some_false : (PySem.Str.ofString "some" = PySem.Str.ofString "false") = False := eq_false (by decide +kernel)
@[simp] theorem w_some_same : (PySem.Str.ofString "some" = PySem.Str.ofString "same") = False := eq_false (by decide +kernel)
@[simp] theorem w_some_mark : (PySem.Str.ofString "some" = PySem.Str.ofString "mark") = False := eq_false (by decide +kernel)
@[simp] theorem w_some_arrow : (PySem.Str.ofString "some" = PySem.Str.ofString "arrow") = False := eq_false (by decide +kernel)
@[simp] theorem w_some_not : (PySem.Str.ofString "some" = PySem.Str.ofString "not") = False := eq_false (by decide +kernel)
@[simp] theorem w_some_and : (PySem.Str.ofString "some" = PySem.Str.ofString "and") = False := eq_false (by decide +kernel)
@[simp] theorem w_some_or : (PySem.Str.ofString "some" = PySem.Str.ofString "or") = False := eq_false (by decide +kernel)
@[simp] theorem w_some_all : (PySem.Str.ofString "some" = PySem.Str.ofString "all") = False := eq_false (by decide +kernel)
@[simp] theorem w_some_least : (PySem.Str.ofString "some" = PySem.Str.ofString "least") = False := eq_false (by decide +kernel)
@[simp] theorem w_all_true : (PySem.Str.ofString "all" = PySem.Str.ofString "true") = False := eq_false (by decide +kernel)
@[simp] theorem w_all_false : (PySem.Str.ofString "all" = PySem.Str.ofString "false") = False := eq_false (by decide +kernel)
@[simp] theorem w_all_same : (PySem.Str.ofString "all" = PySem.Str.ofString "same") = False := eq_false (by decide +kernel)
@[simp] theorem w_all_mark : (PySem.Str.ofString "all" = PySem.Str.ofString "mark") = False := eq_false (by decide +kernel)
@[simp] theorem w_all_arrow : (PySem.Str.ofString "all" = PySem.Str.ofString "arrow") = False := eq_false (by decide +kernel)
@[simp] theorem w_all_not : (PySem.Str.ofString "all" = PySem.Str.ofString "not") = False := eq_false (by decide +kernel)
@[simp] theorem w_all_and : (PySem.Str.ofString "all" = PySem.Str.ofString "and") = False := eq_false (by decide +kernel)
@[simp] theorem w_all_or : (PySem.Str.ofString "all" = PySem.Str.ofString "or") = False := eq_false (by decide +kernel)
@[simp] theorem w_all_some : (PySem.Str.ofString "all" = PySem.Str.ofString "some") = False := eq_false (by decide +kernel)
@[simp] theorem w_all_least : (PySem.Str.ofString "all" = PySem.Str.ofString "least") = False := eq_false (by decide +kernel)
@[simp] theorem w_least_true : (PySem.Str.ofString "least" = PySem.Str.ofString "true") = False := eq_false (by decide +kernel)
@[simp] theorem w_least_false : (PySem.Str.ofString "least" = PySem.Str.ofString "false") = False := eq_false (by decide +kernel)
@[simp] theorem w_least_same : (PySem.Str.ofString "least" = PySem.Str.ofString "same") = False := eq_false (by decide +kernel)
@[simp] theorem w_least_mark : (PySem.Str.ofString "least" = PySem.Str.ofString "mark") = False := eq_false (by decide +kernel)
@[simp] theorem w_least_arrow : (PySem.Str.ofString "least" = PySem.Str.ofString "arrow") = False := eq_false (by decide +kernel)
@[simp] theorem w_least_not : (PySem.Str.ofString "least" = PySem.Str.ofString "not") = False := eq_false (by decide +kernel)
@[simp] theorem w_least_and : (PySem.Str.ofString "least" = PySem.Str.ofString "and") = False := eq_false (by decide +kernel)
@[simp] theorem w_least_or : (PySem.Str.ofString "least" = PySem.Str.ofString "or") = False := eq_false (by decide +kernel)
@[simp] theorem w_least_some : (PySem.Str.ofString "least" = PySem.Str.ofString "some") = False := eq_false (by decide +kernel)
@[simp] theorem w_least_all : (PySem.Str.ofString "least" = PySem.Str.ofString "all") = False := eq_false (by decide +kernel)
@[simp] theorem isin_s2 (a b c : Str) : cmpP .isin (.str a) (.tup [.str b, .str c]) = some (decide (a = b) || decide (a = c)) := by
  have := strOk.isin_tup a [b, c] (by decide)
  rw [show [b, c].map PV.str = [.str b, .str c] from rfl] at this
  rw [this]; simp [Bool.or_comm]
@[simp] theorem isin_s3 (a b c d : Str) : cmpP .isin (.str a) (.tup [.str b, .str c, .str d]) = some (decide (a = b) || (decide (a = c) || decide (a = d))) := by
  have := strOk.isin_tup a [b, c, d] (by decide)
  rw [show [b, c, d].map PV.str = [.str b, .str c, .str d] from rfl] at this
  rw [this]; simp
/-! ### worlds -/
structure Wld where
  n : Nat
  m0 : List Nat
  m1 : List Nat
  ar : List Pr
def wv (w : Wld) : PV := .tup [.int (w.n : Int), .tup [.tup (w.m0.map nt), .tup (w.m1.map nt)], .tup (w.ar.map pv)]
@[simp] theorem wv_eq (w : Wld) : wv w = .tup [.int (w.n : Int), .tup [.tup (w.m0.map nt), .tup (w.m1.map nt)], .tup (w.ar.map pv)] := rfl
structure WOk (w : Wld) : Prop where
  pos : 1 ≤ w.n
  m0s : w.m0.Pairwise (· < ·)
  m0r : ∀ a ∈ w.m0, a < w.n
  m1s : w.m1.Pairwise (· < ·)
  m1r : ∀ a ∈ w.m1, a < w.n
  ars : w.ar.Pairwise pvOrd.lt
  arr : ∀ p ∈ w.ar, p.1 < w.n ∧ p.2 < w.n
theorem plt_iff {p q : Pr} : pvOrd.lt p q ↔ p.1 < q.1 ∨ (p.1 = q.1 ∧ p.2 < q.2) := by
  obtain ⟨a, b⟩ := p
  obtain ⟨c, d⟩ := q
  simp only [OrdOk.lt, ple, rle, prow, decide_eq_true_eq, ne_eq, Prod.mk.injEq, List.cons_le_cons_iff]
  constructor
  · rintro ⟨h | ⟨rfl, h | ⟨rfl, _⟩⟩, g⟩
    · exact .inl h
    · exact .inr ⟨rfl, h⟩
    · exact absurd ⟨rfl, rfl⟩ g
  · rintro (h | ⟨rfl, h⟩)
    · exact ⟨.inl h, fun e => by omega⟩
    · exact ⟨.inr ⟨rfl, .inl h⟩, fun e => by omega⟩
theorem WOk.m0l {w : Wld} (h : WOk w) : w.m0.length ≤ w.n := nodup_le (h.m0s.imp fun z => Nat.ne_of_lt z) h.m0r
theorem WOk.m1l {w : Wld} (h : WOk w) : w.m1.length ≤ w.n := nodup_le (h.m1s.imp fun z => Nat.ne_of_lt z) h.m1r
theorem flatMap_len {α β : Type} (xs : List α) (f : α → List β) (k : Nat) (h : ∀ x ∈ xs, (f x).length = k) : (xs.flatMap f).length = xs.length * k := by
  induction xs with
  | nil => simp
  | cons x xs ih =>
    rw [List.flatMap_cons, List.length_append, ih fun y hy => h y (List.mem_cons_of_mem _ hy), h x (by simp), List.length_cons, Nat.add_mul, Nat.one_mul, Nat.add_comm]
theorem pairs_le {xs : List Pr} (h : xs.Nodup) {n : Nat} (hb : ∀ p ∈ xs, p.1 < n ∧ p.2 < n) : xs.length ≤ n * n := by
  have := len_sub xs ((List.range n).flatMap fun a => (List.range n).map fun b => (a, b)) h fun p hp => by
    obtain ⟨h1, h2⟩ := hb p hp
    simp only [List.mem_flatMap, List.mem_range, List.mem_map]
    exact ⟨p.1, h1, p.2, h2, rfl⟩
  rwa [flatMap_len _ _ n (by simp), List.length_range] at this
theorem WOk.arl {w : Wld} (h : WOk w) : w.ar.length ≤ w.n * w.n := pairs_le (pvOrd.nodup h.ars) h.arr
@[simp] theorem isin_tup_pv (a b : Nat) (xs : List Pr) : cmpP .isin (.tup [.int (a : Int), .int (b : Int)]) (.tup (xs.map pv)) = some (decide ((a, b) ∈ xs)) := pvOk.isin_tup (a, b) xs (by decide)
@[simp] theorem isin_lst_pv (a b : Nat) (xs : List Pr) : cmpP .isin (.tup [.int (a : Int), .int (b : Int)]) (.lst (xs.map pv)) = some (decide ((a, b) ∈ xs)) := pvOk.isin_lst (a, b) xs (by decide)
@[simp] theorem nin_tup_pv (a b : Nat) (xs : List Pr) : cmpP .nin (.tup [.int (a : Int), .int (b : Int)]) (.tup (xs.map pv)) = some (decide ((a, b) ∉ xs)) := pvOk.nin_tup (a, b) xs (by decide)
@[simp] theorem nin_lst_pv (a b : Nat) (xs : List Pr) : cmpP .nin (.tup [.int (a : Int), .int (b : Int)]) (.lst (xs.map pv)) = some (decide ((a, b) ∉ xs)) := pvOk.nin_lst (a, b) xs (by decide)
@[simp] theorem isin_tup_mv (a : Row) (xs : List Row) : cmpP .isin (.tup (a.map nt)) (.tup (xs.map mv)) = some (decide (a ∈ xs)) := mvOk.isin_tup a xs (by decide)
@[simp] theorem nin_tup_mv (a : Row) (xs : List Row) : cmpP .nin (.tup (a.map nt)) (.tup (xs.map mv)) = some (decide (a ∉ xs)) := mvOk.nin_tup a xs (by decide)
@[simp] theorem lfAll_pv (xs : List Pr) : lfAll (xs.map pv) = true := pvOk.lfAll xs
/-! ### all rows -/
def tps (n : Nat) : Nat → List Row
  | 0 => [[]]
  | k + 1 => (tps n k).flatMap fun r => (List.range n).map fun i => r ++ [i]
theorem mem_tps {n : Nat} : ∀ {k : Nat} {r : Row}, r ∈ tps n k ↔ r.length = k ∧ ∀ x ∈ r, x < n
  | 0, r => by
    simp only [tps, List.mem_singleton, List.length_eq_zero_iff]
    constructor
    · rintro rfl; simp
    · exact fun h => h.1
  | k + 1, r => by
    simp only [tps, List.mem_flatMap, List.mem_map, List.mem_range]
    constructor
    · rintro ⟨q, hq, i, hi, rfl⟩
      obtain ⟨h1, h2⟩ := mem_tps.mp hq
      refine ⟨by simp [h1], fun x hx => ?_⟩
      rcases List.mem_append.mp hx with hx | hx
      · exact h2 x hx
      · simp at hx; omega
    · rintro ⟨h1, h2⟩
      have ne : r ≠ [] := fun e => by rw [e] at h1; simp at h1
      refine ⟨r.dropLast, mem_tps.mpr ⟨by simp [h1], fun x hx => h2 x (List.dropLast_subset _ hx)⟩, r.getLast ne, h2 _ (List.getLast_mem ne), List.dropLast_concat_getLast ne⟩
theorem len_tps (n : Nat) : ∀ k : Nat, (tps n k).length = n ^ k
  | 0 => rfl
  | k + 1 => by
    show ((tps n k).flatMap fun r => (List.range n).map fun i => r ++ [i]).length = _
    rw [flatMap_len _ _ n (by simp), len_tps n k, Nat.pow_succ]
theorem rlt_iff {a b : Row} : mvOrd.lt a b ↔ a < b := by
  simp only [OrdOk.lt, rle, decide_eq_true_eq]
  constructor
  · rintro ⟨h, g⟩
    rcases List.le_iff_lt_or_eq.mp h with h | h
    · exact h
    · exact absurd h g
  · exact fun h => ⟨List.le_of_lt h, fun e => by subst e; exact List.lt_irrefl _ h⟩
theorem lt_app {a b : Row} (hl : a.length = b.length) (h : a < b) (x y : Row) : a ++ x < b ++ y := by
  induction a generalizing b with
  | nil => cases b with
    | nil => exact absurd h (List.lt_irrefl _)
    | cons _ _ => simp at hl
  | cons p a ih =>
    cases b with
    | nil => simp at hl
    | cons q b =>
      simp only [List.cons_append, List.cons_lt_cons_iff] at h ⊢
      rcases h with h | ⟨rfl, h⟩
      · exact .inl h
      · exact .inr ⟨rfl, ih (by simpa using hl) h⟩
theorem lt_snoc (a : Row) {i j : Nat} (h : i < j) : a ++ [i] < a ++ [j] := by
  induction a with
  | nil => simp [List.cons_lt_cons_iff, h]
  | cons p a ih => simp only [List.cons_append, List.cons_lt_cons_iff]; exact .inr ⟨trivial, ih⟩
theorem tps_lt (n : Nat) : ∀ k : Nat, (tps n k).Pairwise mvOrd.lt
  | 0 => by simp [tps]
  | k + 1 => by
    show ((tps n k).flatMap fun r => (List.range n).map fun i => r ++ [i]).Pairwise mvOrd.lt
    rw [List.pairwise_flatMap]
    refine ⟨fun r hr => ?_, ?_⟩
    · rw [List.pairwise_map]
      exact List.pairwise_lt_range.imp fun h => rlt_iff.mpr (lt_snoc r h)
    · refine List.Pairwise.imp_of_mem ?_ (tps_lt n k)
      intro a b ha hb h x hx y hy
      obtain ⟨i, _, rfl⟩ := List.mem_map.mp hx
      obtain ⟨j, _, rfl⟩ := List.mem_map.mp hy
      exact rlt_iff.mpr (lt_app (by rw [(mem_tps.mp ha).1, (mem_tps.mp hb).1]) (rlt_iff.mp h) _ _)
/-! ### formulas -/
inductive Fm where
  | tru | fls | same (x y : Nat) | mark (i x : Nat) | arr (x y : Nat)
  | neg (f : Fm) | conj (fs : List Fm) | disj (fs : List Fm) | ex (x : Nat) (f : Fm) | al (x : Nat) (f : Fm) | lea (m x : Nat) (f : Fm)
abbrev sv (s : String) : PV := .str (PySem.Str.ofString s)
mutual
def fv : Fm → PV
  | .tru => .tup [sv "true"] | .fls => .tup [sv "false"]
  | .same x y => .tup [sv "same", .int (x : Int), .int (y : Int)] | .mark i x => .tup [sv "mark", .int (i : Int), .int (x : Int)] | .arr x y => .tup [sv "arrow", .int (x : Int), .int (y : Int)]
  | .neg f => .tup [sv "not", fv f] | .conj fs => .tup [sv "and", .tup (fvs fs)] | .disj fs => .tup [sv "or", .tup (fvs fs)]
  | .ex x f => .tup [sv "some", .int (x : Int), fv f] | .al x f => .tup [sv "all", .int (x : Int), fv f] | .lea m x f => .tup [sv "least", .int (m : Int), .int (x : Int), fv f]
def fvs : List Fm → List PV
  | [] => []
  | f :: fs => fv f :: fvs fs
end
theorem fvs_map : ∀ fs : List Fm, fvs fs = fs.map fv
  | [] => rfl
  | f :: fs => by rw [fvs, fvs_map fs, List.map_cons]
mutual
/-- the free names, as they come -/
def fr : Fm → List Nat
  | .tru => [] | .fls => [] | .same x y => [x, y] | .mark _ x => [x] | .arr x y => [x, y]
  | .neg f => fr f | .conj fs => frs fs | .disj fs => frs fs
  | .ex x f => (fr f).filter (fun y => !decide (y = x)) | .al x f => (fr f).filter (fun y => !decide (y = x)) | .lea _ x f => (fr f).filter (fun y => !decide (y = x))
def frs : List Fm → List Nat
  | [] => []
  | f :: fs => fr f ++ frs fs
end
abbrev Asg := Nat → Nat
def up (ρ : Asg) (x a : Nat) : Asg := fun y => if y = x then a else ρ y
mutual
def tr (w : Wld) : Fm → Asg → Bool
  | .tru, _ => true | .fls, _ => false
  | .same x y, ρ => decide (ρ x = ρ y)
  | .mark i x, ρ => if i = 0 then decide (ρ x ∈ w.m0) else decide (ρ x ∈ w.m1)
  | .arr x y, ρ => decide ((ρ x, ρ y) ∈ w.ar)
  | .neg f, ρ => !tr w f ρ
  | .conj fs, ρ => trA w fs ρ
  | .disj fs, ρ => trO w fs ρ
  | .ex x f, ρ => (List.range w.n).any fun a => tr w f (up ρ x a)
  | .al x f, ρ => (List.range w.n).all fun a => tr w f (up ρ x a)
  | .lea m x f, ρ => decide (m ≤ (List.range w.n).countP fun a => tr w f (up ρ x a))
def trA (w : Wld) : List Fm → Asg → Bool
  | [], _ => true
  | f :: fs, ρ => tr w f ρ && trA w fs ρ
def trO (w : Wld) : List Fm → Asg → Bool
  | [], _ => false
  | f :: fs, ρ => tr w f ρ || trO w fs ρ
end
theorem trA_all (w : Wld) (ρ : Asg) : ∀ fs : List Fm, trA w fs ρ = fs.all fun f => tr w f ρ
  | [] => rfl
  | f :: fs => by rw [trA, trA_all w ρ fs, List.all_cons]
theorem trO_any (w : Wld) (ρ : Asg) : ∀ fs : List Fm, trO w fs ρ = fs.any fun f => tr w f ρ
  | [] => rfl
  | f :: fs => by rw [trO, trO_any w ρ fs, List.any_cons]
theorem frs_flat : ∀ fs : List Fm, frs fs = fs.flatMap fr
  | [] => rfl
  | f :: fs => by rw [frs, frs_flat fs, List.flatMap_cons]
mutual
theorem tr_agree (w : Wld) : ∀ (f : Fm) (ρ σ : Asg), (∀ x ∈ fr f, ρ x = σ x) → tr w f ρ = tr w f σ
  | .tru, _, _, _ => rfl | .fls, _, _, _ => rfl
  | .same x y, ρ, σ, h => by simp only [tr, h x (by simp [fr]), h y (by simp [fr])]
  | .mark i x, ρ, σ, h => by simp only [tr, h x (by simp [fr])]
  | .arr x y, ρ, σ, h => by simp only [tr, h x (by simp [fr]), h y (by simp [fr])]
  | .neg f, ρ, σ, h => by simp only [tr, tr_agree w f ρ σ h]
  | .conj fs, ρ, σ, h => trA_agree w fs ρ σ h
  | .disj fs, ρ, σ, h => trO_agree w fs ρ σ h
  | .ex x f, ρ, σ, h => by
    have : (fun a => tr w f (up ρ x a)) = fun a => tr w f (up σ x a) := by
      funext a
      refine tr_agree w f _ _ fun y hy => ?_
      unfold up
      split
      · rfl
      · exact h y (by simp [fr, hy, *])
    simp only [tr, this]
  | .al x f, ρ, σ, h => by
    have : (fun a => tr w f (up ρ x a)) = fun a => tr w f (up σ x a) := by
      funext a
      refine tr_agree w f _ _ fun y hy => ?_
      unfold up
      split
      · rfl
      · exact h y (by simp [fr, hy, *])
    simp only [tr, this]
  | .lea m x f, ρ, σ, h => by
    have : (fun a => tr w f (up ρ x a)) = fun a => tr w f (up σ x a) := by
      funext a
      refine tr_agree w f _ _ fun y hy => ?_
      unfold up
      split
      · rfl
      · exact h y (by simp [fr, hy, *])
    simp only [tr, this]
theorem trA_agree (w : Wld) : ∀ (fs : List Fm) (ρ σ : Asg), (∀ x ∈ frs fs, ρ x = σ x) → trA w fs ρ = trA w fs σ
  | [], _, _, _ => rfl
  | f :: fs, ρ, σ, h => by
    rw [trA, trA, tr_agree w f ρ σ fun x hx => h x (by simp [frs, hx]), trA_agree w fs ρ σ fun x hx => h x (by simp [frs, hx])]
theorem trO_agree (w : Wld) : ∀ (fs : List Fm) (ρ σ : Asg), (∀ x ∈ frs fs, ρ x = σ x) → trO w fs ρ = trO w fs σ
  | [], _, _, _ => rfl
  | f :: fs, ρ, σ, h => by
    rw [trO, trO, tr_agree w f ρ σ fun x hx => h x (by simp [frs, hx]), trO_agree w fs ρ σ fun x hx => h x (by simp [frs, hx])]
end
mutual
/-- names below t, marks of the two, at most d deep, at most three parts, least of 1 to b -/
def fok (t b : Nat) : Nat → Fm → Bool
  | _, .tru => true | _, .fls => true
  | _, .same x y => decide (x < t) && decide (y < t) | _, .mark i x => decide (i < 2) && decide (x < t) | _, .arr x y => decide (x < t) && decide (y < t)
  | d, .neg f => decide (0 < d) && fok t b (d - 1) f | d, .conj fs => decide (0 < d) && decide (fs.length ≤ 3) && foks t b (d - 1) fs | d, .disj fs => decide (0 < d) && decide (fs.length ≤ 3) && foks t b (d - 1) fs
  | d, .ex x f => decide (0 < d) && decide (x < t) && fok t b (d - 1) f | d, .al x f => decide (0 < d) && decide (x < t) && fok t b (d - 1) f
  | d, .lea m x f => decide (0 < d) && decide (1 ≤ m) && decide (m ≤ b) && decide (x < t) && fok t b (d - 1) f
def foks (t b : Nat) : Nat → List Fm → Bool
  | _, [] => true
  | d, f :: fs => fok t b d f && foks t b d fs
end
theorem foks_all (t b d : Nat) : ∀ fs : List Fm, foks t b d fs = fs.all (fok t b d)
  | [] => rfl
  | f :: fs => by rw [foks, foks_all t b d fs, List.all_cons]
mutual
theorem fok_mono {t b : Nat} : ∀ {f : Fm} {d e : Nat}, d ≤ e → fok t b d f = true → fok t b e f = true
  | .tru, _, _, _, _ => rfl | .fls, _, _, _, _ => rfl
  | .same _ _, _, _, _, h => h | .mark _ _, _, _, _, h => h | .arr _ _, _, _, _, h => h
  | .neg f, d, e, l, h => by
    simp only [fok, Bool.and_eq_true, decide_eq_true_eq] at h ⊢
    exact ⟨by omega, fok_mono (by omega) h.2⟩
  | .conj fs, d, e, l, h => by
    simp only [fok, Bool.and_eq_true, decide_eq_true_eq] at h ⊢
    exact ⟨⟨by omega, h.1.2⟩, foks_mono (by omega) h.2⟩
  | .disj fs, d, e, l, h => by
    simp only [fok, Bool.and_eq_true, decide_eq_true_eq] at h ⊢
    exact ⟨⟨by omega, h.1.2⟩, foks_mono (by omega) h.2⟩
  | .ex x f, d, e, l, h => by
    simp only [fok, Bool.and_eq_true, decide_eq_true_eq] at h ⊢
    exact ⟨⟨by omega, h.1.2⟩, fok_mono (by omega) h.2⟩
  | .al x f, d, e, l, h => by
    simp only [fok, Bool.and_eq_true, decide_eq_true_eq] at h ⊢
    exact ⟨⟨by omega, h.1.2⟩, fok_mono (by omega) h.2⟩
  | .lea m x f, d, e, l, h => by
    simp only [fok, Bool.and_eq_true, decide_eq_true_eq] at h ⊢
    exact ⟨⟨⟨⟨by omega, h.1.1.1.2⟩, h.1.1.2⟩, h.1.2⟩, fok_mono (by omega) h.2⟩
theorem foks_mono {t b : Nat} : ∀ {fs : List Fm} {d e : Nat}, d ≤ e → foks t b d fs = true → foks t b e fs = true
  | [], _, _, _, _ => rfl
  | f :: fs, d, e, l, h => by
    simp only [foks, Bool.and_eq_true] at h ⊢
    exact ⟨fok_mono l h.1, foks_mono l h.2⟩
end
mutual
theorem fr_lt {t b : Nat} : ∀ {f : Fm} {d : Nat}, fok t b d f = true → ∀ x ∈ fr f, x < t
  | .tru, _, _, x, h => by simp [fr] at h
  | .fls, _, _, x, h => by simp [fr] at h
  | .same _ _, _, h, x, hx => by simp [fok, fr] at h hx; omega
  | .mark _ _, _, h, x, hx => by simp [fok, fr] at h hx; omega
  | .arr _ _, _, h, x, hx => by simp [fok, fr] at h hx; omega
  | .neg f, d, h, x, hx => by simp only [fok, Bool.and_eq_true] at h; exact fr_lt h.2 x hx
  | .conj fs, d, h, x, hx => by simp only [fok, Bool.and_eq_true] at h; exact frs_lt h.2 x hx
  | .disj fs, d, h, x, hx => by simp only [fok, Bool.and_eq_true] at h; exact frs_lt h.2 x hx
  | .ex y f, d, h, x, hx => by simp only [fok, Bool.and_eq_true] at h; exact fr_lt h.2 x (List.mem_filter.mp hx).1
  | .al y f, d, h, x, hx => by simp only [fok, Bool.and_eq_true] at h; exact fr_lt h.2 x (List.mem_filter.mp hx).1
  | .lea m y f, d, h, x, hx => by simp only [fok, Bool.and_eq_true] at h; exact fr_lt h.2 x (List.mem_filter.mp hx).1
theorem frs_lt {t b : Nat} : ∀ {fs : List Fm} {d : Nat}, foks t b d fs = true → ∀ x ∈ frs fs, x < t
  | [], _, _, x, hx => by simp [frs] at hx
  | f :: fs, d, h, x, hx => by
    simp only [foks, Bool.and_eq_true] at h
    simp only [frs, List.mem_append] at hx
    rcases hx with hx | hx
    · exact fr_lt h.1 x hx
    · exact frs_lt h.2 x hx
end
mutual
theorem fr_len {t b : Nat} : ∀ {f : Fm} {d : Nat}, fok t b d f = true → (fr f).length ≤ 2 * 3 ^ d
  | .tru, d, _ => by simp [fr]
  | .fls, d, _ => by simp [fr]
  | .same _ _, d, _ => by have := Nat.pow_pos (n := d) (show 0 < 3 by decide); simp [fr]; omega
  | .mark _ _, d, _ => by have := Nat.pow_pos (n := d) (show 0 < 3 by decide); simp [fr]; omega
  | .arr _ _, d, _ => by have := Nat.pow_pos (n := d) (show 0 < 3 by decide); simp [fr]; omega
  | .neg f, d, h => by
    simp only [fok, Bool.and_eq_true] at h
    have := fr_len h.2
    have := Nat.pow_le_pow_right (show 0 < 3 by decide) (Nat.sub_le d 1)
    simp only [fr]; omega
  | .conj fs, d, h => by
    simp only [fok, Bool.and_eq_true, decide_eq_true_eq] at h
    have h1 := frs_len h.2
    obtain ⟨e, rfl⟩ : ∃ e, d = e + 1 := ⟨d - 1, by omega⟩
    simp only [Nat.add_sub_cancel] at h1
    rw [Nat.pow_succ]
    have := Nat.mul_le_mul_right (2 * 3 ^ e) h.1.2
    simp only [fr]; omega
  | .disj fs, d, h => by
    simp only [fok, Bool.and_eq_true, decide_eq_true_eq] at h
    have h1 := frs_len h.2
    obtain ⟨e, rfl⟩ : ∃ e, d = e + 1 := ⟨d - 1, by omega⟩
    simp only [Nat.add_sub_cancel] at h1
    rw [Nat.pow_succ]
    have := Nat.mul_le_mul_right (2 * 3 ^ e) h.1.2
    simp only [fr]; omega
  | .ex y f, d, h => by
    simp only [fok, Bool.and_eq_true] at h
    have := fr_len h.2
    have := Nat.pow_le_pow_right (show 0 < 3 by decide) (Nat.sub_le d 1)
    have := List.length_filter_le (fun z => !decide (z = y)) (fr f)
    simp only [fr]; omega
  | .al y f, d, h => by
    simp only [fok, Bool.and_eq_true] at h
    have := fr_len h.2
    have := Nat.pow_le_pow_right (show 0 < 3 by decide) (Nat.sub_le d 1)
    have := List.length_filter_le (fun z => !decide (z = y)) (fr f)
    simp only [fr]; omega
  | .lea m y f, d, h => by
    simp only [fok, Bool.and_eq_true] at h
    have := fr_len h.2
    have := Nat.pow_le_pow_right (show 0 < 3 by decide) (Nat.sub_le d 1)
    have := List.length_filter_le (fun z => !decide (z = y)) (fr f)
    simp only [fr]; omega
theorem frs_len {t b : Nat} : ∀ {fs : List Fm} {d : Nat}, foks t b d fs = true → (frs fs).length ≤ fs.length * (2 * 3 ^ d)
  | [], _, _ => by simp [frs]
  | f :: fs, d, h => by
    simp only [foks, Bool.and_eq_true] at h
    have h1 := fr_len h.1
    have h2 := frs_len h.2
    simp only [frs, List.length_append, List.length_cons, Nat.add_mul, Nat.one_mul]
    omega
end
/-! ### rows for names -/
/-- rows of items for the names, rising -/
structure Rws (n : Nat) (names : List Nat) (R : List Row) : Prop where
  lt : R.Pairwise mvOrd.lt
  mem : ∀ r ∈ R, r.length = names.length ∧ ∀ x ∈ r, x < n
/-- the rows say P -/
def Sem (n : Nat) (names : List Nat) (R : List Row) (P : Asg → Prop) : Prop := ∀ ρ : Asg, (∀ x, ρ x < n) → (names.map ρ ∈ R ↔ P ρ)
/-- a row as an assignment -/
def asg (names : List Nat) (r : Row) : Asg := fun x => r.getD (names.idxOf x) 0
theorem idxOf_at : ∀ {l : List Nat} {i : Nat}, l.Nodup → (h : i < l.length) → l.idxOf l[i] = i
  | [], _, _, h => by simp at h
  | x :: l, 0, _, _ => by simp [List.idxOf_cons]
  | x :: l, i + 1, hn, h => by
    rw [List.nodup_cons] at hn
    have hi : i < l.length := by simpa using h
    have ne : (x == l[i]) = false := by
      rw [beq_eq_false_iff_ne]
      intro e
      exact hn.1 (e ▸ List.getElem_mem hi)
    simp only [List.getElem_cons_succ, List.idxOf_cons, ne, idxOf_at hn.2 hi]
    rfl
theorem asg_map {names : List Nat} {r : Row} (hn : names.Nodup) (hl : r.length = names.length) : names.map (asg names r) = r := by
  refine List.ext_getElem (by simp [hl]) fun i h1 h2 => ?_
  simp only [List.getElem_map, asg]
  have : names.idxOf (names[i]'(by simpa using h1)) = i := idxOf_at hn (by simpa using h1)
  rw [this]
  simp [h2]
theorem asg_lt {names : List Nat} {r : Row} {n : Nat} (hpos : 1 ≤ n) (h : ∀ x ∈ r, x < n) (x : Nat) : asg names r x < n := by
  unfold asg
  by_cases hi : names.idxOf x < r.length
  · rw [List.getD_eq_getElem?_getD, List.getElem?_eq_getElem hi]
    exact h _ (List.getElem_mem hi)
  · rw [List.getD_eq_getElem?_getD, List.getElem?_eq_none (by omega)]
    exact hpos
theorem Rws.len {n : Nat} {names : List Nat} {R : List Row} (h : Rws n names R) : R.length ≤ n ^ names.length := by
  have := len_sub R (tps n names.length) (mvOrd.nodup h.lt) fun r hr => mem_tps.mpr (h.mem r hr)
  rwa [len_tps] at this
theorem Rws.uniq {n : Nat} {names : List Nat} {R S : List Row} {P Q : Asg → Prop} (hpos : 1 ≤ n) (hn : names.Nodup) (h1 : Rws n names R) (h2 : Rws n names S) (s1 : Sem n names R P) (s2 : Sem n names S Q) (e : ∀ ρ : Asg, (∀ x, ρ x < n) → (P ρ ↔ Q ρ)) : R = S := by
  have key : ∀ {R S : List Row} {P Q : Asg → Prop}, Rws n names R → Sem n names R P → Sem n names S Q → (∀ ρ : Asg, (∀ x, ρ x < n) → (P ρ ↔ Q ρ)) → ∀ r ∈ R, r ∈ S := by
    intro R S P Q h1 s1 s2 e r hr
    obtain ⟨hl, hb⟩ := h1.mem r hr
    have ha := fun x => asg_lt (names := names) hpos hb x
    have := (s1 (asg names r) ha).mp (by rw [asg_map hn hl]; exact hr)
    have := (s2 (asg names r) ha).mpr ((e _ ha).mp this)
    rwa [asg_map hn hl] at this
  exact mvOrd.uniq h1.lt h2.lt fun a => ⟨key h1 s1 s2 e a, key h2 s2 s1 (fun ρ hρ => (e ρ hρ).symm) a⟩
/-- a sorted list of rows that says P -/
theorem Rws.sort {n : Nat} {names : List Nat} {R : List Row} (hn : R.Nodup) (hm : ∀ r ∈ R, r.length = names.length ∧ ∀ x ∈ r, x < n) : Rws n names (R.mergeSort rle) := ⟨mvOrd.sorts R hn, fun r hr => hm r (mem_sort.mp hr)⟩
theorem Sem.sort {n : Nat} {names : List Nat} {R : List Row} {P : Asg → Prop} (h : Sem n names R P) : Sem n names (R.mergeSort rle) P := fun ρ hρ => by rw [mem_sort]; exact h ρ hρ
theorem Rws.filter {n : Nat} {names : List Nat} (p : Row → Bool) : Rws n names ((tps n names.length).filter p) := ⟨(tps_lt n _).filter _, fun r hr => mem_tps.mp (List.mem_filter.mp hr).1⟩
theorem Sem.filter {n : Nat} {names : List Nat} {p : Row → Bool} {P : Asg → Prop} (h : ∀ ρ : Asg, (∀ x, ρ x < n) → (p (names.map ρ) = true ↔ P ρ)) : Sem n names ((tps n names.length).filter p) P := fun ρ hρ => by
  rw [List.mem_filter, mem_tps, ← h ρ hρ]
  constructor
  · exact fun z => z.2
  · refine fun z => ⟨⟨by simp, fun x hx => ?_⟩, z⟩
    obtain ⟨y, _, rfl⟩ := List.mem_map.mp hx
    exact hρ y
end MX
/-! Pure runs: bodies, statement by statement. -/
namespace MX
open MP
open PySem (Str)
theorem Wp_seq {gl : Nat → Option PV} {call : CallT} {wf : Nat} {s r : MS} {env : FEnv} {hp : Hs} {Q : Flow × FEnv × Hs → Prop} (P : FEnv → Hs → Prop)
    (h1 : Wp (exec gl call wf s env hp) fun x => x.1 = .nx ∧ P x.2.1 x.2.2) (h2 : ∀ env hp, P env hp → Wp (exec gl call wf r env hp) Q) : Wp (exec gl call wf (.cons s r) env hp) Q := by
  obtain ⟨⟨f, e, h⟩, he, h3, h4⟩ := h1
  simp only at h3 h4
  subst h3
  rw [exec_cons, he]
  exact h2 e h h4
/-- one env behind a statement -/
theorem Wp_seq1 {gl : Nat → Option PV} {call : CallT} {wf : Nat} {s r : MS} {env env' : FEnv} {hp hp' : Hs} {Q : Flow × FEnv × Hs → Prop}
    (h1 : Wp (exec gl call wf s env hp) fun x => x = (.nx, env', hp')) (h2 : Wp (exec gl call wf r env' hp') Q) : Wp (exec gl call wf (.cons s r) env hp) Q := by
  obtain ⟨x, he, rfl⟩ := h1
  rw [exec_cons, he]
  exact h2
/-- a statement that may end the body -/
theorem Wp_seqR {gl : Nat → Option PV} {call : CallT} {wf : Nat} {s r : MS} {env : FEnv} {hp : Hs} {Q : Flow × FEnv × Hs → Prop}
    (h1 : Wp (exec gl call wf s env hp) fun x => match x.1 with
      | .nx => Wp (exec gl call wf r x.2.1 x.2.2) Q | _ => Q x) : Wp (exec gl call wf (.cons s r) env hp) Q := by
  obtain ⟨⟨f, e, h⟩, he, h3⟩ := h1
  rw [exec_cons, he]
  cases f with
  | nx => exact h3
  | _ => exact ⟨_, rfl, h3⟩
end MX
namespace MX
open MP
open PySem (Str)
def W6 : List String := ["not", "and", "or", "some", "all", "least"]
mutual
/-- made with these words -/
def wok (ws : List String) : Fm → Bool
  | .tru => true | .fls => true | .same _ _ => true | .mark _ _ => true | .arr _ _ => true
  | .neg f => ws.contains "not" && wok ws f | .conj fs => ws.contains "and" && woks ws fs | .disj fs => ws.contains "or" && woks ws fs
  | .ex _ f => ws.contains "some" && wok ws f | .al _ f => ws.contains "all" && wok ws f | .lea _ _ f => ws.contains "least" && wok ws f
def woks (ws : List String) : List Fm → Bool
  | [] => true
  | f :: fs => wok ws f && woks ws fs
end
theorem woks_all (ws : List String) : ∀ fs : List Fm, woks ws fs = fs.all (wok ws)
  | [] => rfl
  | f :: fs => by rw [woks, woks_all ws fs, List.all_cons]
end MX
namespace MX
open MP
open PySem (Str)
/-- names of its own, the bound name, the parts -/
def ow : Fm → List Nat
  | .same x y => [x, y] | .arr x y => [x, y] | .mark _ x => [x] | _ => []
def bdn : Fm → Option Nat
  | .ex x _ => some x | .al x _ => some x | .lea _ x _ => some x | _ => none
def pts : Fm → List Fm
  | .neg f => [f] | .conj fs => fs | .disj fs => fs | .ex _ f => [f] | .al _ f => [f] | .lea _ _ f => [f] | _ => []
def bok (f : Fm) (y : Nat) : Bool := !decide (bdn f = some y)
theorem fr_eq (f : Fm) : fr f = ow f ++ (pts f).flatMap fun g => (fr g).filter (bok f) := by
  have h0 : ∀ (g : Fm) (f : Fm), bdn f = none → (fr g).filter (bok f) = fr g := fun g f h => by
    rw [List.filter_eq_self]; intro a _; simp [bok, h]
  have h1 : ∀ (g f : Fm) (x : Nat), bdn f = some x → (fr g).filter (bok f) = (fr g).filter fun y => !decide (y = x) := fun g f x h => by
    congr 1; funext y; simp [bok, h, eq_comm]
  cases f with
  | conj fs =>
    have : (fun g => (fr g).filter (bok (.conj fs))) = fr := by funext g; exact h0 g _ rfl
    show frs fs = [] ++ fs.flatMap _
    rw [this, frs_flat, List.nil_append]
  | disj fs =>
    have : (fun g => (fr g).filter (bok (.disj fs))) = fr := by funext g; exact h0 g _ rfl
    show frs fs = [] ++ fs.flatMap _
    rw [this, frs_flat, List.nil_append]
  | neg f => simp [fr, ow, pts, h0 f (.neg f) rfl]
  | ex x f => simp [fr, ow, pts, h1 f (.ex x f) x rfl]
  | al x f => simp [fr, ow, pts, h1 f (.al x f) x rfl]
  | lea m x f => simp [fr, ow, pts, h1 f (.lea m x f) x rfl]
  | _ => simp [fr, ow, pts]
theorem pts_ok {t b d : Nat} {f : Fm} (h : fok t b d f = true) : ∀ g ∈ pts f, 0 < d ∧ fok t b (d - 1) g = true := by
  intro g hg
  cases f <;> simp [pts] at hg <;> simp only [fok, Bool.and_eq_true, decide_eq_true_eq, foks_all, List.all_eq_true] at h
  · subst hg; exact h
  · exact ⟨h.1.1, h.2 g hg⟩
  · exact ⟨h.1.1, h.2 g hg⟩
  · subst hg; exact ⟨h.1.1, h.2⟩
  · subst hg; exact ⟨h.1.1, h.2⟩
  · subst hg; exact ⟨h.1.1.1.1, h.2⟩
theorem pts_len {t b d : Nat} {f : Fm} (h : fok t b d f = true) : (pts f).length ≤ 3 := by
  cases f <;> simp only [fok, Bool.and_eq_true, decide_eq_true_eq] at h <;> simp [pts] <;> omega
/-! ### sorting what is different -/
theorem uqf_sub {α : Type} [DecidableEq α] (xs acc : List α) : ∃ zs, zs.Sublist xs ∧ xs.foldl (fun l x => if x ∈ l then l else l ++ [x]) acc = acc ++ zs := by
  induction xs generalizing acc with
  | nil => exact ⟨[], .slnil, by simp⟩
  | cons x xs ih =>
    rw [List.foldl_cons]
    by_cases hx : x ∈ acc
    · rw [if_pos hx]
      obtain ⟨zs, h1, h2⟩ := ih acc
      exact ⟨zs, h1.cons x, h2⟩
    · rw [if_neg hx]
      obtain ⟨zs, h1, h2⟩ := ih (acc ++ [x])
      exact ⟨x :: zs, h1.cons_cons x, by rw [h2]; simp⟩
theorem uq_sub {α : Type} [DecidableEq α] (xs : List α) : (uq xs).Sublist xs := by
  obtain ⟨zs, h1, h2⟩ := uqf_sub xs []
  rw [uq, h2]; simpa using h1
theorem uq_snoc {α : Type} [DecidableEq α] (xs : List α) (x : α) : uq (xs ++ [x]) = if x ∈ uq xs then uq xs else uq xs ++ [x] := by
  show List.foldl _ [] (xs ++ [x]) = _
  rw [List.foldl_append]; rfl
theorem uq_sort {α : Type} [DecidableEq α] {enc : α → PV} {le : α → α → Bool} (O : OrdOk enc le) (xs : List α) : uq (xs.mergeSort le) = (uq xs).mergeSort le := by
  refine O.uniq ?_ (O.sorts _ (uq_nodup xs)) fun a => by rw [mem_uq, mem_sort, mem_sort, mem_uq]
  have h1 : (xs.mergeSort le).Pairwise fun a b => le a b = true := List.pairwise_mergeSort (fun a b c h g => O.trans a b c h g) (fun a b => by simpa using O.total a b) xs
  exact (List.Pairwise.sublist (uq_sub _) h1).and (uq_nodup _)
/-- a row of items, some places without one -/
def ov : Option Nat → PV
  | none => .non
  | some a => .int (a : Int)
theorem ovOk : EncOk ov 0 where
  dat a := by cases a <;> rfl
  dep a := by cases a <;> exact Nat.le_refl _
  eqv a b := by
    cases a <;> cases b
    · rfl
    · rfl
    · rfl
    · rename_i a b
      show (((a : Int)) == (b : Int)) = _
      rw [Bool.eq_iff_iff, beq_iff_eq, beq_iff_eq, Option.some.injEq]; omega
  lf a := by cases a <;> rfl
mutual
theorem lf_fv : ∀ f : Fm, (fv f).lf = true
  | .tru => rfl | .fls => rfl | .same _ _ => rfl | .mark _ _ => rfl | .arr _ _ => rfl
  | .neg f => by simp [fv, lf_fv f, sv]
  | .conj fs => by simp [fv, lf_fvs fs, sv]
  | .disj fs => by simp [fv, lf_fvs fs, sv]
  | .ex x f => by simp [fv, lf_fv f, sv]
  | .al x f => by simp [fv, lf_fv f, sv]
  | .lea m x f => by simp [fv, lf_fv f, sv]
theorem lf_fvs : ∀ fs : List Fm, lfAll (fvs fs) = true
  | [] => rfl
  | f :: fs => by simp [fvs, lf_fv f, lf_fvs fs]
end
@[simp] theorem lf_fv' (f : Fm) : (fv f).lf = true := lf_fv f
@[simp] theorem lfAll_fv (fs : List Fm) : lfAll (fs.map fv) = true := by rw [← fvs_map]; exact lf_fvs fs
end MX
namespace MX
open MP
def dropS : Nat → MS → MS
  | 0, s => s
  | n + 1, .cons _ r => dropS n r
  | _, _ => .nil
end MX
/-! Tables of formulas: the plain maths. -/
namespace MX
open MP
open PySem (Str)
theorem mkI1 {α : Type} (P : α → Prop) : ∃ I : α → Prop, ∀ a, I a ↔ P a := ⟨P, fun _ => Iff.rfl⟩
theorem mkI2 {α β : Type} (P : α → β → Prop) : ∃ I : α → β → Prop, ∀ a b, I a b ↔ P a b := ⟨P, fun _ _ => Iff.rfl⟩
@[simp] theorem lcB2_def (gl : Nat → Option PV) (call : CallT) (elt : ME) (t : Tg) (c : ME) (t1 : Tg) (k1 : Ik) (it1 c1 : ME) (env : Env) (x : PV) (hp : Hs) : lcB2 gl call elt t c t1 k1 it1 c1 env x hp = (setTg t x (wipeE env (t.slots ++ t1.slots))).bind fun env1 => bndB (ev gl call c env1 hp) fun b hp1 =>
    if b = true then bndL (wK k1 (ev gl call it1 env1 hp1) (evL gl call it1 env1 hp1)) fun xs1 hp2 => lcE (lcB gl call elt t1 c1 env1) xs1 hp2 else some ([], hp1) := rfl
@[simp] theorem atP_three {α : Type} (xs : List α) : atP xs 3 = xs[3]? := by simp [atP]
@[simp] theorem atP_four {α : Type} (xs : List α) : atP xs 4 = xs[4]? := by simp [atP]
abbrev Tb := List Nat × List Row
def tv (t : Tb) : PV := .tup [.tup (t.1.map nt), .tup (t.2.map mv)]
@[simp] theorem tv_eq (t : Tb) : tv t = .tup [.tup (t.1.map nt), .tup (t.2.map mv)] := rfl
/-- a table: rising names, rows for them -/
structure TOk (n t : Nat) (T : Tb) : Prop where
  nm : T.1.Pairwise (· < ·)
  lt : ∀ x ∈ T.1, x < t
  rw_ : Rws n T.1 T.2
def Say (n : Nat) (T : Tb) (P : Asg → Prop) : Prop := Sem n T.1 T.2 P
theorem TOk.nd {n t : Nat} {T : Tb} (h : TOk n t T) : T.1.Nodup := h.nm.imp fun z => Nat.ne_of_lt z
theorem TOk.nl {n t : Nat} {T : Tb} (h : TOk n t T) : T.1.length ≤ t := nodup_le h.nd h.lt
theorem TOk.rl {n t : Nat} {T : Tb} (h : TOk n t T) (hn : 1 ≤ n) : T.2.length ≤ n ^ t := Nat.le_trans h.rw_.len (Nat.pow_le_pow_right hn h.nl)
theorem su_p (xs : List Nat) : (su xs).Pairwise (· < ·) := (su_lt xs).imp fun h => nlt_iff.mp h
theorem getD_map (names : List Nat) (ρ : Asg) {x : Nat} (h : x ∈ names) : (names.map ρ).getD (names.idxOf x) 0 = ρ x := by
  have hi := List.idxOf_lt_length_of_mem h
  rw [List.getD_eq_getElem?_getD, List.getElem?_map, List.getElem?_eq_getElem hi]
  simp
theorem asg_of_map (names : List Nat) (ρ : Asg) {x : Nat} (h : x ∈ names) : asg names (names.map ρ) x = ρ x := getD_map names ρ h
theorem map_congr' {names : List Nat} {ρ σ : Asg} : names.map ρ = names.map σ ↔ ∀ x ∈ names, ρ x = σ x := List.map_inj_left
/-! ### all rows that a law keeps -/
def keepT (n : Nat) (names : List Nat) (p : Row → Bool) : Tb := (names, (tps n names.length).filter p)
theorem keep_rws (n : Nat) (names : List Nat) (p : Row → Bool) : Rws n names (keepT n names p).2 := Rws.filter p
/-! ### two tables with the same names that say the same -/
theorem tb_eq {n : Nat} {S T : Tb} {P Q : Asg → Prop} (hn : 1 ≤ n) (e : S.1 = T.1) (nd : S.1.Nodup) (h1 : Rws n S.1 S.2) (h2 : Rws n T.1 T.2) (s1 : Sem n S.1 S.2 P) (s2 : Sem n T.1 T.2 Q) (h : ∀ ρ : Asg, (∀ x, ρ x < n) → (P ρ ↔ Q ρ)) : S = T := by
  obtain ⟨a, b⟩ := S
  obtain ⟨c, d⟩ := T
  simp only at e nd h1 h2 s1 s2
  subst e
  rw [Rws.uniq hn nd h1 h2 s1 s2 h]
/-! ### rows put together of two -/
/-- a row for the names out of two rows -/
def mix (names one two : List Nat) (r o : Row) : Row := names.map fun x => if x ∈ one then r.getD (one.idxOf x) 0 else o.getD (two.idxOf x) 0
theorem mix_map {names one two : List Nat} (h : ∀ x ∈ names, x ∈ one ∨ x ∈ two) (ρ : Asg) : mix names one two (one.map ρ) (two.map ρ) = names.map ρ := by
  refine List.map_congr_left fun x hx => ?_
  split
  · rename_i h1; exact getD_map one ρ h1
  · rename_i h1
    exact getD_map two ρ ((h x hx).resolve_left h1)
theorem mix_len (names one two : List Nat) (r o : Row) : (mix names one two r o).length = names.length := by simp [mix]
theorem mix_lt {n : Nat} (hn : 1 ≤ n) {names one two : List Nat} {r o : Row} (hr : ∀ x ∈ r, x < n) (ho : ∀ x ∈ o, x < n) : ∀ x ∈ mix names one two r o, x < n := by
  intro x hx
  obtain ⟨y, _, rfl⟩ := List.mem_map.mp hx
  split
  · exact asg_lt hn hr y
  · exact asg_lt hn ho y
/-- the first row is found again -/
theorem mix_one {names one two : List Nat} {r o : Row} (hn : one.Nodup) (hs : ∀ x ∈ one, x ∈ names) (hl : r.length = one.length) {ρ : Asg} (h : names.map ρ = mix names one two r o) : one.map ρ = r := by
  have : ∀ x ∈ names, ρ x = if x ∈ one then r.getD (one.idxOf x) 0 else o.getD (two.idxOf x) 0 := List.map_inj_left.mp h
  rw [← asg_map hn hl]
  refine List.map_congr_left fun x hx => ?_
  rw [this x (hs x hx), if_pos hx]; rfl
theorem mix_two {names one two : List Nat} {r o : Row} (hn : two.Nodup) (hs : ∀ x ∈ two, x ∈ names) (hl : o.length = two.length) (hc : ∀ x ∈ two, x ∈ one → r.getD (one.idxOf x) 0 = o.getD (two.idxOf x) 0) {ρ : Asg} (h : names.map ρ = mix names one two r o) : two.map ρ = o := by
  have : ∀ x ∈ names, ρ x = if x ∈ one then r.getD (one.idxOf x) 0 else o.getD (two.idxOf x) 0 := List.map_inj_left.mp h
  rw [← asg_map hn hl]
  refine List.map_congr_left fun x hx => ?_
  rw [this x (hs x hx)]
  split
  · rename_i h1; exact hc x hx h1
  · rfl
/-- the rows of two tables, put together -/
def join2 (names : List Nat) (S T : Tb) (p : Row → Row → Bool) : List Row := S.2.flatMap fun r => (T.2.filter (p r)).map fun o => mix names S.1 T.1 r o
theorem join2_ok {n : Nat} (hn : 1 ≤ n) {names : List Nat} {S T : Tb} {p : Row → Row → Bool} (nn : names.Nodup) (n1 : S.1.Nodup) (n2 : T.1.Nodup) (h1 : Rws n S.1 S.2) (h2 : Rws n T.1 T.2) (s1 : ∀ x ∈ S.1, x ∈ names) (s2 : ∀ x ∈ T.1, x ∈ names) (sn : ∀ x ∈ names, x ∈ S.1 ∨ x ∈ T.1)
    (hp : ∀ r ∈ S.2, ∀ o ∈ T.2, p r o = true ↔ ∀ x ∈ T.1, x ∈ S.1 → r.getD (S.1.idxOf x) 0 = o.getD (T.1.idxOf x) 0) :
    (join2 names S T p).Nodup ∧ (∀ r ∈ join2 names S T p, r.length = names.length ∧ ∀ x ∈ r, x < n) ∧ Sem n names (join2 names S T p) fun ρ => S.1.map ρ ∈ S.2 ∧ T.1.map ρ ∈ T.2 := by
  have back : ∀ {r o q : Row}, r ∈ S.2 → o ∈ T.2 → p r o = true → q = mix names S.1 T.1 r o → S.1.map (asg names q) = r ∧ T.1.map (asg names q) = o := by
    intro r o q hr ho hpo e
    have hl : q.length = names.length := by rw [e, mix_len]
    have e2 : names.map (asg names q) = mix names S.1 T.1 r o := by rw [asg_map nn hl, e]
    exact ⟨mix_one n1 s1 (h1.mem r hr).1 e2, mix_two n2 s2 (h2.mem o ho).1 ((hp r hr o ho).mp hpo) e2⟩
  refine ⟨?_, fun q hq => ?_, fun ρ hρ => ?_⟩
  · unfold join2
    rw [List.nodup_iff_pairwise_ne, List.pairwise_flatMap]
    refine ⟨fun r hr => ?_, ?_⟩
    · rw [List.pairwise_map]
      refine List.Pairwise.imp_of_mem ?_ (List.Pairwise.filter (p r) (mvOrd.nodup h2.lt))
      intro o o' ho ho' hne e
      have b1 := back hr (List.mem_filter.mp ho).1 (List.mem_filter.mp ho).2 rfl
      have b2 := back hr (List.mem_filter.mp ho').1 (List.mem_filter.mp ho').2 e
      exact hne (b1.2.symm.trans b2.2)
    · refine List.Pairwise.imp_of_mem ?_ (mvOrd.nodup h1.lt)
      intro r r' hr hr' hne q hq q' hq' e
      obtain ⟨o, ho, rfl⟩ := List.mem_map.mp hq
      obtain ⟨o', ho', rfl⟩ := List.mem_map.mp hq'
      have b1 := back hr (List.mem_filter.mp ho).1 (List.mem_filter.mp ho).2 rfl
      have b2 := back hr' (List.mem_filter.mp ho').1 (List.mem_filter.mp ho').2 e
      exact hne (b1.1.symm.trans b2.1)
  · simp only [join2, List.mem_flatMap, List.mem_map] at hq
    obtain ⟨r, hr, o, ho, rfl⟩ := hq
    exact ⟨mix_len .., mix_lt hn (h1.mem r hr).2 (h2.mem o (List.mem_filter.mp ho).1).2⟩
  · simp only [join2, List.mem_flatMap, List.mem_map, List.mem_filter]
    constructor
    · rintro ⟨r, hr, o, ⟨ho, hpo⟩, e⟩
      rw [mix_one n1 s1 (h1.mem r hr).1 e.symm, mix_two n2 s2 (h2.mem o ho).1 ((hp r hr o ho).mp hpo) e.symm]
      exact ⟨hr, ho⟩
    · rintro ⟨hr, ho⟩
      refine ⟨_, hr, _, ⟨ho, ?_⟩, mix_map sn ρ⟩
      rw [hp _ hr _ ho]
      intro x hx2 hx1
      rw [getD_map _ _ hx1, getD_map _ _ hx2]
/-! ### one name left out -/
def cutR (at_ : Nat) (r : Row) : Row := r.take at_ ++ r.drop (at_ + 1)
theorem cut_map (names : List Nat) (i : Nat) (ρ : Asg) : cutR i (names.map ρ) = (cutR i names).map ρ := by simp [cutR, List.map_take, List.map_drop]
theorem cut_filter : ∀ {names : List Nat} {x : Nat}, names.Nodup → x ∈ names → cutR (names.idxOf x) names = names.filter fun y => !decide (y = x)
  | [], x, _, h => by simp at h
  | y :: ys, x, hn, h => by
    rw [List.nodup_cons] at hn
    by_cases e : y = x
    · subst e
      have : ys.filter (fun z => !decide (z = y)) = ys := by
        rw [List.filter_eq_self]; intro a ha; simp; rintro rfl; exact hn.1 ha
      simp [cutR, List.idxOf_cons, this]
    · have hx : x ∈ ys := (List.mem_cons.mp h).resolve_left fun z => e z.symm
      have ih := cut_filter hn.2 hx
      have hb : (y == x) = false := by simp [e]
      simp only [cutR] at ih
      simp [cutR, List.idxOf_cons, hb, e, ih]
theorem cut_len {r : Row} {i : Nat} (h : i < r.length) : (cutR i r).length = r.length - 1 := by simp [cutR]; omega
theorem cut_eq_iff {r q : Row} {i : Nat} (h : i < r.length) (hl : r.length = q.length) : cutR i r = cutR i q ∧ r.getD i 0 = q.getD i 0 ↔ r = q := by
  constructor
  · rintro ⟨h1, h2⟩
    have e1 : r.take i = q.take i := by
      have := congrArg (List.take i) h1
      simpa [cutR, List.take_append, Nat.le_of_lt h, show min i q.length = i by omega, show min i r.length = i by omega] using this
    have e2 : r.drop (i + 1) = q.drop (i + 1) := by
      have := congrArg (List.drop i) h1
      simpa [cutR, List.drop_append, show min i q.length = i by omega, show min i r.length = i by omega] using this
    have hq : i < q.length := by omega
    rw [List.getD_eq_getElem?_getD, List.getD_eq_getElem?_getD, List.getElem?_eq_getElem h, List.getElem?_eq_getElem hq] at h2
    rw [← List.take_append_drop i r, ← List.take_append_drop i q, e1, List.drop_eq_getElem_cons h, List.drop_eq_getElem_cons hq, e2]
    simp at h2
    rw [h2]
  · rintro rfl; exact ⟨rfl, rfl⟩
/-- as many rows as items at the name -/
theorem count_rows {n : Nat} {names : List Nat} {R : List Row} (hR : Rws n names R) (hn : names.Nodup) {x : Nat} (hx : x ∈ names) (ρ : Asg) (hρ : ∀ y, ρ y < n) :
    (R.filter fun r => decide (cutR (names.idxOf x) r = (cutR (names.idxOf x) names).map ρ)).length = (List.range n).countP fun a => decide (names.map (up ρ x a) ∈ R) := by
  have hi := List.idxOf_lt_length_of_mem hx
  have key : ((R.filter fun r => decide (cutR (names.idxOf x) r = (cutR (names.idxOf x) names).map ρ)).map fun r => r.getD (names.idxOf x) 0).Perm ((List.range n).filter fun a => decide (names.map (up ρ x a) ∈ R)) := by
    rw [List.perm_ext_iff_of_nodup]
    · intro a
      simp only [List.mem_map, List.mem_filter, List.mem_range, decide_eq_true_eq]
      have cutup : ∀ a, cutR (names.idxOf x) (names.map (up ρ x a)) = (cutR (names.idxOf x) names).map ρ := fun a => by
        rw [cut_map, cut_filter hn hx]
        refine List.map_congr_left fun y hy => ?_
        have := (List.mem_filter.mp hy).2
        simp at this
        simp [up, this]
      have atup : ∀ a, (names.map (up ρ x a)).getD (names.idxOf x) 0 = a := fun a => by rw [getD_map _ _ hx]; simp [up]
      constructor
      · rintro ⟨r, ⟨hr, hc⟩, rfl⟩
        have hl := (hR.mem r hr).1
        have e : r = names.map (up ρ x (r.getD (names.idxOf x) 0)) := by
          refine (cut_eq_iff (i := names.idxOf x) (by omega) (by simp [hl])).mp ⟨?_, ?_⟩
          · rw [hc, cutup]
          · rw [atup]
        refine ⟨?_, by rw [← e]; exact hr⟩
        have hir : names.idxOf x < r.length := by omega
        rw [List.getD_eq_getElem?_getD, List.getElem?_eq_getElem hir]
        exact (hR.mem r hr).2 _ (List.getElem_mem hir)
      · rintro ⟨ha, hm⟩
        exact ⟨_, ⟨hm, cutup a⟩, atup a⟩
    · rw [List.nodup_iff_pairwise_ne, List.pairwise_map]
      refine List.Pairwise.imp_of_mem ?_ (List.Pairwise.filter _ (mvOrd.nodup hR.lt))
      intro r q hr hq hne e
      have hr := List.mem_filter.mp hr
      have hq := List.mem_filter.mp hq
      have l1 := (hR.mem r hr.1).1
      have l2 := (hR.mem q hq.1).1
      have c1 : cutR (names.idxOf x) r = _ := of_decide_eq_true hr.2
      have c2 : cutR (names.idxOf x) q = _ := of_decide_eq_true hq.2
      exact hne ((cut_eq_iff (i := names.idxOf x) (by omega) (by omega)).mp ⟨c1.trans c2.symm, e⟩)
    · exact List.Pairwise.filter _ List.nodup_range
  have := key.length_eq
  rw [List.length_map] at this
  rw [List.countP_eq_length_filter]
  exact this
/-! ### shared lists walked; calls that leave new shared lists behind -/
theorem Wp_forS {α : Type} {enc : α → PV} {tg : Tg} {body : FEnv → Hs → XR} {Q : Flow × FEnv × Hs → Prop} {n : Nat} {xs : List α} (I : List α → List α → FEnv → Hs → Prop) (hI : ∀ done rest env h, I done rest env h → h[n]? = some (.lst (xs.map enc)) ∧ done ++ rest = xs)
    (step : ∀ done x rest env hp, I done (x :: rest) env hp → Wp ((setF tg (enc x) env).bind fun env1 => body env1 hp) fun r => match r.1 with
      | .nx => I (done ++ [x]) rest r.2.1 r.2.2 | .ct => I (done ++ [x]) rest r.2.1 r.2.2 | .bk => Q (.nx, r.2.1, r.2.2) | .rt v => Q (.rt v, r.2.1, r.2.2)) :
    ∀ (rest done : List α) (fuel : Nat) (env : FEnv) (hp : Hs), rest.length < fuel → I done rest env hp → (∀ env hp, I (done ++ rest) [] env hp → Q (.nx, env, hp)) → Wp (forS tg body n fuel done.length env hp) Q
  | rest, done, 0, env, hp, hf, _, _ => absurd hf (Nat.not_lt_zero _)
  | [], done, fuel + 1, env, hp, _, h, fin => by
    obtain ⟨h1, h2⟩ := hI _ _ _ _ h
    rw [List.append_nil] at h2 fin
    unfold forS
    rw [h1]
    subst h2
    have : (done.map enc)[done.length]? = none := List.getElem?_eq_none (by simp)
    simp only [this]
    exact ⟨_, rfl, fin _ _ h⟩
  | x :: rest, done, fuel + 1, env, hp, hf, h, fin => by
    obtain ⟨h1, h2⟩ := hI _ _ _ _ h
    unfold forS
    rw [h1]
    subst h2
    have : ((done ++ x :: rest).map enc)[done.length]? = some (enc x) := by simp
    simp only [this]
    have st := step done x rest env hp h
    rw [Wp_bind] at st ⊢
    refine st.mono fun env1 h1 => ?_
    rw [Wp_bind]
    refine Wp.mono h1 fun r hr => ?_
    obtain ⟨f, e2, hh2⟩ := r
    have el : done.length + 1 = (done ++ [x]).length := by simp
    cases f with
    | nx =>
      show Wp (forS tg body n fuel (done.length + 1) e2 hh2) Q
      rw [el]
      exact Wp_forS I hI step rest (done ++ [x]) fuel e2 hh2 (by simpa using hf) hr (by simpa using fin)
    | ct =>
      show Wp (forS tg body n fuel (done.length + 1) e2 hh2) Q
      rw [el]
      exact Wp_forS I hI step rest (done ++ [x]) fuel e2 hh2 (by simpa using hf) hr (by simpa using fin)
    | bk => exact ⟨_, rfl, hr⟩
    | rt v => exact ⟨_, rfl, hr⟩
theorem call_trim {G : Gl} {k f : Nat} {args : List PV} {hp : Hs} {fd : Fd} {v : Rv} (h : G.fns f = some fd) (hd : fd.dfl = []) (hn : args.length = fd.np) (hb : rbAll hp.length hp = true) (hv : v.2.rb hp.length = true)
    (w : Wp (exec G.cst (callF G k) WF fd.body ((args.map fun v => some (false, v)) ++ List.replicate (fd.ns - fd.np) none) hp) fun r => r.1 = .rt v ∧ ∃ ex, r.2.2 = hp ++ ex) : callF G (k + 1) f args hp = some (v, hp) := by
  obtain ⟨⟨f1, e1, h1⟩, e, rfl, ex, rfl⟩ := w
  rw [callF_def h hd hn, e]
  show some (trim hp.length v (hp ++ ex)) = _
  unfold trim
  by_cases hl : (hp ++ ex).length = hp.length
  · have : ex = [] := by
      rw [List.length_append] at hl
      exact List.length_eq_zero_iff.mp (by omega)
    subst this
    simp
  · rw [if_neg hl, List.take_left', if_pos (by simp [hb, hv])]
    rfl
theorem rbAll_iff (n : Nat) (xs : List PV) : rbAll n xs = true ↔ ∀ x ∈ xs, x.rb n = true := by
  induction xs with
  | nil => simp [rbAll]
  | cons x xs ih => simp [rbAll, ih]
theorem rb_mv (n : Nat) (r : Row) : (mv r).rb n = true := (rbAll_iff n _).mpr fun x hx => by obtain ⟨a, _, rfl⟩ := List.mem_map.mp hx; rfl
theorem rb_tv (n : Nat) (T : Tb) : (tv T).rb n = true := by
  show rbAll n [.tup (T.1.map nt), .tup (T.2.map mv)] = true
  rw [rbAll_iff]
  intro x hx
  simp at hx
  rcases hx with rfl | rfl
  · exact rb_mv n T.1
  · exact (rbAll_iff n _).mpr fun x hx => by obtain ⟨a, _, rfl⟩ := List.mem_map.mp hx; exact rb_mv n a
/-! ### rows by their keys -/
structure LInv (key : Row → Row) (L : List (Row × Nat)) (cells : List (List Row)) (done : List Row) : Prop where
  kn : (L.map (·.1)).Nodup
  ix : (L.map (·.2)).Nodup
  at_ : ∀ p ∈ L, cells[p.2]? = some (done.filter fun o => decide (key o = p.1))
  all : ∀ o ∈ done, key o ∈ L.map (·.1)
  len : L.length ≤ done.length
theorem LInv.nil (key : Row → Row) : LInv key [] [] [] := ⟨by simp, by simp, by simp, by simp, by simp⟩
theorem lookup_some {α β : Type} [BEq α] [LawfulBEq α] {L : List (α × β)} {a : α} {b : β} (h : L.lookup a = some b) : (a, b) ∈ L := by
  induction L with
  | nil => simp at h
  | cons p L ih =>
    obtain ⟨c, d⟩ := p
    rw [List.lookup_cons] at h
    split at h
    · rename_i e
      have : a = c := by simpa using e
      subst this
      simp at h
      simp [h]
    · exact List.mem_cons_of_mem _ (ih h)
theorem lookup_none {α β : Type} [BEq α] [LawfulBEq α] {L : List (α × β)} {a : α} (h : L.lookup a = none) : a ∉ L.map (·.1) := by
  induction L with
  | nil => simp
  | cons p L ih =>
    obtain ⟨c, d⟩ := p
    rw [List.lookup_cons] at h
    split at h
    · cases h
    · rename_i e
      have : ¬ a = c := by simpa using e
      simp only [List.map_cons, List.mem_cons, not_or]
      exact ⟨this, ih h⟩
theorem inj_of_nodup_map {α β : Type} {f : α → β} : ∀ {l : List α}, (l.map f).Nodup → ∀ {a b : α}, a ∈ l → b ∈ l → f a = f b → a = b
  | [], _, a, _, h, _, _ => by simp at h
  | x :: l, hn, a, b, ha, hb, e => by
    rw [List.map_cons, List.nodup_cons] at hn
    rcases List.mem_cons.mp ha with ea | ha
    · rcases List.mem_cons.mp hb with eb | hb
      · rw [ea, eb]
      · exact absurd (List.mem_map.mpr ⟨b, hb, by rw [← e, ea]⟩) hn.1
    · rcases List.mem_cons.mp hb with eb | hb
      · exact absurd (List.mem_map.mpr ⟨a, ha, by rw [e, eb]⟩) hn.1
      · exact inj_of_nodup_map hn.2 ha hb e
theorem LInv.old {key : Row → Row} {L : List (Row × Nat)} {cells : List (List Row)} {done : List Row} (h : LInv key L cells done) {row : Row} {i : Nat} (hm : (key row, i) ∈ L) {c : List Row} (hc : cells[i]? = some c) :
    LInv key L ((cells ++ [[]]).set i (c ++ [row])) (done ++ [row]) := by
  have hil : i < cells.length := (List.getElem?_eq_some_iff.mp hc).1
  refine ⟨h.kn, h.ix, fun p hp => ?_, fun o ho => ?_, by have := h.len; simp; omega⟩
  · have hp2 := h.at_ p hp
    by_cases e : p = (key row, i)
    · subst e
      simp only at hp2 ⊢
      rw [hc] at hp2
      rw [List.getElem?_set_self (by simp; omega), Option.some.inj hp2]
      simp
    · have ne1 : p.1 ≠ key row := fun e1 => e (by
        have := inj_of_nodup_map h.kn hp hm e1
        exact this)
      have ne2 : p.2 ≠ i := fun e1 => e (inj_of_nodup_map h.ix hp hm e1)
      rw [List.getElem?_set_ne (fun e => ne2 e.symm)]
      have hpl : p.2 < cells.length := (List.getElem?_eq_some_iff.mp hp2).1
      rw [List.getElem?_append_left hpl, hp2]
      simp [Ne.symm ne1]
  · rcases List.mem_append.mp ho with ho | ho
    · exact h.all o ho
    · simp at ho; subst ho
      exact List.mem_map.mpr ⟨_, hm, rfl⟩
theorem LInv.new {key : Row → Row} {L : List (Row × Nat)} {cells : List (List Row)} {done : List Row} (h : LInv key L cells done) {row : Row} (hm : key row ∉ L.map (·.1)) : LInv key (L ++ [(key row, cells.length)]) (cells ++ [[row]]) (done ++ [row]) := by
  refine ⟨?_, ?_, fun p hp => ?_, fun o ho => ?_, by have := h.len; simp; omega⟩
  · rw [List.map_append, List.nodup_append]
    exact ⟨h.kn, by simp, fun a ha b hb e => by simp at hb; subst hb; subst e; exact hm ha⟩
  · rw [List.map_append, List.nodup_append]
    refine ⟨h.ix, by simp, fun a ha b hb e => ?_⟩
    simp at hb
    obtain ⟨p, hp, rfl⟩ := List.mem_map.mp ha
    have := (List.getElem?_eq_some_iff.mp (h.at_ p hp)).1
    omega
  · rcases List.mem_append.mp hp with hp | hp
    · have hp2 := h.at_ p hp
      have hpl : p.2 < cells.length := (List.getElem?_eq_some_iff.mp hp2).1
      have ne1 : ¬ key row = p.1 := fun e => hm (e ▸ List.mem_map.mpr ⟨p, hp, rfl⟩)
      rw [List.getElem?_append_left hpl, hp2]
      simp [ne1]
    · simp at hp; subst hp
      have : done.filter (fun o => decide (key o = key row)) = [] := by
        rw [List.filter_eq_nil_iff]
        intro o ho e
        exact hm (of_decide_eq_true e ▸ h.all o ho)
      simp [this]
  · rcases List.mem_append.mp ho with ho | ho
    · simp only [List.map_append, List.mem_append]; exact .inl (h.all o ho)
    · simp at ho; subst ho; simp
/-! ### dicts that count -/
def updK {α β : Type} [DecidableEq α] (L : List (α × β)) (k : α) (v : β) : List (α × β) := if k ∈ L.map (·.1) then L.map fun p => if p.1 = k then (p.1, v) else p else L ++ [(k, v)]
theorem setKv_upd {α β : Type} [BEq α] [LawfulBEq α] [DecidableEq α] {enc : α → PV} {d : Nat} (E : EncOk enc d) (e2 : β → PV) (k : α) (v : β) : ∀ (L : List (α × β)), (L.map (·.1)).Nodup → setKv (enc k) (e2 v) (L.map fun p => (enc p.1, e2 p.2)) = (updK L k v).map fun p => (enc p.1, e2 p.2)
  | [], _ => rfl
  | p :: L, hn => by
    obtain ⟨a, b⟩ := p
    rw [List.map_cons, List.nodup_cons] at hn
    show (if eqP (enc a) (enc k) = true then (enc a, e2 v) :: L.map (fun p => (enc p.1, e2 p.2)) else (enc a, e2 b) :: setKv (enc k) (e2 v) (L.map fun p => (enc p.1, e2 p.2))) = _
    rw [E.eqv]
    by_cases h : a = k
    · subst h
      rw [if_pos (by simp)]
      have : L.map (fun p => if p.1 = a then (p.1, v) else p) = L := by
        conv => rhs; rw [← List.map_id L]
        refine List.map_congr_left fun p hp => ?_
        rw [if_neg]; rfl
        intro e; exact hn.1 (List.mem_map.mpr ⟨p, hp, e⟩)
      simp [updK, this]
    · have hb : (a == k) = false := by simp [h]
      rw [hb, if_neg (by simp), setKv_upd E e2 k v L hn.2]
      unfold updK
      by_cases hm : k ∈ L.map (·.1)
      · rw [if_pos hm, if_pos (by simp only [List.map_cons, List.mem_cons]; exact .inr hm)]
        simp [h]
      · rw [if_neg hm, if_neg (by simp only [List.map_cons, List.mem_cons, not_or]; exact ⟨fun e => h e.symm, hm⟩)]
        simp
structure CInv (key : Row → Row) (L : List (Row × Nat)) (done : List Row) : Prop where
  kn : (L.map (·.1)).Nodup
  cnt : ∀ p ∈ L, p.2 = (done.filter fun o => decide (key o = p.1)).length
  all : ∀ q, q ∈ L.map (·.1) ↔ ∃ o ∈ done, key o = q
  len : L.length ≤ done.length
theorem CInv.nil (key : Row → Row) : CInv key [] [] := ⟨by simp, by simp, by simp, by simp⟩
theorem updK_keys {α β : Type} [DecidableEq α] (L : List (α × β)) (k : α) (v : β) : (updK L k v).map (·.1) = if k ∈ L.map (·.1) then L.map (·.1) else L.map (·.1) ++ [k] := by
  unfold updK
  split
  · rw [List.map_map]
    refine List.map_congr_left fun p _ => ?_
    simp only [Function.comp]
    split <;> rfl
  · simp
theorem CInv.look {key : Row → Row} {L : List (Row × Nat)} {done : List Row} (h : CInv key L done) (q : Row) : (L.lookup q).getD 0 = (done.filter fun o => decide (key o = q)).length := by
  cases hl : L.lookup q with
  | some c =>
    have := h.cnt _ (lookup_some hl)
    simpa using this
  | none =>
    have hq := lookup_none hl
    have : done.filter (fun o => decide (key o = q)) = [] := by
      rw [List.filter_eq_nil_iff]
      intro o ho e
      exact hq ((h.all q).mpr ⟨o, ho, of_decide_eq_true e⟩)
    simp [this]
theorem CInv.step {key : Row → Row} {L : List (Row × Nat)} {done : List Row} (h : CInv key L done) (o : Row) : CInv key (updK L (key o) ((L.lookup (key o)).getD 0 + 1)) (done ++ [o]) := by
  have hk := updK_keys L (key o) ((L.lookup (key o)).getD 0 + 1)
  refine ⟨?_, fun p hp => ?_, fun q => ?_, ?_⟩
  · rw [hk]
    split
    · exact h.kn
    · rename_i hm
      rw [List.nodup_append]
      exact ⟨h.kn, by simp, fun a ha b hb e => by simp at hb; subst hb; subst e; exact hm ha⟩
  · rw [h.look] at hp
    have fa : (done ++ [o]).filter (fun o' => decide (key o' = p.1)) = done.filter (fun o' => decide (key o' = p.1)) ++ if key o = p.1 then [o] else [] := by
      rw [List.filter_append]
      by_cases e : key o = p.1 <;> simp [e]
    rw [fa, List.length_append]
    unfold updK at hp
    split at hp
    · obtain ⟨p0, hp0, rfl⟩ := List.mem_map.mp hp
      by_cases e : p0.1 = key o
      · simp [e]
      · have e' : ¬ key o = p0.1 := fun z => e z.symm
        simp [e, e', h.cnt p0 hp0]
    · rename_i hm
      rcases List.mem_append.mp hp with hp | hp
      · have e' : ¬ key o = p.1 := fun z => hm (z ▸ List.mem_map.mpr ⟨p, hp, rfl⟩)
        simp [e', h.cnt p hp]
      · simp at hp; subst hp; simp
  · rw [hk]
    constructor
    · intro hq
      split at hq
      · obtain ⟨o', ho', e⟩ := (h.all q).mp hq
        exact ⟨o', by simp [ho'], e⟩
      · rcases List.mem_append.mp hq with hq | hq
        · obtain ⟨o', ho', e⟩ := (h.all q).mp hq
          exact ⟨o', by simp [ho'], e⟩
        · simp at hq; exact ⟨o, by simp, hq.symm⟩
    · rintro ⟨o', ho', rfl⟩
      split
      · rename_i hm
        rcases List.mem_append.mp ho' with ho' | ho'
        · exact (h.all _).mpr ⟨o', ho', rfl⟩
        · simp at ho'; subst ho'; exact hm
      · rcases List.mem_append.mp ho' with ho' | ho'
        · exact List.mem_append.mpr (.inl ((h.all _).mpr ⟨o', ho', rfl⟩))
        · simp at ho'; subst ho'; simp
  · have : (updK L (key o) ((L.lookup (key o)).getD 0 + 1)).length ≤ L.length + 1 := by
      unfold updK; split <;> simp
    have := h.len
    simp; omega
end MX
set_option maxRecDepth 100000
set_option maxHeartbeats 0
namespace K94
open PySem PySem.Spec PyProof.Rows L2 MP
abbrev S (x : String) : PySem.Str := PySem.Str.ofString x
def top (i : Nat) : Stmt := PySem.Challenge.pw_backforth_k94_truth_by_tables.main.body.getD i (.Pass ⟨0, 0, 0, 0⟩)
def b_tuples_of : MS :=
  (.cons (.asg (.nm 2) (.lst (.cons (.tup .nil) .nil))) (.cons (.for_ (.nm 3) .rng (.cons (.var 1) .nil) (.cons (.asg (.nm 2) (.lc2 (.bin .add (.var 4)
  (.tup (.cons (.var 5) .nil))) (.nm 4) .val (.var 2) (.bl true) (.nm 5) .rng (.cons (.var 0) .nil) (.bl true))) .nil)) (.cons (.ret (.var 2)) .nil)))
def b_parts_of : MS :=
  (.cons (.asg (.nm 1) (.idx (.var 0) (.int 0))) (.cons (.ife (.cmp .isin (.var 1) (.tup (.cons (.str (S "and")) (.cons (.str (S "or")) .nil)))) (.cons
  (.ret (.idx (.var 0) (.int 1))) .nil) .nil) (.cons (.ife (.cmp .eq (.var 1) (.str (S "not"))) (.cons (.ret (.tup (.cons (.idx (.var 0) (.int 1))
  .nil))) .nil) .nil) (.cons (.ife (.cmp .isin (.var 1) (.tup (.cons (.str (S "some")) (.cons (.str (S "all")) .nil)))) (.cons (.ret (.tup (.cons (.idx
  (.var 0) (.int 2)) .nil))) .nil) .nil) (.cons (.ret (.ife (.cmp .eq (.var 1) (.str (S "least"))) (.tup (.cons (.idx (.var 0) (.int 3)) .nil)) (.tup
  .nil))) .nil)))))
def b_bound_name : MS :=
  (.cons (.ife (.cmp .isin (.idx (.var 0) (.int 0)) (.tup (.cons (.str (S "some")) (.cons (.str (S "all")) .nil)))) (.cons (.ret (.idx (.var 0) (.int
  1))) .nil) .nil) (.cons (.ret (.ife (.cmp .eq (.idx (.var 0) (.int 0)) (.str (S "least"))) (.idx (.var 0) (.int 2)) .non)) .nil))
def b_own_names : MS :=
  (.cons (.ife (.cmp .isin (.idx (.var 0) (.int 0)) (.tup (.cons (.str (S "same")) (.cons (.str (S "arrow")) .nil)))) (.cons (.ret (.lst (.cons (.idx
  (.var 0) (.int 1)) (.cons (.idx (.var 0) (.int 2)) .nil)))) .nil) .nil) (.cons (.ret (.ife (.cmp .eq (.idx (.var 0) (.int 0)) (.str (S "mark")))
  (.lst (.cons (.idx (.var 0) (.int 2)) .nil)) (.lst .nil))) .nil))
def b_free_list : MS :=
  (.cons (.asg (.nm 1) (.call 3 (.cons (.var 0) .nil))) (.cons (.for_ (.nm 2) .val (.call 1 (.cons (.var 0) .nil)) (.cons (.ext 1 (.lc (.var 3) (.nm 3)
  .val (.call 4 (.cons (.var 2) .nil)) (.cmp .ne (.var 3) (.call 2 (.cons (.var 0) .nil))))) .nil)) (.cons (.ret (.var 1)) .nil)))
def b_free : MS :=
  (.cons (.ret (.bcl .tuple (.cons (.bcl .sorted (.cons (.bcl .set (.cons (.call 4 (.cons (.var 0) .nil)) .nil)) .nil)) .nil))) .nil)
def b_single_table : MS :=
  (.cons (.asg (.nm 2) (.idx (.var 1) (.int 0))) (.cons (.ife (.cmp .eq (.var 2) (.str (S "mark"))) (.cons (.ret (.tup (.cons (.tup (.cons (.idx (.var 1)
  (.int 2)) .nil)) (.cons (.bcl .tuple (.cons (.lc (.tup (.cons (.var 7) .nil)) (.nm 7) .val (.idx (.idx (.var 0) (.int 1)) (.idx (.var 1) (.int 1)))
  (.bl true)) .nil)) .nil)))) .nil) .nil) (.cons (.asg (.tp (.cons (.nm 3) (.cons (.nm 4) .nil))) (.tup (.cons (.idx (.var 1) (.int 1)) (.cons (.idx
  (.var 1) (.int 2)) .nil)))) (.cons (.asg (.nm 5) (.ife (.cmp .eq (.var 2) (.str (S "same"))) (.lc (.tup (.cons (.var 7) (.cons (.var 7) .nil))) (.nm
  7) .rng (.cons (.idx (.var 0) (.int 0)) .nil) (.bl true)) (.bcl .list (.cons (.idx (.var 0) (.int 2)) .nil)))) (.cons (.ife (.cmp .eq (.var 3) (.var
  4)) (.cons (.ret (.tup (.cons (.tup (.cons (.var 3) .nil)) (.cons (.bcl .tuple (.cons (.lc (.tup (.cons (.var 7) .nil)) (.tp (.cons (.nm 7) (.cons
  (.nm 8) .nil))) .val (.var 5) (.cmp .eq (.var 7) (.var 8))) .nil)) .nil)))) .nil) .nil) (.cons (.asg (.nm 6) (.ife (.cmp .lt (.var 3) (.var 4)) (.var
  5) (.lc (.tup (.cons (.var 8) (.cons (.var 7) .nil))) (.tp (.cons (.nm 7) (.cons (.nm 8) .nil))) .val (.var 5) (.bl true)))) (.cons (.ret (.tup
  (.cons (.bcl .tuple (.cons (.bcl .sorted (.cons (.tup (.cons (.var 3) (.cons (.var 4) .nil))) .nil)) .nil)) (.cons (.bcl .tuple (.cons (.bcl .sorted
  (.cons (.var 6) .nil)) .nil)) .nil)))) .nil)))))))
def b_widened : MS :=
  (.cons (.asg (.tp (.cons (.nm 3) (.cons (.nm 4) .nil))) (.var 1)) (.cons (.asg (.nm 5) (.lc (.ife (.cmp .isin (.var 10) (.var 3)) (.mth .index (.var 3)
  (.cons (.var 10) .nil)) (.neg (.int 1))) (.nm 10) .val (.var 2) (.bl true))) (.cons (.asg (.nm 6) (.lc (.var 10) (.nm 10) .val (.var 2) (.cmp .nin
  (.var 10) (.var 3)))) (.cons (.asg (.nm 7) (.lst .nil)) (.cons (.for_ (.nm 8) .val (.var 4) (.cons (.for_ (.nm 9) .val (.call 0 (.cons (.idx (.var 0)
  (.int 0)) (.cons (.bcl .len (.cons (.var 6) .nil)) .nil))) (.cons (.asg (.nm 11) (.lc (.ife (.cmp .ge (.idx (.var 5) (.var 12)) (.int 0)) (.idx (.var
  8) (.idx (.var 5) (.var 12))) (.idx (.var 9) (.mth .index (.var 6) (.cons (.idx (.var 2) (.var 12)) .nil)))) (.nm 12) .rng (.cons (.bcl .len (.cons
  (.var 2) .nil)) .nil) (.bl true))) (.cons (.app 7 (.bcl .tuple (.cons (.var 11) .nil))) .nil))) .nil)) (.cons (.ret (.bcl .tuple (.cons (.bcl .sorted
  (.cons (.var 7) .nil)) .nil))) .nil))))))
def b_joined_names : MS :=
  (.cons (.ret (.bcl .tuple (.cons (.bcl .sorted (.cons (.bcl .set (.cons (.lc2 (.var 3) (.tp (.cons (.nm 1) (.cons (.nm 2) .nil))) .val (.var 0) (.bl
  true) (.nm 3) .val (.var 1) (.bl true)) .nil)) .nil)) .nil))) .nil)
def b_meet : MS :=
  (.cons (.asg (.nm 2) (.tup (.cons (.tup .nil) (.cons (.tup (.cons (.tup .nil) .nil)) .nil)))) (.cons (.for_ (.tp (.cons (.nm 3) (.cons (.nm 4) .nil)))
  .val (.var 1) (.cons (.asg (.nm 2) (.call 10 (.cons (.var 2) (.cons (.tup (.cons (.var 3) (.cons (.var 4) .nil))) .nil)))) .nil)) (.cons (.asg (.nm
  5) (.call 8 (.cons (.var 1) .nil))) (.cons (.ret (.tup (.cons (.var 5) (.cons (.call 7 (.cons (.var 0) (.cons (.var 2) (.cons (.var 5) .nil))))
  .nil)))) .nil))))
def b_joined : MS :=
  (.cons (.asg (.nm 2) (.call 8 (.cons (.tup (.cons (.var 0) (.cons (.var 1) .nil))) .nil))) (.cons (.asg (.nm 3) (.lc (.var 9) (.nm 9) .val (.idx (.var
  1) (.int 0)) (.cmp .isin (.var 9) (.idx (.var 0) (.int 0))))) (.cons (.asg (.nm 4) .edct) (.cons (.for_ (.nm 5) .val (.idx (.var 1) (.int 1)) (.cons
  (.asg (.nm 7) (.bcl .tuple (.cons (.lc (.idx (.var 5) (.mth .index (.idx (.var 1) (.int 0)) (.cons (.var 9) .nil))) (.nm 9) .val (.var 3) (.bl true))
  .nil))) (.cons (.sda 4 (.var 7) (.hp (.lst .nil)) (.var 5)) .nil))) (.cons (.asg (.nm 6) (.lst .nil)) (.cons (.for_ (.nm 5) .val (.idx (.var 0) (.int
  1)) (.cons (.asg (.nm 7) (.bcl .tuple (.cons (.lc (.idx (.var 5) (.mth .index (.idx (.var 0) (.int 0)) (.cons (.var 9) .nil))) (.nm 9) .val (.var 3)
  (.bl true)) .nil))) (.cons (.fors (.nm 8) (.mth .get (.var 4) (.cons (.var 7) (.cons (.hp (.lst .nil)) .nil))) (.cons (.app 6 (.bcl .tuple (.cons
  (.lc (.ife (.cmp .isin (.var 10) (.idx (.var 0) (.int 0))) (.idx (.var 5) (.mth .index (.idx (.var 0) (.int 0)) (.cons (.var 10) .nil))) (.idx (.var
  8) (.mth .index (.idx (.var 1) (.int 0)) (.cons (.var 10) .nil)))) (.nm 10) .val (.var 2) (.bl true)) .nil))) .nil)) .nil))) (.cons (.ret (.tup
  (.cons (.var 2) (.cons (.bcl .tuple (.cons (.bcl .sorted (.cons (.var 6) .nil)) .nil)) .nil)))) .nil)))))))
def b_union : MS :=
  (.cons (.asg (.nm 2) (.call 8 (.cons (.var 1) .nil))) (.cons (.asg (.nm 3) (.lst .nil)) (.cons (.for_ (.nm 4) .val (.var 1) (.cons (.ext 3 (.lc (.var
  5) (.nm 5) .val (.call 7 (.cons (.var 0) (.cons (.var 4) (.cons (.var 2) .nil)))) (.cmp .nin (.var 5) (.var 3)))) .nil)) (.cons (.ret (.tup (.cons
  (.var 2) (.cons (.bcl .tuple (.cons (.bcl .sorted (.cons (.var 3) .nil)) .nil)) .nil)))) .nil))))
def b_complement : MS :=
  (.cons (.asg (.tp (.cons (.nm 2) (.cons (.nm 3) .nil))) (.var 1)) (.cons (.ret (.tup (.cons (.var 2) (.cons (.bcl .tuple (.cons (.lc (.var 4) (.nm 4)
  .val (.call 0 (.cons (.idx (.var 0) (.int 0)) (.cons (.bcl .len (.cons (.var 2) .nil)) .nil))) (.cmp .nin (.var 4) (.var 3))) .nil)) .nil)))) .nil))
def b_counted : MS :=
  (.cons (.asg (.tp (.cons (.nm 4) (.cons (.nm 5) .nil))) (.var 1)) (.cons (.ife (.cmp .nin (.var 2) (.var 4)) (.cons (.ret (.tup (.cons (.var 4) (.cons
  (.ife (.cmp .ge (.idx (.var 0) (.int 0)) (.var 3)) (.var 5) (.tup .nil)) .nil)))) .nil) .nil) (.cons (.asg (.nm 6) (.mth .index (.var 4) (.cons (.var
  2) .nil))) (.cons (.asg (.nm 7) .edct) (.cons (.for_ (.nm 8) .val (.var 5) (.cons (.asg (.nm 9) (.bin .add (.slc (.var 8) .nil (.var 6)) (.slc (.var
  8) (.bin .add (.var 6) (.int 1)) .nil))) (.cons (.seti (.var 7) (.var 9) (.bin .add (.mth .get (.var 7) (.cons (.var 9) (.cons (.int 0) .nil))) (.int
  1))) .nil))) (.cons (.ret (.tup (.cons (.bin .add (.slc (.var 4) .nil (.var 6)) (.slc (.var 4) (.bin .add (.var 6) (.int 1)) .nil)) (.cons (.bcl
  .tuple (.cons (.bcl .sorted (.cons (.lc (.var 9) (.nm 9) .val (.var 7) (.cmp .ge (.idx (.var 7) (.var 9)) (.var 3))) .nil)) .nil)) .nil))))
  .nil))))))
def b_table_of : MS :=
  (.cons (.asg (.nm 2) (.idx (.var 1) (.int 0))) (.cons (.ife (.cmp .isin (.var 2) (.tup (.cons (.str (S "same")) (.cons (.str (S "mark")) (.cons (.str
  (S "arrow")) .nil))))) (.cons (.ret (.call 6 (.cons (.var 0) (.cons (.var 1) .nil)))) .nil) .nil) (.cons (.ife (.cmp .eq (.var 2) (.str (S "not")))
  (.cons (.ret (.call 12 (.cons (.var 0) (.cons (.call 14 (.cons (.var 0) (.cons (.idx (.var 1) (.int 1)) .nil))) .nil)))) .nil) .nil) (.cons (.ife
  (.cmp .eq (.var 2) (.str (S "and"))) (.cons (.ret (.call 9 (.cons (.var 0) (.cons (.lc (.call 14 (.cons (.var 0) (.cons (.var 3) .nil))) (.nm 3) .val
  (.idx (.var 1) (.int 1)) (.bl true)) .nil)))) .nil) .nil) (.cons (.ife (.cmp .eq (.var 2) (.str (S "or"))) (.cons (.ret (.call 11 (.cons (.var 0)
  (.cons (.lc (.call 14 (.cons (.var 0) (.cons (.var 3) .nil))) (.nm 3) .val (.idx (.var 1) (.int 1)) (.bl true)) .nil)))) .nil) .nil) (.cons (.ife
  (.cmp .eq (.var 2) (.str (S "some"))) (.cons (.ret (.call 13 (.cons (.var 0) (.cons (.call 14 (.cons (.var 0) (.cons (.idx (.var 1) (.int 2)) .nil)))
  (.cons (.idx (.var 1) (.int 1)) (.cons (.int 1) .nil)))))) .nil) .nil) (.cons (.ife (.cmp .eq (.var 2) (.str (S "all"))) (.cons (.ret (.call 13
  (.cons (.var 0) (.cons (.call 14 (.cons (.var 0) (.cons (.idx (.var 1) (.int 2)) .nil))) (.cons (.idx (.var 1) (.int 1)) (.cons (.idx (.var 0) (.int
  0)) .nil)))))) .nil) .nil) (.cons (.ife (.cmp .eq (.var 2) (.str (S "least"))) (.cons (.ret (.call 13 (.cons (.var 0) (.cons (.call 14 (.cons (.var
  0) (.cons (.idx (.var 1) (.int 3)) .nil))) (.cons (.idx (.var 1) (.int 2)) (.cons (.idx (.var 1) (.int 1)) .nil)))))) .nil) .nil) (.cons (.ret (.tup
  (.cons (.tup .nil) (.cons (.ife (.cmp .eq (.var 2) (.str (S "true"))) (.tup (.cons (.tup .nil) .nil)) (.tup .nil)) .nil)))) .nil)))))))))
def b_full_table : MS :=
  (.cons (.asg (.nm 2) (.call 5 (.cons (.var 1) .nil))) (.cons (.ret (.tup (.cons (.var 2) (.cons (.call 7 (.cons (.var 0) (.cons (.call 14 (.cons (.var
  0) (.cons (.var 1) .nil))) (.cons (.var 2) .nil)))) .nil)))) .nil))
def b_law_cell : MS :=
  (.cons (.ife (.cmp .lt (.var 1) (.bcl .len (.cons (.var 0) .nil))) (.cons (.ret (.idx (.var 0) (.var 1))) .nil) .nil) (.cons (.ret (.int 0)) .nil))
def b_law_draws : MS :=
  (.cons (.asg (.nm 2) (.lst .nil)) (.cons (.asg (.nm 3) (.var 0)) (.cons (.for_ (.nm 4) .rng (.cons (.var 1) .nil) (.cons (.ife (.and (.cmp .ge (.var 0)
  (.bin .pow (.int 10) (.int 18))) (.cmp .gt (.var 3) (.int 0))) (.cons (.app 2 (.bin .mod (.bcl .int (.cons (.var 3) .nil)) (.int 4096))) (.cons (.asg
  (.nm 3) (.bin .fdiv (.var 3) (.int 4096))) .nil)) (.cons (.asg (.nm 5) (.bin .mod (.bcl .int (.cons (.bin .add (.bin .mul (.var 0) (.int 48271))
  (.bin .mul (.bin .add (.var 4) (.int 1)) (.int 69621))) .nil)) (.int 2147483647))) (.cons (.asg (.nm 5) (.bin .mod (.bcl .int (.cons (.bin .add (.bin
  .add (.bin .mul (.var 5) (.var 5)) (.bin .mul (.var 5) (.int 16807))) (.bin .mul (.var 4) (.int 7919))) .nil)) (.int 2147483629))) (.cons (.asg (.nm
  5) (.bin .mod (.bcl .int (.cons (.bin .add (.bin .add (.bin .mul (.var 5) (.var 5)) (.var 0)) (.bin .mul (.int 13) (.var 4))) .nil)) (.int
  2147483587))) (.cons (.app 2 (.bin .mod (.bin .fdiv (.var 5) (.int 7)) (.int 4096))) .nil))))) .nil)) (.cons (.ret (.var 2)) .nil))))
def b_law_kind : MS :=
  (.cons (.ife (.isi (.var 0) .bool) (.cons (.ret (.int 1)) .nil) .nil) (.cons (.ife (.isi (.var 0) .int) (.cons (.ret (.int 2)) .nil) .nil) (.cons (.ife
  (.isi (.var 0) .str) (.cons (.ret (.int 3)) .nil) .nil) (.cons (.ife (.isi (.var 0) .tuple) (.cons (.ret (.int 4)) .nil) .nil) (.cons (.ife (.isi
  (.var 0) .list) (.cons (.ret (.int 5)) .nil) .nil) (.cons (.ife (.isi (.var 0) .dict) (.cons (.ret (.int 6)) .nil) .nil) (.cons (.ret (.int 0))
  .nil)))))))
def b_law_equal : MS :=
  (.cons (.ife (.cmp .ne (.call 18 (.cons (.var 0) .nil)) (.call 18 (.cons (.var 1) .nil))) (.cons (.ret (.bl false)) .nil) .nil) (.cons (.ife (.or (.isi
  (.var 1) .tuple) (.isi (.var 1) .list)) (.cons (.ife (.cmp .ne (.bcl .len (.cons (.var 0) .nil)) (.bcl .len (.cons (.var 1) .nil))) (.cons (.ret (.bl
  false)) .nil) .nil) (.cons (.ret (.cmp .eq (.bcl .len (.cons (.lc (.var 3) (.nm 3) .rng (.cons (.bcl .len (.cons (.var 1) .nil)) .nil) (.not (.call
  19 (.cons (.idx (.var 0) (.var 3)) (.cons (.idx (.var 1) (.var 3)) .nil))))) .nil)) (.int 0))) .nil)) .nil) (.cons (.ife (.isi (.var 1) .dict) (.cons
  (.ife (.cmp .ne (.bcl .len (.cons (.var 0) .nil)) (.bcl .len (.cons (.var 1) .nil))) (.cons (.ret (.bl false)) .nil) .nil) (.cons (.for_ (.nm 2) .val
  (.var 0) (.cons (.ife (.or (.cmp .nin (.var 2) (.var 1)) (.not (.call 19 (.cons (.idx (.var 0) (.var 2)) (.cons (.idx (.var 1) (.var 2)) .nil)))))
  (.cons (.ret (.bl false)) .nil) .nil) (.cons (.ife (.cmp .eq (.bcl .len (.cons (.lc (.var 4) (.nm 4) .val (.var 1) (.and (.cmp .eq (.var 4) (.var 2))
  (.call 19 (.cons (.var 2) (.cons (.var 4) .nil))))) .nil)) (.int 0)) (.cons (.ret (.bl false)) .nil) .nil) .nil))) (.cons (.ret (.bl true)) .nil)))
  .nil) (.cons (.ret (.cmp .eq (.var 0) (.var 1))) .nil))))
def b_law_pool : MS :=
  (.cons (.asg (.nm 1) (.lst .nil)) (.cons (.for_ (.nm 2) .rng (.cons (.bcl .min (.cons (.int 4) (.cons (.bcl .max (.cons (.int 1) (.cons (.bcl .len
  (.cons (.var 0) .nil)) .nil))) .nil))) .nil) (.cons (.asg (.nm 1) (.bin .add (.var 1) (.call 17 (.cons (.bin .add (.call 16 (.cons (.var 0) (.cons
  (.var 2) .nil))) (.bin .mul (.int 7) (.var 2))) (.cons (.int 20) .nil))))) .nil)) (.cons (.ret (.lst (.cons (.var 1) (.cons (.hp (.lst (.cons (.int
  0) .nil))) .nil)))) .nil)))
def b_law_pick : MS :=
  (.cons (.asg (.nm 2) (.idx (.idx (.var 0) (.int 1)) (.int 0))) (.cons (.seti (.idx (.var 0) (.int 1)) (.int 0) (.bin .add (.var 2) (.int 1))) (.cons
  (.asg (.nm 3) (.bin .fdiv (.var 2) (.bcl .len (.cons (.idx (.var 0) (.int 0)) .nil)))) (.cons (.ret (.bin .mod (.bcl .int (.cons (.bin .add (.bin
  .add (.idx (.idx (.var 0) (.int 0)) (.bin .mod (.var 2) (.bcl .len (.cons (.idx (.var 0) (.int 0)) .nil)))) (.bin .mul (.var 3) (.int 1009))) (.bin
  .mul (.var 3) (.var 2))) .nil)) (.var 1))) .nil))))
def b_law_line : MS :=
  (.cons (.asg (.nm 1) (.tup .nil)) (.cons (.for_ (.nm 2) .rng (.cons (.var 0) .nil) (.cons (.asg (.nm 1) (.bin .add (.var 1) (.bcl .tuple (.cons (.lc
  (.tup (.cons (.var 2) (.cons (.var 3) .nil))) (.nm 3) .rng (.cons (.bin .add (.var 2) (.int 1)) (.cons (.var 0) .nil)) (.bl true)) .nil)))) .nil))
  (.cons (.ret (.tup (.cons (.var 0) (.cons (.tup (.cons (.tup .nil) (.cons (.tup .nil) .nil))) (.cons (.var 1) .nil))))) .nil)))
def b_law_ring : MS :=
  (.cons (.ret (.tup (.cons (.var 0) (.cons (.tup (.cons (.tup .nil) (.cons (.tup .nil) .nil))) (.cons (.bcl .tuple (.cons (.bcl .sorted (.cons (.lc
  (.tup (.cons (.var 1) (.cons (.bin .mod (.bin .add (.var 1) (.int 1)) (.var 0)) .nil))) (.nm 1) .rng (.cons (.var 0) .nil) (.bl true)) .nil)) .nil))
  .nil))))) .nil)
def b_law_both_ways : MS :=
  (.cons (.ret (.tup (.cons (.var 0) (.cons (.tup (.cons (.tup .nil) (.cons (.tup .nil) .nil))) (.cons (.bcl .tuple (.cons (.bcl .sorted (.cons (.bin
  .add (.lc (.var 2) (.nm 2) .val (.var 1) (.bl true)) (.lc (.tup (.cons (.var 4) (.cons (.var 3) .nil))) (.tp (.cons (.nm 3) (.cons (.nm 4) .nil)))
  .val (.var 1) (.bl true))) .nil)) .nil)) .nil))))) .nil)
def b_law_special : MS :=
  (.cons (.asg (.nm 1) (.lst (.cons (.call 22 (.cons (.int 3) .nil)) (.cons (.call 22 (.cons (.int 4) .nil)) (.cons (.call 23 (.cons (.int 3) .nil))
  (.cons (.call 23 (.cons (.int 4) .nil)) (.cons (.tup (.cons (.int 2) (.cons (.tup (.cons (.tup .nil) (.cons (.tup .nil) .nil))) (.cons (.tup .nil)
  .nil)))) (.cons (.tup (.cons (.int 3) (.cons (.tup (.cons (.tup .nil) (.cons (.tup .nil) .nil))) (.cons (.tup .nil) .nil)))) (.cons (.tup (.cons
  (.int 4) (.cons (.tup (.cons (.tup .nil) (.cons (.tup .nil) .nil))) (.cons (.tup .nil) .nil)))) .nil))))))))) (.cons (.asg (.nm 1) (.bin .add (.var
  1) (.lst (.cons (.call 24 (.cons (.int 4) (.cons (.tup (.cons (.tup (.cons (.int 0) (.cons (.int 1) .nil))) (.cons (.tup (.cons (.int 1) (.cons (.int
  2) .nil))) (.cons (.tup (.cons (.int 2) (.cons (.int 3) .nil))) .nil)))) .nil))) (.cons (.call 24 (.cons (.int 4) (.cons (.tup (.cons (.tup (.cons
  (.int 0) (.cons (.int 1) .nil))) (.cons (.tup (.cons (.int 1) (.cons (.int 2) .nil))) (.cons (.tup (.cons (.int 2) (.cons (.int 3) .nil))) (.cons
  (.tup (.cons (.int 0) (.cons (.int 3) .nil))) .nil))))) .nil))) (.cons (.call 24 (.cons (.int 3) (.cons (.tup (.cons (.tup (.cons (.int 0) (.cons
  (.int 1) .nil))) (.cons (.tup (.cons (.int 1) (.cons (.int 2) .nil))) (.cons (.tup (.cons (.int 0) (.cons (.int 2) .nil))) .nil)))) .nil)))
  .nil)))))) (.cons (.ret (.idx (.var 1) (.bin .mod (.var 0) (.bcl .len (.cons (.var 1) .nil))))) .nil)))
def b_law_world : MS :=
  (.cons (.asg (.nm 2) (.bin .add (.int 1) (.bin .mod (.bcl .int (.cons (.idx (.var 0) (.int 0)) .nil)) (.var 1)))) (.cons (.ife (.and (.cmp .eq (.bin
  .mod (.idx (.var 0) (.int 1)) (.int 6)) (.int 1)) (.cmp .le (.idx (.call 25 (.cons (.bcl .int (.cons (.idx (.var 0) (.int 2)) .nil)) .nil)) (.int 0))
  (.var 1))) (.cons (.ret (.call 25 (.cons (.bcl .int (.cons (.idx (.var 0) (.int 2)) .nil)) .nil))) .nil) .nil) (.cons (.asg (.nm 3) (.idx (.lst
  (.cons (.int 2) (.cons (.int 3) (.cons (.int 5) (.cons (.int 3) .nil))))) (.bin .mod (.bin .fdiv (.bcl .int (.cons (.idx (.var 0) (.int 1)) .nil))
  (.int 6)) (.int 4)))) (.cons (.asg (.nm 4) (.idx (.lst (.cons (.int 2) (.cons (.int 9999) (.cons (.int 3) (.cons (.int 9999) .nil))))) (.bin .mod
  (.bin .fdiv (.bcl .int (.cons (.idx (.var 0) (.int 1)) .nil)) (.int 24)) (.int 4)))) (.cons (.asg (.nm 5) (.tup .nil)) (.cons (.for_ (.nm 6) .rng
  (.cons (.int 2) .nil) (.cons (.asg (.nm 5) (.bin .add (.var 5) (.tup (.cons (.bcl .tuple (.cons (.lc (.var 9) (.nm 9) .rng (.cons (.var 2) .nil)
  (.cmp .eq (.bin .mod (.bin .fdiv (.bcl .int (.cons (.idx (.var 0) (.bin .add (.int 3) (.var 9))) .nil)) (.bin .add (.int 1) (.var 6))) (.var 4))
  (.int 0))) .nil)) .nil)))) .nil)) (.cons (.asg (.nm 7) (.lst .nil)) (.cons (.asg (.nm 8) (.int 11)) (.cons (.for_ (.nm 9) .rng (.cons (.var 2) .nil)
  (.cons (.for_ (.nm 10) .rng (.cons (.var 2) .nil) (.cons (.ife (.cmp .eq (.bin .mod (.bin .fdiv (.bcl .int (.cons (.idx (.var 0) (.bin .mod (.var 8)
  (.bcl .len (.cons (.var 0) .nil)))) .nil)) (.bin .add (.int 1) (.bin .fdiv (.var 8) (.bcl .len (.cons (.var 0) .nil))))) (.var 3)) (.int 0)) (.cons
  (.app 7 (.tup (.cons (.var 9) (.cons (.var 10) .nil)))) .nil) .nil) (.cons (.asg (.nm 8) (.bin .add (.var 8) (.int 1))) .nil))) .nil)) (.cons (.ife
  (.cmp .eq (.bin .mod (.idx (.var 0) (.int 2)) (.int 5)) (.int 1)) (.cons (.asg (.nm 7) (.bin .add (.var 7) (.lc (.tup (.cons (.var 10) (.cons (.var
  9) .nil))) (.tp (.cons (.nm 9) (.cons (.nm 10) .nil))) .val (.var 7) (.cmp .nin (.tup (.cons (.var 10) (.cons (.var 9) .nil))) (.var 7))))) (.cons
  (.asg (.nm 7) (.lc (.tup (.cons (.var 9) (.cons (.var 10) .nil))) (.tp (.cons (.nm 9) (.cons (.nm 10) .nil))) .val (.var 7) (.cmp .ne (.var 9) (.var
  10)))) .nil)) .nil) (.cons (.ret (.tup (.cons (.var 2) (.cons (.var 5) (.cons (.bcl .tuple (.cons (.bcl .sorted (.cons (.var 7) .nil)) .nil))
  .nil))))) .nil)))))))))))
def b_law_tuples : MS :=
  (.cons (.asg (.nm 2) (.lst (.cons (.tup .nil) .nil))) (.cons (.for_ (.nm 3) .rng (.cons (.var 1) .nil) (.cons (.asg (.nm 4) (.lst .nil)) (.cons (.for_
  (.nm 5) .val (.var 2) (.cons (.asg (.nm 4) (.bin .add (.var 4) (.lc (.bin .add (.var 5) (.tup (.cons (.var 6) .nil))) (.nm 6) .rng (.cons (.var 0)
  .nil) (.bl true)))) .nil)) (.cons (.mov 2 4) .nil)))) (.cons (.ret (.var 2)) .nil)))
def b_law_inner : MS :=
  (.cons (.asg (.nm 1) (.idx (.var 0) (.int 0))) (.cons (.ife (.cmp .isin (.var 1) (.tup (.cons (.str (S "and")) (.cons (.str (S "or")) .nil)))) (.cons
  (.ret (.idx (.var 0) (.int 1))) .nil) .nil) (.cons (.ife (.cmp .eq (.var 1) (.str (S "not"))) (.cons (.ret (.slc (.var 0) (.int 1) .nil)) .nil) .nil)
  (.cons (.ife (.cmp .isin (.var 1) (.tup (.cons (.str (S "some")) (.cons (.str (S "all")) .nil)))) (.cons (.ret (.slc (.var 0) (.int 2) .nil)) .nil)
  .nil) (.cons (.ife (.cmp .eq (.var 1) (.str (S "least"))) (.cons (.ret (.slc (.var 0) (.int 3) .nil)) .nil) .nil) (.cons (.ret (.tup .nil))
  .nil))))))
def b_law_bound : MS :=
  (.cons (.ife (.cmp .isin (.idx (.var 0) (.int 0)) (.tup (.cons (.str (S "some")) (.cons (.str (S "all")) .nil)))) (.cons (.ret (.lst (.cons (.idx (.var
  0) (.int 1)) .nil))) .nil) .nil) (.cons (.ife (.cmp .eq (.idx (.var 0) (.int 0)) (.str (S "least"))) (.cons (.ret (.lst (.cons (.idx (.var 0) (.int
  2)) .nil))) .nil) .nil) (.cons (.ret (.lst .nil)) .nil)))
def b_law_own : MS :=
  (.cons (.ife (.cmp .isin (.idx (.var 0) (.int 0)) (.tup (.cons (.str (S "same")) (.cons (.str (S "arrow")) .nil)))) (.cons (.ret (.lst (.cons (.idx
  (.var 0) (.int 1)) (.cons (.idx (.var 0) (.int 2)) .nil)))) .nil) .nil) (.cons (.ife (.cmp .eq (.idx (.var 0) (.int 0)) (.str (S "mark"))) (.cons
  (.ret (.lst (.cons (.idx (.var 0) (.int 2)) .nil))) .nil) .nil) (.cons (.ret (.lst .nil)) .nil)))
def b_law_free : MS :=
  (.cons (.asg (.nm 1) (.call 30 (.cons (.var 0) .nil))) (.cons (.for_ (.nm 2) .val (.call 28 (.cons (.var 0) .nil)) (.cons (.asg (.nm 1) (.bin .add
  (.var 1) (.lc (.var 3) (.nm 3) .val (.call 31 (.cons (.var 2) .nil)) (.cmp .nin (.var 3) (.call 29 (.cons (.var 0) .nil)))))) .nil)) (.cons (.ret
  (.var 1)) .nil)))
def b_law_unlike : MS :=
  (.cons (.asg (.nm 1) (.lst .nil)) (.cons (.for_ (.nm 2) .val (.bcl .sorted (.cons (.var 0) .nil)) (.cons (.ife (.cmp .nin (.var 2) (.var 1)) (.cons
  (.app 1 (.var 2)) .nil) .nil) .nil)) (.cons (.ret (.bcl .tuple (.cons (.var 1) .nil))) .nil)))
def b_law_truth : MS :=
  (.cons (.asg (.nm 3) (.idx (.var 1) (.int 0))) (.cons (.ife (.cmp .eq (.var 3) (.str (S "same"))) (.cons (.ret (.cmp .eq (.idx (.var 2) (.idx (.var 1)
  (.int 1))) (.idx (.var 2) (.idx (.var 1) (.int 2))))) .nil) .nil) (.cons (.ife (.cmp .eq (.var 3) (.str (S "mark"))) (.cons (.ret (.cmp .isin (.idx
  (.var 2) (.idx (.var 1) (.int 2))) (.idx (.idx (.var 0) (.int 1)) (.idx (.var 1) (.int 1))))) .nil) .nil) (.cons (.ife (.cmp .eq (.var 3) (.str (S
  "arrow"))) (.cons (.ret (.cmp .isin (.tup (.cons (.idx (.var 2) (.idx (.var 1) (.int 1))) (.cons (.idx (.var 2) (.idx (.var 1) (.int 2))) .nil)))
  (.idx (.var 0) (.int 2)))) .nil) .nil) (.cons (.ife (.cmp .eq (.var 3) (.str (S "not"))) (.cons (.ret (.not (.call 33 (.cons (.var 0) (.cons (.idx
  (.var 1) (.int 1)) (.cons (.var 2) .nil)))))) .nil) .nil) (.cons (.ife (.cmp .eq (.var 3) (.str (S "and"))) (.cons (.for_ (.nm 8) .val (.idx (.var 1)
  (.int 1)) (.cons (.ife (.not (.call 33 (.cons (.var 0) (.cons (.var 8) (.cons (.var 2) .nil))))) (.cons (.ret (.bl false)) .nil) .nil) .nil)) (.cons
  (.ret (.bl true)) .nil)) .nil) (.cons (.ife (.cmp .eq (.var 3) (.str (S "or"))) (.cons (.for_ (.nm 8) .val (.idx (.var 1) (.int 1)) (.cons (.ife
  (.call 33 (.cons (.var 0) (.cons (.var 8) (.cons (.var 2) .nil)))) (.cons (.ret (.bl true)) .nil) .nil) .nil)) (.cons (.ret (.bl false)) .nil)) .nil)
  (.cons (.ife (.cmp .isin (.var 3) (.tup (.cons (.str (S "true")) (.cons (.str (S "false")) .nil)))) (.cons (.ret (.cmp .eq (.var 3) (.str (S
  "true")))) .nil) .nil) (.cons (.asg (.nm 4) (.idx (.call 29 (.cons (.var 1) .nil)) (.int 0))) (.cons (.asg (.nm 5) (.int 1)) (.cons (.ife (.cmp .eq
  (.var 3) (.str (S "least"))) (.cons (.asg (.nm 5) (.idx (.var 1) (.int 1))) .nil) .nil) (.cons (.asg (.nm 6) (.int 0)) (.cons (.for_ (.nm 7) .rng
  (.cons (.idx (.var 0) (.int 0)) .nil) (.cons (.ife (.or (.cmp .eq (.var 3) (.str (S "all"))) (.cmp .lt (.var 6) (.var 5))) (.cons (.ife (.call 33
  (.cons (.var 0) (.cons (.idx (.var 1) (.neg (.int 1))) (.cons (.bin .add (.bin .add (.slc (.var 2) .nil (.var 4)) (.tup (.cons (.var 7) .nil))) (.slc
  (.var 2) (.bin .add (.var 4) (.int 1)) .nil)) .nil)))) (.cons (.asg (.nm 6) (.bin .add (.var 6) (.int 1))) .nil) (.cons (.ife (.cmp .eq (.var 3)
  (.str (S "all"))) (.cons (.ret (.bl false)) .nil) .nil) .nil)) .nil) .nil) .nil)) (.cons (.ret (.or (.cmp .eq (.var 3) (.str (S "all"))) (.cmp .ge
  (.var 6) (.var 5)))) .nil))))))))))))))
def b_law_formula : MS :=
  (.cons (.asg (.nm 4) (.call 21 (.cons (.var 0) (.cons (.int 9) .nil)))) (.cons (.ife (.or (.cmp .eq (.var 2) (.int 0)) (.cmp .lt (.var 4) (.int 2)))
  (.cons (.asg (.nm 7) (.call 21 (.cons (.var 0) (.cons (.var 1) .nil)))) (.cons (.asg (.nm 8) (.call 21 (.cons (.var 0) (.cons (.var 1) .nil))))
  (.cons (.ret (.idx (.lst (.cons (.tup (.cons (.str (S "arrow")) (.cons (.var 7) (.cons (.var 8) .nil)))) (.cons (.tup (.cons (.str (S "arrow"))
  (.cons (.var 8) (.cons (.var 7) .nil)))) (.cons (.tup (.cons (.str (S "same")) (.cons (.var 7) (.cons (.var 8) .nil)))) (.cons (.tup (.cons (.str (S
  "mark")) (.cons (.call 21 (.cons (.var 0) (.cons (.int 2) .nil))) (.cons (.var 7) .nil)))) (.cons (.tup (.cons (.str (S "true")) .nil)) (.cons (.tup
  (.cons (.str (S "false")) .nil)) .nil))))))) (.bcl .min (.cons (.int 5) (.cons (.call 21 (.cons (.var 0) (.cons (.int 9) .nil))) .nil))))) .nil)))
  .nil) (.cons (.asg (.nm 5) (.idx (.var 3) (.call 21 (.cons (.var 0) (.cons (.bcl .len (.cons (.var 3) .nil)) .nil))))) (.cons (.ife (.cmp .eq (.var
  5) (.str (S "not"))) (.cons (.ret (.tup (.cons (.str (S "not")) (.cons (.call 34 (.cons (.var 0) (.cons (.var 1) (.cons (.bin .sub (.var 2) (.int 1))
  (.cons (.var 3) .nil))))) .nil)))) .nil) .nil) (.cons (.ife (.cmp .isin (.var 5) (.tup (.cons (.str (S "and")) (.cons (.str (S "or")) .nil)))) (.cons
  (.asg (.nm 9) (.tup .nil)) (.cons (.for_ (.nm 10) .rng (.cons (.call 21 (.cons (.var 0) (.cons (.int 4) .nil))) .nil) (.cons (.asg (.nm 9) (.bin .add
  (.var 9) (.tup (.cons (.call 34 (.cons (.var 0) (.cons (.var 1) (.cons (.bin .sub (.var 2) (.int 1)) (.cons (.var 3) .nil))))) .nil)))) .nil)) (.cons
  (.ret (.tup (.cons (.var 5) (.cons (.var 9) .nil)))) .nil))) .nil) (.cons (.asg (.nm 6) (.call 21 (.cons (.var 0) (.cons (.var 1) .nil)))) (.cons
  (.ife (.cmp .eq (.var 5) (.str (S "least"))) (.cons (.ret (.tup (.cons (.str (S "least")) (.cons (.bin .add (.int 1) (.call 21 (.cons (.var 0) (.cons
  (.int 3) .nil)))) (.cons (.var 6) (.cons (.call 34 (.cons (.var 0) (.cons (.var 1) (.cons (.bin .sub (.var 2) (.int 1)) (.cons (.var 3) .nil)))))
  .nil)))))) .nil) .nil) (.cons (.ret (.tup (.cons (.var 5) (.cons (.var 6) (.cons (.call 34 (.cons (.var 0) (.cons (.var 1) (.cons (.bin .sub (.var 2)
  (.int 1)) (.cons (.var 3) .nil))))) .nil))))) .nil))))))))
def b_law_table : MS :=
  (.cons (.asg (.nm 2) (.call 32 (.cons (.call 31 (.cons (.var 1) .nil)) .nil))) (.cons (.asg (.nm 3) (.lst .nil)) (.cons (.for_ (.nm 4) .val (.call 27
  (.cons (.idx (.var 0) (.int 0)) (.cons (.bcl .len (.cons (.var 2) .nil)) .nil))) (.cons (.asg (.nm 5) (.bin .mul (.lst (.cons .non .nil)) (.int 6)))
  (.cons (.for_ (.nm 6) .rng (.cons (.bcl .len (.cons (.var 2) .nil)) .nil) (.cons (.seti (.var 5) (.idx (.var 2) (.var 6)) (.idx (.var 4) (.var 6)))
  .nil)) (.cons (.ife (.call 33 (.cons (.var 0) (.cons (.var 1) (.cons (.bcl .tuple (.cons (.var 5) .nil)) .nil)))) (.cons (.app 3 (.var 4)) .nil)
  .nil) .nil)))) (.cons (.ret (.tup (.cons (.var 2) (.cons (.bcl .tuple (.cons (.var 3) .nil)) .nil)))) .nil))))
def b_law_fits : MS :=
  (.cons (.ret (.cmp .isin (.bcl .tuple (.cons (.lc (.idx (.var 2) (.mth .index (.var 1) (.cons (.var 3) .nil))) (.nm 3) .val (.idx (.var 0) (.int 0))
  (.bl true)) .nil)) (.idx (.var 0) (.int 1)))) .nil)
def b_law : MS :=
  (.cons (.asg (.nm 1) (.call 20 (.cons (.var 0) .nil))) (.cons (.asg (.nm 2) (.call 26 (.cons (.call 17 (.cons (.call 16 (.cons (.var 0) (.cons (.int 0)
  .nil))) (.cons (.int 60) .nil))) (.cons (.int 4) .nil)))) (.cons (.asg (.nm 3) (.lst .nil)) (.cons (.for_ (.nm 4) .rng (.cons (.int 3) .nil) (.cons
  (.asg (.nm 17) (.call 34 (.cons (.var 1) (.cons (.int 3) (.cons (.int 3) (.cons (.lst (.cons (.str (S "not")) (.cons (.str (S "and")) (.cons (.str (S
  "or")) (.cons (.str (S "some")) (.cons (.str (S "all")) (.cons (.str (S "least")) .nil))))))) .nil)))))) (.cons (.asg (.nm 17) (.idx (.lst (.cons
  (.var 17) (.cons (.tup (.cons (.str (S "all")) (.cons (.var 4) (.cons (.var 17) .nil)))) (.cons (.var 17) .nil)))) (.var 4))) (.cons (.asg (.nm 18)
  (.call 35 (.cons (.var 2) (.cons (.var 17) .nil)))) (.cons (.ife (.not (.call 19 (.cons (.call 15 (.cons (.var 2) (.cons (.var 17) .nil))) (.cons
  (.var 18) .nil)))) (.cons (.ret (.bl false)) .nil) .nil) (.cons (.app 3 (.var 18)) .nil)))))) (.cons (.asg (.tp (.cons (.nm 5) (.cons (.nm 6) (.cons
  (.nm 7) .nil)))) (.var 3)) (.cons (.asg (.nm 8) (.call 32 (.cons (.bin .add (.idx (.var 5) (.int 0)) (.idx (.var 6) (.int 0))) .nil))) (.cons (.asg
  (.nm 9) (.call 27 (.cons (.idx (.var 2) (.int 0)) (.cons (.bcl .len (.cons (.var 8) .nil)) .nil)))) (.cons (.ife (.not (.call 19 (.cons (.call 10
  (.cons (.var 5) (.cons (.var 6) .nil))) (.cons (.tup (.cons (.var 8) (.cons (.bcl .tuple (.cons (.lc (.var 16) (.nm 16) .val (.var 9) (.and (.call 36
  (.cons (.var 5) (.cons (.var 8) (.cons (.var 16) .nil)))) (.call 36 (.cons (.var 6) (.cons (.var 8) (.cons (.var 16) .nil)))))) .nil)) .nil)))
  .nil)))) (.cons (.ret (.bl false)) .nil) .nil) (.cons (.asg (.nm 8) (.call 32 (.cons (.bin .add (.bin .add (.idx (.var 5) (.int 0)) (.idx (.var 6)
  (.int 0))) (.idx (.var 7) (.int 0))) .nil))) (.cons (.asg (.nm 9) (.call 27 (.cons (.idx (.var 2) (.int 0)) (.cons (.bcl .len (.cons (.var 8) .nil))
  .nil)))) (.cons (.asg (.nm 10) (.lc (.lc (.call 36 (.cons (.var 23) (.cons (.var 8) (.cons (.var 16) .nil)))) (.nm 23) .val (.var 3) (.bl true)) (.nm
  16) .val (.var 9) (.bl true))) (.cons (.ife (.not (.call 19 (.cons (.call 9 (.cons (.var 2) (.cons (.var 3) .nil))) (.cons (.tup (.cons (.var 8)
  (.cons (.bcl .tuple (.cons (.lc (.idx (.var 9) (.var 22)) (.nm 22) .rng (.cons (.bcl .len (.cons (.var 9) .nil)) .nil) (.cmp .nin (.bl false) (.idx
  (.var 10) (.var 22)))) .nil)) .nil))) .nil)))) (.cons (.ret (.bl false)) .nil) .nil) (.cons (.ife (.not (.call 19 (.cons (.call 11 (.cons (.var 2)
  (.cons (.var 3) .nil))) (.cons (.tup (.cons (.var 8) (.cons (.bcl .tuple (.cons (.lc (.idx (.var 9) (.var 22)) (.nm 22) .rng (.cons (.bcl .len (.cons
  (.var 9) .nil)) .nil) (.cmp .isin (.bl true) (.idx (.var 10) (.var 22)))) .nil)) .nil))) .nil)))) (.cons (.ret (.bl false)) .nil) .nil) (.cons (.asg
  (.nm 11) (.bcl .tuple (.cons (.lc (.var 16) (.nm 16) .val (.call 27 (.cons (.idx (.var 2) (.int 0)) (.cons (.bcl .len (.cons (.idx (.var 5) (.int 0))
  .nil)) .nil))) (.cmp .nin (.var 16) (.idx (.var 5) (.int 1)))) .nil))) (.cons (.ife (.not (.call 19 (.cons (.call 12 (.cons (.var 2) (.cons (.var 5)
  .nil))) (.cons (.tup (.cons (.idx (.var 5) (.int 0)) (.cons (.var 11) .nil))) .nil)))) (.cons (.ret (.bl false)) .nil) .nil) (.cons (.asg (.nm 12)
  (.call 21 (.cons (.var 1) (.cons (.int 3) .nil)))) (.cons (.asg (.nm 13) (.bin .add (.int 1) (.call 21 (.cons (.var 1) (.cons (.int 4) .nil)))))
  (.cons (.asg (.nm 14) (.bcl .tuple (.cons (.lc (.var 24) (.nm 24) .val (.idx (.var 5) (.int 0)) (.cmp .ne (.var 24) (.var 12))) .nil))) (.cons (.asg
  (.nm 15) (.lst .nil)) (.cons (.for_ (.nm 16) .val (.call 27 (.cons (.idx (.var 2) (.int 0)) (.cons (.bcl .len (.cons (.var 14) .nil)) .nil))) (.cons
  (.asg (.nm 19) (.int 0)) (.cons (.for_ (.nm 20) .rng (.cons (.idx (.var 2) (.int 0)) .nil) (.cons (.asg (.nm 21) (.dsp (.var 12) (.var 20))) (.cons
  (.for_ (.nm 22) .rng (.cons (.bcl .len (.cons (.var 14) .nil)) .nil) (.cons (.seti (.var 21) (.idx (.var 14) (.var 22)) (.idx (.var 16) (.var 22)))
  .nil)) (.cons (.ife (.cmp .isin (.bcl .tuple (.cons (.lc (.idx (.var 21) (.var 24)) (.nm 24) .val (.idx (.var 5) (.int 0)) (.bl true)) .nil)) (.idx
  (.var 5) (.int 1))) (.cons (.asg (.nm 19) (.bin .add (.var 19) (.int 1))) .nil) .nil) .nil)))) (.cons (.ife (.cmp .ge (.var 19) (.var 13)) (.cons
  (.app 15 (.var 16)) .nil) .nil) .nil)))) (.cons (.ret (.call 19 (.cons (.call 13 (.cons (.var 2) (.cons (.var 5) (.cons (.var 12) (.cons (.var 13)
  .nil))))) (.cons (.tup (.cons (.var 14) (.cons (.bcl .tuple (.cons (.var 15) .nil)) .nil))) .nil)))) .nil)))))))))))))))))))))
def pb_tuples_of : PDef :=
  ⟨S "tuples_of", defArgs (top 1), defBody (top 1), defScope (top 1), [S "n", S "size", S "found", S "_", S "row", S "item"], [S "n", S "size"], ⟨2, 6,
  b_tuples_of, []⟩⟩
def pb_parts_of : PDef :=
  ⟨S "parts_of", defArgs (top 3), defBody (top 3), defScope (top 3), [S "formula", S "word"], [S "formula"], ⟨1, 2, b_parts_of, []⟩⟩
def pb_bound_name : PDef :=
  ⟨S "bound_name", defArgs (top 4), defBody (top 4), defScope (top 4), [S "formula"], [S "formula"], ⟨1, 1, b_bound_name, []⟩⟩
def pb_own_names : PDef :=
  ⟨S "own_names", defArgs (top 5), defBody (top 5), defScope (top 5), [S "formula"], [S "formula"], ⟨1, 1, b_own_names, []⟩⟩
def pb_free_list : PDef :=
  ⟨S "free_list", defArgs (top 6), defBody (top 6), defScope (top 6), [S "formula", S "found", S "part", S "name"], [S "formula"], ⟨1, 4, b_free_list,
  []⟩⟩
def pb_free : PDef :=
  ⟨S "free", defArgs (top 7), defBody (top 7), defScope (top 7), [S "formula"], [S "formula"], ⟨1, 1, b_free, []⟩⟩
def pb_single_table : PDef :=
  ⟨S "single_table", defArgs (top 9), defBody (top 9), defScope (top 9), [S "world", S "formula", S "word", S "x", S "y", S "pairs", S "rows", S "a", S
  "b"], [S "world", S "formula"], ⟨2, 9, b_single_table, []⟩⟩
def pb_widened : PDef :=
  ⟨S "widened", defArgs (top 10), defBody (top 10), defScope (top 10), [S "world", S "table", S "names", S "mine", S "rows", S "places", S "more", S
  "found", S "row", S "extra", S "name", S "whole", S "k"], [S "world", S "table", S "names"], ⟨3, 13, b_widened, []⟩⟩
def pb_joined_names : PDef :=
  ⟨S "joined_names", defArgs (top 11), defBody (top 11), defScope (top 11), [S "tables", S "mine", S "_", S "name"], [S "tables"], ⟨1, 4, b_joined_names,
  []⟩⟩
def pb_meet : PDef :=
  ⟨S "meet", defArgs (top 12), defBody (top 12), defScope (top 12), [S "world", S "tables", S "found", S "mine", S "rows", S "names"], [S "world", S
  "tables"], ⟨2, 6, b_meet, []⟩⟩
def pb_joined : PDef :=
  ⟨S "joined", defArgs (top 13), defBody (top 13), defScope (top 13), [S "one", S "two", S "names", S "common", S "lots", S "row", S "found", S "key", S
  "other", S "name", S "n"], [S "one", S "two"], ⟨2, 11, b_joined, []⟩⟩
def pb_union : PDef :=
  ⟨S "union", defArgs (top 14), defBody (top 14), defScope (top 14), [S "world", S "tables", S "names", S "found", S "table", S "row"], [S "world", S
  "tables"], ⟨2, 6, b_union, []⟩⟩
def pb_complement : PDef :=
  ⟨S "complement", defArgs (top 15), defBody (top 15), defScope (top 15), [S "world", S "table", S "names", S "rows", S "row"], [S "world", S "table"],
  ⟨2, 5, b_complement, []⟩⟩
def pb_counted : PDef :=
  ⟨S "counted", defArgs (top 16), defBody (top 16), defScope (top 16), [S "world", S "table", S "name", S "least", S "names", S "rows", S "at", S
  "numbers", S "row", S "rest"], [S "world", S "table", S "name", S "least"], ⟨4, 10, b_counted, []⟩⟩
def pb_table_of : PDef :=
  ⟨S "table_of", defArgs (top 17), defBody (top 17), defScope (top 17), [S "world", S "formula", S "word", S "part"], [S "world", S "formula"], ⟨2, 4,
  b_table_of, []⟩⟩
def pb_full_table : PDef :=
  ⟨S "full_table", defArgs (top 18), defBody (top 18), defScope (top 18), [S "world", S "formula", S "names"], [S "world", S "formula"], ⟨2, 3,
  b_full_table, []⟩⟩
def pb_law_cell : PDef :=
  ⟨S "_law_cell", defArgs (top 20), defBody (top 20), defScope (top 20), [S "script", S "k"], [S "script", S "k"], ⟨2, 2, b_law_cell, []⟩⟩
def pb_law_draws : PDef :=
  ⟨S "_law_draws", defArgs (top 21), defBody (top 21), defScope (top 21), [S "cell", S "amount", S "rows", S "left", S "k", S "blended"], [S "cell", S
  "amount"], ⟨2, 6, b_law_draws, []⟩⟩
def pb_law_kind : PDef :=
  ⟨S "_law_kind", defArgs (top 22), defBody (top 22), defScope (top 22), [S "x"], [S "x"], ⟨1, 1, b_law_kind, []⟩⟩
def pb_law_equal : PDef :=
  ⟨S "_law_equal", defArgs (top 23), defBody (top 23), defScope (top 23), [S "x", S "due", S "key", S "k", S "other"], [S "x", S "due"], ⟨2, 5,
  b_law_equal, []⟩⟩
def pb_law_pool : PDef :=
  ⟨S "_law_pool", defArgs (top 24), defBody (top 24), defScope (top 24), [S "script", S "rows", S "k"], [S "script"], ⟨1, 3, b_law_pool, []⟩⟩
def pb_law_pick : PDef :=
  ⟨S "_law_pick", defArgs (top 25), defBody (top 25), defScope (top 25), [S "pool", S "amount", S "at", S "turn"], [S "pool", S "amount"], ⟨2, 4,
  b_law_pick, []⟩⟩
def pb_law_line : PDef :=
  ⟨S "_law_line", defArgs (top 26), defBody (top 26), defScope (top 26), [S "n", S "pairs", S "a", S "b"], [S "n"], ⟨1, 4, b_law_line, []⟩⟩
def pb_law_ring : PDef :=
  ⟨S "_law_ring", defArgs (top 27), defBody (top 27), defScope (top 27), [S "n", S "a"], [S "n"], ⟨1, 2, b_law_ring, []⟩⟩
def pb_law_both_ways : PDef :=
  ⟨S "_law_both_ways", defArgs (top 28), defBody (top 28), defScope (top 28), [S "n", S "edges", S "pair", S "a", S "b"], [S "n", S "edges"], ⟨2, 5,
  b_law_both_ways, []⟩⟩
def pb_law_special : PDef :=
  ⟨S "_law_special", defArgs (top 29), defBody (top 29), defScope (top 29), [S "number", S "rows"], [S "number"], ⟨1, 2, b_law_special, []⟩⟩
def pb_law_world : PDef :=
  ⟨S "_law_world", defArgs (top 30), defBody (top 30), defScope (top 30), [S "draws", S "most", S "n", S "dense", S "marked", S "marks", S "i", S
  "arrows", S "at", S "a", S "b"], [S "draws", S "most"], ⟨2, 11, b_law_world, []⟩⟩
def pb_law_tuples : PDef :=
  ⟨S "_law_tuples", defArgs (top 31), defBody (top 31), defScope (top 31), [S "n", S "size", S "rows", S "k", S "more", S "row", S "item"], [S "n", S
  "size"], ⟨2, 7, b_law_tuples, []⟩⟩
def pb_law_inner : PDef :=
  ⟨S "_law_inner", defArgs (top 32), defBody (top 32), defScope (top 32), [S "formula", S "word"], [S "formula"], ⟨1, 2, b_law_inner, []⟩⟩
def pb_law_bound : PDef :=
  ⟨S "_law_bound", defArgs (top 33), defBody (top 33), defScope (top 33), [S "formula"], [S "formula"], ⟨1, 1, b_law_bound, []⟩⟩
def pb_law_own : PDef :=
  ⟨S "_law_own", defArgs (top 34), defBody (top 34), defScope (top 34), [S "formula"], [S "formula"], ⟨1, 1, b_law_own, []⟩⟩
def pb_law_free : PDef :=
  ⟨S "_law_free", defArgs (top 35), defBody (top 35), defScope (top 35), [S "formula", S "found", S "part", S "name"], [S "formula"], ⟨1, 4, b_law_free,
  []⟩⟩
def pb_law_unlike : PDef :=
  ⟨S "_law_unlike", defArgs (top 36), defBody (top 36), defScope (top 36), [S "items", S "found", S "item"], [S "items"], ⟨1, 3, b_law_unlike, []⟩⟩
def pb_law_truth : PDef :=
  ⟨S "_law_truth", defArgs (top 37), defBody (top 37), defScope (top 37), [S "world", S "formula", S "row", S "word", S "name", S "wanted", S "good", S
  "item", S "part"], [S "world", S "formula", S "row"], ⟨3, 9, b_law_truth, []⟩⟩
def pb_law_formula : PDef :=
  ⟨S "_law_formula", defArgs (top 38), defBody (top 38), defScope (top 38), [S "pool", S "top", S "deep", S "words", S "way", S "word", S "name", S "x",
  S "y", S "parts", S "k"], [S "pool", S "top", S "deep", S "words"], ⟨4, 11, b_law_formula, []⟩⟩
def pb_law_table : PDef :=
  ⟨S "_law_table", defArgs (top 39), defBody (top 39), defScope (top 39), [S "world", S "formula", S "known", S "rows", S "items", S "values", S "k"], [S
  "world", S "formula"], ⟨2, 7, b_law_table, []⟩⟩
def pb_law_fits : PDef :=
  ⟨S "_law_fits", defArgs (top 40), defBody (top 40), defScope (top 40), [S "table", S "known", S "items", S "name"], [S "table", S "known", S "items"],
  ⟨3, 4, b_law_fits, []⟩⟩
def pb_law : PDef :=
  ⟨S "law", defArgs (top 41), defBody (top 41), defScope (top 41), [S "script", S "pool", S "world", S "tables", S "turn", S "one", S "two", S "three", S
  "known", S "rows", S "fits", S "others", S "name", S "wanted", S "left", S "kept", S "row", S "formula", S "due", S "good", S "item", S "whole", S
  "k", S "table", S "x"], [S "script"], ⟨1, 25, b_law, []⟩⟩
def ds0 : List PDef := [pb_tuples_of, pb_parts_of, pb_bound_name, pb_own_names, pb_free_list, pb_free, pb_single_table, pb_widened, pb_joined_names, pb_meet, pb_joined, pb_union, pb_complement, pb_counted, pb_table_of, pb_full_table]
def ds1 : List PDef := [pb_law_cell, pb_law_draws, pb_law_kind, pb_law_equal, pb_law_pool, pb_law_pick, pb_law_line, pb_law_ring, pb_law_both_ways, pb_law_special, pb_law_world, pb_law_tuples, pb_law_inner, pb_law_bound, pb_law_own, pb_law_free]
def ds2 : List PDef := [pb_law_unlike, pb_law_truth, pb_law_formula, pb_law_table, pb_law_fits, pb_law]
def ds : List PDef := ds0 ++ ds1 ++ ds2
def cs : List (PySem.Str × PV) := []
abbrev G : Gl := glOf ds cs
theorem ckb_tuples_of : pchk ds cs pb_tuples_of = true := by kernel_rfl
theorem ckb_parts_of : pchk ds cs pb_parts_of = true := by kernel_rfl
theorem ckb_bound_name : pchk ds cs pb_bound_name = true := by kernel_rfl
theorem ckb_own_names : pchk ds cs pb_own_names = true := by kernel_rfl
theorem ckb_free_list : pchk ds cs pb_free_list = true := by kernel_rfl
theorem ckb_free : pchk ds cs pb_free = true := by kernel_rfl
theorem ckb_single_table : pchk ds cs pb_single_table = true := by kernel_rfl
theorem ckb_widened : pchk ds cs pb_widened = true := by kernel_rfl
theorem ckb_joined_names : pchk ds cs pb_joined_names = true := by kernel_rfl
theorem ckb_meet : pchk ds cs pb_meet = true := by kernel_rfl
theorem ckb_joined : pchk ds cs pb_joined = true := by kernel_rfl
theorem ckb_union : pchk ds cs pb_union = true := by kernel_rfl
theorem ckb_complement : pchk ds cs pb_complement = true := by kernel_rfl
theorem ckb_counted : pchk ds cs pb_counted = true := by kernel_rfl
theorem ckb_table_of : pchk ds cs pb_table_of = true := by kernel_rfl
theorem ckb_full_table : pchk ds cs pb_full_table = true := by kernel_rfl
theorem ckb_law_cell : pchk ds cs pb_law_cell = true := by kernel_rfl
theorem ckb_law_draws : pchk ds cs pb_law_draws = true := by kernel_rfl
theorem ckb_law_kind : pchk ds cs pb_law_kind = true := by kernel_rfl
theorem ckb_law_equal : pchk ds cs pb_law_equal = true := by kernel_rfl
theorem ckb_law_pool : pchk ds cs pb_law_pool = true := by kernel_rfl
theorem ckb_law_pick : pchk ds cs pb_law_pick = true := by kernel_rfl
theorem ckb_law_line : pchk ds cs pb_law_line = true := by kernel_rfl
theorem ckb_law_ring : pchk ds cs pb_law_ring = true := by kernel_rfl
theorem ckb_law_both_ways : pchk ds cs pb_law_both_ways = true := by kernel_rfl
theorem ckb_law_special : pchk ds cs pb_law_special = true := by kernel_rfl
theorem ckb_law_world : pchk ds cs pb_law_world = true := by kernel_rfl
theorem ckb_law_tuples : pchk ds cs pb_law_tuples = true := by kernel_rfl
theorem ckb_law_inner : pchk ds cs pb_law_inner = true := by kernel_rfl
theorem ckb_law_bound : pchk ds cs pb_law_bound = true := by kernel_rfl
theorem ckb_law_own : pchk ds cs pb_law_own = true := by kernel_rfl
theorem ckb_law_free : pchk ds cs pb_law_free = true := by kernel_rfl
theorem ckb_law_unlike : pchk ds cs pb_law_unlike = true := by kernel_rfl
theorem ckb_law_truth : pchk ds cs pb_law_truth = true := by kernel_rfl
theorem ckb_law_formula : pchk ds cs pb_law_formula = true := by kernel_rfl
theorem ckb_law_table : pchk ds cs pb_law_table = true := by kernel_rfl
theorem ckb_law_fits : pchk ds cs pb_law_fits = true := by kernel_rfl
theorem ckb_law : pchk ds cs pb_law = true := by kernel_rfl
theorem bpb_tuples_of : BindP pb_tuples_of := fun _ _ _ _ _ _ us hl => match us, hl with | [_, _], _ => rfl
theorem bpb_parts_of : BindP pb_parts_of := fun _ _ _ _ _ _ us hl => match us, hl with | [_], _ => rfl
theorem bpb_bound_name : BindP pb_bound_name := fun _ _ _ _ _ _ us hl => match us, hl with | [_], _ => rfl
theorem bpb_own_names : BindP pb_own_names := fun _ _ _ _ _ _ us hl => match us, hl with | [_], _ => rfl
theorem bpb_free_list : BindP pb_free_list := fun _ _ _ _ _ _ us hl => match us, hl with | [_], _ => rfl
theorem bpb_free : BindP pb_free := fun _ _ _ _ _ _ us hl => match us, hl with | [_], _ => rfl
theorem bpb_single_table : BindP pb_single_table := fun _ _ _ _ _ _ us hl => match us, hl with | [_, _], _ => rfl
theorem bpb_widened : BindP pb_widened := fun _ _ _ _ _ _ us hl => match us, hl with | [_, _, _], _ => rfl
theorem bpb_joined_names : BindP pb_joined_names := fun _ _ _ _ _ _ us hl => match us, hl with | [_], _ => rfl
theorem bpb_meet : BindP pb_meet := fun _ _ _ _ _ _ us hl => match us, hl with | [_, _], _ => rfl
theorem bpb_joined : BindP pb_joined := fun _ _ _ _ _ _ us hl => match us, hl with | [_, _], _ => rfl
theorem bpb_union : BindP pb_union := fun _ _ _ _ _ _ us hl => match us, hl with | [_, _], _ => rfl
theorem bpb_complement : BindP pb_complement := fun _ _ _ _ _ _ us hl => match us, hl with | [_, _], _ => rfl
theorem bpb_counted : BindP pb_counted := fun _ _ _ _ _ _ us hl => match us, hl with | [_, _, _, _], _ => rfl
theorem bpb_table_of : BindP pb_table_of := fun _ _ _ _ _ _ us hl => match us, hl with | [_, _], _ => rfl
theorem bpb_full_table : BindP pb_full_table := fun _ _ _ _ _ _ us hl => match us, hl with | [_, _], _ => rfl
theorem bpb_law_cell : BindP pb_law_cell := fun _ _ _ _ _ _ us hl => match us, hl with | [_, _], _ => rfl
theorem bpb_law_draws : BindP pb_law_draws := fun _ _ _ _ _ _ us hl => match us, hl with | [_, _], _ => rfl
theorem bpb_law_kind : BindP pb_law_kind := fun _ _ _ _ _ _ us hl => match us, hl with | [_], _ => rfl
theorem bpb_law_equal : BindP pb_law_equal := fun _ _ _ _ _ _ us hl => match us, hl with | [_, _], _ => rfl
theorem bpb_law_pool : BindP pb_law_pool := fun _ _ _ _ _ _ us hl => match us, hl with | [_], _ => rfl
theorem bpb_law_pick : BindP pb_law_pick := fun _ _ _ _ _ _ us hl => match us, hl with | [_, _], _ => rfl
theorem bpb_law_line : BindP pb_law_line := fun _ _ _ _ _ _ us hl => match us, hl with | [_], _ => rfl
theorem bpb_law_ring : BindP pb_law_ring := fun _ _ _ _ _ _ us hl => match us, hl with | [_], _ => rfl
theorem bpb_law_both_ways : BindP pb_law_both_ways := fun _ _ _ _ _ _ us hl => match us, hl with | [_, _], _ => rfl
theorem bpb_law_special : BindP pb_law_special := fun _ _ _ _ _ _ us hl => match us, hl with | [_], _ => rfl
theorem bpb_law_world : BindP pb_law_world := fun _ _ _ _ _ _ us hl => match us, hl with | [_, _], _ => rfl
theorem bpb_law_tuples : BindP pb_law_tuples := fun _ _ _ _ _ _ us hl => match us, hl with | [_, _], _ => rfl
theorem bpb_law_inner : BindP pb_law_inner := fun _ _ _ _ _ _ us hl => match us, hl with | [_], _ => rfl
theorem bpb_law_bound : BindP pb_law_bound := fun _ _ _ _ _ _ us hl => match us, hl with | [_], _ => rfl
theorem bpb_law_own : BindP pb_law_own := fun _ _ _ _ _ _ us hl => match us, hl with | [_], _ => rfl
theorem bpb_law_free : BindP pb_law_free := fun _ _ _ _ _ _ us hl => match us, hl with | [_], _ => rfl
theorem bpb_law_unlike : BindP pb_law_unlike := fun _ _ _ _ _ _ us hl => match us, hl with | [_], _ => rfl
theorem bpb_law_truth : BindP pb_law_truth := fun _ _ _ _ _ _ us hl => match us, hl with | [_, _, _], _ => rfl
theorem bpb_law_formula : BindP pb_law_formula := fun _ _ _ _ _ _ us hl => match us, hl with | [_, _, _, _], _ => rfl
theorem bpb_law_table : BindP pb_law_table := fun _ _ _ _ _ _ us hl => match us, hl with | [_, _], _ => rfl
theorem bpb_law_fits : BindP pb_law_fits := fun _ _ _ _ _ _ us hl => match us, hl with | [_, _, _], _ => rfl
theorem bpb_law : BindP pb_law := fun _ _ _ _ _ _ us hl => match us, hl with | [_], _ => rfl
theorem bp0 : AllPD BindP ds0 := ⟨bpb_tuples_of, bpb_parts_of, bpb_bound_name, bpb_own_names, bpb_free_list, bpb_free, bpb_single_table, bpb_widened, bpb_joined_names, bpb_meet, bpb_joined, bpb_union, bpb_complement, bpb_counted, bpb_table_of, bpb_full_table, trivial⟩
theorem ck0 : AllPD (fun p => pchk ds cs p = true) ds0 := ⟨ckb_tuples_of, ckb_parts_of, ckb_bound_name, ckb_own_names, ckb_free_list, ckb_free, ckb_single_table, ckb_widened, ckb_joined_names, ckb_meet, ckb_joined, ckb_union, ckb_complement, ckb_counted, ckb_table_of, ckb_full_table, trivial⟩
theorem bp1 : AllPD BindP ds1 := ⟨bpb_law_cell, bpb_law_draws, bpb_law_kind, bpb_law_equal, bpb_law_pool, bpb_law_pick, bpb_law_line, bpb_law_ring, bpb_law_both_ways, bpb_law_special, bpb_law_world, bpb_law_tuples, bpb_law_inner, bpb_law_bound, bpb_law_own, bpb_law_free, trivial⟩
theorem ck1 : AllPD (fun p => pchk ds cs p = true) ds1 := ⟨ckb_law_cell, ckb_law_draws, ckb_law_kind, ckb_law_equal, ckb_law_pool, ckb_law_pick, ckb_law_line, ckb_law_ring, ckb_law_both_ways, ckb_law_special, ckb_law_world, ckb_law_tuples, ckb_law_inner, ckb_law_bound, ckb_law_own, ckb_law_free, trivial⟩
theorem bp2 : AllPD BindP ds2 := ⟨bpb_law_unlike, bpb_law_truth, bpb_law_formula, bpb_law_table, bpb_law_fits, bpb_law, trivial⟩
theorem ck2 : AllPD (fun p => pchk ds cs p = true) ds2 := ⟨ckb_law_unlike, ckb_law_truth, ckb_law_formula, ckb_law_table, ckb_law_fits, ckb_law, trivial⟩
theorem bp_all : ∀ p ∈ ds, BindP p := AllPD.mem ((MP.AllPD.append (MP.AllPD.append bp0 bp1) bp2))
theorem ck_all : ∀ p ∈ ds, pchk ds cs p = true := AllPD.mem ((MP.AllPD.append (MP.AllPD.append ck0 ck1) ck2))
theorem hd_all : ∀ p ∈ ds, p.fd.dfl = [] ∧ p.fd.np = p.ps.length := by
  have h : (ds.all fun p => p.fd.dfl.isEmpty && decide (p.fd.np = p.ps.length)) = true := by kernel_rfl
  intro p hp
  have q := List.all_eq_true.mp h p hp
  rw [Bool.and_eq_true, decide_eq_true_eq, List.isEmpty_iff] at q
  exact q
def cf : List He.Fa := []
theorem cst_all {P : Program} {w : World} {K : PySem.W.Frag} {h : Heap} {mg : PySem.Str → Option Value} (X : K.In h) (Gh : h.Ns mainGlobals mg) (c : He.SaysD (factsOf ds cf) (ds.map PDef.toD) K) : ∀ (g : Nat) (x : PySem.Str) (v : PV), cs[g]? = some (x, v) → ∃ u y, mg x = some u ∧ RelV y u ∧ ∀ F ph, Rep (wdOf ds P w K) F ph v y := by
  intro g x v h
  exact absurd h (by simp [cs])
end K94
set_option maxRecDepth 100000
namespace K94
open PySem (Str)
open MP MX
theorem fn_tuples_of : G.fns 0 = some ⟨2, 6, b_tuples_of, []⟩ := by rfl
theorem fn_parts_of : G.fns 1 = some ⟨1, 2, b_parts_of, []⟩ := by rfl
theorem fn_bound_name : G.fns 2 = some ⟨1, 1, b_bound_name, []⟩ := by rfl
theorem fn_own_names : G.fns 3 = some ⟨1, 1, b_own_names, []⟩ := by rfl
theorem fn_free_list : G.fns 4 = some ⟨1, 4, b_free_list, []⟩ := by rfl
theorem fn_free : G.fns 5 = some ⟨1, 1, b_free, []⟩ := by rfl
theorem fn_single_table : G.fns 6 = some ⟨2, 9, b_single_table, []⟩ := by rfl
theorem fn_widened : G.fns 7 = some ⟨3, 13, b_widened, []⟩ := by rfl
theorem fn_joined_names : G.fns 8 = some ⟨1, 4, b_joined_names, []⟩ := by rfl
theorem fn_meet : G.fns 9 = some ⟨2, 6, b_meet, []⟩ := by rfl
theorem fn_joined : G.fns 10 = some ⟨2, 11, b_joined, []⟩ := by rfl
theorem fn_union : G.fns 11 = some ⟨2, 6, b_union, []⟩ := by rfl
theorem fn_complement : G.fns 12 = some ⟨2, 5, b_complement, []⟩ := by rfl
theorem fn_counted : G.fns 13 = some ⟨4, 10, b_counted, []⟩ := by rfl
theorem fn_table_of : G.fns 14 = some ⟨2, 4, b_table_of, []⟩ := by rfl
theorem fn_full_table : G.fns 15 = some ⟨2, 3, b_full_table, []⟩ := by rfl
theorem fn_law_cell : G.fns 16 = some ⟨2, 2, b_law_cell, []⟩ := by rfl
theorem fn_law_draws : G.fns 17 = some ⟨2, 6, b_law_draws, []⟩ := by rfl
theorem fn_law_kind : G.fns 18 = some ⟨1, 1, b_law_kind, []⟩ := by rfl
theorem fn_law_equal : G.fns 19 = some ⟨2, 5, b_law_equal, []⟩ := by rfl
theorem fn_law_pool : G.fns 20 = some ⟨1, 3, b_law_pool, []⟩ := by rfl
theorem fn_law_pick : G.fns 21 = some ⟨2, 4, b_law_pick, []⟩ := by rfl
theorem fn_law_line : G.fns 22 = some ⟨1, 4, b_law_line, []⟩ := by rfl
theorem fn_law_ring : G.fns 23 = some ⟨1, 2, b_law_ring, []⟩ := by rfl
theorem fn_law_both_ways : G.fns 24 = some ⟨2, 5, b_law_both_ways, []⟩ := by rfl
theorem fn_law_special : G.fns 25 = some ⟨1, 2, b_law_special, []⟩ := by rfl
theorem fn_law_world : G.fns 26 = some ⟨2, 11, b_law_world, []⟩ := by rfl
theorem fn_law_tuples : G.fns 27 = some ⟨2, 7, b_law_tuples, []⟩ := by rfl
theorem fn_law_inner : G.fns 28 = some ⟨1, 2, b_law_inner, []⟩ := by rfl
theorem fn_law_bound : G.fns 29 = some ⟨1, 1, b_law_bound, []⟩ := by rfl
theorem fn_law_own : G.fns 30 = some ⟨1, 1, b_law_own, []⟩ := by rfl
theorem fn_law_free : G.fns 31 = some ⟨1, 4, b_law_free, []⟩ := by rfl
theorem fn_law_unlike : G.fns 32 = some ⟨1, 3, b_law_unlike, []⟩ := by rfl
theorem fn_law_truth : G.fns 33 = some ⟨3, 9, b_law_truth, []⟩ := by rfl
theorem fn_law_formula : G.fns 34 = some ⟨4, 11, b_law_formula, []⟩ := by rfl
theorem fn_law_table : G.fns 35 = some ⟨2, 7, b_law_table, []⟩ := by rfl
theorem fn_law_fits : G.fns 36 = some ⟨3, 4, b_law_fits, []⟩ := by rfl
theorem fn_law : G.fns 37 = some ⟨1, 25, b_law, []⟩ := by rfl
end K94
namespace K94
open PySem (Str)
open MP MX
/-! ### what a law draws of a script -/
theorem fmod_nat (x : Int) (m : Nat) (h : 0 < m) : ∃ d : Nat, d < m ∧ x.fmod (m : Int) = (d : Int) := by
  have h1 := Int.fmod_nonneg_of_pos x (b := (m : Int)) (by omega)
  have h2 := Int.fmod_lt_of_pos x (b := (m : Int)) (by omega)
  exact ⟨(x.fmod (m : Int)).toNat, by omega, by omega⟩
theorem cell_ok (k : Nat) (ns : List Int) (i : Nat) (hp : Hs) : callF G (k + 1) 16 [.lst (ns.map PV.int), .int i] hp = some ((false, .int (ns.getD i 0)), hp) := by
  refine call_eq fn_law_cell rfl rfl ?_
  by_cases h : i < ns.length
  · simp -implicitDefEqProofs [-List.getD_eq_getElem?_getD, -List.map_map, b_law_cell, h, List.getD]
  · have h2 : ns.length ≤ i := by omega
    simp -implicitDefEqProofs [-List.getD_eq_getElem?_getD, -List.map_map, b_law_cell, h, List.getD, h2]
theorem pow18 : binP .pow (.int 10) (.int 18) = some (false, .int 1000000000000000000) := by
  show (if (0 : Int) ≤ 18 ∧ (18 : Int) ≤ 1000000 ∧ (10 : Int).natAbs < 2 ^ 64 then some (false, PV.int ((10 : Int) ^ (18 : Int).toNat)) else none) = _
  rw [if_pos (by decide)]
  rfl
theorem big_r (b : Int) (h : b.natAbs < 2147483648) (a : Int) : (big a || big b) = true := by
  have : big b = true := by
    unfold big
    rw [decide_eq_true_eq]
    omega
  rw [this, Bool.or_true]
theorem mul_r (a b : Int) (h : b.natAbs < 2147483648) : binP .mul (.int a) (.int b) = some (false, .int (a * b)) := bin_mul_int a b (big_r b h a)
theorem mul_l (a b : Int) (h : a.natAbs < 2147483648) : binP .mul (.int a) (.int b) = some (false, .int (a * b)) := bin_mul_int a b (by rw [Bool.or_comm]; exact big_r a h b)
theorem mod_lit (a : Int) (m : Nat) (h : 0 < m) : binP .mod (.int a) (.int (m : Int)) = some (false, .int (a.fmod m)) := bin_mod_int a m (by omega)
theorem div_lit (a : Int) (m : Nat) (h : 0 < m) (h2 : m < 1073741824) : binP .fdiv (.int a) (.int (m : Int)) = some (false, .int (a.fdiv m)) := bin_fdiv_int a m (by omega) (by omega)
theorem draws_ok (k : Nat) (cell : Int) (n : Nat) (hn : n ≤ 1000) (hp : Hs) :
    ∃ ds : List Nat, ds.length = n ∧ (∀ d ∈ ds, d < 4096) ∧ callF G (k + 1) 17 [.int cell, .int n] hp = some ((true, .lst (ds.map nt)), hp) := by
  have hw : Wp (callF G (k + 1) 17 [.int cell, .int n] hp) fun r => ∃ ds : List Nat, ds.length = n ∧ (∀ d ∈ ds, d < 4096) ∧ r = ((true, .lst (ds.map nt)), hp) := by
    refine Wp_call fn_law_draws rfl rfl ?_
    simp -implicitDefEqProofs [-List.getD_eq_getElem?_getD, -List.map_map, b_law_draws, rng_nt n (by omega)]
    rw [← upTo_nt]
    obtain ⟨I, iI⟩ := mkI3 (fun (i : Nat) (env : FEnv) (h : Hs) => h = hp ∧ ∃ (ds : List Nat) (left : Int) (x4 x5 : Option Rv), ds.length = i ∧ (∀ d ∈ ds, d < 4096) ∧
      env = [some (false, .int cell), some (false, .int n), some (true, .lst (ds.map nt)), some (false, .int left), x4, x5])
    refine Wp_rng n I ((iI _ _ _).mpr ⟨rfl, [], cell, none, none, rfl, by simp, rfl⟩) ?_ ?_
    · intro i env h hi hI
      obtain ⟨rfl, ds, left, x4, x5, hl, hd, rfl⟩ := (iI _ _ _).mp hI
      have hdl : ds.length < 16777216 := by omega
      have fin : ∀ x : Int, ∃ d : Nat, d < 4096 ∧ x.fmod 4096 = (d : Int) := fun x => fmod_nat x 4096 (by decide)
      have m4 : ∀ x : Int, binP .mod (.int x) (.int 4096) = some (false, .int (x.fmod 4096)) := fun x => mod_lit x 4096 (by decide)
      have d4 : ∀ x : Int, binP .fdiv (.int x) (.int 4096) = some (false, .int (x.fdiv 4096)) := fun x => div_lit x 4096 (by decide) (by decide)
      have d7 : ∀ x : Int, binP .fdiv (.int x) (.int 7) = some (false, .int (x.fdiv 7)) := fun x => div_lit x 7 (by decide) (by decide)
      have ma : ∀ x : Int, binP .mod (.int x) (.int 2147483647) = some (false, .int (x.fmod 2147483647)) := fun x => mod_lit x 2147483647 (by decide)
      have mb : ∀ x : Int, binP .mod (.int x) (.int 2147483629) = some (false, .int (x.fmod 2147483629)) := fun x => mod_lit x 2147483629 (by decide)
      have mc : ∀ x : Int, binP .mod (.int x) (.int 2147483587) = some (false, .int (x.fmod 2147483587)) := fun x => mod_lit x 2147483587 (by decide)
      have mu : ∀ x : Int, binP .mul (.int x) (.int 48271) = some (false, .int (x * 48271)) := fun x => mul_r x _ (by decide)
      have mv1 : ∀ x : Int, binP .mul (.int x) (.int 69621) = some (false, .int (x * 69621)) := fun x => mul_r x _ (by decide)
      have mw : ∀ x : Int, binP .mul (.int x) (.int 16807) = some (false, .int (x * 16807)) := fun x => mul_r x _ (by decide)
      have mx : ∀ x : Int, binP .mul (.int x) (.int 7919) = some (false, .int (x * 7919)) := fun x => mul_r x _ (by decide)
      have my : ∀ x : Int, binP .mul (.int 13) (.int x) = some (false, .int (13 * x)) := fun x => mul_l 13 x (by decide)
      have sq1 : ∀ x : Int, binP .mul (.int (x.fmod 2147483647)) (.int (x.fmod 2147483647)) = some (false, .int (x.fmod 2147483647 * x.fmod 2147483647)) := fun x => by
        obtain ⟨d, h1, h2⟩ := fmod_nat x 2147483647 (by decide)
        have h2 : x.fmod 2147483647 = (d : Int) := h2
        rw [h2]
        exact mul_r _ _ (by omega)
      have sq2 : ∀ x : Int, binP .mul (.int (x.fmod 2147483629)) (.int (x.fmod 2147483629)) = some (false, .int (x.fmod 2147483629 * x.fmod 2147483629)) := fun x => by
        obtain ⟨d, h1, h2⟩ := fmod_nat x 2147483629 (by decide)
        have h2 : x.fmod 2147483629 = (d : Int) := h2
        rw [h2]
        exact mul_r _ _ (by omega)
      have step : ∀ (d : Nat) (left : Int) (x4 x5 : Option Rv), d < 4096 → I (i + 1) [some (false, .int cell), some (false, .int n), some (true, .lst (ds.map nt ++ [.int d])), some (false, .int left), x4, x5] h := fun d left x4 x5 hd4 =>
        (iI _ _ _).mpr ⟨rfl, ds ++ [d], left, x4, x5, by simp [hl], fun e he => by
          rcases List.mem_append.mp he with he | he
          · exact hd e he
          · simp at he; omega, by simp⟩
      by_cases hc : (1000000000000000000 : Int) ≤ cell
      · by_cases hp0 : 0 < left
        · obtain ⟨d, hd1, hd2⟩ := fin left
          simp -implicitDefEqProofs [-List.getD_eq_getElem?_getD, -List.map_map, pow18, hc, hp0, m4, hd2, hdl, d4]
          exact step _ _ _ _ hd1
        · simp -implicitDefEqProofs [-List.getD_eq_getElem?_getD, -List.map_map, pow18, hc, hp0, mu, mv1, ma, mb, mc, mw, mx, my, sq1, sq2, d7, m4, hdl]
          obtain ⟨d, hd1, hd2⟩ := fin (((((((cell * 48271 + ((i : Int) + 1) * 69621).fmod 2147483647 * (cell * 48271 + ((i : Int) + 1) * 69621).fmod 2147483647 + (cell * 48271 + ((i : Int) + 1) * 69621).fmod 2147483647 * 16807 + (i : Int) * 7919).fmod 2147483629) * ((((cell * 48271 + ((i : Int) + 1) * 69621).fmod 2147483647 * (cell * 48271 + ((i : Int) + 1) * 69621).fmod 2147483647 + (cell * 48271 + ((i : Int) + 1) * 69621).fmod 2147483647 * 16807 + (i : Int) * 7919).fmod 2147483629)) + cell + 13 * (i : Int)).fmod 2147483587).fdiv 7))
          rw [hd2]
          exact step _ _ _ _ hd1
      · simp -implicitDefEqProofs [-List.getD_eq_getElem?_getD, -List.map_map, pow18, hc, mu, mv1, ma, mb, mc, mw, mx, my, sq1, sq2, d7, m4, hdl]
        obtain ⟨d, hd1, hd2⟩ := fin (((((((cell * 48271 + ((i : Int) + 1) * 69621).fmod 2147483647 * (cell * 48271 + ((i : Int) + 1) * 69621).fmod 2147483647 + (cell * 48271 + ((i : Int) + 1) * 69621).fmod 2147483647 * 16807 + (i : Int) * 7919).fmod 2147483629) * ((((cell * 48271 + ((i : Int) + 1) * 69621).fmod 2147483647 * (cell * 48271 + ((i : Int) + 1) * 69621).fmod 2147483647 + (cell * 48271 + ((i : Int) + 1) * 69621).fmod 2147483647 * 16807 + (i : Int) * 7919).fmod 2147483629)) + cell + 13 * (i : Int)).fmod 2147483587).fdiv 7))
        rw [hd2]
        exact step _ _ _ _ hd1
    · intro env h hI
      obtain ⟨rfl, ds, left, x4, x5, hl, hd, rfl⟩ := (iI _ _ _).mp hI
      simp -implicitDefEqProofs [-List.getD_eq_getElem?_getD, -List.map_map]
      exact ⟨ds, hl, hd, rfl⟩
  obtain ⟨r, e, ds, h1, h2, rfl⟩ := hw
  exact ⟨ds, h1, h2, e⟩
end K94
namespace K94
open PySem (Str)
open MP MX
/-! ### the pool of draws -/
@[simp] theorem exec_seti_idx (gl : Nat → Option PV) (call : CallT) (wf : Nat) (a b i e : ME) (env : FEnv) (hp : Hs) : exec gl call wf (.seti (.idx a b) i e) env hp = bnd (ev gl call e (unf env) hp) fun v hp1 =>
    bnd (ev gl call (.idx a b) (unf env) hp1) fun x hp2 => bnd (ev gl call i (unf env) hp2) fun j hp3 => if (v.lf && j.lf) = true then refF x (fun c => putP c j v) env hp3 else none := rfl
@[simp] theorem refF_ref (n : Nat) (f : PV → Option PV) (env : FEnv) (hp : Hs) : refF (.ref n) f env hp = (hp[n]?.bind f).map fun v' => (.nx, env, hp.set n v') := rfl
@[simp] theorem putP_lst0 (x v : PV) (xs : List PV) : putP (.lst (x :: xs)) (.int 0) v = some (.lst (v :: xs)) := by simp [putP]
/-- the pool, and what is drawn of it so far -/
def pl (rows : List Nat) : PV := .lst [.lst (rows.map nt), .ref 0]
@[simp] theorem pl_eq (rows : List Nat) : pl rows = .lst [.lst (rows.map nt), .ref 0] := rfl
def Hp (at_ : Nat) : Hs := [.lst [.int (at_ : Int)]]
structure Pool (rows : List Nat) : Prop where
  pos : 0 < rows.length
  len : rows.length ≤ 100
  lt : ∀ d ∈ rows, d < 4096
theorem pick_ok (k : Nat) {rows : List Nat} (P : Pool rows) (a : Nat) (ha : a ≤ 1000000) (n : Nat) (hn : 0 < n) :
    ∃ r, r < n ∧ callF G (k + 1) 21 [pl rows, .int n] (Hp a) = some ((false, .int (r : Nat)), Hp (a + 1)) := by
  have hw : Wp (callF G (k + 1) 21 [pl rows, .int n] (Hp a)) fun r => ∃ d, d < n ∧ r = ((false, .int (d : Nat)), Hp (a + 1)) := by
    refine Wp_call fn_law_pick rfl rfl ?_
    have d1 : binP .fdiv (.int (a : Int)) (.int (rows.length : Int)) = some (false, .int ((a / rows.length : Nat) : Int)) := by
      rw [div_lit _ _ P.pos (by have := P.len; omega)]
      rw [Int.fdiv_eq_ediv_of_nonneg _ (by omega)]; rfl
    have m1 : binP .mod (.int (a : Int)) (.int (rows.length : Int)) = some (false, .int ((a % rows.length : Nat) : Int)) := by
      rw [mod_lit _ _ P.pos]
      rw [Int.fmod_eq_emod_of_nonneg _ (by omega)]; rfl
    have lt1 : a % rows.length < rows.length := Nat.mod_lt _ P.pos
    have mu : ∀ x : Int, binP .mul (.int x) (.int 1009) = some (false, .int (x * 1009)) := fun x => mul_r x _ (by decide)
    have mu2 : ∀ x : Int, binP .mul (.int x) (.int (a : Int)) = some (false, .int (x * (a : Int))) := fun x => mul_r x _ (by omega)
    have m2 : ∀ x : Int, binP .mod (.int x) (.int (n : Int)) = some (false, .int (x.fmod n)) := fun x => mod_lit x n hn
    generalize a / rows.length = t at *
    generalize a % rows.length = i at *
    simp -implicitDefEqProofs [-List.getD_eq_getElem?_getD, -List.map_map, b_law_pick, Hp, d1, m1, mu, mu2, m2, lt1]
    obtain ⟨d, h1, h2⟩ := fmod_nat (((rows[i] : Nat) : Int) + (t : Int) * 1009 + (t : Int) * (a : Int)) n hn
    exact ⟨d, h1, h2⟩
  obtain ⟨r, e, d, h1, rfl⟩ := hw
  exact ⟨d, h1, e⟩
theorem pool_ok (k : Nat) (ns : List Int) : ∃ rows o, Pool rows ∧ callF G (k + 2) 20 [.lst (ns.map PV.int)] [] = some ((o, pl rows), Hp 0) := by
  have hw : Wp (callF G (k + 2) 20 [.lst (ns.map PV.int)] []) fun r => ∃ rows o, Pool rows ∧ r = ((o, pl rows), Hp 0) := by
    rw [callF_def fn_law_pool rfl rfl]
    have em : (if (4 : Int) > (if (ns.length : Int) > 1 then (ns.length : Int) else 1) then (if (ns.length : Int) > 1 then (ns.length : Int) else 1) else 4) = ((min 4 (max 1 ns.length) : Nat) : Int) := by
      repeat' split
      all_goals omega
    have em2 : rngP [.int (if (if (1 : Int) < (ns.length : Int) then (ns.length : Int) else 1) < 4 then (if (1 : Int) < (ns.length : Int) then (ns.length : Int) else 1) else 4)] = some ((List.range (min 4 (max 1 ns.length))).map nt) := by
      have := rng_nt (min 4 (max 1 ns.length)) (by omega)
      rw [← em] at this
      exact this
    simp -implicitDefEqProofs [-List.getD_eq_getElem?_getD, -List.map_map, b_law_pool, em2]
    rw [← upTo_nt]
    obtain ⟨I, iI⟩ := mkI3 (fun (i : Nat) (env : FEnv) (h : Hs) => h = [] ∧ ∃ (rows : List Nat) (o : Bool) (x2 : Option Rv), rows.length = 20 * i ∧ (∀ d ∈ rows, d < 4096) ∧
      env = [some (false, .lst (ns.map PV.int)), some (o, .lst (rows.map nt)), x2])
    refine Wp_rng _ I ((iI _ _ _).mpr ⟨rfl, [], true, none, rfl, by simp, rfl⟩) ?_ ?_
    · intro i env h hi hI
      obtain ⟨rfl, rows, o, x2, hl, hd, rfl⟩ := (iI _ _ _).mp hI
      have mu : ∀ x : Int, binP .mul (.int 7) (.int x) = some (false, .int (7 * x)) := fun x => mul_l 7 x (by decide)
      simp -implicitDefEqProofs [-List.getD_eq_getElem?_getD, -List.map_map]
      refine Wp_of (cell_ok k ns i []) ?_
      simp -implicitDefEqProofs [-List.getD_eq_getElem?_getD, -List.map_map, mu]
      obtain ⟨ds, h1, h2, h3⟩ := draws_ok k (ns.getD i 0 + 7 * (i : Int)) 20 (by decide) []
      refine Wp_of h3 ?_
      have hlen : rows.length + ds.length ≤ 16777216 := by omega
      simp -implicitDefEqProofs [-List.getD_eq_getElem?_getD, -List.map_map, hlen]
      refine (iI _ _ _).mpr ⟨rfl, rows ++ ds, true, _, by simp; omega, fun d hm => ?_, by simp -implicitDefEqProofs [-List.getD_eq_getElem?_getD, -List.map_map]; rfl⟩
      rcases List.mem_append.mp hm with hm | hm
      · exact hd d hm
      · exact h2 d hm
    · intro env h hI
      obtain ⟨rfl, rows, o, x2, hl, hd, rfl⟩ := (iI _ _ _).mp hI
      simp -implicitDefEqProofs [-List.getD_eq_getElem?_getD, -List.map_map, trim, PV.rb, rbAll]
      exact ⟨rows, ⟨by omega, by omega, hd⟩, rfl, rfl⟩
  obtain ⟨r, e, rows, o, h1, rfl⟩ := hw
  exact ⟨rows, o, h1, e⟩
end K94
set_option maxRecDepth 100000
namespace K94
open PySem (Str)
open MP MX
/-! ### drawn worlds -/
theorem modE (x : Int) (m : Nat) (h : 0 < m) : ∃ r : Nat, r < m ∧ binP .mod (.int x) (.int (m : Int)) = some (false, .int (r : Int)) := by
  obtain ⟨d, h1, h2⟩ := fmod_nat x m h
  exact ⟨d, h1, by rw [mod_lit x m h, h2]⟩
theorem divE (a m : Nat) (h : 0 < m) (h2 : m < 1073741824) : ∃ q : Nat, q ≤ a ∧ binP .fdiv (.int (a : Int)) (.int (m : Int)) = some (false, .int (q : Int)) := by
  refine ⟨a / m, Nat.div_le_self _ _, ?_⟩
  rw [div_lit _ _ h h2, Int.fdiv_eq_ediv_of_nonneg _ (by omega)]; rfl
theorem rng2_nt (a b : Nat) (h : b ≤ 16777216) (h2 : a ≤ 16777216) : rngP [.int (a : Int), .int (b : Int)] = some ((List.range (b - a)).map fun j => nt (a + j)) := by
  show (if okRng a && okRng b then some (upTo a ((b : Int) - (a : Int)).toNat) else none) = _
  rw [if_pos (by simp [okRng]; omega)]
  have : ((b : Int) - (a : Int)).toNat = b - a := by omega
  rw [this]
  congr 1
def lineA (n : Nat) : List Pr := (List.range n).flatMap fun a => (List.range (n - (a + 1))).map fun j => (a, a + 1 + j)
def lineW (n : Nat) : Wld := ⟨n, [], [], lineA n⟩
theorem line_ok (k n : Nat) (hn : n ≤ 1000) (hp : Hs) : callF G (k + 1) 22 [.int (n : Int)] hp = some ((false, wv (lineW n)), hp) := by
  have hw : Wp (callF G (k + 1) 22 [.int (n : Int)] hp) fun r => r = ((false, wv (lineW n)), hp) := by
    refine Wp_call fn_law_line rfl rfl ?_
    simp -implicitDefEqProofs [-List.getD_eq_getElem?_getD, -List.map_map, b_law_line, rng_nt n (by omega)]
    rw [← upTo_nt]
    obtain ⟨I, iI⟩ := mkI3 (fun (i : Nat) (env : FEnv) (h : Hs) => h = hp ∧ ∃ (x2 x3 : Option Rv) (as : List Pr), as = ((List.range i).flatMap fun a => (List.range (n - (a + 1))).map fun j => (a, a + 1 + j)) ∧ as.length ≤ i * n ∧
      env = [some (false, .int (n : Int)), some (false, .tup (as.map pv)), x2, x3])
    refine Wp_rng n I ((iI _ _ _).mpr ⟨rfl, none, none, [], rfl, by simp, rfl⟩) ?_ ?_
    · intro i env h hi hI
      obtain ⟨rfl, x2, x3, as, ha, hl, rfl⟩ := (iI _ _ _).mp hI
      have e1 := rng2_nt (i + 1) n (by omega) (by omega)
      rw [show ((i + 1 : Nat) : Int) = (i : Int) + 1 by omega] at e1
      simp -implicitDefEqProofs [-List.getD_eq_getElem?_getD, -List.map_map, e1]
      refine Wp_of (lcE_map1 (enc := fun j => nt (i + 1 + j)) (g := fun j => pv (i, i + 1 + j)) fun j hj => ?_) ?_
      · simp -implicitDefEqProofs [-List.getD_eq_getElem?_getD, -List.map_map]
      · have hmul : i * n ≤ 1000 * 1000 := Nat.mul_le_mul (by omega) hn
        simp -implicitDefEqProofs [-List.getD_eq_getElem?_getD, -List.map_map, show n - (i + 1) ≤ 16777216 by omega, show as.length + (n - (i + 1)) ≤ 16777216 by omega]
        refine (iI _ _ _).mpr ⟨rfl, some (false, .int (i : Int)), x3, as ++ (List.range (n - (i + 1))).map fun j => (i, i + 1 + j), ?_, ?_, ?_⟩
        · rw [List.range_succ, List.flatMap_append, ← ha]; simp
        · simp [Nat.add_mul]; omega
        · simp
    · intro env h hI
      obtain ⟨rfl, x2, x3, as, ha, hl, rfl⟩ := (iI _ _ _).mp hI
      simp -implicitDefEqProofs [-List.getD_eq_getElem?_getD, -List.map_map, lineW, lineA, ← ha]
  exact Wp_eq hw
theorem lcE_swap {f : PV → Hs → Option (List PV × Hs)} {hp : Hs} {es : List Pr} (h : ∀ p : Pr, f (pv p) hp = some ([pv (p.2, p.1)], hp)) : lcE f (es.map pv) hp = some ((es.map fun p => (p.2, p.1)).map pv, hp) := by
  rw [lcE_map1 (enc := pv) (g := fun p => pv (p.2, p.1)) fun p _ => h p, List.map_map]; rfl
def ringA (n : Nat) : List Pr := ((List.range n).map fun a => (a, (a + 1) % n)).mergeSort ple
theorem ring_ok (k n : Nat) (h0 : 0 < n) (hn : n ≤ 1000) (hp : Hs) : callF G (k + 1) 23 [.int (n : Int)] hp = some ((false, wv ⟨n, [], [], ringA n⟩), hp) := by
  refine call_eq fn_law_ring rfl rfl ?_
  have md : ∀ a : Nat, binP .mod (.int ((a : Int) + 1)) (.int (n : Int)) = some (false, .int (((a + 1) % n : Nat) : Int)) := fun a => by
    have e1 : ((a : Int) + 1) = ((a + 1 : Nat) : Int) := by omega
    rw [e1, mod_lit _ _ h0, Int.fmod_eq_emod_of_nonneg _ (by omega)]; rfl
  simp -implicitDefEqProofs [-List.getD_eq_getElem?_getD, -List.map_map, b_law_ring, rng_nt n (by omega)]
  refine Wp_of (lcE_map1 (g := fun a => pv (a, (a + 1) % n)) fun a ha => ?_) ?_
  · simp -implicitDefEqProofs [-List.getD_eq_getElem?_getD, -List.map_map, md]
  · have e : (List.range n).map (fun a => pv (a, (a + 1) % n)) = ((List.range n).map fun a => (a, (a + 1) % n)).map pv := by rw [List.map_map]; rfl
    rw [e]
    have st := sorted_pv ((List.range n).map fun a => (a, (a + 1) % n)) (by simp; omega)
    simp only [List.map_map] at st ⊢
    simp -implicitDefEqProofs [-List.getD_eq_getElem?_getD, -List.map_map, show n ≤ 16777216 by omega, st, ringA]
def bothA (es : List Pr) : List Pr := (es ++ es.map fun p => (p.2, p.1)).mergeSort ple
theorem both_body (k n : Nat) (es : List Pr) (c : List PV → PV) (hc : c = PV.tup ∨ c = PV.lst) (hl : es.length ≤ 1000) (hp : Hs) : callF G (k + 1) 24 [.int (n : Int), c (es.map pv)] hp = some ((false, wv ⟨n, [], [], bothA es⟩), hp) := by
  refine call_eq fn_law_both_ways rfl rfl ?_
  have st := sorted_pv (es ++ es.map fun p => (p.2, p.1)) (by simp; omega)
  have e1 : ∀ f : PV → Hs → Option (List PV × Hs), (∀ p : Pr, f (pv p) hp = some ([pv p], hp)) → lcE f (es.map pv) hp = some (es.map pv, hp) := fun f h => lcE_map1 (enc := pv) (g := pv) fun p _ => h p
  rcases hc with rfl | rfl
  all_goals
    simp -implicitDefEqProofs [-List.getD_eq_getElem?_getD, -List.map_map, b_law_both_ways]
    refine Wp_of (e1 _ fun p => ?_) ?_
    · simp -implicitDefEqProofs [-List.getD_eq_getElem?_getD, -List.map_map]
    · simp -implicitDefEqProofs [-List.getD_eq_getElem?_getD, -List.map_map, show es.length ≤ 16777216 by omega]
      refine Wp_of (lcE_swap fun p => ?_) ?_
      · simp -implicitDefEqProofs [-List.getD_eq_getElem?_getD, -List.map_map]
      · rw [List.map_append] at st
        simp -implicitDefEqProofs [-List.getD_eq_getElem?_getD, -List.map_map, show es.length ≤ 16777216 by omega, show es.length + es.length ≤ 16777216 by omega, st, bothA]
theorem both_tup (k n : Nat) (es : List Pr) (hl : es.length ≤ 1000) (hp : Hs) : callF G (k + 1) 24 [.int (n : Int), .tup (es.map pv)] hp = some ((false, wv ⟨n, [], [], bothA es⟩), hp) := both_body k n es PV.tup (.inl rfl) hl hp
theorem both_lst (k n : Nat) (es : List Pr) (hl : es.length ≤ 1000) (hp : Hs) : callF G (k + 1) 24 [.int (n : Int), .lst (es.map pv)] hp = some ((false, wv ⟨n, [], [], bothA es⟩), hp) := both_body k n es PV.lst (.inr rfl) hl hp
theorem bothW (n : Nat) (es : List Pr) (h0 : 1 ≤ n) (hn : (es ++ es.map fun p => (p.2, p.1)).Nodup) (hb : ∀ p ∈ es, p.1 < n ∧ p.2 < n) : WOk ⟨n, [], [], bothA es⟩ := by
  refine ⟨h0, by simp, by simp, by simp, by simp, pvOrd.sorts _ hn, fun p hp => ?_⟩
  have hp : p ∈ bothA es := hp
  rw [bothA, mem_sort, List.mem_append] at hp
  rcases hp with hp | hp
  · exact hb p hp
  · obtain ⟨q, hq, rfl⟩ := List.mem_map.mp hp
    exact ⟨(hb q hq).2, (hb q hq).1⟩
theorem special_ok (k : Nat) (d : Int) (hp : Hs) : ∃ w, WOk w ∧ w.n ≤ 4 ∧ callF G (k + 2) 25 [.int d] hp = some ((false, wv w), hp) := by
  have hw : Wp (callF G (k + 2) 25 [.int d] hp) fun r => ∃ w, WOk w ∧ w.n ≤ 4 ∧ r = ((false, wv w), hp) := by
    refine Wp_call fn_law_special rfl rfl ?_
    obtain ⟨r, hr, er⟩ := modE d 10 (by decide)
    have er : binP .mod (.int d) (.int 10) = some (false, .int (r : Int)) := er
    simp -implicitDefEqProofs [-List.getD_eq_getElem?_getD, -List.map_map, b_law_special]
    refine Wp_of (line_ok k 3 (by decide) hp) ?_
    simp -implicitDefEqProofs [-List.getD_eq_getElem?_getD, -List.map_map]
    refine Wp_of (line_ok k 4 (by decide) hp) ?_
    simp -implicitDefEqProofs [-List.getD_eq_getElem?_getD, -List.map_map]
    refine Wp_of (ring_ok k 3 (by decide) (by decide) hp) ?_
    simp -implicitDefEqProofs [-List.getD_eq_getElem?_getD, -List.map_map]
    refine Wp_of (ring_ok k 4 (by decide) (by decide) hp) ?_
    simp -implicitDefEqProofs [-List.getD_eq_getElem?_getD, -List.map_map]
    refine Wp_of (both_tup k 4 [(0, 1), (1, 2), (2, 3)] (by decide) hp) ?_
    simp -implicitDefEqProofs [-List.getD_eq_getElem?_getD, -List.map_map]
    refine Wp_of (both_tup k 4 [(0, 1), (1, 2), (2, 3), (0, 3)] (by decide) hp) ?_
    simp -implicitDefEqProofs [-List.getD_eq_getElem?_getD, -List.map_map]
    refine Wp_of (both_tup k 3 [(0, 1), (1, 2), (0, 2)] (by decide) hp) ?_
    simp -implicitDefEqProofs [-List.getD_eq_getElem?_getD, -List.map_map, er]
    have lw : ∀ n, 1 ≤ n → (lineA n).Pairwise pvOrd.lt → (∀ p ∈ lineA n, p.1 < n ∧ p.2 < n) → WOk ⟨n, [], [], lineA n⟩ := fun n h1 h2 h3 => ⟨h1, by simp, by simp, by simp, by simp, h2, h3⟩
    have lp : ∀ n, (lineA n).Pairwise (fun p q => p.1 < q.1 ∨ (p.1 = q.1 ∧ p.2 < q.2)) → (lineA n).Pairwise pvOrd.lt := fun n h => h.imp fun h => plt_iff.mpr h
    have rw_ : ∀ n, 1 ≤ n → WOk ⟨n, [], [], ringA n⟩ := fun n h1 => by
      refine ⟨h1, by simp, by simp, by simp, by simp, pvOrd.sorts _ ?_, fun p hp => ?_⟩
      · rw [List.nodup_iff_pairwise_ne, List.pairwise_map]
        exact List.pairwise_lt_range.imp fun h e => by have := congrArg Prod.fst e; simp at this; omega
      · have hp : p ∈ ringA n := hp
        rw [ringA, mem_sort] at hp
        obtain ⟨a, ha, rfl⟩ := List.mem_map.mp hp
        exact ⟨List.mem_range.mp ha, Nat.mod_lt _ h1⟩
    have ew : ∀ n, 1 ≤ n → WOk ⟨n, [], [], []⟩ := fun n h1 => ⟨h1, by simp, by simp, by simp, by simp, by simp, by simp⟩

    match r, hr with
    | 0, _ => exact ⟨_, rfl, lineW 3, lw 3 (by decide) (lp 3 (by decide)) (by decide), by decide, rfl⟩
    | 1, _ => exact ⟨_, rfl, lineW 4, lw 4 (by decide) (lp 4 (by decide)) (by decide), by decide, rfl⟩
    | 2, _ => exact ⟨_, rfl, ⟨3, [], [], ringA 3⟩, rw_ 3 (by decide), by decide, rfl⟩
    | 3, _ => exact ⟨_, rfl, ⟨4, [], [], ringA 4⟩, rw_ 4 (by decide), by decide, rfl⟩
    | 4, _ => exact ⟨_, rfl, ⟨2, [], [], []⟩, ew 2 (by decide), by decide, rfl⟩
    | 5, _ => exact ⟨_, rfl, ⟨3, [], [], []⟩, ew 3 (by decide), by decide, rfl⟩
    | 6, _ => exact ⟨_, rfl, ⟨4, [], [], []⟩, ew 4 (by decide), by decide, rfl⟩
    | 7, _ => exact ⟨_, rfl, ⟨4, [], [], bothA [(0, 1), (1, 2), (2, 3)]⟩, bothW 4 _ (by decide) (by decide) (by decide), by decide, rfl⟩
    | 8, _ => exact ⟨_, rfl, ⟨4, [], [], bothA [(0, 1), (1, 2), (2, 3), (0, 3)]⟩, bothW 4 _ (by decide) (by decide) (by decide), by decide, rfl⟩
    | 9, _ => exact ⟨_, rfl, ⟨3, [], [], bothA [(0, 1), (1, 2), (0, 2)]⟩, bothW 3 _ (by decide) (by decide) (by decide), by decide, rfl⟩
    | r + 10, hr => omega
  obtain ⟨r, e, w, h1, h2, rfl⟩ := hw
  exact ⟨w, h1, h2, e⟩
end K94
set_option maxRecDepth 100000
namespace K94
open PySem (Str)
open MP MX
/-! ### a drawn world -/
/-- the drawn arrows so far -/
structure ArOk (n a b : Nat) (as : List Pr) : Prop where
  lt : as.Pairwise pvOrd.lt
  mem : ∀ p ∈ as, (p.1 < a ∨ (p.1 = a ∧ p.2 < b)) ∧ p.2 < n
theorem ArOk.snoc {n a b : Nat} {as : List Pr} (h : ArOk n a b as) (hb : b < n) : ArOk n a (b + 1) (as ++ [(a, b)]) := by
  refine ⟨?_, fun p hp => ?_⟩
  · rw [List.pairwise_append]
    refine ⟨h.lt, by simp, fun p hp q hq => ?_⟩
    simp at hq; subst hq
    rw [plt_iff]
    rcases (h.mem p hp).1 with h | h
    · exact .inl h
    · exact .inr h
  · rcases List.mem_append.mp hp with hp | hp
    · obtain ⟨h1, h2⟩ := h.mem p hp
      exact ⟨h1.imp id fun z => ⟨z.1, by omega⟩, h2⟩
    · simp at hp; subst hp
      exact ⟨.inr ⟨rfl, by omega⟩, hb⟩
theorem ArOk.keep {n a b : Nat} {as : List Pr} (h : ArOk n a b as) : ArOk n a (b + 1) as := ⟨h.lt, fun p hp => ⟨(h.mem p hp).1.imp id fun z => ⟨z.1, by omega⟩, (h.mem p hp).2⟩⟩
theorem ArOk.next {n a : Nat} {as : List Pr} (h : ArOk n a n as) : ArOk n (a + 1) 0 as := ⟨h.lt, fun p hp => by
  obtain ⟨h1, h2⟩ := h.mem p hp
  refine ⟨.inl ?_, h2⟩
  omega⟩
def closeA (as : List Pr) : List Pr := (as ++ (as.filter fun p => !decide ((p.2, p.1) ∈ as)).map fun p => (p.2, p.1)).filter fun p => !decide (p.1 = p.2)
theorem swap_inj {p q : Pr} (h : ((p.2, p.1) : Pr) = (q.2, q.1)) : p = q := by
  obtain ⟨a, b⟩ := p
  obtain ⟨c, d⟩ := q
  simp only [Prod.mk.injEq] at h
  rw [h.1, h.2]
theorem nodup_swap {as : List Pr} (h : as.Nodup) : (as.map fun p => ((p.2, p.1) : Pr)).Nodup := by
  rw [List.nodup_iff_pairwise_ne, List.pairwise_map]
  exact List.Pairwise.imp (fun hn e => hn (swap_inj e)) h
theorem close_nodup {as : List Pr} (h : as.Nodup) : (closeA as).Nodup := by
  refine List.Pairwise.filter _ ?_
  show (_ : List Pr).Nodup
  rw [List.nodup_append]
  refine ⟨h, nodup_swap (List.Pairwise.filter _ h), fun a ha b hb e => ?_⟩
  obtain ⟨p, hp, rfl⟩ := List.mem_map.mp hb
  have := (List.mem_filter.mp hp).2
  simp only [Bool.not_eq_true', decide_eq_false_iff_not] at this
  exact this (e ▸ ha)
theorem close_mem {as : List Pr} {n : Nat} (h : ∀ p ∈ as, p.1 < n ∧ p.2 < n) : ∀ p ∈ closeA as, p.1 < n ∧ p.2 < n := by
  intro p hp
  rcases List.mem_append.mp (List.mem_filter.mp hp).1 with hp | hp
  · exact h p hp
  · obtain ⟨q, hq, rfl⟩ := List.mem_map.mp hp
    have := h q (List.mem_filter.mp hq).1
    exact ⟨this.2, this.1⟩
theorem world_ok (k : Nat) (ds : List Nat) (hd : 12 ≤ ds.length) (hd2 : ds.length ≤ 1000) (most : Nat) (hm : 1 ≤ most) (hm2 : most ≤ 8) (hp : Hs) :
    ∃ w, WOk w ∧ w.n ≤ most ∧ callF G (k + 3) 26 [.lst (ds.map nt), .int (most : Int)] hp = some ((false, wv w), hp) := by
  have hw : Wp (callF G (k + 3) 26 [.lst (ds.map nt), .int (most : Int)] hp) fun r => ∃ w, WOk w ∧ w.n ≤ most ∧ r = ((false, wv w), hp) := by
    refine Wp_call fn_law_world rfl rfl ?_
    obtain ⟨r0, h0, e0⟩ := modE (ds[0]'(by omega) : Nat) most hm
    obtain ⟨r1, h1, e1⟩ := modE (ds[1]'(by omega) : Nat) 6 (by decide)
    have e1 : binP .mod (.int ((ds[1]'(by omega) : Nat) : Int)) (.int 6) = some (false, .int (r1 : Int)) := e1
    obtain ⟨q1, _, e2⟩ := divE (ds[1]'(by omega)) 6 (by decide) (by decide)
    have e2 : binP .fdiv (.int ((ds[1]'(by omega) : Nat) : Int)) (.int 6) = some (false, .int (q1 : Int)) := e2
    obtain ⟨r2, h2, e3⟩ := modE (q1 : Int) 4 (by decide)
    have e3 : binP .mod (.int (q1 : Int)) (.int 4) = some (false, .int (r2 : Int)) := e3
    obtain ⟨q2, _, e4⟩ := divE (ds[1]'(by omega)) 24 (by decide) (by decide)
    have e4 : binP .fdiv (.int ((ds[1]'(by omega) : Nat) : Int)) (.int 24) = some (false, .int (q2 : Int)) := e4
    obtain ⟨r3, h3, e5⟩ := modE (q2 : Int) 4 (by decide)
    have e5 : binP .mod (.int (q2 : Int)) (.int 4) = some (false, .int (r3 : Int)) := e5
    obtain ⟨r4, h4, e6⟩ := modE (ds[2]'(by omega) : Nat) 5 (by decide)
    have e6 : binP .mod (.int ((ds[2]'(by omega) : Nat) : Int)) (.int 5) = some (false, .int (r4 : Int)) := e6
    have l0 : 0 < ds.length := by omega
    have l1 : 1 < ds.length := by omega
    have l2 : 2 < ds.length := by omega
    have den : ∃ v : Nat, 2 ≤ v ∧ v ≤ 9999 ∧ ([PV.int 2, .int 3, .int 5, .int 3])[r2]? = some (.int (v : Int)) := by
      match r2, h2 with
      | 0, _ => exact ⟨2, by decide, by decide, rfl⟩
      | 1, _ => exact ⟨3, by decide, by decide, rfl⟩
      | 2, _ => exact ⟨5, by decide, by decide, rfl⟩
      | 3, _ => exact ⟨3, by decide, by decide, rfl⟩
      | r + 4, hr => omega
    have mar : ∃ v : Nat, 2 ≤ v ∧ v ≤ 9999 ∧ ([PV.int 2, .int 9999, .int 3, .int 9999])[r3]? = some (.int (v : Int)) := by
      match r3, h3 with
      | 0, _ => exact ⟨2, by decide, by decide, rfl⟩
      | 1, _ => exact ⟨9999, by decide, by decide, rfl⟩
      | 2, _ => exact ⟨3, by decide, by decide, rfl⟩
      | 3, _ => exact ⟨9999, by decide, by decide, rfl⟩
      | r + 4, hr => omega
    obtain ⟨dv, dv1, dv2, dve⟩ := den
    obtain ⟨mk, mk1, mk2, mke⟩ := mar
    obtain ⟨sw, sw1, sw2, swe⟩ := special_ok k (ds[2]'l2 : Nat) hp
    by_cases hc : r1 = 1 ∧ sw.n ≤ most
    · obtain ⟨rfl, hc⟩ := hc
      simp -implicitDefEqProofs [-List.getD_eq_getElem?_getD, -List.map_map, b_law_world, l0, l1, l2, e0, e1]
      refine Wp_of swe ?_
      simp -implicitDefEqProofs [-List.getD_eq_getElem?_getD, -List.map_map, hc]
      refine Wp_of swe ?_
      simp -implicitDefEqProofs [-List.getD_eq_getElem?_getD, -List.map_map]
      exact ⟨sw, sw1, hc, rfl, ⟨rfl, rfl⟩, rfl⟩
    · have hn1 : 1 + r0 ≤ most := by omega
      have hn0 : 1 ≤ 1 + r0 := by omega
      have en : ((1 : Int) + (r0 : Int)) = ((1 + r0 : Nat) : Int) := by omega
      generalize hN : 1 + r0 = N at *
      unfold b_law_world
      refine Wp_seq1 (env' := [some (false, .lst (ds.map nt)), some (false, .int (most : Int)), some (false, .int (N : Int)), none, none, none, none, none, none, none, none]) (hp' := hp) ?_ ?_
      · simp -implicitDefEqProofs [-List.getD_eq_getElem?_getD, -List.map_map, l0, e0, en]
      refine Wp_seq1 (env' := [some (false, .lst (ds.map nt)), some (false, .int (most : Int)), some (false, .int (N : Int)), none, none, none, none, none, none, none, none]) (hp' := hp) ?_ ?_
      · by_cases h1 : r1 = 1
        · subst h1
          have hc : ¬ sw.n ≤ most := fun z => hc ⟨rfl, z⟩
          simp -implicitDefEqProofs [-List.getD_eq_getElem?_getD, -List.map_map, l1, e1, l2]
          refine Wp_of swe ?_
          simp -implicitDefEqProofs [-List.getD_eq_getElem?_getD, -List.map_map, hc]
        · have h1' : ¬ (r1 : Int) = 1 := by omega
          simp -implicitDefEqProofs [-List.getD_eq_getElem?_getD, -List.map_map, l1, e1, h1']
      refine Wp_seq1 (env' := [some (false, .lst (ds.map nt)), some (false, .int (most : Int)), some (false, .int (N : Int)), some (false, .int (dv : Int)), none, none, none, none, none, none, none]) (hp' := hp) ?_ ?_
      · simp -implicitDefEqProofs [-List.getD_eq_getElem?_getD, -List.map_map, l1, e2, e3, dve]
      refine Wp_seq1 (env' := [some (false, .lst (ds.map nt)), some (false, .int (most : Int)), some (false, .int (N : Int)), some (false, .int (dv : Int)), some (false, .int (mk : Int)), none, none, none, none, none, none]) (hp' := hp) ?_ ?_
      · simp -implicitDefEqProofs [-List.getD_eq_getElem?_getD, -List.map_map, l1, e4, e5, mke]
      have dN : ∀ (x : Int) (m : Nat), 0 < m → m ≤ 9999 → binP .mod (.int x) (.int (m : Int)) = some (false, .int (x.fmod m)) := fun x m h _ => mod_lit x m h
      let pm (i : Nat) (a : Nat) : Bool := decide ((((ds.getD (3 + a) 0 : Nat) : Int).fdiv ((1 + i : Nat) : Int)).fmod (mk : Int) = 0)
      have mkrow : ∀ i : Nat, i < 2 → ∀ h : Hs, ∀ (x5 x6 x9 : Option Rv), lcE (lcB G.cst (callF G (k + 2)) (.var 9) (.nm 9) (.cmp .eq (.bin .mod (.bin .fdiv (.bcl .int (.cons (.idx (.var 0) (.bin .add (.int 3) (.var 9))) .nil)) (.bin .add (.int 1) (.var 6))) (.var 4)) (.int 0))
          (unf [some (false, .lst (ds.map nt)), some (false, .int (most : Int)), some (false, .int (N : Int)), some (false, .int (dv : Int)), some (false, .int (mk : Int)), x5, some (false, .int (i : Int)), none, none, x9, none])) ((List.range N).map nt) h = some (((List.range N).filter (pm i)).map nt, h) := by
        intro i hi h x5 x6 x9
        refine lcE_filter (enc := nt) fun a ha => ?_
        have ha := List.mem_range.mp ha
        have h3 : 3 + a < ds.length := by omega
        have e1 := atP_nat (ds.map nt) (3 + a)
        rw [show ((3 + a : Nat) : Int) = 3 + (a : Int) by omega] at e1
        have e2 : ((1 : Int) + (i : Int)) = ((1 + i : Nat) : Int) := by omega
        have e3 := div_lit (ds[3 + a] : Int) (1 + i) (by omega) (by omega)
        have e4 := fun x : Int => mod_lit x mk (by omega)
        rw [← e2] at e3
        refine Wp_eq ?_
        simp -implicitDefEqProofs [-List.getD_eq_getElem?_getD, -List.map_map, e1, h3, e3, e4]
        by_cases hz : ((ds[3 + a] : Int).fdiv ((1 : Int) + (i : Int))).fmod (mk : Int) = 0
        · have : pm i a = true := by simp only [pm, decide_eq_true_eq]; rw [← e2]; simpa [List.getD, h3] using hz
          simp -implicitDefEqProofs [-List.getD_eq_getElem?_getD, -List.map_map, hz, this]
        · have : pm i a = false := by simp only [pm, decide_eq_false_iff_not]; rw [← e2]; simpa [List.getD, h3] using hz
          simp -implicitDefEqProofs [-List.getD_eq_getElem?_getD, -List.map_map, hz, this]
      refine Wp_seq1 (env' := [some (false, .lst (ds.map nt)), some (false, .int (most : Int)), some (false, .int (N : Int)), some (false, .int (dv : Int)), some (false, .int (mk : Int)), some (false, .tup []), none, none, none, none, none]) (hp' := hp) ?_ ?_
      · simp -implicitDefEqProofs [-List.getD_eq_getElem?_getD, -List.map_map]
      refine Wp_seq (fun e h => hp = h ∧ ∃ x6 x9, e = [some (false, .lst (ds.map nt)), some (false, .int (most : Int)), some (false, .int (N : Int)), some (false, .int (dv : Int)), some (false, .int (mk : Int)), some (false, .tup [.tup (((List.range N).filter (pm 0)).map nt), .tup (((List.range N).filter (pm 1)).map nt)]), x6, none, none, x9, none]) ?_ ?_
      · simp -implicitDefEqProofs [-List.getD_eq_getElem?_getD, -List.map_map, forE_cons, rng_nt N (by omega)]
        refine Wp_of (mkrow 0 (by decide) hp (some (false, .tup [])) none none) ?_
        have f0 := List.length_filter_le (pm 0) (List.range N)
        have f1 := List.length_filter_le (pm 1) (List.range N)
        simp only [List.length_range] at f0 f1
        simp -implicitDefEqProofs [-List.getD_eq_getElem?_getD, -List.map_map, show ((List.range N).filter (pm 0)).length ≤ 16777216 by omega, rng_nt N (by omega)]
        refine Wp_of (mkrow 1 (by decide) hp (some (false, .tup [.tup (((List.range N).filter (pm 0)).map nt)])) none none) ?_
        simp -implicitDefEqProofs [-List.getD_eq_getElem?_getD, -List.map_map, show ((List.range N).filter (pm 1)).length ≤ 16777216 by omega]
      rintro _ _ ⟨rfl, x6, x9, rfl⟩
      have hF0s : ((List.range N).filter (pm 0)).Pairwise (· < ·) := List.Pairwise.filter _ List.pairwise_lt_range
      have hF1s : ((List.range N).filter (pm 1)).Pairwise (· < ·) := List.Pairwise.filter _ List.pairwise_lt_range
      have hF0r : ∀ a ∈ (List.range N).filter (pm 0), a < N := fun a ha => List.mem_range.mp (List.mem_filter.mp ha).1
      have hF1r : ∀ a ∈ (List.range N).filter (pm 1), a < N := fun a ha => List.mem_range.mp (List.mem_filter.mp ha).1
      generalize (List.range N).filter (pm 0) = F0 at *
      generalize (List.range N).filter (pm 1) = F1 at *
      let E (as x8 x9 x10 : Option Rv) : FEnv := [some (false, .lst (ds.map nt)), some (false, .int (most : Int)), some (false, .int (N : Int)), some (false, .int (dv : Int)), some (false, .int (mk : Int)), some (false, .tup [.tup (F0.map nt), .tup (F1.map nt)]), x6, as, x8, x9, x10]
      refine Wp_seq1 (env' := E (some (true, .lst [])) none x9 none) (hp' := hp) ?_ ?_
      · simp -implicitDefEqProofs [-List.getD_eq_getElem?_getD, -List.map_map, E]
      refine Wp_seq1 (env' := E (some (true, .lst [])) (some (false, .int 11)) x9 none) (hp' := hp) ?_ ?_
      · simp -implicitDefEqProofs [-List.getD_eq_getElem?_getD, -List.map_map, E]
      have lpos : 0 < ds.length := by omega
      have arl : ∀ {as : List Pr}, as.Pairwise pvOrd.lt → (∀ p ∈ as, p.1 < N ∧ p.2 < N) → as.length ≤ 64 := fun h1 h2 => by
        have := pairs_le (pvOrd.nodup h1) h2
        have := Nat.mul_le_mul (show N ≤ 8 by omega) (show N ≤ 8 by omega)
        omega
      refine Wp_seq (fun e h => hp = h ∧ ∃ as x8 x9 x10, ArOk N N 0 as ∧ e = E (some (true, .lst (as.map pv))) x8 x9 x10) ?_ ?_
      · simp -implicitDefEqProofs [-List.getD_eq_getElem?_getD, -List.map_map, E, rng_nt N (by omega)]
        rw [← upTo_nt]
        obtain ⟨I, iI⟩ := mkI3 (fun (a : Nat) (env : FEnv) (h : Hs) => hp = h ∧ ∃ (as : List Pr) (x9 x10 : Option Rv), ArOk N a 0 as ∧ env = E (some (true, .lst (as.map pv))) (some (false, .int ((11 + a * N : Nat) : Int))) x9 x10)
        refine Wp_rng N I ((iI _ _ _).mpr ⟨rfl, [], x9, none, ⟨by simp, by simp⟩, by simp [E]⟩) ?_ ?_
        · intro a env h ha hI
          obtain ⟨rfl, as, x9, x10, hA, rfl⟩ := (iI _ _ _).mp hI
          have hmul : a * N ≤ 8 * 8 := Nat.mul_le_mul (by omega) (by omega)
          simp -implicitDefEqProofs [-List.getD_eq_getElem?_getD, -List.map_map, E, rng_nt N (by omega), -Int.natCast_add, -Int.natCast_mul]
          rw [← upTo_nt]
          obtain ⟨J, iJ⟩ := mkI3 (fun (b : Nat) (env : FEnv) (h' : Hs) => hp = h' ∧ ∃ (as : List Pr) (x10 : Option Rv), ArOk N a b as ∧ env = E (some (true, .lst (as.map pv))) (some (false, .int ((11 + a * N + b : Nat) : Int))) (some (false, .int (a : Int))) x10)
          refine Wp_rng N J ((iJ _ _ _).mpr ⟨rfl, as, x10, hA, by simp [E]⟩) ?_ ?_
          · intro b env h' hb hJ
            obtain ⟨rfl, as, x10, hA, rfl⟩ := (iJ _ _ _).mp hJ
            generalize hat : 11 + a * N + b = at_
            obtain ⟨r, hr, er⟩ := modE (at_ : Int) ds.length lpos
            obtain ⟨q, hq, eq⟩ := divE at_ ds.length lpos (by omega)
            have e3 := div_lit (ds[r] : Int) (1 + q) (by omega) (by omega)
            rw [show ((1 + q : Nat) : Int) = 1 + (q : Int) by omega] at e3
            have e4 := fun x : Int => mod_lit x dv (by omega)
            have la : as.length < 16777216 := by
              have := arl hA.lt fun p hp => by
                obtain ⟨h1, h2⟩ := hA.mem p hp
                omega
              omega
            have nx : ((11 + a * N + (b + 1) : Nat) : Int) = (at_ : Int) + 1 := by omega
            by_cases hz : ((ds[r] : Int).fdiv (1 + (q : Int))).fmod (dv : Int) = 0
            · simp -implicitDefEqProofs [-List.getD_eq_getElem?_getD, -List.map_map, E, er, eq, hr, e3, e4, hz, la]
              exact (iJ _ _ _).mpr ⟨rfl, as ++ [(a, b)], _, hA.snoc hb, by rw [nx]; simp [E]; rfl⟩
            · simp -implicitDefEqProofs [-List.getD_eq_getElem?_getD, -List.map_map, E, er, eq, hr, e3, e4, hz]
              exact (iJ _ _ _).mpr ⟨rfl, as, _, hA.keep, by rw [nx]⟩
          · intro env h' hJ
            obtain ⟨rfl, as, x10, hA, rfl⟩ := (iJ _ _ _).mp hJ
            simp -implicitDefEqProofs [-List.getD_eq_getElem?_getD, -List.map_map]
            exact (iI _ _ _).mpr ⟨rfl, as, some (false, .int (a : Int)), x10, hA.next, by rw [show 11 + (a + 1) * N = 11 + a * N + N by rw [Nat.add_mul]; omega]; simp [E]⟩
        · intro env h hI
          obtain ⟨rfl, as, x9, x10, hA, rfl⟩ := (iI _ _ _).mp hI
          exact ⟨rfl, rfl, as, hA, _, x9, x10, rfl⟩
      rintro _ _ ⟨rfl, as, x8, x9, x10, hA, rfl⟩
      have hlt := hA.lt
      have hmem : ∀ p ∈ as, p.1 < N ∧ p.2 < N := fun p hp => by
        obtain ⟨h1, h2⟩ := hA.mem p hp
        omega
      have hlen := arl hlt hmem
      have hnd := pvOrd.nodup hlt
      have mkW : ∀ bs : List Pr, bs.Nodup → (∀ p ∈ bs, p.1 < N ∧ p.2 < N) → WOk ⟨N, F0, F1, bs.mergeSort ple⟩ := fun bs h1 h2 => ⟨hn0, hF0s, hF0r, hF1s, hF1r, pvOrd.sorts _ h1, fun p hp => h2 p (mem_sort.mp hp)⟩
      by_cases h5 : r4 = 1
      · subst h5
        refine Wp_seq1 (env' := E (some (true, .lst ((closeA as).map pv))) x8 x9 x10) (hp' := hp) ?_ ?_
        · simp -implicitDefEqProofs [-List.getD_eq_getElem?_getD, -List.map_map, E, l2, e6]
          refine Wp_of (lcE_filter (enc := pv) (p := fun p => !decide ((p.2, p.1) ∈ as)) (g := fun p => pv (p.2, p.1)) fun p hp => ?_) ?_
          · refine Wp_eq ?_
            by_cases hm : (p.2, p.1) ∈ as
            · simp -implicitDefEqProofs [-List.getD_eq_getElem?_getD, -List.map_map, hm]
            · simp -implicitDefEqProofs [-List.getD_eq_getElem?_getD, -List.map_map, hm]
          · have fl := List.length_filter_le (fun p : Pr => !decide ((p.2, p.1) ∈ as)) as
            have mm : ((as.filter fun p => !decide ((p.2, p.1) ∈ as)).map fun p => pv (p.2, p.1)) = ((as.filter fun p => !decide ((p.2, p.1) ∈ as)).map fun p => ((p.2, p.1) : Pr)).map pv := by rw [List.map_map]; rfl
            rw [mm]
            simp -implicitDefEqProofs [-List.getD_eq_getElem?_getD, -List.map_map, show as.length + (as.filter fun p => !decide ((p.2, p.1) ∈ as)).length ≤ 16777216 by omega, show (as.filter fun p => !decide ((p.2, p.1) ∈ as)).length ≤ 16777216 by omega]
            rw [← List.map_append]
            refine Wp_of (lcE_filter (enc := pv) (p := fun p => !decide (p.1 = p.2)) (g := pv) fun p hp => ?_) ?_
            · refine Wp_eq ?_
              by_cases hm : p.1 = p.2
              · simp -implicitDefEqProofs [-List.getD_eq_getElem?_getD, -List.map_map, hm]
              · have hm' : ¬ (p.1 : Int) = (p.2 : Int) := by omega
                simp -implicitDefEqProofs [-List.getD_eq_getElem?_getD, -List.map_map, hm, hm']
            · have f2 := List.length_filter_le (fun p : Pr => !decide (p.1 = p.2)) (as ++ List.map (fun p => (p.2, p.1)) (List.filter (fun p => !decide ((p.2, p.1) ∈ as)) as))
              rw [List.length_append, List.length_map] at f2
              refine ⟨Nat.le_trans (Nat.le_of_eq (List.length_map ..)) (Nat.le_trans f2 (by omega)), ?_⟩
              simp -implicitDefEqProofs [-List.getD_eq_getElem?_getD, -List.map_map, E, closeA]
        · have hcl : (closeA as).length ≤ 16777216 := by
            have := pairs_le (close_nodup hnd) (close_mem hmem)
            have := Nat.mul_le_mul (show N ≤ 8 by omega) (show N ≤ 8 by omega)
            omega
          have st := sorted_pv (closeA as) hcl
          simp -implicitDefEqProofs [-List.getD_eq_getElem?_getD, -List.map_map, E, st]
          exact ⟨⟨N, F0, F1, (closeA as).mergeSort ple⟩, mkW _ (close_nodup hnd) (close_mem hmem), hn1, rfl, ⟨rfl, rfl⟩, rfl⟩
      · refine Wp_seq1 (env' := E (some (true, .lst (as.map pv))) x8 x9 x10) (hp' := hp) ?_ ?_
        · have h5' : ¬ (r4 : Int) = 1 := by omega
          simp -implicitDefEqProofs [-List.getD_eq_getElem?_getD, -List.map_map, E, l2, e6, h5']
        · have st := sorted_pv as (by omega)
          simp -implicitDefEqProofs [-List.getD_eq_getElem?_getD, -List.map_map, E, st]
          exact ⟨⟨N, F0, F1, as.mergeSort ple⟩, mkW _ hnd hmem, hn1, rfl, ⟨rfl, rfl⟩, rfl⟩
  obtain ⟨r, e, w, h1, h2, rfl⟩ := hw
  exact ⟨w, h1, h2, e⟩
end K94
set_option maxRecDepth 100000
set_option maxHeartbeats 4000000
namespace K94
open PySem (Str)
open MP MX
/-! ### drawn formulas -/
theorem sv_at {ws : List String} {i : Nat} (h : i < ws.length) : (ws.map sv)[i]? = some (.str (PySem.Str.ofString ws[i])) := by simp [h, sv]
theorem leaf_ok (top d x y i r : Nat) (ws : List String) (hx : x < top) (hy : y < top) (hi : i < 2) : Wp (atP [PV.tup [PV.str (S "arrow"), PV.int (x : Int), PV.int (y : Int)], PV.tup [PV.str (S "arrow"), PV.int (y : Int), PV.int (x : Int)],
        PV.tup [PV.str (S "same"), PV.int (x : Int), PV.int (y : Int)], PV.tup [PV.str (S "mark"), PV.int (i : Int), PV.int (x : Int)],
        PV.tup [PV.str (S "true")], PV.tup [PV.str (S "false")]]
      (if (r : Int) < 5 then (r : Int) else 5)) fun v => ∃ f, fok top 3 d f = true ∧ wok ws f = true ∧ v = fv f := by
  obtain ⟨j, hj, ej⟩ : ∃ j : Nat, j < 6 ∧ (if (r : Int) < 5 then (r : Int) else 5) = ((j : Nat) : Int) := by
    by_cases h : (r : Int) < 5
    · exact ⟨r, by omega, by rw [if_pos h]⟩
    · exact ⟨5, by omega, by rw [if_neg h]; rfl⟩
  rw [ej, atP_nat]
  match j, hj with
  | 0, _ => exact ⟨_, rfl, .arr x y, by simp [fok, hx, hy], rfl, rfl⟩
  | 1, _ => exact ⟨_, rfl, .arr y x, by simp [fok, hx, hy], rfl, rfl⟩
  | 2, _ => exact ⟨_, rfl, .same x y, by simp [fok, hx, hy], rfl, rfl⟩
  | 3, _ => exact ⟨_, rfl, .mark i x, by simp [fok, hx, hi], rfl, rfl⟩
  | 4, _ => exact ⟨_, rfl, .tru, rfl, rfl, rfl⟩
  | 5, _ => exact ⟨_, rfl, .fls, rfl, rfl, rfl⟩
  | j + 6, h => omega
theorem formula_ok {rows : List Nat} (P : Pool rows) (top : Nat) (ht : 1 ≤ top) (ws : List String) (hw : ws ≠ []) (hs : ∀ w ∈ ws, w ∈ W6) : ∀ (d k a : Nat), a + 8 * 3 ^ d ≤ 900000 →
    ∃ f a', fok top 3 d f = true ∧ wok ws f = true ∧ a ≤ a' ∧ a' + 3 ≤ a + 8 * 3 ^ d ∧ callF G (k + d + 2) 34 [pl rows, .int (top : Int), .int (d : Int), .lst (ws.map sv)] (Hp a) = some ((false, fv f), Hp a') := by
  intro d
  induction d with
  | zero =>
    intro k a ha
    have hW : Wp (callF G (k + 0 + 2) 34 [pl rows, .int (top : Int), .int ((0 : Nat) : Int), .lst (ws.map sv)] (Hp a)) fun r => ∃ f a', fok top 3 0 f = true ∧ wok ws f = true ∧ a ≤ a' ∧ a' + 3 ≤ a + 8 * 3 ^ 0 ∧ r = ((false, fv f), Hp a') := by
      refine Wp_call fn_law_formula rfl rfl ?_
      obtain ⟨r0, _, p0⟩ := pick_ok k P a (by omega) 9 (by decide)
      obtain ⟨x, hx, p1⟩ := pick_ok k P (a + 1) (by omega) top ht
      obtain ⟨y, hy, p2⟩ := pick_ok k P (a + 2) (by omega) top ht
      obtain ⟨i, hi, p3⟩ := pick_ok k P (a + 3) (by omega) 2 (by decide)
      obtain ⟨r, hr, p4⟩ := pick_ok k P (a + 4) (by omega) 9 (by decide)
      simp -implicitDefEqProofs [-List.getD_eq_getElem?_getD, -List.map_map, b_law_formula]
      refine Wp_of p0 ?_
      simp -implicitDefEqProofs [-List.getD_eq_getElem?_getD, -List.map_map]
      refine Wp_of p1 ?_
      simp -implicitDefEqProofs [-List.getD_eq_getElem?_getD, -List.map_map]
      refine Wp_of p2 ?_
      simp -implicitDefEqProofs [-List.getD_eq_getElem?_getD, -List.map_map]
      refine Wp_of p3 ?_
      simp -implicitDefEqProofs [-List.getD_eq_getElem?_getD, -List.map_map]
      refine Wp_of p4 ?_
      simp -implicitDefEqProofs [-List.getD_eq_getElem?_getD, -List.map_map]
      refine (leaf_ok top 0 x y i r ws hx hy hi).mono fun v hv => ?_
      obtain ⟨f, h1, h2, rfl⟩ := hv
      exact ⟨rfl, f, h1, h2, a + 5, by omega, by omega, rfl, rfl⟩
    obtain ⟨r, e, f, a', h1, h2, h3, h4, rfl⟩ := hW
    exact ⟨f, a', h1, h2, h3, h4, e⟩
  | succ d ih =>
    intro k a ha
    have hpos : 0 < 3 ^ d := Nat.pow_pos (by decide)
    rw [Nat.pow_succ] at ha
    have hW : Wp (callF G (k + (d + 1) + 2) 34 [pl rows, .int (top : Int), .int ((d + 1 : Nat) : Int), .lst (ws.map sv)] (Hp a)) fun r => ∃ f a', fok top 3 (d + 1) f = true ∧ wok ws f = true ∧ a ≤ a' ∧ a' + 3 ≤ a + 8 * (3 ^ d * 3) ∧ r = ((false, fv f), Hp a') := by
      refine Wp_call fn_law_formula rfl rfl ?_
      obtain ⟨r0, _, p0⟩ := pick_ok (k + (d + 1)) P a (by omega) 9 (by decide)
      have nz : ¬ ((d : Int) + 1 = 0) := by omega
      by_cases hr0 : (r0 : Int) < 2
      · obtain ⟨x, hx, p1⟩ := pick_ok (k + (d + 1)) P (a + 1) (by omega) top ht
        obtain ⟨y, hy, p2⟩ := pick_ok (k + (d + 1)) P (a + 2) (by omega) top ht
        obtain ⟨i, hi, p3⟩ := pick_ok (k + (d + 1)) P (a + 3) (by omega) 2 (by decide)
        obtain ⟨r, hr, p4⟩ := pick_ok (k + (d + 1)) P (a + 4) (by omega) 9 (by decide)
        simp -implicitDefEqProofs [-List.getD_eq_getElem?_getD, -List.map_map, b_law_formula]
        refine Wp_of p0 ?_
        simp -implicitDefEqProofs [-List.getD_eq_getElem?_getD, -List.map_map, nz, hr0]
        refine Wp_of p1 ?_
        simp -implicitDefEqProofs [-List.getD_eq_getElem?_getD, -List.map_map]
        refine Wp_of p2 ?_
        simp -implicitDefEqProofs [-List.getD_eq_getElem?_getD, -List.map_map]
        refine Wp_of p3 ?_
        simp -implicitDefEqProofs [-List.getD_eq_getElem?_getD, -List.map_map]
        refine Wp_of p4 ?_
        simp -implicitDefEqProofs [-List.getD_eq_getElem?_getD, -List.map_map]
        refine (leaf_ok top (d + 1) x y i r ws hx hy hi).mono fun v hv => ?_
        obtain ⟨f, h1, h2, rfl⟩ := hv
        exact ⟨rfl, f, h1, h2, a + 5, by omega, by omega, rfl, rfl⟩
      · have hwl : 0 < ws.length := List.length_pos_iff.mpr hw
        obtain ⟨j, hj, p1⟩ := pick_ok (k + (d + 1)) P (a + 1) (by omega) ws.length hwl
        have hmem := hs ws[j] (List.getElem_mem hj)
        have hin : ws.contains ws[j] = true := by simp
        generalize hz : ws[j] = z at *
        have sub : ∀ b, a ≤ b → b ≤ a + 5 + 2 * (8 * 3 ^ d - 3) → ∃ f b', fok top 3 d f = true ∧ wok ws f = true ∧ b ≤ b' ∧ b' + 3 ≤ b + 8 * 3 ^ d ∧ callF G (k + d + 2) 34 [pl rows, .int (top : Int), .int (d : Int), .lst (ws.map sv)] (Hp b) = some ((false, fv f), Hp b') := fun b h1 h2 => ih k b (by omega)
        have e2 : k + (d + 1) + 1 = k + d + 2 := by omega
        simp -implicitDefEqProofs [-List.getD_eq_getElem?_getD, -List.map_map, b_law_formula]
        refine Wp_of p0 ?_
        simp -implicitDefEqProofs [-List.getD_eq_getElem?_getD, -List.map_map, nz, hr0]
        refine Wp_of p1 ?_
        simp -implicitDefEqProofs [-List.getD_eq_getElem?_getD, -List.map_map, hj, hz, sv]
        simp only [W6, List.mem_cons, List.not_mem_nil, or_false] at hmem
        rcases hmem with rfl | rfl | rfl | rfl | rfl | rfl
        · simp -implicitDefEqProofs [-List.getD_eq_getElem?_getD, -List.map_map]
          obtain ⟨f, b, h1, h2, h3, h4, e⟩ := sub (a + 2) (by omega) (by omega)
          rw [← e2] at e
          refine Wp_of e ?_
          simp -implicitDefEqProofs [-List.getD_eq_getElem?_getD, -List.map_map]
          exact ⟨rfl, .neg f, by simp [fok, h1], by simp only [wok, hin, h2, Bool.and_self], b, by omega, by omega, rfl, rfl⟩
        · simp -implicitDefEqProofs [-List.getD_eq_getElem?_getD, -List.map_map]
          obtain ⟨m, hm, p2⟩ := pick_ok (k + (d + 1)) P (a + 2) (by omega) 4 (by decide)
          refine Wp_of p2 ?_
          simp -implicitDefEqProofs [-List.getD_eq_getElem?_getD, -List.map_map, rng_nt m (by omega)]
          rw [← upTo_nt]
          obtain ⟨I, iI⟩ := mkI3 (fun (i : Nat) (env : FEnv) (h : Hs) => ∃ (fs : List Fm) (b : Nat) (x10 : Option Rv), h = Hp b ∧ fs.length = i ∧ foks top 3 d fs = true ∧ woks ws fs = true ∧ a + 3 ≤ b ∧ b ≤ a + 3 + i * (8 * 3 ^ d - 3) ∧
            env = [some (false, .lst [.lst (rows.map nt), .ref 0]), some (false, .int (top : Int)), some (false, .int ((d : Int) + 1)), some (false, .lst (ws.map sv)), some (false, .int (r0 : Int)), some (false, .str (S "and")), none, none, none, some (false, .tup (fs.map fv)), x10])
          refine Wp_rng m I ((iI _ _ _).mpr ⟨[], a + 3, none, rfl, rfl, rfl, rfl, by omega, by omega, rfl⟩) ?_ ?_
          · intro i env h hi hI
            obtain ⟨fs, b, x10, rfl, hl, h1, h2, h3, h4, rfl⟩ := (iI _ _ _).mp hI
            have hmul : i * (8 * 3 ^ d - 3) ≤ 2 * (8 * 3 ^ d - 3) := Nat.mul_le_mul_right _ (by omega)
            obtain ⟨f, b', g1, g2, g3, g4, e⟩ := sub b (by omega) (by omega)
            rw [← e2] at e
            simp -implicitDefEqProofs [-List.getD_eq_getElem?_getD, -List.map_map]
            refine Wp_of e ?_
            simp -implicitDefEqProofs [-List.getD_eq_getElem?_getD, -List.map_map, show fs.length ≤ 16777215 by omega]
            refine (iI (i + 1) _ _).mpr ⟨fs ++ [f], b', _, rfl, by simp [hl], ?_, ?_, by omega, ?_, by simp; rfl⟩
            · rw [foks_all] at h1 ⊢; simp at h1 ⊢; exact ⟨h1, g1⟩
            · rw [woks_all] at h2 ⊢; simp at h2 ⊢; exact ⟨h2, g2⟩
            · rw [Nat.add_mul]; omega
          · intro env h hI
            obtain ⟨fs, b, x10, rfl, hl, h1, h2, h3, h4, rfl⟩ := (iI _ _ _).mp hI
            have hmul : m * (8 * 3 ^ d - 3) ≤ 3 * (8 * 3 ^ d - 3) := Nat.mul_le_mul_right _ (by omega)
            simp -implicitDefEqProofs [-List.getD_eq_getElem?_getD, -List.map_map]
            exact ⟨rfl, .conj fs, by simp [fok, h1]; omega, by simp only [wok, hin, h2, Bool.and_self], b, by omega, by omega, by simp [fv, fvs_map], rfl⟩
        · simp -implicitDefEqProofs [-List.getD_eq_getElem?_getD, -List.map_map]
          obtain ⟨m, hm, p2⟩ := pick_ok (k + (d + 1)) P (a + 2) (by omega) 4 (by decide)
          refine Wp_of p2 ?_
          simp -implicitDefEqProofs [-List.getD_eq_getElem?_getD, -List.map_map, rng_nt m (by omega)]
          rw [← upTo_nt]
          obtain ⟨I, iI⟩ := mkI3 (fun (i : Nat) (env : FEnv) (h : Hs) => ∃ (fs : List Fm) (b : Nat) (x10 : Option Rv), h = Hp b ∧ fs.length = i ∧ foks top 3 d fs = true ∧ woks ws fs = true ∧ a + 3 ≤ b ∧ b ≤ a + 3 + i * (8 * 3 ^ d - 3) ∧
            env = [some (false, .lst [.lst (rows.map nt), .ref 0]), some (false, .int (top : Int)), some (false, .int ((d : Int) + 1)), some (false, .lst (ws.map sv)), some (false, .int (r0 : Int)), some (false, .str (S "or")), none, none, none, some (false, .tup (fs.map fv)), x10])
          refine Wp_rng m I ((iI _ _ _).mpr ⟨[], a + 3, none, rfl, rfl, rfl, rfl, by omega, by omega, rfl⟩) ?_ ?_
          · intro i env h hi hI
            obtain ⟨fs, b, x10, rfl, hl, h1, h2, h3, h4, rfl⟩ := (iI _ _ _).mp hI
            have hmul : i * (8 * 3 ^ d - 3) ≤ 2 * (8 * 3 ^ d - 3) := Nat.mul_le_mul_right _ (by omega)
            obtain ⟨f, b', g1, g2, g3, g4, e⟩ := sub b (by omega) (by omega)
            rw [← e2] at e
            simp -implicitDefEqProofs [-List.getD_eq_getElem?_getD, -List.map_map]
            refine Wp_of e ?_
            simp -implicitDefEqProofs [-List.getD_eq_getElem?_getD, -List.map_map, show fs.length ≤ 16777215 by omega]
            refine (iI (i + 1) _ _).mpr ⟨fs ++ [f], b', _, rfl, by simp [hl], ?_, ?_, by omega, ?_, by simp; rfl⟩
            · rw [foks_all] at h1 ⊢; simp at h1 ⊢; exact ⟨h1, g1⟩
            · rw [woks_all] at h2 ⊢; simp at h2 ⊢; exact ⟨h2, g2⟩
            · rw [Nat.add_mul]; omega
          · intro env h hI
            obtain ⟨fs, b, x10, rfl, hl, h1, h2, h3, h4, rfl⟩ := (iI _ _ _).mp hI
            have hmul : m * (8 * 3 ^ d - 3) ≤ 3 * (8 * 3 ^ d - 3) := Nat.mul_le_mul_right _ (by omega)
            simp -implicitDefEqProofs [-List.getD_eq_getElem?_getD, -List.map_map]
            exact ⟨rfl, .disj fs, by simp [fok, h1]; omega, by simp only [wok, hin, h2, Bool.and_self], b, by omega, by omega, by simp [fv, fvs_map], rfl⟩
        · simp -implicitDefEqProofs [-List.getD_eq_getElem?_getD, -List.map_map]
          obtain ⟨x, hx, p2⟩ := pick_ok (k + (d + 1)) P (a + 2) (by omega) top ht
          refine Wp_of p2 ?_
          obtain ⟨f, b, h1, h2, h3, h4, e⟩ := sub (a + 3) (by omega) (by omega)
          rw [← e2] at e
          simp -implicitDefEqProofs [-List.getD_eq_getElem?_getD, -List.map_map]
          refine Wp_of e ?_
          simp -implicitDefEqProofs [-List.getD_eq_getElem?_getD, -List.map_map]
          exact ⟨rfl, .ex x f, by simp [fok, h1, hx], by simp only [wok, hin, h2, Bool.and_self], b, by omega, by omega, rfl, rfl⟩
        · simp -implicitDefEqProofs [-List.getD_eq_getElem?_getD, -List.map_map]
          obtain ⟨x, hx, p2⟩ := pick_ok (k + (d + 1)) P (a + 2) (by omega) top ht
          refine Wp_of p2 ?_
          obtain ⟨f, b, h1, h2, h3, h4, e⟩ := sub (a + 3) (by omega) (by omega)
          rw [← e2] at e
          simp -implicitDefEqProofs [-List.getD_eq_getElem?_getD, -List.map_map]
          refine Wp_of e ?_
          simp -implicitDefEqProofs [-List.getD_eq_getElem?_getD, -List.map_map]
          exact ⟨rfl, .al x f, by simp [fok, h1, hx], by simp only [wok, hin, h2, Bool.and_self], b, by omega, by omega, rfl, rfl⟩
        · simp -implicitDefEqProofs [-List.getD_eq_getElem?_getD, -List.map_map]
          obtain ⟨x, hx, p2⟩ := pick_ok (k + (d + 1)) P (a + 2) (by omega) top ht
          refine Wp_of p2 ?_
          simp -implicitDefEqProofs [-List.getD_eq_getElem?_getD, -List.map_map]
          obtain ⟨m, hm, p3⟩ := pick_ok (k + (d + 1)) P (a + 3) (by omega) 3 (by decide)
          refine Wp_of p3 ?_
          obtain ⟨f, b, h1, h2, h3, h4, e⟩ := sub (a + 4) (by omega) (by omega)
          rw [← e2] at e
          simp -implicitDefEqProofs [-List.getD_eq_getElem?_getD, -List.map_map]
          refine Wp_of e ?_
          simp -implicitDefEqProofs [-List.getD_eq_getElem?_getD, -List.map_map]
          exact ⟨rfl, .lea (1 + m) x f, by simp [fok, h1, hx]; omega, by simp only [wok, hin, h2, Bool.and_self], b, by omega, by omega, rfl, rfl⟩
    obtain ⟨r, e, f, a', h1, h2, h3, h4, rfl⟩ := hW
    exact ⟨f, a', h1, h2, h3, by rw [Nat.pow_succ]; exact h4, e⟩
end K94
set_option maxRecDepth 100000
set_option maxHeartbeats 4000000
namespace K94
open PySem (Str)
open MP MX
/-! ### parts of formulas, free names -/
theorem slc1_2 (a b : PV) : slcP (.tup [a, b]) (some 1) none = some (false, .tup [b]) := rfl
theorem slc2_3 (a b c : PV) : slcP (.tup [a, b, c]) (some 2) none = some (false, .tup [c]) := rfl
theorem slc3_4 (a b c d : PV) : slcP (.tup [a, b, c, d]) (some 3) none = some (false, .tup [d]) := rfl
theorem law_own_ok (k : Nat) (f : Fm) (hp : Hs) : callF G (k + 1) 30 [fv f] hp = some ((true, .lst ((ow f).map nt)), hp) := by
  refine call_eq fn_law_own rfl rfl ?_
  cases f <;> simp -implicitDefEqProofs [-List.getD_eq_getElem?_getD, -List.map_map, b_law_own, fv, sv, ow]
theorem law_bound_ok (k : Nat) (f : Fm) (hp : Hs) : callF G (k + 1) 29 [fv f] hp = some ((true, .lst ((bdn f).toList.map nt)), hp) := by
  refine call_eq fn_law_bound rfl rfl ?_
  cases f <;> simp -implicitDefEqProofs [-List.getD_eq_getElem?_getD, -List.map_map, b_law_bound, fv, sv, bdn]
theorem law_inner_ok (k : Nat) (f : Fm) (hp : Hs) : callF G (k + 1) 28 [fv f] hp = some ((false, .tup ((pts f).map fv)), hp) := by
  refine call_eq fn_law_inner rfl rfl ?_
  cases f <;> simp -implicitDefEqProofs [-List.getD_eq_getElem?_getD, -List.map_map, b_law_inner, fv, sv, pts, slc1_2, slc2_3, slc3_4, fvs_map]
theorem law_free_ok (t b : Nat) : ∀ (d k : Nat) (f : Fm), fok t b d f = true → d ≤ 8 → ∀ hp : Hs, callF G (k + d + 2) 31 [fv f] hp = some ((true, .lst ((fr f).map nt)), hp) := by
  intro d
  induction d with
  | zero =>
    intro k f h hd hp
    have e : pts f = [] := by
      cases hz : pts f with
      | nil => rfl
      | cons g gs => have := (pts_ok h g (by rw [hz]; simp)).1; omega
    have e2 : fr f = ow f := by rw [fr_eq, e]; simp
    refine call_eq fn_law_free rfl rfl ?_
    simp -implicitDefEqProofs [-List.getD_eq_getElem?_getD, -List.map_map, b_law_free]
    refine Wp_of (law_own_ok k f hp) ?_
    simp -implicitDefEqProofs [-List.getD_eq_getElem?_getD, -List.map_map]
    refine Wp_of (law_inner_ok k f hp) ?_
    simp -implicitDefEqProofs [-List.getD_eq_getElem?_getD, -List.map_map, e, e2]
  | succ d ih =>
    intro k f h hd hp
    have hlen := fr_len h
    have hp3 : 3 ^ (d + 1) ≤ 3 ^ 8 := Nat.pow_le_pow_right (by decide) hd
    have hfl : (fr f).length ≤ 100000 := by omega
    have hpl := pts_len h
    refine call_eq fn_law_free rfl rfl ?_
    simp -implicitDefEqProofs [-List.getD_eq_getElem?_getD, -List.map_map, b_law_free]
    refine Wp_of (law_own_ok (k + (d + 1)) f hp) ?_
    simp -implicitDefEqProofs [-List.getD_eq_getElem?_getD, -List.map_map]
    refine Wp_of (law_inner_ok (k + (d + 1)) f hp) ?_
    simp -implicitDefEqProofs [-List.getD_eq_getElem?_getD, -List.map_map]
    obtain ⟨I, iI⟩ := mkI4 (fun (done rest : List Fm) (env : FEnv) (h : Hs) => hp = h ∧ done ++ rest = pts f ∧ ∃ x2 x3, env = [some (false, fv f), some (true, .lst ((ow f ++ done.flatMap fun g => (fr g).filter (bok f)).map nt)), x2, x3])
    refine Wp_for (enc := fv) I ?_ (pts f) [] _ _ ((iI _ _ _ _).mpr ⟨rfl, rfl, none, none, by simp⟩) ?_
    · intro done g rest env h' hI
      obtain ⟨rfl, hdn, x2, x3, rfl⟩ := (iI _ _ _ _).mp hI
      have hg : g ∈ pts f := by rw [← hdn]; simp
      obtain ⟨_, hgo⟩ := pts_ok h g hg
      have hgo : fok t b d g = true := hgo
      have e := ih k g hgo (by omega) hp
      have pre : (ow f ++ (done ++ [g]).flatMap fun g => (fr g).filter (bok f)).length ≤ (fr f).length := by
        rw [fr_eq f, ← hdn]
        simp only [List.length_append, List.flatMap_append, List.flatMap_cons, List.flatMap_nil, List.append_nil]
        omega
      simp -implicitDefEqProofs [-List.getD_eq_getElem?_getD, -List.map_map]
      refine Wp_of e ?_
      simp -implicitDefEqProofs [-List.getD_eq_getElem?_getD, -List.map_map]
      refine Wp_of (lcE_filter (enc := nt) (p := bok f) (g := nt) fun y hy => ?_) ?_
      · refine Wp_eq ?_
        simp -implicitDefEqProofs [-List.getD_eq_getElem?_getD, -List.map_map]
        refine Wp_of (law_bound_ok (k + (d + 1)) f hp) ?_
        simp -implicitDefEqProofs [-List.getD_eq_getElem?_getD, -List.map_map]
        by_cases hb : bdn f = some y
        · simp -implicitDefEqProofs [-List.getD_eq_getElem?_getD, -List.map_map, bok, hb]
        · simp -implicitDefEqProofs [-List.getD_eq_getElem?_getD, -List.map_map, bok, hb, eq_comm]
      · simp only [List.length_append, List.flatMap_append, List.flatMap_cons, List.flatMap_nil, List.append_nil, List.length_flatMap] at pre
        simp -implicitDefEqProofs [-List.getD_eq_getElem?_getD, -List.map_map]
        refine ⟨by omega, by omega, (iI _ _ _ _).mpr ⟨rfl, by simpa using hdn, some (false, fv g), x3, by simp⟩⟩
    · intro env h' hI
      obtain ⟨rfl, hdn, x2, x3, rfl⟩ := (iI _ _ _ _).mp hI
      simp -implicitDefEqProofs [-List.getD_eq_getElem?_getD, -List.map_map]
      rw [fr_eq f, List.map_append]
/-! ### what is different, sorted -/
theorem unlike_gen {α : Type} [DecidableEq α] {enc : α → PV} {d : Nat} {le : α → α → Bool} (E : EncOk enc d) (O : OrdOk enc le) (hd : d ≤ 60) (c : List PV → PV) (hc : c = PV.lst ∨ c = PV.tup) (xs : List α)
    (hs : bclP .sorted [c (xs.map enc)] = some (true, .lst ((xs.mergeSort le).map enc))) (hl : xs.length ≤ 16000000) (k : Nat) (hp : Hs) : callF G (k + 1) 32 [c (xs.map enc)] hp = some ((false, .tup (((uq xs).mergeSort le).map enc)), hp) := by
  refine call_eq fn_law_unlike rfl rfl ?_
  have hdr : ∀ h : Hs, drfL (c (xs.map enc)) h = c (xs.map enc) := fun h => by rcases hc with rfl | rfl <;> rfl
  have hlf := E.lfAll (xs.mergeSort le)
  simp -implicitDefEqProofs [-List.getD_eq_getElem?_getD, -List.map_map, b_law_unlike, hdr, hs, hlf]
  obtain ⟨I, iI⟩ := mkI4 (fun (done rest : List α) (env : FEnv) (h : Hs) => hp = h ∧ done ++ rest = xs.mergeSort le ∧ ∃ x2, env = [some (false, c (xs.map enc)), some (true, .lst ((uq done).map enc)), x2])
  refine Wp_for (enc := enc) I ?_ (xs.mergeSort le) [] _ _ ((iI _ _ _ _).mpr ⟨rfl, rfl, none, rfl⟩) ?_
  · intro done x rest env h' hI
    obtain ⟨rfl, hdn, x2, rfl⟩ := (iI _ _ _ _).mp hI
    have hll : (uq done).length < 16777216 := by
      have h1 := length_uq_le done
      have h2 := congrArg List.length hdn
      rw [List.length_mergeSort, List.length_append] at h2
      omega
    have nin := E.nin_lst x (uq done) hd
    have lfx := E.lf x
    by_cases hx : x ∈ uq done
    · simp -implicitDefEqProofs [-List.getD_eq_getElem?_getD, -List.map_map, nin, hx]
      exact (iI _ _ _ _).mpr ⟨rfl, by simpa using hdn, some (false, enc x), by rw [uq_snoc, if_pos hx]⟩
    · simp -implicitDefEqProofs [-List.getD_eq_getElem?_getD, -List.map_map, nin, hx, lfx, hll]
      exact (iI _ _ _ _).mpr ⟨rfl, by simpa using hdn, some (false, enc x), by rw [uq_snoc, if_neg hx]; simp⟩
  · intro env h' hI
    obtain ⟨rfl, hdn, x2, rfl⟩ := (iI _ _ _ _).mp hI
    simp -implicitDefEqProofs [-List.getD_eq_getElem?_getD, -List.map_map]
    rw [List.append_nil] at hdn
    rw [uq_sort O]
theorem unlike_nt (xs : List Nat) (hl : xs.length ≤ 16000000) (k : Nat) (hp : Hs) : callF G (k + 1) 32 [.lst (xs.map nt)] hp = some ((false, .tup ((su xs).map nt)), hp) :=
  unlike_gen ntOk ntOrd (by decide) PV.lst (.inl rfl) xs (sorted_nt xs (by omega)) hl k hp
theorem unlike_ntT (xs : List Nat) (hl : xs.length ≤ 16000000) (k : Nat) (hp : Hs) : callF G (k + 1) 32 [.tup (xs.map nt)] hp = some ((false, .tup ((su xs).map nt)), hp) :=
  unlike_gen ntOk ntOrd (by decide) PV.tup (.inr rfl) xs (sorted_ntT xs (by omega)) hl k hp
/-! ### all tuples -/
theorem law_tuples_ok (k n m : Nat) (h : ∀ j ≤ m, (tps n j).length ≤ 1000000) (hn : n ≤ 1000) (hm : m ≤ 1000) (hp : Hs) : callF G (k + 1) 27 [.int (n : Int), .int (m : Int)] hp = some ((true, .lst ((tps n m).map mv)), hp) := by
  refine call_eq fn_law_tuples rfl rfl ?_
  simp -implicitDefEqProofs [-List.getD_eq_getElem?_getD, -List.map_map, b_law_tuples, rng_nt m (by omega)]
  rw [← upTo_nt]
  obtain ⟨I, iI⟩ := mkI3 (fun (i : Nat) (env : FEnv) (h : Hs) => hp = h ∧ ∃ x3 x4 x5 x6, env = [some (false, .int (n : Int)), some (false, .int (m : Int)), some (true, .lst ((tps n i).map mv)), x3, x4, x5, x6])
  refine Wp_rng m I ((iI _ _ _).mpr ⟨rfl, none, none, none, none, rfl⟩) ?_ ?_
  · intro i env h' hi hI
    obtain ⟨rfl, x3, x4, x5, x6, rfl⟩ := (iI _ _ _).mp hI
    have hl := h (i + 1) (by omega)
    simp -implicitDefEqProofs [-List.getD_eq_getElem?_getD, -List.map_map]
    obtain ⟨J, iJ⟩ := mkI4 (fun (done rest : List Row) (env : FEnv) (h : Hs) => hp = h ∧ done ++ rest = tps n i ∧ ∃ x2 x5, env = [some (false, .int (n : Int)), some (false, .int (m : Int)), x2, some (false, .int (i : Int)), some (true, .lst ((done.flatMap fun r => (List.range n).map fun j => r ++ [j]).map mv)), x5, x6])
    refine Wp_for (enc := mv) J ?_ (tps n i) [] _ _ ((iJ _ _ _ _).mpr ⟨rfl, rfl, _, x5, by simp; rfl⟩) ?_
    · intro done r rest env h' hJ
      obtain ⟨rfl, hdn, x2, x5, rfl⟩ := (iJ _ _ _ _).mp hJ
      have pre : ((done ++ [r]).flatMap fun r => (List.range n).map fun j => r ++ [j]).length ≤ (tps n (i + 1)).length := by
        have e : tps n (i + 1) = ((done ++ [r]).flatMap fun r => (List.range n).map fun j => r ++ [j]) ++ (rest.flatMap fun r => (List.range n).map fun j => r ++ [j]) := by
          show (tps n i).flatMap _ = _
          rw [← hdn, ← List.flatMap_append, List.append_assoc]; rfl
        rw [e, List.length_append]
        exact Nat.le_add_right _ _
      simp only [List.length_append, List.flatMap_append, List.flatMap_cons, List.flatMap_nil, List.append_nil, List.length_flatMap, List.length_map, List.length_range] at pre
      have hr : r.length ≤ 1000 := by
        have : r ∈ tps n i := by rw [← hdn]; simp
        have := (mem_tps.mp this).1
        omega
      simp -implicitDefEqProofs [-List.getD_eq_getElem?_getD, -List.map_map, rng_nt n (by omega)]
      refine Wp_of (lcE_map1 (enc := nt) (g := fun j => mv (r ++ [j])) fun j hj => ?_) ?_
      · refine Wp_eq ?_
        simp -implicitDefEqProofs [-List.getD_eq_getElem?_getD, -List.map_map, show r.length ≤ 16777215 by omega]
      · simp -implicitDefEqProofs [-List.getD_eq_getElem?_getD, -List.map_map, show n ≤ 16777216 by omega]
        refine ⟨by omega, (iJ _ _ _ _).mpr ⟨rfl, by simpa using hdn, x2, some (false, mv r), ?_⟩⟩
        simp
    · intro env h' hJ
      obtain ⟨rfl, hdn, x2, x5, rfl⟩ := (iJ _ _ _ _).mp hJ
      simp -implicitDefEqProofs [-List.getD_eq_getElem?_getD, -List.map_map]
      exact (iI _ _ _).mpr ⟨rfl, _, none, x5, x6, rfl⟩
  · intro env h' hI
    obtain ⟨rfl, x3, x4, x5, x6, rfl⟩ := (iI _ _ _).mp hI
    simp -implicitDefEqProofs [-List.getD_eq_getElem?_getD, -List.map_map]
end K94
set_option maxRecDepth 100000
set_option maxHeartbeats 4000000
namespace K94
open PySem (Str)
open MP MX
/-! ### the law's own truth -/
theorem row_at {row : List (Option Nat)} {x a : Nat} (h : row[x]? = some (some a)) : (row.map ov)[x]? = some (.int (a : Int)) := by rw [List.getElem?_map, h]; rfl
theorem cut_lo (xs : List PV) (n : Nat) : slcP (.tup xs) none (some (n : Int)) = some (false, .tup (xs.take n)) := by
  show some (false, PV.tup ((xs.drop 0).take (clipI xs.length xs.length (some (n : Int)) - 0))) = _
  have : clipI xs.length xs.length (some (n : Int)) = min n xs.length := by simp [clipI]; omega
  rw [this, List.drop_zero, Nat.sub_zero]
  by_cases h : n ≤ xs.length
  · rw [Nat.min_eq_left h]
  · rw [Nat.min_eq_right (by omega), List.take_of_length_le (Nat.le_refl _), List.take_of_length_le (by omega)]
theorem cut_hi (xs : List PV) (n : Nat) : slcP (.tup xs) (some ((n : Int) + 1)) none = some (false, .tup (xs.drop (n + 1))) := by
  show some (false, PV.tup ((xs.drop (clipI xs.length 0 (some ((n : Int) + 1)))).take (xs.length - clipI xs.length 0 (some ((n : Int) + 1))))) = _
  have : clipI xs.length 0 (some ((n : Int) + 1)) = min (n + 1) xs.length := by simp [clipI]; omega
  rw [this]
  by_cases h : n + 1 ≤ xs.length
  · rw [Nat.min_eq_left h, List.take_of_length_le (by simp)]
  · rw [Nat.min_eq_right (by omega), List.drop_eq_nil_of_le (Nat.le_refl _), List.drop_eq_nil_of_le (by omega)]; simp
theorem row_set {row : List (Option Nat)} {x : Nat} (h : x < row.length) (a : Nat) : (row.map ov).take x ++ .int (a : Int) :: (row.map ov).drop (x + 1) = (row.set x (some a)).map ov := by
  rw [List.map_set, List.set_eq_take_append_cons_drop, if_pos (by simpa using h)]; rfl
def Ag (f : Fm) (row : List (Option Nat)) (ρ : Asg) : Prop := ∀ x ∈ fr f, row[x]? = some (some (ρ x))
theorem Ag.bind {f g : Fm} {row : List (Option Nat)} {ρ : Asg} {x : Nat} (h : Ag f row ρ) (hl : x < row.length) (e : fr f = (fr g).filter fun y => !decide (y = x)) (a : Nat) : Ag g (row.set x (some a)) (up ρ x a) := by
  intro y hy
  unfold up
  by_cases hyx : y = x
  · subst hyx; rw [if_pos rfl, List.getElem?_set_self hl]
  · rw [if_neg hyx, List.getElem?_set_ne (fun e => hyx e.symm)]
    exact h y (by rw [e, List.mem_filter]; exact ⟨hy, by simp [hyx]⟩)
theorem law_truth_ok {w : Wld} (hn : w.n ≤ 1000) (t b : Nat) (ht : t ≤ 6) : ∀ (d k : Nat) (f : Fm), fok t b d f = true → ∀ (row : List (Option Nat)) (ρ : Asg), row.length = 6 → Ag f row ρ → ∀ hp : Hs,
    callF G (k + d + 2) 33 [wv w, fv f, .tup (row.map ov)] hp = some ((false, .bl (tr w f ρ)), hp) := by
  intro d
  induction d with
  | zero =>
    intro k f h row ρ hl hA hp
    refine call_eq fn_law_truth rfl rfl ?_
    cases f <;> simp only [fok, Bool.and_eq_true, decide_eq_true_eq, Nat.lt_irrefl, false_and, and_false, Bool.false_eq_true] at h
    · simp -implicitDefEqProofs [-List.getD_eq_getElem?_getD, -List.map_map, b_law_truth, fv, sv, tr]
    · simp -implicitDefEqProofs [-List.getD_eq_getElem?_getD, -List.map_map, b_law_truth, fv, sv, tr]
    · rename_i x y
      have e1 := row_at (hA x (by simp [fr]))
      have e2 := row_at (hA y (by simp [fr]))
      simp -implicitDefEqProofs [-List.getD_eq_getElem?_getD, -List.map_map, b_law_truth, fv, sv, tr, e1, e2]
      omega
    · rename_i i x
      have e1 := row_at (hA x (by simp [fr]))
      rcases (show i = 0 ∨ i = 1 by omega) with rfl | rfl
      · simp -implicitDefEqProofs [-List.getD_eq_getElem?_getD, -List.map_map, b_law_truth, fv, sv, tr, e1]
      · simp -implicitDefEqProofs [-List.getD_eq_getElem?_getD, -List.map_map, b_law_truth, fv, sv, tr, e1]
    · rename_i x y
      have e1 := row_at (hA x (by simp [fr]))
      have e2 := row_at (hA y (by simp [fr]))
      simp -implicitDefEqProofs [-List.getD_eq_getElem?_getD, -List.map_map, b_law_truth, fv, sv, tr, e1, e2]
  | succ d ih =>
    intro k f h row ρ hl hA hp
    refine call_eq fn_law_truth rfl rfl ?_
    cases f <;> simp only [fok, Bool.and_eq_true, decide_eq_true_eq] at h
    · simp -implicitDefEqProofs [-List.getD_eq_getElem?_getD, -List.map_map, b_law_truth, fv, sv, tr]
    · simp -implicitDefEqProofs [-List.getD_eq_getElem?_getD, -List.map_map, b_law_truth, fv, sv, tr]
    · rename_i x y
      have e1 := row_at (hA x (by simp [fr]))
      have e2 := row_at (hA y (by simp [fr]))
      simp -implicitDefEqProofs [-List.getD_eq_getElem?_getD, -List.map_map, b_law_truth, fv, sv, tr, e1, e2]
      omega
    · rename_i i x
      have e1 := row_at (hA x (by simp [fr]))
      rcases (show i = 0 ∨ i = 1 by omega) with rfl | rfl
      · simp -implicitDefEqProofs [-List.getD_eq_getElem?_getD, -List.map_map, b_law_truth, fv, sv, tr, e1]
      · simp -implicitDefEqProofs [-List.getD_eq_getElem?_getD, -List.map_map, b_law_truth, fv, sv, tr, e1]
    · rename_i x y
      have e1 := row_at (hA x (by simp [fr]))
      have e2 := row_at (hA y (by simp [fr]))
      simp -implicitDefEqProofs [-List.getD_eq_getElem?_getD, -List.map_map, b_law_truth, fv, sv, tr, e1, e2]
    · rename_i g
      have e := ih k g h.2 row ρ hl hA hp
      simp -implicitDefEqProofs [-List.getD_eq_getElem?_getD, -List.map_map, b_law_truth, fv, sv]
      refine Wp_of e ?_
      simp -implicitDefEqProofs [-List.getD_eq_getElem?_getD, -List.map_map, tr]
    · rename_i fs
      have hgs : ∀ g ∈ fs, fok t b d g = true ∧ Ag g row ρ := fun g hg => by
        have := h.2
        rw [foks_all, List.all_eq_true] at this
        exact ⟨this g hg, fun x hx => hA x (by simp only [fr, frs_flat, List.mem_flatMap]; exact ⟨g, hg, hx⟩)⟩
      simp -implicitDefEqProofs [-List.getD_eq_getElem?_getD, -List.map_map, b_law_truth, fv, sv, fvs_map]
      obtain ⟨I, iI⟩ := mkI4 (fun (done rest : List Fm) (env : FEnv) (h : Hs) => hp = h ∧ done ++ rest = fs ∧ (done.all fun g => tr w g ρ) = true ∧ ∃ x8, env = [some (false, wv w), some (false, .tup [sv "and", .tup (fs.map fv)]), some (false, .tup (row.map ov)), some (false, sv "and"), none, none, none, none, x8])
      refine Wp_for (enc := fv) I ?_ fs [] _ _ ((iI _ _ _ _).mpr ⟨rfl, rfl, rfl, none, rfl⟩) ?_
      · intro done g rest env h' hI
        obtain ⟨rfl, hdn, ht0, x8, rfl⟩ := (iI _ _ _ _).mp hI
        have hg : g ∈ fs := by rw [← hdn]; simp
        have e := ih k g (hgs g hg).1 row ρ hl (hgs g hg).2 hp
        simp -implicitDefEqProofs [-List.getD_eq_getElem?_getD, -List.map_map, sv]
        refine Wp_of e ?_
        cases hb : tr w g ρ with
        | true =>
          simp -implicitDefEqProofs [-List.getD_eq_getElem?_getD, -List.map_map]
          exact (iI _ _ _ _).mpr ⟨rfl, by simpa using hdn, by simp [ht0, hb] <;> simpa using ht0, some (false, fv g), by simp [sv]⟩
        | false =>
          simp -implicitDefEqProofs [-List.getD_eq_getElem?_getD, -List.map_map]
          rw [tr, trA_all, ← hdn]
          simp [hb]
      · intro env h' hI
        obtain ⟨rfl, hdn, ht0, x8, rfl⟩ := (iI _ _ _ _).mp hI
        simp -implicitDefEqProofs [-List.getD_eq_getElem?_getD, -List.map_map]
        rw [tr, trA_all]
        simpa using ht0
    · rename_i fs
      have hgs : ∀ g ∈ fs, fok t b d g = true ∧ Ag g row ρ := fun g hg => by
        have := h.2
        rw [foks_all, List.all_eq_true] at this
        exact ⟨this g hg, fun x hx => hA x (by simp only [fr, frs_flat, List.mem_flatMap]; exact ⟨g, hg, hx⟩)⟩
      simp -implicitDefEqProofs [-List.getD_eq_getElem?_getD, -List.map_map, b_law_truth, fv, sv, fvs_map]
      obtain ⟨I, iI⟩ := mkI4 (fun (done rest : List Fm) (env : FEnv) (h : Hs) => hp = h ∧ done ++ rest = fs ∧ (done.any fun g => tr w g ρ) = false ∧ ∃ x8, env = [some (false, wv w), some (false, .tup [sv "or", .tup (fs.map fv)]), some (false, .tup (row.map ov)), some (false, sv "or"), none, none, none, none, x8])
      refine Wp_for (enc := fv) I ?_ fs [] _ _ ((iI _ _ _ _).mpr ⟨rfl, rfl, rfl, none, rfl⟩) ?_
      · intro done g rest env h' hI
        obtain ⟨rfl, hdn, ht0, x8, rfl⟩ := (iI _ _ _ _).mp hI
        have hg : g ∈ fs := by rw [← hdn]; simp
        have e := ih k g (hgs g hg).1 row ρ hl (hgs g hg).2 hp
        simp -implicitDefEqProofs [-List.getD_eq_getElem?_getD, -List.map_map, sv]
        refine Wp_of e ?_
        cases hb : tr w g ρ with
        | false =>
          simp -implicitDefEqProofs [-List.getD_eq_getElem?_getD, -List.map_map]
          exact (iI _ _ _ _).mpr ⟨rfl, by simpa using hdn, by simp [ht0, hb] <;> simpa using ht0, some (false, fv g), by simp [sv]⟩
        | true =>
          simp -implicitDefEqProofs [-List.getD_eq_getElem?_getD, -List.map_map]
          rw [tr, trO_any, ← hdn]
          simp [hb]
      · intro env h' hI
        obtain ⟨rfl, hdn, ht0, x8, rfl⟩ := (iI _ _ _ _).mp hI
        simp -implicitDefEqProofs [-List.getD_eq_getElem?_getD, -List.map_map]
        rw [tr, trO_any]
        simpa using ht0
    · rename_i x g
      have hx : x < row.length := by omega
      have hAg := fun a => hA.bind hx (g := g) rfl a
      have ihg := fun a : Nat => ih k g h.2 (row.set x (some a)) (up ρ x a) (by simp [hl]) (hAg a) hp
      simp only [List.map_set] at ihg
      simp -implicitDefEqProofs [-List.getD_eq_getElem?_getD, -List.map_map, b_law_truth, fv, sv]
      refine Wp_of (law_bound_ok (k + (d + 1)) (.ex x g) hp) ?_
      simp -implicitDefEqProofs [-List.getD_eq_getElem?_getD, -List.map_map, bdn, rng_nt w.n (by omega)]
      rw [← upTo_nt]
      obtain ⟨I, iI⟩ := mkI3 (fun (i : Nat) (env : FEnv) (h : Hs) => hp = h ∧ ∃ x7, env = [some (false, wv w), some (false, .tup [sv "some", .int (x : Int), fv g]), some (false, .tup (row.map ov)), some (false, sv "some"), some (false, .int (x : Int)), some (false, .int ((1 : Int) : Int)), some (false, .int ((min (1) ((List.range i).countP fun a => tr w g (up ρ x a)) : Nat) : Int)), x7, none])
      refine Wp_rng w.n I ((iI _ _ _).mpr ⟨rfl, none, by simp [sv]⟩) ?_ ?_
      · intro i env h' hi hI
        obtain ⟨rfl, x7, rfl⟩ := (iI _ _ _).mp hI
        have hc : (List.range (i + 1)).countP (fun a => tr w g (up ρ x a)) = (List.range i).countP (fun a => tr w g (up ρ x a)) + (if tr w g (up ρ x i) = true then 1 else 0) := by
          rw [List.range_succ, List.countP_append, List.countP_singleton]
        generalize (List.range i).countP (fun a => tr w g (up ρ x a)) = c at *
        generalize hmn : min (1) c = gd
        have rs := row_set hx i
        have rl : (row.map ov).length = 6 := by simp [hl]
        by_cases hlt : gd < 1
        · have hlt' : (gd : Int) < ((1 : Int) : Int) := by omega
          simp -implicitDefEqProofs [-List.getD_eq_getElem?_getD, -List.map_map, sv, hlt, hlt', cut_lo, cut_hi, rl, rs, show min x 6 + 1 ≤ 16777216 by omega, show min x 6 + 1 + (5 - x) ≤ 16777216 by omega]
          refine Wp_of (ihg i) ?_
          cases hb : tr w g (up ρ x i) with
          | true =>
            rw [hb, if_pos rfl] at hc
            simp -implicitDefEqProofs [-List.getD_eq_getElem?_getD, -List.map_map]
            exact (iI (i + 1) _ _).mpr ⟨rfl, some (false, .int (i : Int)), by rw [hc, show min (1) (c + 1) = gd + 1 by omega]; simp [sv]⟩
          | false =>
            rw [hb, if_neg (by simp)] at hc
            simp -implicitDefEqProofs [-List.getD_eq_getElem?_getD, -List.map_map]
            exact (iI (i + 1) _ _).mpr ⟨rfl, some (false, .int (i : Int)), by rw [hc, show min (1) (c + 0) = gd by omega]; simp [sv]⟩
        · have hlt' : ¬ (gd : Int) < ((1 : Int) : Int) := by omega
          simp -implicitDefEqProofs [-List.getD_eq_getElem?_getD, -List.map_map, sv, hlt, hlt']
          exact (iI (i + 1) _ _).mpr ⟨rfl, some (false, .int (i : Int)), by rw [hc, show min (1) (c + (if tr w g (up ρ x i) = true then 1 else 0)) = gd by split <;> omega]; simp [sv]⟩
      · intro env h' hI
        obtain ⟨rfl, x7, rfl⟩ := (iI _ _ _).mp hI
        simp -implicitDefEqProofs [-List.getD_eq_getElem?_getD, -List.map_map, sv]
        simp only [tr]
        have hpos := List.countP_pos_iff (p := fun a => tr w g (up ρ x a)) (l := List.range w.n)
        rw [Bool.eq_iff_iff, decide_eq_true_eq, List.any_eq_true, ← hpos]
        omega
    · rename_i x g
      have hx : x < row.length := by omega
      have hAg := fun a => hA.bind hx (g := g) rfl a
      have ihg := fun a : Nat => ih k g h.2 (row.set x (some a)) (up ρ x a) (by simp [hl]) (hAg a) hp
      simp only [List.map_set] at ihg
      simp -implicitDefEqProofs [-List.getD_eq_getElem?_getD, -List.map_map, b_law_truth, fv, sv]
      refine Wp_of (law_bound_ok (k + (d + 1)) (.al x g) hp) ?_
      simp -implicitDefEqProofs [-List.getD_eq_getElem?_getD, -List.map_map, bdn, rng_nt w.n (by omega)]
      rw [← upTo_nt]
      obtain ⟨I, iI⟩ := mkI3 (fun (i : Nat) (env : FEnv) (h : Hs) => hp = h ∧ (∀ a < i, tr w g (up ρ x a) = true) ∧ ∃ x7, env = [some (false, wv w), some (false, .tup [sv "all", .int (x : Int), fv g]), some (false, .tup (row.map ov)), some (false, sv "all"), some (false, .int (x : Int)), some (false, .int 1), some (false, .int (i : Int)), x7, none])
      refine Wp_rng w.n I ((iI _ _ _).mpr ⟨rfl, by simp, none, by simp [sv]⟩) ?_ ?_
      · intro i env h' hi hI
        obtain ⟨rfl, hall, x7, rfl⟩ := (iI _ _ _).mp hI
        have rs := row_set hx i
        have rl : (row.map ov).length = 6 := by simp [hl]
        simp -implicitDefEqProofs [-List.getD_eq_getElem?_getD, -List.map_map, sv, cut_lo, cut_hi, rl, rs, show min x 6 + 1 ≤ 16777216 by omega, show min x 6 + 1 + (5 - x) ≤ 16777216 by omega]
        refine Wp_of (ihg i) ?_
        cases hb : tr w g (up ρ x i) with
        | true =>
          simp -implicitDefEqProofs [-List.getD_eq_getElem?_getD, -List.map_map]
          refine (iI (i + 1) _ _).mpr ⟨rfl, fun a ha => ?_, some (false, .int (i : Int)), by simp [sv]⟩
          by_cases hai : a = i
          · subst hai; exact hb
          · exact hall a (by omega)
        | false =>
          simp -implicitDefEqProofs [-List.getD_eq_getElem?_getD, -List.map_map]
          simp only [tr]
          rw [Bool.eq_iff_iff]
          simp
          exact ⟨i, hi, hb⟩
      · intro env h' hI
        obtain ⟨rfl, hall, x7, rfl⟩ := (iI _ _ _).mp hI
        simp -implicitDefEqProofs [-List.getD_eq_getElem?_getD, -List.map_map, sv]
        simp only [tr]
        simpa using hall

    · rename_i m x g
      have hx : x < row.length := by omega
      have hAg := fun a => hA.bind hx (g := g) rfl a
      have ihg := fun a : Nat => ih k g h.2 (row.set x (some a)) (up ρ x a) (by simp [hl]) (hAg a) hp
      simp only [List.map_set] at ihg
      simp -implicitDefEqProofs [-List.getD_eq_getElem?_getD, -List.map_map, b_law_truth, fv, sv]
      refine Wp_of (law_bound_ok (k + (d + 1)) (.lea m x g) hp) ?_
      simp -implicitDefEqProofs [-List.getD_eq_getElem?_getD, -List.map_map, bdn, rng_nt w.n (by omega)]
      rw [← upTo_nt]
      obtain ⟨I, iI⟩ := mkI3 (fun (i : Nat) (env : FEnv) (h : Hs) => hp = h ∧ ∃ x7, env = [some (false, wv w), some (false, .tup [sv "least", .int (m : Int), .int (x : Int), fv g]), some (false, .tup (row.map ov)), some (false, sv "least"), some (false, .int (x : Int)), some (false, .int (((m : Nat) : Int) : Int)), some (false, .int ((min (m) ((List.range i).countP fun a => tr w g (up ρ x a)) : Nat) : Int)), x7, none])
      refine Wp_rng w.n I ((iI _ _ _).mpr ⟨rfl, none, by simp [sv]⟩) ?_ ?_
      · intro i env h' hi hI
        obtain ⟨rfl, x7, rfl⟩ := (iI _ _ _).mp hI
        have hc : (List.range (i + 1)).countP (fun a => tr w g (up ρ x a)) = (List.range i).countP (fun a => tr w g (up ρ x a)) + (if tr w g (up ρ x i) = true then 1 else 0) := by
          rw [List.range_succ, List.countP_append, List.countP_singleton]
        generalize (List.range i).countP (fun a => tr w g (up ρ x a)) = c at *
        generalize hmn : min (m) c = gd
        have rs := row_set hx i
        have rl : (row.map ov).length = 6 := by simp [hl]
        by_cases hlt : gd < m
        · have hlt' : (gd : Int) < (((m : Nat) : Int) : Int) := by omega
          simp -implicitDefEqProofs [-List.getD_eq_getElem?_getD, -List.map_map, sv, hlt, hlt', cut_lo, cut_hi, rl, rs, show min x 6 + 1 ≤ 16777216 by omega, show min x 6 + 1 + (5 - x) ≤ 16777216 by omega]
          refine Wp_of (ihg i) ?_
          cases hb : tr w g (up ρ x i) with
          | true =>
            rw [hb, if_pos rfl] at hc
            simp -implicitDefEqProofs [-List.getD_eq_getElem?_getD, -List.map_map]
            exact (iI (i + 1) _ _).mpr ⟨rfl, some (false, .int (i : Int)), by rw [hc, show min (m) (c + 1) = gd + 1 by omega]; simp [sv]⟩
          | false =>
            rw [hb, if_neg (by simp)] at hc
            simp -implicitDefEqProofs [-List.getD_eq_getElem?_getD, -List.map_map]
            exact (iI (i + 1) _ _).mpr ⟨rfl, some (false, .int (i : Int)), by rw [hc, show min (m) (c + 0) = gd by omega]; simp [sv]⟩
        · have hlt' : ¬ (gd : Int) < (((m : Nat) : Int) : Int) := by omega
          simp -implicitDefEqProofs [-List.getD_eq_getElem?_getD, -List.map_map, sv, hlt, hlt']
          exact (iI (i + 1) _ _).mpr ⟨rfl, some (false, .int (i : Int)), by rw [hc, show min (m) (c + (if tr w g (up ρ x i) = true then 1 else 0)) = gd by split <;> omega]; simp [sv]⟩
      · intro env h' hI
        obtain ⟨rfl, x7, rfl⟩ := (iI _ _ _).mp hI
        simp -implicitDefEqProofs [-List.getD_eq_getElem?_getD, -List.map_map, sv]
        simp only [tr]
        rw [Bool.eq_iff_iff, decide_eq_true_eq, decide_eq_true_eq]
        omega
end K94
set_option maxRecDepth 100000
set_option maxHeartbeats 4000000
namespace K94
open PySem (Str)
open MP MX
/-! ### the program's parts and free names -/
@[simp] theorem extP_lst (xs ys : List PV) : extP (.lst ys) (.lst xs) = if xs.length + ys.length ≤ LINE then some (.lst (xs ++ ys)) else none := rfl
def bnV (f : Fm) : PV := match bdn f with
  | some x => .int (x : Int)
  | none => .non
theorem ne_bnV (f : Fm) (y : Nat) : cmpP .ne (.int (y : Int)) (bnV f) = some (bok f y) := by
  unfold bnV bok
  cases h : bdn f with
  | none => simp; rfl
  | some x => simp; omega
theorem own_names_ok (k : Nat) (f : Fm) (hp : Hs) : callF G (k + 1) 3 [fv f] hp = some ((true, .lst ((ow f).map nt)), hp) := by
  refine call_eq fn_own_names rfl rfl ?_
  cases f <;> simp -implicitDefEqProofs [-List.getD_eq_getElem?_getD, -List.map_map, b_own_names, fv, sv, ow]
theorem bound_name_ok (k : Nat) (f : Fm) (hp : Hs) : callF G (k + 1) 2 [fv f] hp = some ((false, bnV f), hp) := by
  refine call_eq fn_bound_name rfl rfl ?_
  cases f <;> simp -implicitDefEqProofs [-List.getD_eq_getElem?_getD, -List.map_map, b_bound_name, fv, sv, bdn, bnV]
theorem parts_of_ok (k : Nat) (f : Fm) (hp : Hs) : callF G (k + 1) 1 [fv f] hp = some ((false, .tup ((pts f).map fv)), hp) := by
  refine call_eq fn_parts_of rfl rfl ?_
  cases f <;> simp -implicitDefEqProofs [-List.getD_eq_getElem?_getD, -List.map_map, b_parts_of, fv, sv, pts, fvs_map]
theorem free_list_ok (t b : Nat) : ∀ (d k : Nat) (f : Fm), fok t b d f = true → d ≤ 8 → ∀ hp : Hs, callF G (k + d + 2) 4 [fv f] hp = some ((true, .lst ((fr f).map nt)), hp) := by
  intro d
  induction d with
  | zero =>
    intro k f h hd hp
    have e : pts f = [] := by
      cases hz : pts f with
      | nil => rfl
      | cons g gs => have := (pts_ok h g (by rw [hz]; simp)).1; omega
    have e2 : fr f = ow f := by rw [fr_eq, e]; simp
    refine call_eq fn_free_list rfl rfl ?_
    simp -implicitDefEqProofs [-List.getD_eq_getElem?_getD, -List.map_map, b_free_list]
    refine Wp_of (own_names_ok k f hp) ?_
    simp -implicitDefEqProofs [-List.getD_eq_getElem?_getD, -List.map_map]
    refine Wp_of (parts_of_ok k f hp) ?_
    simp -implicitDefEqProofs [-List.getD_eq_getElem?_getD, -List.map_map, e, e2]
  | succ d ih =>
    intro k f h hd hp
    have hlen := fr_len h
    have hp3 : 3 ^ (d + 1) ≤ 3 ^ 8 := Nat.pow_le_pow_right (by decide) hd
    have hfl : (fr f).length ≤ 100000 := by omega
    refine call_eq fn_free_list rfl rfl ?_
    simp -implicitDefEqProofs [-List.getD_eq_getElem?_getD, -List.map_map, b_free_list]
    refine Wp_of (own_names_ok (k + (d + 1)) f hp) ?_
    simp -implicitDefEqProofs [-List.getD_eq_getElem?_getD, -List.map_map]
    refine Wp_of (parts_of_ok (k + (d + 1)) f hp) ?_
    simp -implicitDefEqProofs [-List.getD_eq_getElem?_getD, -List.map_map]
    obtain ⟨I, iI⟩ := mkI4 (fun (done rest : List Fm) (env : FEnv) (h : Hs) => hp = h ∧ done ++ rest = pts f ∧ ∃ x2 x3, env = [some (false, fv f), some (true, .lst ((ow f ++ done.flatMap fun g => (fr g).filter (bok f)).map nt)), x2, x3])
    refine Wp_for (enc := fv) I ?_ (pts f) [] _ _ ((iI _ _ _ _).mpr ⟨rfl, rfl, none, none, by simp⟩) ?_
    · intro done g rest env h' hI
      obtain ⟨rfl, hdn, x2, x3, rfl⟩ := (iI _ _ _ _).mp hI
      have hg : g ∈ pts f := by rw [← hdn]; simp
      obtain ⟨_, hgo⟩ := pts_ok h g hg
      have hgo : fok t b d g = true := hgo
      have e := ih k g hgo (by omega) hp
      have pre : (ow f ++ (done ++ [g]).flatMap fun g => (fr g).filter (bok f)).length ≤ (fr f).length := by
        rw [fr_eq f, ← hdn]
        simp only [List.length_append, List.flatMap_append, List.flatMap_cons, List.flatMap_nil, List.append_nil]
        omega
      simp -implicitDefEqProofs [-List.getD_eq_getElem?_getD, -List.map_map]
      refine Wp_of e ?_
      simp -implicitDefEqProofs [-List.getD_eq_getElem?_getD, -List.map_map]
      refine Wp_of (lcE_filter (enc := nt) (p := bok f) (g := nt) fun y hy => ?_) ?_
      · refine Wp_eq ?_
        simp -implicitDefEqProofs [-List.getD_eq_getElem?_getD, -List.map_map]
        refine Wp_of (bound_name_ok (k + (d + 1)) f hp) ?_
        have hne := ne_bnV f y
        cases hb : bok f y with
        | true =>
          rw [hb] at hne
          simp -implicitDefEqProofs [-List.getD_eq_getElem?_getD, -List.map_map, hne]
        | false =>
          rw [hb] at hne
          simp -implicitDefEqProofs [-List.getD_eq_getElem?_getD, -List.map_map, hne]
      · simp only [List.length_append, List.flatMap_append, List.flatMap_cons, List.flatMap_nil, List.append_nil, List.length_flatMap] at pre
        simp -implicitDefEqProofs [-List.getD_eq_getElem?_getD, -List.map_map]
        refine ⟨by omega, by omega, (iI _ _ _ _).mpr ⟨rfl, by simpa using hdn, some (false, fv g), x3, by simp⟩⟩
    · intro env h' hI
      obtain ⟨rfl, hdn, x2, x3, rfl⟩ := (iI _ _ _ _).mp hI
      simp -implicitDefEqProofs [-List.getD_eq_getElem?_getD, -List.map_map]
      rw [fr_eq f, List.map_append]
theorem su_small {xs : List Nat} {t : Nat} (h : ∀ x ∈ xs, x < t) : (su xs).length ≤ t := nodup_le ((su_p xs).imp fun z => Nat.ne_of_lt z) fun x hx => h x (mem_su.mp hx)
theorem su_len (xs : List Nat) : (su xs).length = (uq xs).length := by rw [su, List.length_mergeSort]
theorem free_ok (t b : Nat) (ht : t ≤ 60) (d k : Nat) (f : Fm) (h : fok t b d f = true) (hd : d ≤ 5) (hp : Hs) : callF G (k + d + 3) 5 [fv f] hp = some ((false, .tup ((su (fr f)).map nt)), hp) := by
  have hlen := fr_len h
  have hp3 : 3 ^ d ≤ 3 ^ 5 := Nat.pow_le_pow_right (by decide) hd
  have hs := su_small (fr_lt h)
  rw [su_len] at hs
  refine call_eq fn_free rfl rfl ?_
  simp -implicitDefEqProofs [-List.getD_eq_getElem?_getD, -List.map_map, b_free]
  refine Wp_of (free_list_ok t b d k f h (by omega) hp) ?_
  simp -implicitDefEqProofs [-List.getD_eq_getElem?_getD, -List.map_map, set_nt (fr f) (by omega), sorted_pst (uq (fr f)) (by omega), su]
theorem tuples_of_ok (k n m : Nat) (h : ∀ j ≤ m, (tps n j).length ≤ 1000000) (hn : n ≤ 1000) (hm : m ≤ 1000) (hp : Hs) : callF G (k + 1) 0 [.int (n : Int), .int (m : Int)] hp = some ((true, .lst ((tps n m).map mv)), hp) := by
  refine call_eq fn_tuples_of rfl rfl ?_
  simp -implicitDefEqProofs [-List.getD_eq_getElem?_getD, -List.map_map, b_tuples_of, rng_nt m (by omega)]
  rw [← upTo_nt]
  obtain ⟨I, iI⟩ := mkI3 (fun (i : Nat) (env : FEnv) (h : Hs) => hp = h ∧ ∃ x3 x4 x5, env = [some (false, .int (n : Int)), some (false, .int (m : Int)), some (true, .lst ((tps n i).map mv)), x3, x4, x5])
  refine Wp_rng m I ((iI _ _ _).mpr ⟨rfl, none, none, none, rfl⟩) ?_ ?_
  · intro i env h' hi hI
    obtain ⟨rfl, x3, x4, x5, rfl⟩ := (iI _ _ _).mp hI
    have hl := h (i + 1) (by omega)
    simp -implicitDefEqProofs [-List.getD_eq_getElem?_getD, -List.map_map]
    refine Wp_of (lcE_map (enc := mv) (g := fun r => ((List.range n).map fun j => r ++ [j]).map mv) fun r hr => ?_) ?_
    · have hr1 := (mem_tps.mp hr).1
      refine Wp_eq ?_
      simp -implicitDefEqProofs [-List.getD_eq_getElem?_getD, -List.map_map, rng_nt n (by omega)]
      refine Wp_of (lcE_map1 (enc := nt) (g := fun j => mv (r ++ [j])) fun j hj => ?_) ?_
      · refine Wp_eq ?_
        simp -implicitDefEqProofs [-List.getD_eq_getElem?_getD, -List.map_map, show r.length ≤ 16777215 by omega]
      · simp -implicitDefEqProofs [-List.getD_eq_getElem?_getD, -List.map_map]
        rw [List.map_map]
        refine List.map_congr_left fun j _ => ?_
        simp
    · have e : (tps n i).flatMap (fun r => ((List.range n).map fun j => r ++ [j]).map mv) = (tps n (i + 1)).map mv := by
        show _ = ((tps n i).flatMap _).map mv
        rw [List.map_flatMap]
      rw [e]
      simp -implicitDefEqProofs [-List.getD_eq_getElem?_getD, -List.map_map, show (tps n (i + 1)).length ≤ 16777216 by omega]
      exact (iI _ _ _).mpr ⟨rfl, _, _, _, rfl⟩
  · intro env h' hI
    obtain ⟨rfl, x3, x4, x5, rfl⟩ := (iI _ _ _).mp hI
    simp -implicitDefEqProofs [-List.getD_eq_getElem?_getD, -List.map_map]
end K94
set_option maxRecDepth 100000
set_option maxHeartbeats 4000000
namespace K94
open PySem (Str)
open MP MX
/-! ### the program's tables: single sayings, more names, not -/
def world_n (w : Wld) : Nat := w.n
/-- what a world's size and the names' number allow -/
structure Bnd (n t : Nat) : Prop where
  pos : 1 ≤ n
  n8 : n ≤ 1000
  t6 : t ≤ 6
  pw : n ^ t ≤ 1000
theorem Bnd.le {n t : Nat} (B : Bnd n t) {j : Nat} (h : j ≤ t) : n ^ j ≤ 1000 := Nat.le_trans (Nat.pow_le_pow_right B.pos h) B.pw
theorem Bnd.tps {n t : Nat} (B : Bnd n t) {m : Nat} (h : m ≤ t) : ∀ j ≤ m, (tps n j).length ≤ 1000000 := fun j hj => by
  rw [len_tps]; have := B.le (show j ≤ t by omega); omega
theorem Bnd.rows {n t : Nat} (B : Bnd n t) {names : List Nat} {R : List Row} (h : Rws n names R) (hl : names.length ≤ t) : R.length ≤ 1000 := Nat.le_trans h.len (B.le hl)
theorem map_row1 (xs : List Nat) : (xs.map fun (a : Nat) => PV.tup [.int (a : Int)]) = List.map mv (xs.map fun a => [a]) := by rw [List.map_map]; rfl
theorem map_prow (ps : List Pr) : ps.map pv = (ps.map prow).map mv := by rw [List.map_map]; rfl
/-- the table of pairs for two names -/
def pairT (x y : Nat) (ps : List Pr) : Tb := if x = y then ([x], (ps.filter fun p => decide (p.1 = p.2)).map fun p => [p.1]) else if x < y then ([x, y], (ps.mergeSort ple).map prow) else ([y, x], ((ps.map fun p => ((p.2, p.1) : Pr)).mergeSort ple).map prow)
theorem pair_tail (k : Nat) (w : Wld) (fvv wd : PV) (x y : Nat) (ps : List Pr) (hl : ps.length ≤ 1000000) (hp : Hs) :
    Wp (exec G.cst (callF G k) WF (dropS 4 b_single_table) [some (false, wv w), some (false, fvv), some (false, wd), some (false, .int (x : Int)), some (false, .int (y : Int)), some (true, .lst (ps.map pv)), none, none, none] hp) fun r => r.1 = .rt (false, tv (pairT x y ps)) ∧ r.2.2 = hp := by
  have st := fun qs : List Pr => sorted_pv qs
  rcases Nat.lt_trichotomy x y with hxy | hxy | hxy
  · have hne : ¬ (x : Int) = (y : Int) := by omega
    have hne2 : ¬ x = y := by omega
    have hnle : ¬ y ≤ x := by omega
    have sn := sorted_ntT [x, y] (by simp)
    rw [show ([x, y] : List Nat).mergeSort nle = [x, y] from ntOrd.sort_id (by simp [nlt_iff, hxy])] at sn
    simp only [List.map_cons, List.map_nil, nt_eq] at sn
    simp -implicitDefEqProofs [-List.getD_eq_getElem?_getD, -List.map_map, dropS, b_single_table, hne, hxy, hnle, st ps (by omega), sn, pairT, hne2]
    exact map_prow _
  · subst hxy
    simp -implicitDefEqProofs [-List.getD_eq_getElem?_getD, -List.map_map, dropS, b_single_table, pairT]
    refine Wp_of (lcE_filter (enc := pv) (p := fun p => decide (p.1 = p.2)) (g := fun p => PV.tup [.int (p.1 : Int)]) fun p hp => ?_) ?_
    · refine Wp_eq ?_
      by_cases h : p.1 = p.2
      · simp -implicitDefEqProofs [-List.getD_eq_getElem?_getD, -List.map_map, h]
      · have h' : ¬ (p.1 : Int) = (p.2 : Int) := by omega
        simp -implicitDefEqProofs [-List.getD_eq_getElem?_getD, -List.map_map, h, h']
    · have fl := List.length_filter_le (fun p : Pr => decide (p.1 = p.2)) ps
      simp -implicitDefEqProofs [-List.getD_eq_getElem?_getD, -List.map_map, show (ps.filter fun p => decide (p.1 = p.2)).length ≤ 16777216 by omega]
      rw [List.map_map]; rfl
  · have hne : ¬ (x : Int) = (y : Int) := by omega
    have hne2 : ¬ x = y := by omega
    have hnle : y ≤ x := by omega
    have hnlt : ¬ x < y := by omega
    have sn := sorted_ntT [x, y] (by simp)
    rw [show ([x, y] : List Nat).mergeSort nle = [y, x] from ntOrd.sort_eq (by simp; omega) (by simp [nlt_iff, hxy]) (by simp [or_comm])] at sn
    simp only [List.map_cons, List.map_nil, nt_eq] at sn
    simp -implicitDefEqProofs [-List.getD_eq_getElem?_getD, -List.map_map, dropS, b_single_table, hne, hnlt, hnle]
    refine Wp_of (lcE_map1 (enc := pv) (g := fun p => pv (p.2, p.1)) fun p hp => ?_) ?_
    · simp -implicitDefEqProofs [-List.getD_eq_getElem?_getD, -List.map_map]
    · rw [show ps.map (fun p => pv (p.2, p.1)) = (ps.map fun p => ((p.2, p.1) : Pr)).map pv by rw [List.map_map]; rfl]
      have s2 := st (ps.map fun p => ((p.2, p.1) : Pr)) (by simp; omega)
      generalize hq : (ps.map fun p => ((p.2, p.1) : Pr)) = qs at *
      have hql : qs.length ≤ 1000000 := by rw [← hq]; simpa using hl
      simp -implicitDefEqProofs [-List.getD_eq_getElem?_getD, -List.map_map, show qs.length ≤ 16777216 by omega, sn, s2, pairT, hne2, hnlt, hq]
      exact map_prow _
theorem single_ok {w : Wld} (hw : WOk w) {t b : Nat} (B : Bnd w.n t) (k : Nat) (f : Fm) (d : Nat) (h : fok t b d f = true) (hf : (∃ x y, f = .same x y) ∨ (∃ i x, f = .mark i x) ∨ ∃ x y, f = .arr x y) (hp : Hs) :
    ∃ T : Tb, TOk w.n t T ∧ (∀ x ∈ T.1, x ∈ fr f) ∧ Say w.n T (fun ρ => tr w f ρ = true) ∧ callF G (k + 1) 6 [wv w, fv f] hp = some ((false, tv T), hp) := by
  have hn2 : w.n * w.n ≤ 1000 * 1000 := Nat.mul_le_mul B.n8 B.n8
  have hn8 := B.n8
  have one : ∀ (x : Nat) (xs : List Nat), x < t → xs.Nodup → (∀ a ∈ xs, a < w.n) → (∀ ρ : Asg, (∀ z, ρ z < w.n) → tr w f ρ = decide (ρ x ∈ xs)) → fr f = [x] ∨ fr f = [x, x] → xs.Pairwise (· < ·) →
      TOk w.n t ([x], xs.map fun a => [a]) ∧ (∀ z ∈ [x], z ∈ fr f) ∧ Say w.n ([x], xs.map fun a => [a]) (fun ρ => tr w f ρ = true) := by
    intro x xs hx hnd hb htr hfr hlt
    refine ⟨⟨by simp, by simpa using hx, ⟨?_, ?_⟩⟩, ?_, ?_⟩
    · rw [List.pairwise_map]
      exact hlt.imp fun h => rlt_iff.mpr (by simp [List.cons_lt_cons_iff, h])
    · intro r hr
      obtain ⟨a, ha, rfl⟩ := List.mem_map.mp hr
      simp [hb a ha]
    · intro z hz; simp at hz; subst hz; rcases hfr with e | e <;> simp [e]
    · intro ρ hρ
      show _ ↔ tr w f ρ = true
      rw [htr ρ hρ]
      simp
  have pr2 : ∀ (x y : Nat) (ps : List Pr), x < t → y < t → x < y → ps.Nodup → (∀ p ∈ ps, p.1 < w.n ∧ p.2 < w.n) → (∀ z, z = x ∨ z = y → z ∈ fr f) → (∀ ρ : Asg, (∀ z, ρ z < w.n) → tr w f ρ = decide ((ρ x, ρ y) ∈ ps)) →
      TOk w.n t ([x, y], (ps.mergeSort ple).map prow) ∧ (∀ z ∈ [x, y], z ∈ fr f) ∧ Say w.n ([x, y], (ps.mergeSort ple).map prow) (fun ρ => tr w f ρ = true) := by
    intro x y ps hx hy hxy hnd hb hfr htr
    refine ⟨⟨by simp [hxy], by simp [hx, hy], ⟨?_, ?_⟩⟩, fun z hz => hfr z (by simpa using hz), ?_⟩
    · rw [List.pairwise_map]
      exact (pvOrd.sorts ps hnd).imp fun h => ⟨h.1, fun e => h.2 (prow_inj e)⟩
    · intro r hr
      obtain ⟨p, hp, rfl⟩ := List.mem_map.mp hr
      have := hb p (mem_sort.mp hp)
      simp [prow, this.1, this.2]
    · intro ρ hρ
      show _ ↔ tr w f ρ = true
      rw [htr ρ hρ]
      simp only [List.map_cons, List.map_nil, List.mem_map, decide_eq_true_eq]
      constructor
      · rintro ⟨p, hp, e⟩
        have : p = (ρ x, ρ y) := prow_inj e
        rw [← this]; exact mem_sort.mp hp
      · exact fun h => ⟨(ρ x, ρ y), mem_sort.mpr h, rfl⟩
  have key : ∀ (x y : Nat) (ps : List Pr), x < t → y < t → ps.Pairwise pvOrd.lt → (∀ p ∈ ps, p.1 < w.n ∧ p.2 < w.n) → (∀ z, z = x ∨ z = y → z ∈ fr f) → fr f = [x, y] → (∀ ρ : Asg, (∀ z, ρ z < w.n) → tr w f ρ = decide ((ρ x, ρ y) ∈ ps)) →
      TOk w.n t (pairT x y ps) ∧ (∀ z ∈ (pairT x y ps).1, z ∈ fr f) ∧ Say w.n (pairT x y ps) (fun ρ => tr w f ρ = true) := by
    intro x y ps hx hy hlt hb hfr hfe htr
    have hnd := pvOrd.nodup hlt
    unfold pairT
    by_cases e : x = y
    · subst e
      rw [if_pos rfl]
      have hmap : ((ps.filter fun p => decide (p.1 = p.2)).map fun p => ([p.1] : Row)) = ((ps.filter fun p => decide (p.1 = p.2)).map Prod.fst).map fun a => ([a] : Row) := by rw [List.map_map]; rfl
      have hpl : ((ps.filter fun p => decide (p.1 = p.2)).map Prod.fst).Pairwise (· < ·) := by
        rw [List.pairwise_map]
        refine List.Pairwise.imp_of_mem ?_ (List.Pairwise.filter _ hlt)
        intro p q hp hq h
        have h1 := of_decide_eq_true (List.mem_filter.mp hp).2
        have h2 := of_decide_eq_true (List.mem_filter.mp hq).2
        rcases plt_iff.mp h with h | h
        · exact h
        · omega
      have := one x ((ps.filter fun p : Pr => decide (p.1 = p.2)).map Prod.fst) hx (hpl.imp fun z => Nat.ne_of_lt z) (fun a ha => by
        obtain ⟨p, hp, rfl⟩ := List.mem_map.mp ha
        exact (hb p (List.mem_filter.mp hp).1).1) (fun ρ hρ => by
        rw [htr ρ hρ, Bool.eq_iff_iff, decide_eq_true_eq, decide_eq_true_eq]
        simp only [List.mem_map, List.mem_filter, decide_eq_true_eq]
        constructor
        · exact fun h => ⟨_, ⟨h, rfl⟩, rfl⟩
        · rintro ⟨⟨a, b⟩, ⟨h, h2⟩, h3⟩
          simp only at h2 h3
          subst h2
          rw [← h3]; exact h) (.inr hfe) hpl
      rw [hmap]
      exact this
    · rw [if_neg e]
      by_cases hxy : x < y
      · rw [if_pos hxy]
        exact pr2 x y ps hx hy hxy hnd hb hfr htr
      · rw [if_neg hxy]
        refine pr2 y x (ps.map fun p => ((p.2, p.1) : Pr)) hy hx (by omega) (nodup_swap hnd) (fun p hp => ?_) (fun z hz => hfr z hz.symm) (fun ρ hρ => ?_)
        · obtain ⟨q, hq, rfl⟩ := List.mem_map.mp hp
          exact ⟨(hb q hq).2, (hb q hq).1⟩
        · rw [htr ρ hρ, Bool.eq_iff_iff, decide_eq_true_eq, decide_eq_true_eq, List.mem_map]
          constructor
          · exact fun h => ⟨_, h, rfl⟩
          · rintro ⟨q, hq, e⟩
            have : q = (ρ x, ρ y) := swap_inj e
            rw [← this]; exact hq
  rcases hf with ⟨x, y, rfl⟩ | ⟨i, x, rfl⟩ | ⟨x, y, rfl⟩
  · simp only [fok, Bool.and_eq_true, decide_eq_true_eq] at h
    have hlt : ((List.range w.n).map fun a => ((a, a) : Pr)).Pairwise pvOrd.lt := by rw [List.pairwise_map]; exact List.pairwise_lt_range.imp fun h => plt_iff.mpr (.inl h)
    have hb : ∀ p ∈ (List.range w.n).map fun a => ((a, a) : Pr), p.1 < w.n ∧ p.2 < w.n := by intro p hp; obtain ⟨a, ha, rfl⟩ := List.mem_map.mp hp; exact ⟨List.mem_range.mp ha, List.mem_range.mp ha⟩
    obtain ⟨h1, h2, h3⟩ := key x y _ h.1 h.2 hlt hb (fun z hz => by simpa [fr] using hz) rfl (fun ρ hρ => by
      rw [Bool.eq_iff_iff]
      simp only [tr, decide_eq_true_eq, List.mem_map, List.mem_range, Prod.mk.injEq]
      constructor
      · intro h; exact ⟨ρ x, hρ x, rfl, h⟩
      · rintro ⟨a, _, h1, h2⟩; rw [← h1, h2])
    refine ⟨_, h1, h2, h3, call_eq fn_single_table rfl rfl ?_⟩
    unfold b_single_table
    refine Wp_seq1 (env' := [some (false, wv w), some (false, fv (.same x y)), some (false, sv "same"), none, none, none, none, none, none]) (hp' := hp) (by simp -implicitDefEqProofs [-List.getD_eq_getElem?_getD, -List.map_map, fv, sv]) ?_
    refine Wp_seq1 (env' := [some (false, wv w), some (false, fv (.same x y)), some (false, sv "same"), none, none, none, none, none, none]) (hp' := hp) (by simp -implicitDefEqProofs [-List.getD_eq_getElem?_getD, -List.map_map, fv, sv]) ?_
    refine Wp_seq1 (env' := [some (false, wv w), some (false, fv (.same x y)), some (false, sv "same"), some (false, .int (x : Int)), some (false, .int (y : Int)), none, none, none, none]) (hp' := hp) (by simp -implicitDefEqProofs [-List.getD_eq_getElem?_getD, -List.map_map, fv, sv]) ?_
    refine Wp_seq1 (env' := [some (false, wv w), some (false, fv (.same x y)), some (false, sv "same"), some (false, .int (x : Int)), some (false, .int (y : Int)), some (true, .lst (((List.range w.n).map fun a => ((a, a) : Pr)).map pv)), none, none, none]) (hp' := hp) ?_ (pair_tail k w _ _ x y _ (by simp; omega) hp)
    simp -implicitDefEqProofs [-List.getD_eq_getElem?_getD, -List.map_map, sv, rng_nt w.n (by omega)]
    refine Wp_of (lcE_map1 (enc := nt) (g := fun a => pv (a, a)) fun a ha => ?_) ?_
    · simp -implicitDefEqProofs [-List.getD_eq_getElem?_getD, -List.map_map]
    · rw [show (List.range w.n).map (fun a => pv (a, a)) = ((List.range w.n).map fun a => ((a, a) : Pr)).map pv by rw [List.map_map]; rfl]
      simp -implicitDefEqProofs [-List.getD_eq_getElem?_getD, -List.map_map, show w.n ≤ 16777216 by omega]
  · simp only [fok, Bool.and_eq_true, decide_eq_true_eq] at h
    have hml : ∀ xs : List Nat, xs = w.m0 ∨ xs = w.m1 → xs.length ≤ 16777216 := fun xs hx => by
      have := hw.m0l; have := hw.m1l
      rcases hx with rfl | rfl <;> omega
    have go : ∀ xs : List Nat, xs = w.m0 ∨ xs = w.m1 → idxP (.tup [.tup (w.m0.map nt), .tup (w.m1.map nt)]) (.int (i : Int)) = some (.tup (xs.map nt)) → callF G (k + 1) 6 [wv w, fv (.mark i x)] hp = some ((false, tv ([x], xs.map fun a => [a])), hp) := by
      intro xs hx e
      have hl := hml xs hx
      refine call_eq fn_single_table rfl rfl ?_
      simp only [idx_tup] at e
      simp -implicitDefEqProofs [-List.getD_eq_getElem?_getD, -List.map_map, b_single_table, fv, sv, e]
      refine Wp_of (lcE_map1 (enc := nt) (g := fun a => PV.tup [.int (a : Int)]) fun a ha => ?_) ?_
      · simp -implicitDefEqProofs [-List.getD_eq_getElem?_getD, -List.map_map]
      · rw [map_row1]
        simp -implicitDefEqProofs [-List.getD_eq_getElem?_getD, -List.map_map, hl]
    rcases (show i = 0 ∨ i = 1 by omega) with rfl | rfl
    · obtain ⟨h1, h2, h3⟩ := one x w.m0 h.2 (hw.m0s.imp fun z => Nat.ne_of_lt z) hw.m0r (fun ρ _ => by simp [tr]) (.inl rfl) hw.m0s
      exact ⟨_, h1, h2, h3, go w.m0 (.inl rfl) rfl⟩
    · obtain ⟨h1, h2, h3⟩ := one x w.m1 h.2 (hw.m1s.imp fun z => Nat.ne_of_lt z) hw.m1r (fun ρ _ => by simp [tr]) (.inl rfl) hw.m1s
      exact ⟨_, h1, h2, h3, go w.m1 (.inr rfl) rfl⟩
  · simp only [fok, Bool.and_eq_true, decide_eq_true_eq] at h
    have hal := hw.arl
    obtain ⟨h1, h2, h3⟩ := key x y w.ar h.1 h.2 hw.ars hw.arr (fun z hz => by simpa [fr] using hz) rfl (fun ρ _ => rfl)
    refine ⟨_, h1, h2, h3, call_eq fn_single_table rfl rfl ?_⟩
    unfold b_single_table
    refine Wp_seq1 (env' := [some (false, wv w), some (false, fv (.arr x y)), some (false, sv "arrow"), none, none, none, none, none, none]) (hp' := hp) (by simp -implicitDefEqProofs [-List.getD_eq_getElem?_getD, -List.map_map, fv, sv]) ?_
    refine Wp_seq1 (env' := [some (false, wv w), some (false, fv (.arr x y)), some (false, sv "arrow"), none, none, none, none, none, none]) (hp' := hp) (by simp -implicitDefEqProofs [-List.getD_eq_getElem?_getD, -List.map_map, fv, sv]) ?_
    refine Wp_seq1 (env' := [some (false, wv w), some (false, fv (.arr x y)), some (false, sv "arrow"), some (false, .int (x : Int)), some (false, .int (y : Int)), none, none, none, none]) (hp' := hp) (by simp -implicitDefEqProofs [-List.getD_eq_getElem?_getD, -List.map_map, fv, sv]) ?_
    refine Wp_seq1 (env' := [some (false, wv w), some (false, fv (.arr x y)), some (false, sv "arrow"), some (false, .int (x : Int)), some (false, .int (y : Int)), some (true, .lst (w.ar.map pv)), none, none, none]) (hp' := hp) ?_ (pair_tail k w _ _ x y _ (by omega) hp)
    simp -implicitDefEqProofs [-List.getD_eq_getElem?_getD, -List.map_map, sv]
end K94
set_option maxRecDepth 100000
set_option maxHeartbeats 4000000
namespace K94
open PySem (Str)
open MP MX
/-! ### the program's tables: names together, widened -/
theorem joined_names_ok {t : Nat} (ht : t ≤ 60) (ts : List Tb) (c : List PV → PV) (hc : c = PV.tup ∨ c = PV.lst) (hl : (ts.flatMap fun T => T.1).length < 1000) (hts : ts.length ≤ 1000) (hs : ∀ T ∈ ts, ∀ x ∈ T.1, x < t) (k : Nat) (hp : Hs) :
    callF G (k + 1) 8 [c (ts.map tv)] hp = some ((false, .tup ((su (ts.flatMap fun T => T.1)).map nt)), hp) := by
  have hsm := su_small (xs := ts.flatMap fun T => T.1) (t := t) fun x hx => by
    obtain ⟨T, hT, hx⟩ := List.mem_flatMap.mp hx
    exact hs T hT x hx
  rw [su_len] at hsm
  have e : ∀ f : PV → Hs → Option (List PV × Hs), (∀ T ∈ ts, f (tv T) hp = some (T.1.map nt, hp)) → lcE f (ts.map tv) hp = some ((ts.flatMap fun T => T.1).map nt, hp) := fun f h => by
    rw [lcE_map (enc := tv) (g := fun T => T.1.map nt) h, List.map_flatMap]
  have inner : ∀ (env : Env) (T : Tb), lcB2 G.cst (callF G k) (.var 3) (.tp (.cons (.nm 1) (.cons (.nm 2) .nil))) (.bl true) (.nm 3) .val (.var 1) (.bl true) [some (c (ts.map tv)), none, none, none] (tv T) hp = some (T.1.map nt, hp) := fun env T => by
    refine Wp_eq ?_
    simp -implicitDefEqProofs [-List.getD_eq_getElem?_getD, -List.map_map]
    have := lcE_map1 (enc := nt) (g := nt) (xs := T.1) (hp := hp) (f := lcB G.cst (callF G k) (.var 3) (.nm 3) (.bl true) [some (c (ts.map tv)), some (.tup (T.1.map nt)), some (.tup (T.2.map mv)), none]) fun x hx => by
      refine Wp_eq ?_
      simp -implicitDefEqProofs [-List.getD_eq_getElem?_getD, -List.map_map]
    refine Wp_of this ?_
    rfl
  refine call_eq fn_joined_names rfl rfl ?_
  rcases hc with rfl | rfl
  all_goals
    simp -implicitDefEqProofs [-List.getD_eq_getElem?_getD, -List.map_map, b_joined_names]
    refine Wp_of (e _ fun T hT => inner [] T) ?_
    have hl' := hl
    rw [List.length_flatMap] at hl'
    simp -implicitDefEqProofs [-List.getD_eq_getElem?_getD, -List.map_map, show (ts.map fun T => T.1.length).sum ≤ 16777216 by omega, set_nt _ hl, sorted_pst (uq (ts.flatMap fun T => T.1)) (by omega), su]
def moreN (names mine : List Nat) : List Nat := names.filter fun x => !decide (x ∈ mine)
def widA (n : Nat) (names mine : List Nat) (R : List Row) : List Row := join2 names (mine, R) (moreN names mine, tps n (moreN names mine).length) fun _ _ => true
def widT (n : Nat) (names mine : List Nat) (R : List Row) : List Row := (widA n names mine R).mergeSort rle
theorem wid_ok {n : Nat} (hn : 1 ≤ n) {names mine : List Nat} {R : List Row} (nn : names.Nodup) (nm : mine.Nodup) (hR : Rws n mine R) (hs : ∀ x ∈ mine, x ∈ names) :
    (widA n names mine R).Nodup ∧ (∀ r ∈ widA n names mine R, r.length = names.length ∧ ∀ x ∈ r, x < n) ∧ Rws n names (widT n names mine R) ∧ Sem n names (widT n names mine R) fun ρ => mine.map ρ ∈ R := by
  have hm : ∀ x ∈ moreN names mine, x ∈ names ∧ x ∉ mine := fun x hx => by
    have := List.mem_filter.mp hx
    exact ⟨this.1, by simpa using this.2⟩
  obtain ⟨h1, h2, h3⟩ := join2_ok hn (names := names) (S := (mine, R)) (T := (moreN names mine, tps n (moreN names mine).length)) (p := fun _ _ => true) nn nm (List.Pairwise.filter _ nn) hR ⟨tps_lt n _, fun r hr => mem_tps.mp hr⟩ hs (fun x hx => (hm x hx).1) (fun x hx => by
    by_cases h : x ∈ mine
    · exact .inl h
    · exact .inr (List.mem_filter.mpr ⟨hx, by simpa using h⟩)) (fun r hr o ho => ⟨fun _ x hx hx1 => absurd hx1 (hm x hx).2, fun _ => rfl⟩)
  refine ⟨h1, h2, Rws.sort h1 h2, Sem.sort fun ρ hρ => ?_⟩
  rw [show join2 names (mine, R) (moreN names mine, tps n (moreN names mine).length) (fun _ _ => true) = widA n names mine R from rfl] at h3
  rw [h3 ρ hρ]
  exact ⟨fun h => h.1, fun h => ⟨h, mem_tps.mpr ⟨by simp, fun x hx => by obtain ⟨y, _, rfl⟩ := List.mem_map.mp hx; exact hρ y⟩⟩⟩
theorem map_getD (m : Row) (l : Nat) (h : m.length = l) : (List.range l).map (fun k => nt (m.getD k 0)) = m.map nt := by
  subst h
  refine List.ext_getElem (by simp) fun i h1 h2 => ?_
  have : i < m.length := by simpa using h2
  simp [List.getD, this]
theorem nt_at' {l : List Nat} {q : Nat} (h : q < l.length) : (l.map nt)[q]? = some (.int (l.getD q 0 : Nat)) := by simp [List.getD, h]
theorem widened_ok {w : Wld} {t : Nat} (B : Bnd w.n t) {names mine : List Nat} {R : List Row} (nn : names.Nodup) (nl : names.length ≤ t) (nm : mine.Nodup) (hR : Rws w.n mine R) (hs : ∀ x ∈ mine, x ∈ names) (k : Nat) (hp : Hs) :
    callF G (k + 2) 7 [wv w, tv (mine, R), .tup (names.map nt)] hp = some ((false, .tup ((widT w.n names mine R).map mv)), hp) := by
  obtain ⟨w1, w2, w3, w4⟩ := wid_ok B.pos nn nm hR hs
  have ml : mine.length ≤ t := Nat.le_trans (len_sub mine names nm hs) nl
  have mol : (moreN names mine).length ≤ t := Nat.le_trans (List.length_filter_le _ _) nl
  have Rl := B.rows hR ml
  have tl : (tps w.n (moreN names mine).length).length ≤ 1000 := by rw [len_tps]; exact B.le mol
  have t6 := B.t6
  obtain ⟨mo, hmo⟩ : ∃ mo, moreN names mine = mo := ⟨_, rfl⟩
  rw [hmo] at mol tl
  refine call_eq fn_widened rfl rfl ?_
  unfold b_widened
  let E (x5 x6 x7 x8 x9 x10 x11 x12 : Option Rv) : FEnv := [some (false, wv w), some (false, tv (mine, R)), some (false, .tup (names.map nt)), some (false, .tup (mine.map nt)), some (false, .tup (R.map mv)), x5, x6, x7, x8, x9, x10, x11, x12]
  refine Wp_seq1 (env' := E none none none none none none none none) (hp' := hp) (by simp -implicitDefEqProofs [-List.getD_eq_getElem?_getD, -List.map_map, E]) ?_
  let pl : List PV := names.map fun x => PV.int (if x ∈ mine then (mine.idxOf x : Int) else -1)
  have pll : lfAll pl = true := lfAll_map _ _ fun _ => rfl
  refine Wp_seq1 (env' := E (some (true, .lst pl)) none none none none none none none) (hp' := hp) ?_ ?_
  · simp -implicitDefEqProofs [-List.getD_eq_getElem?_getD, -List.map_map, E]
    refine Wp_of (lcE_map1 (enc := nt) (g := fun x => PV.int (if x ∈ mine then (mine.idxOf x : Int) else -1)) fun x hx => ?_) ?_
    · refine Wp_eq ?_
      by_cases h : x ∈ mine
      · have ix := ntOk.index_tup x mine (by decide) h
        simp only [nt_eq] at ix
        simp -implicitDefEqProofs [-List.getD_eq_getElem?_getD, -List.map_map, h, ix]
      · simp -implicitDefEqProofs [-List.getD_eq_getElem?_getD, -List.map_map, h]
    · simp -implicitDefEqProofs [-List.getD_eq_getElem?_getD, -List.map_map, show names.length ≤ 16777216 by omega, pll, pl]
  let E2 (x7 x8 x9 x10 x11 x12 : Option Rv) : FEnv := E (some (true, .lst pl)) (some (true, .lst (mo.map nt))) x7 x8 x9 x10 x11 x12
  refine Wp_seq1 (env' := E2 none none none none none none) (hp' := hp) ?_ ?_
  · simp -implicitDefEqProofs [-List.getD_eq_getElem?_getD, -List.map_map, E]
    refine Wp_of (lcE_filter (enc := nt) (p := fun x => !decide (x ∈ mine)) (g := nt) fun x hx => ?_) ?_
    · refine Wp_eq ?_
      by_cases h : x ∈ mine
      · simp -implicitDefEqProofs [-List.getD_eq_getElem?_getD, -List.map_map, h]
      · simp -implicitDefEqProofs [-List.getD_eq_getElem?_getD, -List.map_map, h]
    · have fl := List.length_filter_le (fun x => !decide (x ∈ mine)) names
      simp -implicitDefEqProofs [-List.getD_eq_getElem?_getD, -List.map_map, show (names.filter fun x => !decide (x ∈ mine)).length ≤ 16777216 by omega, E2, E, ← hmo, moreN]
  refine Wp_seq1 (env' := E2 (some (true, .lst [])) none none none none none) (hp' := hp) (by simp -implicitDefEqProofs [-List.getD_eq_getElem?_getD, -List.map_map, E2, E]) ?_
  have fd : widA w.n names mine R = R.flatMap fun r => (tps w.n mo.length).map fun o => mix names mine mo r o := by
    unfold widA join2
    rw [hmo]
    simp only [show ∀ l : List Row, l.filter (fun _ => true) = l from fun l => List.filter_eq_self.mpr fun _ _ => rfl]
  have whole : ∀ (r o : Row), r.length = mine.length → o.length = mo.length → ∀ x7 x10 x11, lcE (lcB G.cst (callF G (k + 1)) (.ife (.cmp .ge (.idx (.var 5) (.var 12)) (.int 0)) (.idx (.var 8) (.idx (.var 5) (.var 12))) (.idx (.var 9) (.mth .index (.var 6) (.cons (.idx (.var 2) (.var 12)) .nil)))) (.nm 12) (.bl true)
      (unf (E2 x7 (some (false, mv r)) (some (false, mv o)) x10 x11 none))) ((List.range names.length).map nt) hp = some ((mix names mine mo r o).map nt, hp) := by
    intro r o hr ho x7 x10 x11
    rw [← map_getD (mix names mine mo r o) names.length (mix_len ..)]
    refine lcE_map1 (enc := nt) fun i hi => ?_
    have hi := List.mem_range.mp hi
    refine Wp_eq ?_
    have e1 : pl[i]? = some (.int (if names[i] ∈ mine then (mine.idxOf names[i] : Int) else -1)) := by simp [pl, hi]
    have e2 : (mix names mine mo r o).getD i 0 = if names[i] ∈ mine then r.getD (mine.idxOf names[i]) 0 else o.getD (mo.idxOf names[i]) 0 := by simp [mix, List.getD, hi]
    rw [e2]
    have hmem : names[i] ∈ names := List.getElem_mem hi
    have e3 := nt_at' hi
    rw [show names.getD i 0 = names[i] by simp [List.getD, hi]] at e3
    generalize names[i] = x at *
    by_cases h : x ∈ mine
    · rw [if_pos h] at e1 ⊢
      have hix : mine.idxOf x < r.length := by rw [hr]; exact List.idxOf_lt_length_of_mem h
      simp -implicitDefEqProofs [-List.getD_eq_getElem?_getD, -List.map_map, E2, E, e1, nt_at' hix]
    · rw [if_neg h] at e1 ⊢
      have hx : x ∈ mo := by rw [← hmo]; exact List.mem_filter.mpr ⟨hmem, by simpa using h⟩
      have hix : mo.idxOf x < o.length := by rw [ho]; exact List.idxOf_lt_length_of_mem hx
      have ix := ntOk.index_lst x mo (by decide) hx
      simp only [nt_eq] at ix
      simp -implicitDefEqProofs [-List.getD_eq_getElem?_getD, -List.map_map, E2, E, e1, e3, ix, nt_at' hix]
  have flen : ∀ (done rest : List Row) (d2 : List Row) (r : Row), done ++ r :: rest = R → (∃ r2, d2 ++ r2 = tps w.n mo.length) → ((done.flatMap fun r => (tps w.n mo.length).map fun o => mix names mine mo r o) ++ d2.map fun o => mix names mine mo r o).length < 16777216 := by
    intro done rest d2 r hd ⟨r2, h2⟩
    rw [List.length_append, flatMap_len _ _ (tps w.n mo.length).length (by simp), List.length_map]
    have h3 : done.length ≤ 1000 := by have := congrArg List.length hd; simp at this; omega
    have h4 : d2.length ≤ 1000 := by have := congrArg List.length h2; simp at this; omega
    have := Nat.mul_le_mul h3 tl
    omega
  refine Wp_seq (fun e h => hp = h ∧ ∃ x8 x9 x10 x11 x12, e = E2 (some (true, .lst ((widA w.n names mine R).map mv))) x8 x9 x10 x11 x12) ?_ ?_
  · simp -implicitDefEqProofs [-List.getD_eq_getElem?_getD, -List.map_map, E2, E]
    obtain ⟨I, iI⟩ := mkI4 (fun (done rest : List Row) (env : FEnv) (h : Hs) => hp = h ∧ done ++ rest = R ∧ ∃ x8 x9 x10 x11 x12, env = E2 (some (true, .lst ((done.flatMap fun r => (tps w.n mo.length).map fun o => mix names mine mo r o).map mv))) x8 x9 x10 x11 x12)
    refine Wp_for (enc := mv) I ?_ R [] _ _ ((iI _ _ _ _).mpr ⟨rfl, rfl, none, none, none, none, none, by simp [E2, E]⟩) ?_
    · intro done r rest env h' hI
      obtain ⟨rfl, hdn, x8, x9, x10, x11, x12, rfl⟩ := (iI _ _ _ _).mp hI
      have hr : r ∈ R := by rw [← hdn]; simp
      have hrl := (hR.mem r hr).1
      simp -implicitDefEqProofs [-List.getD_eq_getElem?_getD, -List.map_map, E2, E]
      refine Wp_of (tuples_of_ok k w.n mo.length (B.tps mol) B.n8 (by omega) hp) ?_
      simp -implicitDefEqProofs [-List.getD_eq_getElem?_getD, -List.map_map]
      obtain ⟨J, iJ⟩ := mkI4 (fun (d2 r2 : List Row) (env : FEnv) (h : Hs) => hp = h ∧ d2 ++ r2 = tps w.n mo.length ∧ ∃ x9 x11, env = E2 (some (true, .lst (((done.flatMap fun r => (tps w.n mo.length).map fun o => mix names mine mo r o) ++ d2.map fun o => mix names mine mo r o).map mv))) (some (false, mv r)) x9 x10 x11 x12)
      refine Wp_for (enc := mv) J ?_ (tps w.n mo.length) [] _ _ ((iJ _ _ _ _).mpr ⟨rfl, rfl, x9, x11, by simp [E2, E]⟩) ?_
      · intro d2 o r2 env h' hJ
        obtain ⟨rfl, hd2, x9, x11, rfl⟩ := (iJ _ _ _ _).mp hJ
        have ho : o ∈ tps w.n mo.length := by rw [← hd2]; simp
        have hol := (mem_tps.mp ho).1
        have fl := flen done rest d2 r hdn ⟨_, hd2⟩
        simp -implicitDefEqProofs [-List.getD_eq_getElem?_getD, -List.map_map, E2, E, rng_nt names.length (by omega)]
        refine Wp_of (whole r o hrl hol (some (true, .lst (((done.flatMap fun r => (tps w.n mo.length).map fun o => mix names mine mo r o) ++ d2.map fun o => mix names mine mo r o).map mv))) x10 x11) ?_
        rw [List.length_append, List.length_flatMap] at fl
        simp only [List.length_map] at fl
        simp -implicitDefEqProofs [-List.getD_eq_getElem?_getD, -List.map_map, mix_len, show names.length ≤ 16777216 by omega, fl]
        exact (iJ _ _ _ _).mpr ⟨rfl, by simpa using hd2, some (false, mv o), some (true, .lst ((mix names mine mo r o).map nt)), by simp [E2, E]⟩
      · intro env h' hJ
        obtain ⟨rfl, hd2, x9, x11, rfl⟩ := (iJ _ _ _ _).mp hJ
        simp -implicitDefEqProofs [-List.getD_eq_getElem?_getD, -List.map_map]
        exact (iI _ _ _ _).mpr ⟨rfl, by simpa using hdn, _, x9, x10, x11, x12, by simp; rfl⟩
    · intro env h' hI
      obtain ⟨rfl, hdn, x8, x9, x10, x11, x12, rfl⟩ := (iI _ _ _ _).mp hI
      simp -implicitDefEqProofs [-List.getD_eq_getElem?_getD, -List.map_map, E2, E]
      rw [fd]
  rintro _ _ ⟨rfl, x8, x9, x10, x11, x12, rfl⟩
  have hwl : (widA w.n names mine R).length ≤ 16777216 := by
    have := w3.len
    rw [widT, List.length_mergeSort] at this
    have := B.le nl
    omega
  have st := sorted_mv (widA w.n names mine R) (width_ok (fun r hr => (w2 r hr).1) w1) hwl
  simp -implicitDefEqProofs [-List.getD_eq_getElem?_getD, -List.map_map, E2, E, st, widT]
end K94
set_option maxRecDepth 100000
set_option maxHeartbeats 4000000
namespace K94
open PySem (Str)
open MP MX
/-! ### two tables joined -/
def comN (S T : Tb) : List Nat := T.1.filter fun x => decide (x ∈ S.1)
def keyOf (names com : List Nat) (r : Row) : Row := com.map fun x => r.getD (names.idxOf x) 0
def joinP (S T : Tb) (r o : Row) : Bool := decide (keyOf T.1 (comN S T) o = keyOf S.1 (comN S T) r)
def joinN (S T : Tb) : List Nat := su (S.1 ++ T.1)
def joinA (S T : Tb) : List Row := join2 (joinN S T) S T (joinP S T)
def joinT (S T : Tb) : Tb := (joinN S T, (joinA S T).mergeSort rle)
theorem join_ok {n t : Nat} (hn : 1 ≤ n) {S T : Tb} (hS : TOk n t S) (hT : TOk n t T) :
    (joinA S T).Nodup ∧ (∀ r ∈ joinA S T, r.length = (joinN S T).length ∧ ∀ x ∈ r, x < n) ∧ TOk n t (joinT S T) ∧ Say n (joinT S T) fun ρ => S.1.map ρ ∈ S.2 ∧ T.1.map ρ ∈ T.2 := by
  have nn : (joinN S T).Nodup := (su_p _).imp fun z => Nat.ne_of_lt z
  obtain ⟨h1, h2, h3⟩ := join2_ok hn (names := joinN S T) (S := S) (T := T) (p := joinP S T) nn hS.nd hT.nd hS.rw_ hT.rw_ (fun x hx => mem_su.mpr (by simp [hx])) (fun x hx => mem_su.mpr (by simp [hx])) (fun x hx => by simpa using mem_su.mp hx) (fun r hr o ho => by
    unfold joinP keyOf
    rw [decide_eq_true_eq, List.map_inj_left]
    constructor
    · intro h x h2 h1
      exact (h x (List.mem_filter.mpr ⟨h2, by simpa using h1⟩)).symm
    · intro h x hx
      have := List.mem_filter.mp hx
      exact (h x this.1 (by simpa using this.2)).symm)
  refine ⟨h1, h2, ⟨su_p _, fun x hx => ?_, Rws.sort h1 h2⟩, Sem.sort h3⟩
  have := mem_su.mp hx
  rcases List.mem_append.mp this with h | h
  · exact hS.lt x h
  · exact hT.lt x h
theorem key_eval (k : Nat) {names com : List Nat} {r : Row} (hl : r.length = names.length) (hs : ∀ x ∈ com, x ∈ names) (it : ME) (env : Env) (hp : Hs)
    (h : ∀ x ∈ com, ∀ i : Nat, names.idxOf x = i → ev G.cst (callF G k) it (env.set 9 (some (nt x))) hp = some ((false, nt (r.getD (names.idxOf x) 0)), hp)) (h9 : wipeE env [9] = env) :
    lcE (lcB G.cst (callF G k) it (.nm 9) (.bl true) env) (com.map nt) hp = some ((keyOf names com r).map nt, hp) := by
  rw [lcE_map1 (enc := nt) (g := fun x => nt (r.getD (names.idxOf x) 0)) (fun x hx => ?_), keyOf, List.map_map]
  · rfl
  · refine lcB_ok (by rw [show (Tg.nm 9).slots = [9] from rfl, h9]; rfl) (h x hx _ rfl)
theorem joined_ok {n t : Nat} (B : Bnd n t) {S T : Tb} (hS : TOk n t S) (hT : TOk n t T) (k : Nat) (hp : Hs) (hb : rbAll hp.length hp = true) : callF G (k + 2) 10 [tv S, tv T] hp = some ((false, tv (joinT S T)), hp) := by
  obtain ⟨w1, w2, w3, w4⟩ := join_ok B.pos hS hT
  have t6 := B.t6
  have sl := hS.nl
  have tl := hT.nl
  have Sl := B.rows hS.rw_ sl
  have Tl := B.rows hT.rw_ tl
  have nl : (joinN S T).length ≤ t := w3.nl
  obtain ⟨com, hcom⟩ : ∃ com, comN S T = com := ⟨_, rfl⟩
  have hc : ∀ x ∈ com, x ∈ T.1 ∧ x ∈ S.1 := fun x hx => by
    rw [← hcom] at hx
    have := List.mem_filter.mp hx
    exact ⟨this.1, by simpa using this.2⟩
  have coml : com.length ≤ t := by rw [← hcom]; exact Nat.le_trans (List.length_filter_le _ _) tl
  obtain ⟨names, hnames⟩ : ∃ names, joinN S T = names := ⟨_, rfl⟩
  rw [hnames] at nl
  refine call_trim fn_joined rfl rfl hb (rb_tv _ _) ?_
  unfold b_joined
  let E (x4 x5 x6 x7 x8 : Option Rv) : FEnv := [some (false, tv S), some (false, tv T), some (false, .tup (names.map nt)), some (true, .lst (com.map nt)), x4, x5, x6, x7, x8, none, none]
  refine Wp_seq1 (env' := [some (false, tv S), some (false, tv T), some (false, .tup (names.map nt)), none, none, none, none, none, none, none, none]) (hp' := hp) ?_ ?_
  · simp -implicitDefEqProofs [-List.getD_eq_getElem?_getD, -List.map_map]
    have e := joined_names_ok (t := t) (by omega) [S, T] PV.tup (.inl rfl) (by simp; omega) (by simp) (by simp; exact ⟨hS.lt, hT.lt⟩) k hp
    have e2 : su ([S, T].flatMap fun T => T.1) = names := by rw [← hnames]; simp [joinN]
    rw [e2] at e
    refine Wp_of e ?_
    simp -implicitDefEqProofs [-List.getD_eq_getElem?_getD, -List.map_map]
  refine Wp_seq1 (env' := E none none none none none) (hp' := hp) ?_ ?_
  · simp -implicitDefEqProofs [-List.getD_eq_getElem?_getD, -List.map_map, E]
    refine Wp_of (lcE_filter (enc := nt) (p := fun x => decide (x ∈ S.1)) (g := nt) fun x hx => ?_) ?_
    · refine Wp_eq ?_
      by_cases h : x ∈ S.1
      · simp -implicitDefEqProofs [-List.getD_eq_getElem?_getD, -List.map_map, h]
      · simp -implicitDefEqProofs [-List.getD_eq_getElem?_getD, -List.map_map, h]
    · have fl := List.length_filter_le (fun x => decide (x ∈ S.1)) T.1
      simp -implicitDefEqProofs [-List.getD_eq_getElem?_getD, -List.map_map, show (T.1.filter fun x => decide (x ∈ S.1)).length ≤ 16777216 by omega, ← hcom, comN]
  refine Wp_seq1 (env' := E (some (true, .dct [])) none none none none) (hp' := hp) (by simp -implicitDefEqProofs [-List.getD_eq_getElem?_getD, -List.map_map, E]) ?_
  let key2 : Row → Row := keyOf T.1 com
  let dk (L : List (Row × Nat)) : PV := .dct (L.map fun p => (mv p.1, PV.ref (hp.length + p.2)))
  let ck (cells : List (List Row)) : List PV := cells.map fun c => PV.lst (c.map mv)
  refine Wp_seq (fun e h => ∃ L cells x5 x7, LInv key2 L cells T.2 ∧ h = hp ++ ck cells ∧ e = E (some (true, dk L)) x5 none x7 none) ?_ ?_
  · simp -implicitDefEqProofs [-List.getD_eq_getElem?_getD, -List.map_map, E]
    obtain ⟨I, iI⟩ := mkI4 (fun (done rest : List Row) (env : FEnv) (h : Hs) => done ++ rest = T.2 ∧ ∃ L cells x5 x7, LInv key2 L cells done ∧ h = hp ++ ck cells ∧ env = E (some (true, dk L)) x5 none x7 none)
    refine Wp_for (enc := mv) I ?_ T.2 [] _ _ ((iI _ _ _ _).mpr ⟨rfl, [], [], none, none, LInv.nil _, by simp [ck], by simp [E, dk]⟩) ?_
    · intro done o rest env h' hI
      obtain ⟨hdn, L, cells, x5, x7, hL, rfl, rfl⟩ := (iI _ _ _ _).mp hI
      have ho : o ∈ T.2 := by rw [← hdn]; simp
      have hol := (hT.rw_.mem o ho).1
      simp -implicitDefEqProofs [-List.getD_eq_getElem?_getD, -List.map_map, E]
      refine Wp_of (lcE_map1 (enc := nt) (g := fun x => nt (o.getD (T.1.idxOf x) 0)) fun x hx => ?_) ?_
      · have hx2 := (hc x hx).1
        have ix := ntOk.index_tup x T.1 (by decide) hx2
        simp only [nt_eq] at ix
        have hi : T.1.idxOf x < o.length := by rw [hol]; exact List.idxOf_lt_length_of_mem hx2
        refine Wp_eq ?_
        simp -implicitDefEqProofs [-List.getD_eq_getElem?_getD, -List.map_map, ix, nt_at' hi]
      · rw [show com.map (fun x => nt (o.getD (T.1.idxOf x) 0)) = (key2 o).map nt by simp only [key2, keyOf, List.map_map]; rfl]
        have kl : (key2 o).length ≤ 16777216 := by simp [key2, keyOf]; omega
        have tk : isTKey (.tup ((key2 o).map nt)) = true := isTKey_mv (key2 o)
        have ak : (keysP (L.map fun p => (mv p.1, PV.ref (hp.length + p.2)))).all isTKey = true := by
          rw [List.all_eq_true]; intro y hy
          simp only [keysP, List.map_map, List.mem_map] at hy
          obtain ⟨p, _, rfl⟩ := hy
          exact isTKey_mv p.1
        have gk := getKv_enc mvOk (fun i : Nat => PV.ref (hp.length + i)) (key2 o) L
        have Ll : L.length < 16777216 := by
          have := hL.len
          have := congrArg List.length hdn
          simp at this
          omega
        simp only [mv_eq] at gk ak
        have clen : (hp ++ ck cells).length = hp.length + cells.length := by simp [ck]
        cases hlk : L.lookup (key2 o) with
        | some i =>
          rw [hlk] at gk
          have hm := lookup_some hlk
          have hc0 := hL.at_ _ hm
          simp only at hc0
          have hil : i < cells.length := (List.getElem?_eq_some_iff.mp hc0).1
          have hh : (hp ++ ck cells ++ [PV.lst []])[hp.length + i]? = some (.lst ((done.filter fun o' => decide (key2 o' = key2 o)).map mv)) := by
            rw [List.getElem?_append_left (by rw [clen]; omega), List.getElem?_append_right (by omega), show hp.length + i - hp.length = i by omega]
            simp only [ck, List.getElem?_map, hc0]; rfl
          have fl := List.length_filter_le (fun o' => decide (key2 o' = key2 o)) done
          have dl : done.length ≤ 1000 := by have := congrArg List.length hdn; simp at this; omega
          simp only [List.append_assoc] at hh
          simp -implicitDefEqProofs [-List.getD_eq_getElem?_getD, -List.map_map, E, kl, dk, tk, ak, gk, Ll, isRefL, hh, sdKv, show (done.filter fun o' => decide (key2 o' = key2 o)).length < 16777216 by omega]
          refine ⟨List.all_eq_true.mp ak, (iI _ _ _ _).mpr ⟨by simpa using hdn, L, (cells ++ [[]]).set i ((done.filter fun o' => decide (key2 o' = key2 o)) ++ [o]), some (false, mv o), some (false, mv (key2 o)), hL.old hm hc0, ?_, by simp [E, dk]⟩⟩
          simp [ck, List.map_set]
        | none =>
          rw [hlk] at gk
          have hm := lookup_none hlk
          have sk := setKv_new mvOk (fun i : Nat => PV.ref (hp.length + i)) (key2 o) cells.length L hm
          simp only [mv_eq] at sk
          have ckl : (ck cells).length = cells.length := by simp [ck]
          simp -implicitDefEqProofs [-List.getD_eq_getElem?_getD, -List.map_map, E, kl, dk, tk, ak, gk, Ll, isRefL, sdKv, ckl, sk]
          refine ⟨List.all_eq_true.mp ak, (iI _ _ _ _).mpr ⟨by simpa using hdn, L ++ [(key2 o, cells.length)], cells ++ [[o]], some (false, mv o), some (false, mv (key2 o)), hL.new hm, by simp [ck], by simp [E, dk]⟩⟩
    · intro env h' hI
      obtain ⟨hdn, L, cells, x5, x7, hL, rfl, rfl⟩ := (iI _ _ _ _).mp hI
      simp -implicitDefEqProofs [-List.getD_eq_getElem?_getD, -List.map_map]
      exact ⟨L, cells, hL, rfl, x5, x7, rfl⟩
  rintro _ _ ⟨L, cells, x5, x7, hL, rfl, rfl⟩
  have b0 : hp.length ≤ (hp ++ ck cells).length := by simp
  generalize hbase : hp ++ ck cells = base at *
  have hbx : ∃ ex, base = hp ++ ex := ⟨_, hbase.symm⟩
  let E2 (x5 x6 x7 x8 : Option Rv) : FEnv := E (some (true, dk L)) x5 x6 x7 x8
  refine Wp_seq1 (env' := E2 x5 (some (true, .lst [])) x7 none) (hp' := base) (by simp -implicitDefEqProofs [-List.getD_eq_getElem?_getD, -List.map_map, E2, E]) ?_
  let row2 (r : Row) : List Row := (T.2.filter (joinP S T r)).map fun o => mix names S.1 T.1 r o
  have fd : joinA S T = S.2.flatMap row2 := by unfold joinA join2; rw [hnames]
  have jp : ∀ r o, joinP S T r o = decide (key2 o = keyOf S.1 com r) := fun r o => by unfold joinP; rw [hcom]
  refine Wp_seq (fun e h => (∃ ex, h = base ++ ex) ∧ ∃ x5 x7 x8, e = E2 x5 (some (true, .lst ((joinA S T).map mv))) x7 x8) ?_ ?_
  · simp -implicitDefEqProofs [-List.getD_eq_getElem?_getD, -List.map_map, E2, E]
    obtain ⟨I, iI⟩ := mkI4 (fun (done rest : List Row) (env : FEnv) (h : Hs) => done ++ rest = S.2 ∧ (∃ ex, h = base ++ ex) ∧ ∃ x5 x7 x8, env = E2 x5 (some (true, .lst ((done.flatMap row2).map mv))) x7 x8)
    refine Wp_for (enc := mv) I ?_ S.2 [] _ _ ((iI _ _ _ _).mpr ⟨rfl, ⟨[], by simp⟩, x5, x7, none, by simp [E2, E]⟩) ?_
    · intro done r rest env h' hI
      obtain ⟨hdn, ⟨ex, rfl⟩, x5, x7, x8, rfl⟩ := (iI _ _ _ _).mp hI
      have hr : r ∈ S.2 := by rw [← hdn]; simp
      have hrl := (hS.rw_.mem r hr).1
      simp -implicitDefEqProofs [-List.getD_eq_getElem?_getD, -List.map_map, E2, E]
      refine Wp_of (lcE_map1 (enc := nt) (g := fun x => nt (r.getD (S.1.idxOf x) 0)) fun x hx => ?_) ?_
      · have hx2 := (hc x hx).2
        have ix := ntOk.index_tup x S.1 (by decide) hx2
        simp only [nt_eq] at ix
        have hi : S.1.idxOf x < r.length := by rw [hrl]; exact List.idxOf_lt_length_of_mem hx2
        refine Wp_eq ?_
        simp -implicitDefEqProofs [-List.getD_eq_getElem?_getD, -List.map_map, ix, nt_at' hi]
      · rw [show com.map (fun x => nt (r.getD (S.1.idxOf x) 0)) = (keyOf S.1 com r).map nt by simp only [keyOf, List.map_map]; rfl]
        generalize hky : keyOf S.1 com r = ky
        have kl : ky.length ≤ 16777216 := by rw [← hky]; simp [keyOf]; omega
        have gk := getKv_enc mvOk (fun i : Nat => PV.ref (hp.length + i)) ky L
        have okk := okKey_t isTKey_mv (fun i : Nat => PV.ref (hp.length + i)) ky L
        simp only [mv_eq] at gk okk
        -- the list that is walked
        obtain ⟨n0, hget, hcell⟩ : ∃ n0 : Nat, mthP .get (.dct (L.map fun p => (PV.tup (p.1.map nt), PV.ref (hp.length + p.2)))) [.tup (ky.map nt), .ref (base.length + ex.length)] = some (.ref n0) ∧ (base ++ ex ++ [PV.lst []])[n0]? = some (.lst ((T.2.filter (joinP S T r)).map mv)) := by
          have hgo : mthP .get (.dct (L.map fun p => (PV.tup (p.1.map nt), PV.ref (hp.length + p.2)))) [.tup (ky.map nt), .ref (base.length + ex.length)] = some (((L.lookup ky).map fun i : Nat => PV.ref (hp.length + i)).getD (.ref (base.length + ex.length))) := by
            rw [← gk]
            simp only [mthP]
            rw [if_pos okk]
          have ff : T.2.filter (joinP S T r) = T.2.filter fun o => decide (key2 o = ky) := by
            congr 1; funext o; rw [jp, hky]
          cases hlk : L.lookup ky with
          | some i =>
            rw [hlk] at hgo
            have hc0 := hL.at_ _ (lookup_some hlk)
            simp only at hc0
            have hil : i < cells.length := (List.getElem?_eq_some_iff.mp hc0).1
            refine ⟨_, hgo, ?_⟩
            rw [ff, List.append_assoc, List.getElem?_append_left (by rw [← hbase]; simp [ck]; omega), ← hbase, List.getElem?_append_right (by omega), show hp.length + i - hp.length = i by omega]
            simp only [ck, List.getElem?_map, hc0]; rfl
          | none =>
            rw [hlk] at hgo
            refine ⟨_, hgo, ?_⟩
            have : T.2.filter (fun o => decide (key2 o = ky)) = [] := by
              rw [List.filter_eq_nil_iff]
              intro o ho e
              exact lookup_none hlk (of_decide_eq_true e ▸ hL.all o ho)
            rw [ff, this, List.getElem?_append_right (by simp)]
            simp
        simp only [List.append_assoc] at hcell
        simp -implicitDefEqProofs [-List.getD_eq_getElem?_getD, -List.map_map, E2, E, kl, dk, hget]
        obtain ⟨J, iJ⟩ := mkI4 (fun (d2 r2 : List Row) (env : FEnv) (h : Hs) => h = base ++ (ex ++ [PV.lst []]) ∧ d2 ++ r2 = T.2.filter (joinP S T r) ∧ ∃ x8, env = E2 (some (false, mv r)) (some (true, .lst ((done.flatMap row2 ++ d2.map fun o => mix names S.1 T.1 r o).map mv))) (some (false, mv ky)) x8)
        have Fl := List.length_filter_le (joinP S T r) T.2
        have dl : done.length ≤ 1000 := by have := congrArg List.length hdn; simp at this; omega
        have dfl : (done.flatMap row2).length ≤ 1000 * 1000 := by
          have : ∀ l : List Row, (l.flatMap row2).length ≤ l.length * 1000 := fun l => by
            induction l with
            | nil => simp
            | cons x l ih =>
              have h1 := List.length_filter_le (joinP S T x) T.2
              rw [List.flatMap_cons, List.length_append, List.length_cons, Nat.add_mul]
              have : (row2 x).length ≤ 1000 := by simp only [row2, List.length_map]; omega
              omega
          exact Nat.le_trans (this done) (Nat.mul_le_mul_right _ dl)
        refine Wp_forS (enc := mv) (n := n0) (xs := T.2.filter (joinP S T r)) J (fun d2 r2 env h hJ => ?_) ?_ (T.2.filter (joinP S T r)) [] _ _ _ (show _ < 1000000 by omega) ((iJ _ _ _ _).mpr ⟨rfl, rfl, x8, by simp [E2, E, dk]⟩) ?_
        · obtain ⟨rfl, hd2, _⟩ := (iJ _ _ _ _).mp hJ
          exact ⟨hcell, hd2⟩
        · intro d2 o r2 env h' hJ
          obtain ⟨rfl, hd2, x8, rfl⟩ := (iJ _ _ _ _).mp hJ
          have ho : o ∈ T.2 := (List.mem_filter.mp (show o ∈ T.2.filter (joinP S T r) by rw [← hd2]; simp)).1
          have hol := (hT.rw_.mem o ho).1
          have d2l : d2.length ≤ 1000 := by have := congrArg List.length hd2; simp at this; omega
          have bl : (done.flatMap row2).length + d2.length < 16777216 := by omega
          rw [List.length_flatMap] at bl
          simp -implicitDefEqProofs [-List.getD_eq_getElem?_getD, -List.map_map, E2, E, dk]
          refine Wp_of (lcE_map1 (enc := nt) (g := fun x => nt (if x ∈ S.1 then r.getD (S.1.idxOf x) 0 else o.getD (T.1.idxOf x) 0)) fun x hx => ?_) ?_
          · refine Wp_eq ?_
            have hx2 : x ∈ S.1 ++ T.1 := by rw [← hnames] at hx; exact mem_su.mp hx
            by_cases h : x ∈ S.1
            · have ix := ntOk.index_tup x S.1 (by decide) h
              simp only [nt_eq] at ix
              have hi : S.1.idxOf x < r.length := by rw [hrl]; exact List.idxOf_lt_length_of_mem h
              simp -implicitDefEqProofs [-List.getD_eq_getElem?_getD, -List.map_map, h, ix, nt_at' hi]
            · have hxT : x ∈ T.1 := (List.mem_append.mp hx2).resolve_left h
              have ix := ntOk.index_tup x T.1 (by decide) hxT
              simp only [nt_eq] at ix
              have hi : T.1.idxOf x < o.length := by rw [hol]; exact List.idxOf_lt_length_of_mem hxT
              simp -implicitDefEqProofs [-List.getD_eq_getElem?_getD, -List.map_map, h, ix, nt_at' hi]
          · rw [show names.map (fun x => nt (if x ∈ S.1 then r.getD (S.1.idxOf x) 0 else o.getD (T.1.idxOf x) 0)) = (mix names S.1 T.1 r o).map nt by simp only [mix, List.map_map]; rfl]
            simp -implicitDefEqProofs [-List.getD_eq_getElem?_getD, -List.map_map, mix_len, show names.length ≤ 16777216 by omega, bl]
            exact (iJ _ _ _ _).mpr ⟨rfl, by simpa using hd2, some (false, mv o), by simp [E2, E, dk]⟩
        · intro env h' hJ
          obtain ⟨rfl, hd2, x8, rfl⟩ := (iJ _ _ _ _).mp hJ
          rw [List.append_nil] at hd2
          simp -implicitDefEqProofs [-List.getD_eq_getElem?_getD, -List.map_map]
          refine (iI _ _ _ _).mpr ⟨by simpa using hdn, ⟨ex ++ [.lst []], rfl⟩, some (false, mv r), some (false, mv ky), x8, ?_⟩
          rw [List.flatMap_append]
          simp [row2]
    · intro env h' hI
      obtain ⟨hdn, ⟨ex, rfl⟩, x5, x7, x8, rfl⟩ := (iI _ _ _ _).mp hI
      rw [fd]
      simp -implicitDefEqProofs [-List.getD_eq_getElem?_getD, -List.map_map, E2, E]
  rintro _ _ ⟨⟨ex, rfl⟩, x5, x7, x8, rfl⟩
  have hal : (joinA S T).length ≤ 16777216 := by
    have := w3.rl B.pos
    rw [joinT, List.length_mergeSort] at this
    have := B.pw
    omega
  have st := sorted_mv (joinA S T) (width_ok (fun r hr => (w2 r hr).1) w1) hal
  obtain ⟨ex0, rfl⟩ := hbx
  simp -implicitDefEqProofs [-List.getD_eq_getElem?_getD, -List.map_map, E2, E, st, joinT, hnames]
end K94
set_option maxRecDepth 100000
set_option maxHeartbeats 4000000
namespace K94
open PySem (Str)
open MP MX
/-! ### meet, union, not, counted -/
theorem TOk.tl {n t : Nat} {T : Tb} (B : Bnd n t) (h : TOk n t T) : T.2.length ≤ 1000 := B.rows h.rw_ h.nl
def meetN (ts : List Tb) : List Nat := su (ts.flatMap fun T => T.1)
theorem meetN_mem {ts : List Tb} {x : Nat} : x ∈ meetN ts ↔ ∃ T ∈ ts, x ∈ T.1 := by rw [meetN, mem_su, List.mem_flatMap]
theorem joined_names_lst {n t : Nat} (B : Bnd n t) (ts : List Tb) (hts : ts.length ≤ 100) (hT : ∀ T ∈ ts, TOk n t T) (k : Nat) (hp : Hs) : callF G (k + 1) 8 [.lst (ts.map tv)] hp = some ((false, .tup ((meetN ts).map nt)), hp) := by
  have t6 := B.t6
  refine joined_names_ok (t := t) (by omega) ts PV.lst (.inr rfl) ?_ (by omega) (fun T h => (hT T h).lt) k hp
  have : ∀ l : List Tb, (∀ T ∈ l, TOk n t T) → (l.flatMap fun T => T.1).length ≤ l.length * 6 := fun l => by
    induction l with
    | nil => simp
    | cons T l ih =>
      intro h
      have h1 := (h T (by simp)).nl
      have := ih fun T hT => h T (List.mem_cons_of_mem _ hT)
      rw [List.flatMap_cons, List.length_append, List.length_cons, Nat.add_mul]
      omega
  have := this ts hT
  omega
theorem meet_ok {w : Wld} {t : Nat} (B : Bnd w.n t) (ts : List Tb) (hts : ts.length ≤ 100) (hT : ∀ T ∈ ts, TOk w.n t T) (k : Nat) (hp : Hs) (hb : rbAll hp.length hp = true) :
    ∃ T : Tb, TOk w.n t T ∧ T.1 = meetN ts ∧ Say w.n T (fun ρ => ∀ T ∈ ts, T.1.map ρ ∈ T.2) ∧ callF G (k + 3) 9 [wv w, .lst (ts.map tv)] hp = some ((false, tv T), hp) := by
  obtain ⟨K, hK⟩ := mkI1 fun r : Rv × Hs => ∃ T : Tb, TOk w.n t T ∧ T.1 = meetN ts ∧ Say w.n T (fun ρ => ∀ T ∈ ts, T.1.map ρ ∈ T.2) ∧ r = ((false, tv T), hp)
  have hw : Wp (callF G (k + 3) 9 [wv w, .lst (ts.map tv)] hp) K := by
    refine Wp_call fn_meet rfl rfl ?_
    unfold b_meet
    let E (T : Tb) (x3 x4 x5 : Option Rv) : FEnv := [some (false, wv w), some (false, .lst (ts.map tv)), some (false, tv T), x3, x4, x5]
    refine Wp_seq1 (env' := E ([], [[]]) none none none) (hp' := hp) (by simp -implicitDefEqProofs [-List.getD_eq_getElem?_getD, -List.map_map, E]) ?_
    obtain ⟨P, hP⟩ := mkI2 fun (e : FEnv) (h : Hs) => hp = h ∧ ∃ T x3 x4, TOk w.n t T ∧ (∀ x ∈ T.1, x ∈ meetN ts) ∧ Say w.n T (fun ρ => ∀ T ∈ ts, T.1.map ρ ∈ T.2) ∧ e = E T x3 x4 none
    refine Wp_seq P ?_ fun e h hh => ?_
    · simp -implicitDefEqProofs [-List.getD_eq_getElem?_getD, -List.map_map, E]
      obtain ⟨I, iI⟩ := mkI4 (fun (done rest : List Tb) (env : FEnv) (h : Hs) => hp = h ∧ done ++ rest = ts ∧ ∃ T x3 x4, TOk w.n t T ∧ (∀ x ∈ T.1, x ∈ meetN ts) ∧ Say w.n T (fun ρ => ∀ T ∈ done, T.1.map ρ ∈ T.2) ∧ env = E T x3 x4 none)
      refine Wp_for (enc := tv) I ?_ ts [] _ _ ((iI _ _ _ _).mpr ⟨rfl, rfl, ([], [[]]), none, none, ⟨by simp, by simp, ⟨by simp, by simp⟩⟩, by simp, fun ρ _ => by simp, by simp [E]⟩) ?_
      · intro done T rest env h' hI
        obtain ⟨rfl, hdn, S, x3, x4, hS, hs, hsay, rfl⟩ := (iI _ _ _ _).mp hI
        have hTt : T ∈ ts := by rw [← hdn]; simp
        obtain ⟨j1, j2, j3, j4⟩ := join_ok B.pos hS (hT T hTt)
        simp -implicitDefEqProofs [-List.getD_eq_getElem?_getD, -List.map_map, E]
        refine Wp_of (joined_ok B hS (hT T hTt) k hp hb) ?_
        simp -implicitDefEqProofs [-List.getD_eq_getElem?_getD, -List.map_map]
        refine (iI _ _ _ _).mpr ⟨rfl, by simpa using hdn, joinT S T, some (false, .tup (T.1.map nt)), some (false, .tup (T.2.map mv)), j3, fun x hx => ?_, fun ρ hρ => ?_, by simp [E]⟩
        · rcases List.mem_append.mp (mem_su.mp hx) with h | h
          · exact hs x h
          · exact meetN_mem.mpr ⟨T, hTt, h⟩
        · have e1 := j4 ρ hρ
          have e2 := hsay ρ hρ
          rw [e1]
          constructor
          · rintro ⟨a, b⟩ T' hT'
            rcases List.mem_append.mp hT' with h | h
            · exact e2.mp a T' h
            · simp at h; subst h; exact b
          · intro h
            exact ⟨e2.mpr fun T' hT' => h T' (by simp [hT']), h T (by simp)⟩
      · intro env h' hI
        obtain ⟨rfl, hdn, S, x3, x4, hS, hs, hsay, rfl⟩ := (iI _ _ _ _).mp hI
        simp -implicitDefEqProofs [-List.getD_eq_getElem?_getD, -List.map_map]
        exact (hP _ _).mpr ⟨rfl, S, x3, x4, hS, hs, hsay, rfl⟩
    obtain ⟨rfl, T, x3, x4, hTo, hs, hsay, rfl⟩ := (hP _ _).mp hh
    have nn : (meetN ts).Nodup := (su_p _).imp fun z => Nat.ne_of_lt z
    have nlt : ∀ x ∈ meetN ts, x < t := fun x hx => by
      obtain ⟨T', h1, h2⟩ := meetN_mem.mp hx
      exact (hT T' h1).lt x h2
    obtain ⟨w1, w2, w3, w4⟩ := wid_ok B.pos nn hTo.nd hTo.rw_ hs
    simp -implicitDefEqProofs [-List.getD_eq_getElem?_getD, -List.map_map, E]
    refine Wp_of (joined_names_lst B ts hts hT (k + 1) hp) ?_
    simp -implicitDefEqProofs [-List.getD_eq_getElem?_getD, -List.map_map]
    refine Wp_of (widened_ok B nn (nodup_le nn nlt) hTo.nd hTo.rw_ hs k hp) ?_
    simp -implicitDefEqProofs [-List.getD_eq_getElem?_getD, -List.map_map]
    exact (hK _).mpr ⟨(meetN ts, widT w.n (meetN ts) T.1 T.2), ⟨su_p _, nlt, w3⟩, rfl, fun ρ hρ => (w4 ρ hρ).trans (hsay ρ hρ), rfl⟩
  obtain ⟨r, e, hr⟩ := hw
  obtain ⟨T, h1, h2, h3, rfl⟩ := (hK _).mp hr
  exact ⟨T, h1, h2, h3, e⟩
theorem union_ok {w : Wld} {t : Nat} (B : Bnd w.n t) (ts : List Tb) (hts : ts.length ≤ 100) (hT : ∀ T ∈ ts, TOk w.n t T) (k : Nat) (hp : Hs) :
    ∃ T : Tb, TOk w.n t T ∧ T.1 = meetN ts ∧ Say w.n T (fun ρ => ∃ T ∈ ts, T.1.map ρ ∈ T.2) ∧ callF G (k + 3) 11 [wv w, .lst (ts.map tv)] hp = some ((false, tv T), hp) := by
  have nn : (meetN ts).Nodup := (su_p _).imp fun z => Nat.ne_of_lt z
  have nlt : ∀ x ∈ meetN ts, x < t := fun x hx => by
    obtain ⟨T', h1, h2⟩ := meetN_mem.mp hx
    exact (hT T' h1).lt x h2
  have wid : ∀ T ∈ ts, (widA w.n (meetN ts) T.1 T.2).Nodup ∧ (∀ r ∈ widA w.n (meetN ts) T.1 T.2, r.length = (meetN ts).length ∧ ∀ x ∈ r, x < w.n) ∧ Rws w.n (meetN ts) (widT w.n (meetN ts) T.1 T.2) ∧ Sem w.n (meetN ts) (widT w.n (meetN ts) T.1 T.2) fun ρ => T.1.map ρ ∈ T.2 := fun T h =>
    wid_ok B.pos nn (hT T h).nd (hT T h).rw_ fun x hx => meetN_mem.mpr ⟨T, h, hx⟩
  have nl := nodup_le nn nlt
  obtain ⟨K, hK⟩ := mkI1 fun r : Rv × Hs => ∃ T : Tb, TOk w.n t T ∧ T.1 = meetN ts ∧ Say w.n T (fun ρ => ∃ T ∈ ts, T.1.map ρ ∈ T.2) ∧ r = ((false, tv T), hp)
  have hw : Wp (callF G (k + 3) 11 [wv w, .lst (ts.map tv)] hp) K := by
    refine Wp_call fn_union rfl rfl ?_
    unfold b_union
    let E (R : List Row) (x4 x5 : Option Rv) : FEnv := [some (false, wv w), some (false, .lst (ts.map tv)), some (false, .tup ((meetN ts).map nt)), some (true, .lst (R.map mv)), x4, x5]
    refine Wp_seq1 (env' := [some (false, wv w), some (false, .lst (ts.map tv)), some (false, .tup ((meetN ts).map nt)), none, none, none]) (hp' := hp) ?_ ?_
    · simp -implicitDefEqProofs [-List.getD_eq_getElem?_getD, -List.map_map]
      refine Wp_of (joined_names_lst B ts hts hT (k + 1) hp) ?_
      simp -implicitDefEqProofs [-List.getD_eq_getElem?_getD, -List.map_map]
    refine Wp_seq1 (env' := E [] none none) (hp' := hp) (by simp -implicitDefEqProofs [-List.getD_eq_getElem?_getD, -List.map_map, E]) ?_
    obtain ⟨P, hP⟩ := mkI2 fun (e : FEnv) (h : Hs) => hp = h ∧ ∃ R x4, R.Nodup ∧ (∀ r ∈ R, r.length = (meetN ts).length ∧ ∀ x ∈ r, x < w.n) ∧ Sem w.n (meetN ts) R (fun ρ => ∃ T ∈ ts, T.1.map ρ ∈ T.2) ∧ e = E R x4 none
    refine Wp_seq P ?_ fun e h hh => ?_
    · simp -implicitDefEqProofs [-List.getD_eq_getElem?_getD, -List.map_map, E]
      obtain ⟨I, iI⟩ := mkI4 (fun (done rest : List Tb) (env : FEnv) (h : Hs) => hp = h ∧ done ++ rest = ts ∧ ∃ R x4, R.Nodup ∧ (∀ r ∈ R, r.length = (meetN ts).length ∧ ∀ x ∈ r, x < w.n) ∧ Sem w.n (meetN ts) R (fun ρ => ∃ T ∈ done, T.1.map ρ ∈ T.2) ∧ env = E R x4 none)
      refine Wp_for (enc := tv) I ?_ ts [] _ _ ((iI _ _ _ _).mpr ⟨rfl, rfl, [], none, by simp, by simp, fun ρ _ => by simp, by simp [E]⟩) ?_
      · intro done T rest env h' hI
        obtain ⟨rfl, hdn, R, x4, r1, r2, r3, rfl⟩ := (iI _ _ _ _).mp hI
        have hTt : T ∈ ts := by rw [← hdn]; simp
        obtain ⟨w1, w2, w3, w4⟩ := wid T hTt
        have Rl : R.length ≤ 1000 := by
          have := len_sub R (tps w.n (meetN ts).length) r1 fun r hr => mem_tps.mpr (r2 r hr)
          rw [len_tps] at this
          exact Nat.le_trans this (B.le nl)
        simp -implicitDefEqProofs [-List.getD_eq_getElem?_getD, -List.map_map, E]
        refine Wp_of (widened_ok B nn nl (hT T hTt).nd (hT T hTt).rw_ (fun x hx => meetN_mem.mpr ⟨T, hTt, hx⟩) k hp) ?_
        simp -implicitDefEqProofs [-List.getD_eq_getElem?_getD, -List.map_map]
        refine Wp_of (lcE_filter (enc := mv) (p := fun r => !decide (r ∈ R)) (g := mv) fun r hr => ?_) ?_
        · refine Wp_eq ?_
          by_cases h : r ∈ R
          · simp -implicitDefEqProofs [-List.getD_eq_getElem?_getD, -List.map_map, h]
          · simp -implicitDefEqProofs [-List.getD_eq_getElem?_getD, -List.map_map, h]
        · have wl := B.rows w3 nl
          have fl := List.length_filter_le (fun r => !decide (r ∈ R)) (widT w.n (meetN ts) T.1 T.2)
          simp -implicitDefEqProofs [-List.getD_eq_getElem?_getD, -List.map_map, show ((widT w.n (meetN ts) T.1 T.2).filter fun r => !decide (r ∈ R)).length ≤ 16777216 by omega, show R.length + ((widT w.n (meetN ts) T.1 T.2).filter fun r => !decide (r ∈ R)).length ≤ 16777216 by omega]
          refine (iI _ _ _ _).mpr ⟨rfl, by simpa using hdn, R ++ (widT w.n (meetN ts) T.1 T.2).filter (fun r => !decide (r ∈ R)), some (false, tv T), ?_, ?_, fun ρ hρ => ?_, by simp [E]⟩
          · rw [List.nodup_append]
            refine ⟨r1, List.Pairwise.filter _ (mvOrd.nodup w3.lt), fun a ha b hb e => ?_⟩
            have := (List.mem_filter.mp hb).2
            subst e
            simp [ha] at this
          · intro r hr
            rcases List.mem_append.mp hr with h | h
            · exact r2 r h
            · exact w3.mem r (List.mem_filter.mp h).1
          · rw [List.mem_append, r3 ρ hρ, List.mem_filter, w4 ρ hρ]
            constructor
            · rintro (⟨T', h1, h2⟩ | ⟨h1, h2⟩)
              · exact ⟨T', by simp [h1], h2⟩
              · exact ⟨T, by simp, h1⟩
            · rintro ⟨T', h1, h2⟩
              rcases List.mem_append.mp h1 with h | h
              · exact .inl ⟨T', h, h2⟩
              · simp at h; subst h
                by_cases hm : (meetN ts).map ρ ∈ R
                · exact .inl ((r3 ρ hρ).mp hm)
                · exact .inr ⟨h2, by simpa using hm⟩
      · intro env h' hI
        obtain ⟨rfl, hdn, R, x4, r1, r2, r3, rfl⟩ := (iI _ _ _ _).mp hI
        simp -implicitDefEqProofs [-List.getD_eq_getElem?_getD, -List.map_map]
        exact (hP _ _).mpr ⟨rfl, R, x4, r1, r2, r3, rfl⟩
    obtain ⟨rfl, R, x4, r1, r2, r3, rfl⟩ := (hP _ _).mp hh
    have Rl : R.length ≤ 1000 := by
      have := len_sub R (tps w.n (meetN ts).length) r1 fun r hr => mem_tps.mpr (r2 r hr)
      rw [len_tps] at this
      exact Nat.le_trans this (B.le nl)
    have st := sorted_mv R (width_ok (fun r hr => (r2 r hr).1) r1) (by omega)
    simp -implicitDefEqProofs [-List.getD_eq_getElem?_getD, -List.map_map, E, st]
    exact (hK _).mpr ⟨(meetN ts, R.mergeSort rle), ⟨su_p _, nlt, Rws.sort r1 r2⟩, rfl, Sem.sort r3, rfl⟩
  obtain ⟨r, e, hr⟩ := hw
  obtain ⟨T, h1, h2, h3, rfl⟩ := (hK _).mp hr
  exact ⟨T, h1, h2, h3, e⟩
theorem compl_ok {w : Wld} {t : Nat} (B : Bnd w.n t) {T : Tb} (hT : TOk w.n t T) (k : Nat) (hp : Hs) :
    ∃ S : Tb, TOk w.n t S ∧ S.1 = T.1 ∧ Say w.n S (fun ρ => T.1.map ρ ∉ T.2) ∧ callF G (k + 2) 12 [wv w, tv T] hp = some ((false, tv S), hp) := by
  have nl := hT.nl
  have t6 := B.t6
  have tl : (tps w.n T.1.length).length ≤ 1000 := by rw [len_tps]; exact B.le nl
  have fl := List.length_filter_le (fun r => !decide (r ∈ T.2)) (tps w.n T.1.length)
  refine ⟨(T.1, (tps w.n T.1.length).filter fun r => !decide (r ∈ T.2)), ⟨hT.nm, hT.lt, Rws.filter _⟩, rfl, Sem.filter fun ρ _ => by simp, call_eq fn_complement rfl rfl ?_⟩
  simp -implicitDefEqProofs [-List.getD_eq_getElem?_getD, -List.map_map, b_complement]
  refine Wp_of (tuples_of_ok k w.n T.1.length (B.tps nl) B.n8 (by omega) hp) ?_
  simp -implicitDefEqProofs [-List.getD_eq_getElem?_getD, -List.map_map]
  refine Wp_of (lcE_filter (enc := mv) (p := fun r => !decide (r ∈ T.2)) (g := mv) fun r hr => ?_) ?_
  · refine Wp_eq ?_
    by_cases h : r ∈ T.2
    · simp -implicitDefEqProofs [-List.getD_eq_getElem?_getD, -List.map_map, h]
    · simp -implicitDefEqProofs [-List.getD_eq_getElem?_getD, -List.map_map, h]
  · simp -implicitDefEqProofs [-List.getD_eq_getElem?_getD, -List.map_map, show ((tps w.n T.1.length).filter fun r => !decide (r ∈ T.2)).length ≤ 16777216 by omega]
end K94
set_option maxRecDepth 100000
set_option maxHeartbeats 4000000
namespace K94
open PySem (Str)
open MP MX
/-! ### rows counted for a name -/
theorem get2_eval {L : List (Row × Nat)} (q : Row) : mthP .get (.dct (L.map fun p => (PV.tup (p.1.map nt), PV.int (p.2 : Int)))) [.tup (q.map nt), .int 0] = some (.int (((L.lookup q).getD 0 : Nat) : Int)) := by
  have gk := getKv_enc mvOk nt q L
  have okk := okKey_t isTKey_mv nt q L
  simp only [mv_eq, nt_eq] at gk okk
  simp only [mthP]
  rw [if_pos okk, gk]
  cases L.lookup q <;> rfl
theorem counted_ok {w : Wld} {t : Nat} (B : Bnd w.n t) {T : Tb} (hT : TOk w.n t T) (x m : Nat) (hm : 1 ≤ m) (k : Nat) (hp : Hs) :
    ∃ S : Tb, TOk w.n t S ∧ S.1 = (T.1.filter fun y => !decide (y = x)) ∧ Say w.n S (fun ρ => m ≤ (List.range w.n).countP fun a => decide (T.1.map (up ρ x a) ∈ T.2)) ∧ callF G (k + 1) 13 [wv w, tv T, .int (x : Int), .int (m : Int)] hp = some ((false, tv S), hp) := by
  have nl := hT.nl
  have t6 := B.t6
  have Tl := TOk.tl B hT
  by_cases hx : x ∈ T.1
  · have hi := List.idxOf_lt_length_of_mem hx
    obtain ⟨i, hie⟩ : ∃ i, T.1.idxOf x = i := ⟨_, rfl⟩
    rw [hie] at hi
    have cf : cutR i T.1 = T.1.filter fun y => !decide (y = x) := by rw [← hie]; exact cut_filter hT.nd hx
    let key : Row → Row := cutR i
    let res (L : List (Row × Nat)) : List Row := (L.map (·.1)).filter fun q => decide (m ≤ (L.lookup q).getD 0)
    have fin : ∀ L, CInv key L T.2 → (res L).Nodup ∧ (∀ r ∈ res L, r.length = (cutR i T.1).length ∧ ∀ y ∈ r, y < w.n) ∧ Sem w.n (cutR i T.1) (res L) (fun ρ => m ≤ (List.range w.n).countP fun a => decide (T.1.map (up ρ x a) ∈ T.2)) := by
      intro L hL
      refine ⟨List.Pairwise.filter _ hL.kn, fun r hr => ?_, fun ρ hρ => ?_⟩
      · obtain ⟨o, ho, rfl⟩ := (hL.all r).mp (List.mem_filter.mp hr).1
        have ho2 := hT.rw_.mem o ho
        refine ⟨by rw [cut_len (by omega), cut_len hi, ho2.1], fun y hy => ?_⟩
        rcases List.mem_append.mp hy with hy | hy
        · exact ho2.2 y (List.mem_of_mem_take hy)
        · exact ho2.2 y (List.mem_of_mem_drop hy)
      · have cr := count_rows hT.rw_ hT.nd hx ρ hρ
        rw [hie] at cr
        rw [List.mem_filter, decide_eq_true_eq, hL.look, cr]
        constructor
        · exact fun h => h.2
        · intro h
          refine ⟨(hL.all _).mpr ?_, h⟩
          have hpos : 0 < (T.2.filter fun r => decide (cutR i r = (cutR i T.1).map ρ)).length := by rw [cr]; omega
          obtain ⟨o, ho⟩ := List.exists_mem_of_length_pos hpos
          have := List.mem_filter.mp ho
          exact ⟨o, this.1, of_decide_eq_true this.2⟩
    obtain ⟨K, hK⟩ := mkI1 fun r : Rv × Hs => ∃ L, CInv key L T.2 ∧ r = ((false, tv (cutR i T.1, (res L).mergeSort rle)), hp)
    have hw : Wp (callF G (k + 1) 13 [wv w, tv T, .int (x : Int), .int (m : Int)] hp) K := by
      refine Wp_call fn_counted rfl rfl ?_
      unfold b_counted
      let E (x6 x7 x8 x9 : Option Rv) : FEnv := [some (false, wv w), some (false, tv T), some (false, .int (x : Int)), some (false, .int (m : Int)), some (false, .tup (T.1.map nt)), some (false, .tup (T.2.map mv)), x6, x7, x8, x9]
      refine Wp_seq1 (env' := E none none none none) (hp' := hp) (by simp -implicitDefEqProofs [-List.getD_eq_getElem?_getD, -List.map_map, E]) ?_
      refine Wp_seq1 (env' := E none none none none) (hp' := hp) (by simp -implicitDefEqProofs [-List.getD_eq_getElem?_getD, -List.map_map, E, hx]) ?_
      refine Wp_seq1 (env' := E (some (false, .int (i : Int))) none none none) (hp' := hp) ?_ ?_
      · have ix := ntOk.index_tup x T.1 (by decide) hx
        simp only [nt_eq] at ix
        simp -implicitDefEqProofs [-List.getD_eq_getElem?_getD, -List.map_map, E, ix, hie]
      refine Wp_seq1 (env' := E (some (false, .int (i : Int))) (some (true, .dct [])) none none) (hp' := hp) (by simp -implicitDefEqProofs [-List.getD_eq_getElem?_getD, -List.map_map, E]) ?_
      let dk (L : List (Row × Nat)) : PV := .dct (L.map fun p => (mv p.1, nt p.2))
      obtain ⟨P, hP⟩ := mkI2 fun (e : FEnv) (h : Hs) => hp = h ∧ ∃ L x8 x9, CInv key L T.2 ∧ e = E (some (false, .int (i : Int))) (some (true, dk L)) x8 x9
      refine Wp_seq P ?_ fun e h hh => ?_
      · simp -implicitDefEqProofs [-List.getD_eq_getElem?_getD, -List.map_map, E]
        obtain ⟨I, iI⟩ := mkI4 (fun (done rest : List Row) (env : FEnv) (h : Hs) => hp = h ∧ done ++ rest = T.2 ∧ ∃ L x8 x9, CInv key L done ∧ env = E (some (false, .int (i : Int))) (some (true, dk L)) x8 x9)
        refine Wp_for (enc := mv) I ?_ T.2 [] _ _ ((iI _ _ _ _).mpr ⟨rfl, rfl, [], none, none, CInv.nil _, by simp [E, dk]⟩) ?_
        · intro done o rest env h' hI
          obtain ⟨rfl, hdn, L, x8, x9, hL, rfl⟩ := (iI _ _ _ _).mp hI
          have ho : o ∈ T.2 := by rw [← hdn]; simp
          have hol := (hT.rw_.mem o ho).1
          have ct : (o.map nt).take i ++ (o.map nt).drop (i + 1) = (key o).map nt := by simp [key, cutR, List.map_take, List.map_drop]
          have kl : (key o).length ≤ 6 := by simp only [key]; rw [cut_len (by omega)]; omega
          have l1 := getKv_enc mvOk nt (key o) L
          have ge := get2_eval (L := L) (key o)
          have okk := okKey_t isTKey_mv nt (key o) L
          have sk := setKv_upd mvOk nt (key o) ((L.lookup (key o)).getD 0 + 1) L hL.kn
          have Ll : L.length < 16777216 := by
            have := hL.len
            have := congrArg List.length hdn
            simp at this
            omega
          simp only [mv_eq, nt_eq] at okk sk
          have lf1 : lfAll ((o.map nt).take i) = true := (lfAll_iff _).mpr fun y hy => (lfAll_iff _).mp (lfAll_nt o) y (List.mem_of_mem_take hy)
          have lf2 : lfAll ((o.map nt).drop (i + 1)) = true := (lfAll_iff _).mpr fun y hy => (lfAll_iff _).mp (lfAll_nt o) y (List.mem_of_mem_drop hy)
          have nx : (((L.lookup (key o)).getD 0 + 1 : Nat) : Int) = (((L.lookup (key o)).getD 0 : Nat) : Int) + 1 := by omega
          rw [nx] at sk
          simp -implicitDefEqProofs [-List.getD_eq_getElem?_getD, -List.map_map, E, dk, cut_lo, cut_hi, hol, -List.map_take, -List.map_drop, ct, lf1, lf2, show min i T.1.length + (T.1.length - (i + 1)) ≤ 16777216 by omega, ge, putP_dct, okk, sk, Ll]
          exact (iI _ _ _ _).mpr ⟨rfl, by simpa using hdn, _, some (false, mv o), some (false, mv (key o)), hL.step o, by simp [E, dk]⟩
        · intro env h' hI
          obtain ⟨rfl, hdn, L, x8, x9, hL, rfl⟩ := (iI _ _ _ _).mp hI
          simp -implicitDefEqProofs [-List.getD_eq_getElem?_getD, -List.map_map]
          exact (hP _ _).mpr ⟨rfl, L, x8, x9, hL, rfl⟩
      · obtain ⟨rfl, L, x8, x9, hL, rfl⟩ := (hP _ _).mp hh
        obtain ⟨f1, f2, f3⟩ := fin L hL
        have kp : keysP (L.map fun p => (mv p.1, nt p.2)) = (L.map (·.1)).map mv := keysP_enc mv nt L
        have ik : ((L.map (·.1)).map mv).all intKey = true := by
          rw [List.all_eq_true]; intro y hy
          obtain ⟨q, _, rfl⟩ := List.mem_map.mp hy
          show (intsP (q.map nt)).isSome = true
          rw [intsP_nt]; rfl
        have itm : itemsP (dk L) = some ((L.map (·.1)).map mv) := by
          show (if (keysP (L.map fun p => (mv p.1, nt p.2))).all intKey = true then some (keysP (L.map fun p => (mv p.1, nt p.2))) else none) = _
          rw [kp, if_pos ik]
        have ct1 : (T.1.map nt).take i ++ (T.1.map nt).drop (i + 1) = (cutR i T.1).map nt := by simp [cutR, List.map_take, List.map_drop]
        have rl : (res L).length ≤ 1000 := by
          have h1 := hL.len
          have := List.length_filter_le (fun q => decide (m ≤ (L.lookup q).getD 0)) (L.map (·.1))
          simp only [List.length_map] at this
          show ((L.map (·.1)).filter _).length ≤ 1000
          omega
        have st := sorted_mv (res L) (width_ok (fun r hr => (f2 r hr).1) f1) (by omega)
        simp -implicitDefEqProofs [-List.getD_eq_getElem?_getD, -List.map_map, E, cut_lo, cut_hi, -List.map_take, -List.map_drop, ct1, itm, show min i T.1.length + (T.1.length - (i + 1)) ≤ 16777216 by omega]
        refine Wp_of (lcE_filter (enc := mv) (p := fun q => decide (m ≤ (L.lookup q).getD 0)) (g := mv) fun q hq => ?_) ?_
        · have gk := getKv_enc mvOk nt q L
          have okk := okKey_t isTKey_mv nt q L
          obtain ⟨c, hc⟩ : ∃ c, L.lookup q = some c := by
            cases hl : L.lookup q with
            | some c => exact ⟨c, rfl⟩
            | none => exact absurd hq (lookup_none hl)
          rw [hc] at gk
          simp only [mv_eq, nt_eq] at gk okk
          refine Wp_eq ?_
          by_cases hmc : m ≤ c
          · simp -implicitDefEqProofs [-List.getD_eq_getElem?_getD, -List.map_map, dk, idx_dct, okk, gk, hc, hmc]
          · simp -implicitDefEqProofs [-List.getD_eq_getElem?_getD, -List.map_map, dk, idx_dct, okk, gk, hc, hmc]
        · rw [show ((L.map (·.1)).filter fun q => decide (m ≤ (L.lookup q).getD 0)) = res L from rfl]
          simp -implicitDefEqProofs [-List.getD_eq_getElem?_getD, -List.map_map, show (res L).length ≤ 16777216 by omega, st]
          exact (hK _).mpr ⟨L, hL, rfl⟩
    obtain ⟨r, e, hr⟩ := hw
    obtain ⟨L, hL, rfl⟩ := (hK _).mp hr
    obtain ⟨f1, f2, f3⟩ := fin L hL
    refine ⟨_, ⟨?_, fun y hy => ?_, Rws.sort f1 f2⟩, cf, ?_, e⟩
    · show (cutR i T.1).Pairwise _; rw [cf]; exact List.Pairwise.filter _ hT.nm
    · have hy : y ∈ cutR i T.1 := hy
      rw [cf] at hy; exact hT.lt y (List.mem_filter.mp hy).1
    · show Sem w.n (cutR i T.1) ((res L).mergeSort rle) _
      exact Sem.sort f3
  · have hf : T.1.filter (fun y => !decide (y = x)) = T.1 := by
      rw [List.filter_eq_self]; intro y hy; simp; rintro rfl; exact hx hy
    have hu : ∀ (ρ : Asg) a, T.1.map (up ρ x a) = T.1.map ρ := fun ρ a => List.map_congr_left fun y hy => by
      unfold up; rw [if_neg]; rintro rfl; exact hx hy
    have hc : ∀ ρ : Asg, ((List.range w.n).countP fun a => decide (T.1.map (up ρ x a) ∈ T.2)) = if T.1.map ρ ∈ T.2 then w.n else 0 := fun ρ => by
      simp only [hu]
      by_cases h : T.1.map ρ ∈ T.2
      · simp [h]
      · simp [h]
    by_cases hmn : m ≤ w.n
    · refine ⟨T, hT, hf.symm, fun ρ hρ => ?_, call_eq fn_counted rfl rfl ?_⟩
      · show _ ↔ m ≤ _
        rw [hc]
        by_cases h : T.1.map ρ ∈ T.2
        · simp [h, hmn]
        · simp [h]; omega
      · simp -implicitDefEqProofs [-List.getD_eq_getElem?_getD, -List.map_map, b_counted, hx, hmn]
    · refine ⟨(T.1, []), ⟨hT.nm, hT.lt, ⟨by simp, by simp⟩⟩, hf.symm, fun ρ hρ => ?_, call_eq fn_counted rfl rfl ?_⟩
      · show _ ↔ m ≤ _
        rw [hc]
        by_cases h : T.1.map ρ ∈ T.2
        · simp [h]; omega
        · simp [h]; omega
      · have : ¬ (m : Int) ≤ (w.n : Int) := by omega
        have h2 : w.n < m := by omega
        simp -implicitDefEqProofs [-List.getD_eq_getElem?_getD, -List.map_map, b_counted, hx, this, h2]
end K94
set_option maxRecDepth 100000
set_option maxHeartbeats 4000000
namespace K94
open PySem (Str)
open MP MX
/-! ### the table of a formula -/
theorem up_lt {n : Nat} {ρ : Asg} (hρ : ∀ x, ρ x < n) (x : Nat) {a : Nat} (ha : a < n) : ∀ y, up ρ x a y < n := fun y => by
  unfold up; split
  · exact ha
  · exact hρ y
theorem cnt_tr {w : Wld} {T : Tb} {g : Fm} (hs : Say w.n T fun ρ => tr w g ρ = true) {ρ : Asg} (hρ : ∀ x, ρ x < w.n) (x : Nat) : ((List.range w.n).countP fun a => decide (T.1.map (up ρ x a) ∈ T.2)) = (List.range w.n).countP fun a => tr w g (up ρ x a) := by
  refine List.countP_congr fun a ha => ?_
  rw [decide_eq_true_eq]
  exact hs _ (up_lt hρ x (List.mem_range.mp ha))
theorem meetN_fr {fs : List Fm} {F : Fm → Tb} (h : ∀ g ∈ fs, ∀ x ∈ (F g).1, x ∈ fr g) : ∀ x ∈ meetN (fs.map F), x ∈ frs fs := fun x hx => by
  obtain ⟨T, hT, hx⟩ := meetN_mem.mp hx
  obtain ⟨g, hg, rfl⟩ := List.mem_map.mp hT
  rw [frs_flat]
  exact List.mem_flatMap.mpr ⟨g, hg, h g hg x hx⟩
theorem table_of_ok {w : Wld} (hw : WOk w) {t b : Nat} (B : Bnd w.n t) : ∀ (d k : Nat) (f : Fm), fok t b d f = true → ∀ hp : Hs, rbAll hp.length hp = true →
    ∃ T : Tb, TOk w.n t T ∧ (∀ x ∈ T.1, x ∈ fr f) ∧ Say w.n T (fun ρ => tr w f ρ = true) ∧ callF G (k + d + 4) 14 [wv w, fv f] hp = some ((false, tv T), hp) := by
  intro d
  induction d with
  | zero =>
    intro k f h hp hb
    cases f <;> simp only [fok, Bool.and_eq_true, decide_eq_true_eq, Nat.lt_irrefl, false_and, and_false, Bool.false_eq_true] at h
    · refine ⟨([], [[]]), ⟨by simp, by simp, ⟨by simp, by simp⟩⟩, by simp, fun ρ _ => by simp [tr], call_eq fn_table_of rfl rfl ?_⟩
      simp -implicitDefEqProofs [-List.getD_eq_getElem?_getD, -List.map_map, b_table_of, fv, sv]
    · refine ⟨([], []), ⟨by simp, by simp, ⟨by simp, by simp⟩⟩, by simp, fun ρ _ => by simp [tr], call_eq fn_table_of rfl rfl ?_⟩
      simp -implicitDefEqProofs [-List.getD_eq_getElem?_getD, -List.map_map, b_table_of, fv, sv]
    · rename_i x y
      obtain ⟨T, h1, h2, h3, e⟩ := single_ok hw B (b := b) (k + 0 + 2) (.same x y) 0 (by simp [fok, h]) (.inl ⟨x, y, rfl⟩) hp
      refine ⟨T, h1, h2, h3, call_eq fn_table_of rfl rfl ?_⟩
      simp only [fv] at e
      simp -implicitDefEqProofs [-List.getD_eq_getElem?_getD, -List.map_map, b_table_of, fv, sv]
      refine Wp_of e ?_
      simp -implicitDefEqProofs [-List.getD_eq_getElem?_getD, -List.map_map]
    · rename_i i x
      obtain ⟨T, h1, h2, h3, e⟩ := single_ok hw B (b := b) (k + 0 + 2) (.mark i x) 0 (by simp [fok, h]) (.inr (.inl ⟨i, x, rfl⟩)) hp
      refine ⟨T, h1, h2, h3, call_eq fn_table_of rfl rfl ?_⟩
      simp only [fv] at e
      simp -implicitDefEqProofs [-List.getD_eq_getElem?_getD, -List.map_map, b_table_of, fv, sv]
      refine Wp_of e ?_
      simp -implicitDefEqProofs [-List.getD_eq_getElem?_getD, -List.map_map]
    · rename_i x y
      obtain ⟨T, h1, h2, h3, e⟩ := single_ok hw B (b := b) (k + 0 + 2) (.arr x y) 0 (by simp [fok, h]) (.inr (.inr ⟨x, y, rfl⟩)) hp
      refine ⟨T, h1, h2, h3, call_eq fn_table_of rfl rfl ?_⟩
      simp only [fv] at e
      simp -implicitDefEqProofs [-List.getD_eq_getElem?_getD, -List.map_map, b_table_of, fv, sv]
      refine Wp_of e ?_
      simp -implicitDefEqProofs [-List.getD_eq_getElem?_getD, -List.map_map]
  | succ d ih =>
    intro k f h hp hb
    cases f
    · refine ⟨([], [[]]), ⟨by simp, by simp, ⟨by simp, by simp⟩⟩, by simp, fun ρ _ => by simp [tr], call_eq fn_table_of rfl rfl ?_⟩
      simp -implicitDefEqProofs [-List.getD_eq_getElem?_getD, -List.map_map, b_table_of, fv, sv]
    · refine ⟨([], []), ⟨by simp, by simp, ⟨by simp, by simp⟩⟩, by simp, fun ρ _ => by simp [tr], call_eq fn_table_of rfl rfl ?_⟩
      simp -implicitDefEqProofs [-List.getD_eq_getElem?_getD, -List.map_map, b_table_of, fv, sv]
    · rename_i x y
      obtain ⟨T, h1, h2, h3, e⟩ := single_ok hw B (b := b) (k + (d + 1) + 2) (.same x y) 0 h (.inl ⟨x, y, rfl⟩) hp
      refine ⟨T, h1, h2, h3, call_eq fn_table_of rfl rfl ?_⟩
      simp only [fv] at e
      simp -implicitDefEqProofs [-List.getD_eq_getElem?_getD, -List.map_map, b_table_of, fv, sv]
      refine Wp_of e ?_
      simp -implicitDefEqProofs [-List.getD_eq_getElem?_getD, -List.map_map]
    · rename_i i x
      obtain ⟨T, h1, h2, h3, e⟩ := single_ok hw B (b := b) (k + (d + 1) + 2) (.mark i x) 0 h (.inr (.inl ⟨i, x, rfl⟩)) hp
      refine ⟨T, h1, h2, h3, call_eq fn_table_of rfl rfl ?_⟩
      simp only [fv] at e
      simp -implicitDefEqProofs [-List.getD_eq_getElem?_getD, -List.map_map, b_table_of, fv, sv]
      refine Wp_of e ?_
      simp -implicitDefEqProofs [-List.getD_eq_getElem?_getD, -List.map_map]
    · rename_i x y
      obtain ⟨T, h1, h2, h3, e⟩ := single_ok hw B (b := b) (k + (d + 1) + 2) (.arr x y) 0 h (.inr (.inr ⟨x, y, rfl⟩)) hp
      refine ⟨T, h1, h2, h3, call_eq fn_table_of rfl rfl ?_⟩
      simp only [fv] at e
      simp -implicitDefEqProofs [-List.getD_eq_getElem?_getD, -List.map_map, b_table_of, fv, sv]
      refine Wp_of e ?_
      simp -implicitDefEqProofs [-List.getD_eq_getElem?_getD, -List.map_map]
    · rename_i g
      simp only [fok, Bool.and_eq_true, decide_eq_true_eq] at h
      obtain ⟨T, h1, h2, h3, e⟩ := ih k g h.2 hp hb
      obtain ⟨S, g1, g2, g3, e2⟩ := compl_ok B h1 (k + d + 2) hp
      refine ⟨S, g1, fun x hx => h2 x (by rw [← g2]; exact hx), fun ρ hρ => ?_, call_eq fn_table_of rfl rfl ?_⟩
      · refine (g3 ρ hρ).trans ?_
        show T.1.map ρ ∉ T.2 ↔ tr w (.neg g) ρ = true
        rw [h3 ρ hρ]; simp [tr]
      · simp -implicitDefEqProofs [-List.getD_eq_getElem?_getD, -List.map_map, b_table_of, fv, sv]
        refine Wp_of e ?_
        simp -implicitDefEqProofs [-List.getD_eq_getElem?_getD, -List.map_map]
        refine Wp_of e2 ?_
        simp -implicitDefEqProofs [-List.getD_eq_getElem?_getD, -List.map_map]
    · rename_i fs
      simp only [fok, Bool.and_eq_true, decide_eq_true_eq, foks_all, List.all_eq_true] at h
      obtain ⟨F, hF⟩ : ∃ F : Fm → Tb, ∀ g ∈ fs, TOk w.n t (F g) ∧ (∀ x ∈ (F g).1, x ∈ fr g) ∧ Say w.n (F g) (fun ρ => tr w g ρ = true) ∧ callF G (k + d + 4) 14 [wv w, fv g] hp = some ((false, tv (F g)), hp) := by
        have : ∀ g, ∃ T, g ∈ fs → TOk w.n t T ∧ (∀ x ∈ T.1, x ∈ fr g) ∧ Say w.n T (fun ρ => tr w g ρ = true) ∧ callF G (k + d + 4) 14 [wv w, fv g] hp = some ((false, tv T), hp) := fun g => by
          by_cases hg : g ∈ fs
          · obtain ⟨T, hT⟩ := ih k g (h.2 g hg) hp hb
            exact ⟨T, fun _ => hT⟩
          · exact ⟨([], []), fun z => absurd z hg⟩
        obtain ⟨F, hF⟩ := Classical.axiomOfChoice this
        exact ⟨F, hF⟩
      obtain ⟨T, h1, h2, h3, e⟩ := meet_ok B (fs.map F) (by simp; omega) (fun T hT => by obtain ⟨g, hg, rfl⟩ := List.mem_map.mp hT; exact (hF g hg).1) (k + d + 1) hp hb
      refine ⟨T, h1, fun x hx => ?_, fun ρ hρ => ?_, call_eq fn_table_of rfl rfl ?_⟩
      · rw [h2] at hx; exact meetN_fr (fun g hg => (hF g hg).2.1) x hx
      · rw [h3 ρ hρ]
        simp only [tr, trA_all, List.all_eq_true]
        constructor
        · intro hh g hg; exact ((hF g hg).2.2.1 ρ hρ).mp (hh _ (List.mem_map.mpr ⟨g, hg, rfl⟩))
        · intro hh T hT; obtain ⟨g, hg, rfl⟩ := List.mem_map.mp hT; exact ((hF g hg).2.2.1 ρ hρ).mpr (hh g hg)
      · simp -implicitDefEqProofs [-List.getD_eq_getElem?_getD, -List.map_map, b_table_of, fv, sv, fvs_map]
        refine Wp_of (lcE_map1 (enc := fv) (g := fun g => tv (F g)) fun g hg => ?_) ?_
        · refine Wp_eq ?_
          simp -implicitDefEqProofs [-List.getD_eq_getElem?_getD, -List.map_map]
          refine Wp_of (hF g hg).2.2.2 ?_
          simp -implicitDefEqProofs [-List.getD_eq_getElem?_getD, -List.map_map]
        · rw [show fs.map (fun g => tv (F g)) = (fs.map F).map tv by rw [List.map_map]; rfl]
          simp -implicitDefEqProofs [-List.getD_eq_getElem?_getD, -List.map_map, show fs.length ≤ 16777216 by omega]
          refine Wp_of e ?_
          simp -implicitDefEqProofs [-List.getD_eq_getElem?_getD, -List.map_map]
    · rename_i fs
      simp only [fok, Bool.and_eq_true, decide_eq_true_eq, foks_all, List.all_eq_true] at h
      obtain ⟨F, hF⟩ : ∃ F : Fm → Tb, ∀ g ∈ fs, TOk w.n t (F g) ∧ (∀ x ∈ (F g).1, x ∈ fr g) ∧ Say w.n (F g) (fun ρ => tr w g ρ = true) ∧ callF G (k + d + 4) 14 [wv w, fv g] hp = some ((false, tv (F g)), hp) := by
        have : ∀ g, ∃ T, g ∈ fs → TOk w.n t T ∧ (∀ x ∈ T.1, x ∈ fr g) ∧ Say w.n T (fun ρ => tr w g ρ = true) ∧ callF G (k + d + 4) 14 [wv w, fv g] hp = some ((false, tv T), hp) := fun g => by
          by_cases hg : g ∈ fs
          · obtain ⟨T, hT⟩ := ih k g (h.2 g hg) hp hb
            exact ⟨T, fun _ => hT⟩
          · exact ⟨([], []), fun z => absurd z hg⟩
        obtain ⟨F, hF⟩ := Classical.axiomOfChoice this
        exact ⟨F, hF⟩
      obtain ⟨T, h1, h2, h3, e⟩ := union_ok B (fs.map F) (by simp; omega) (fun T hT => by obtain ⟨g, hg, rfl⟩ := List.mem_map.mp hT; exact (hF g hg).1) (k + d + 1) hp
      refine ⟨T, h1, fun x hx => ?_, fun ρ hρ => ?_, call_eq fn_table_of rfl rfl ?_⟩
      · rw [h2] at hx; exact meetN_fr (fun g hg => (hF g hg).2.1) x hx
      · rw [h3 ρ hρ]
        simp only [tr, trO_any, List.any_eq_true]
        constructor
        · rintro ⟨T, hT, hm⟩; obtain ⟨g, hg, rfl⟩ := List.mem_map.mp hT; exact ⟨g, hg, ((hF g hg).2.2.1 ρ hρ).mp hm⟩
        · rintro ⟨g, hg, hm⟩; exact ⟨F g, List.mem_map.mpr ⟨g, hg, rfl⟩, ((hF g hg).2.2.1 ρ hρ).mpr hm⟩
      · simp -implicitDefEqProofs [-List.getD_eq_getElem?_getD, -List.map_map, b_table_of, fv, sv, fvs_map]
        refine Wp_of (lcE_map1 (enc := fv) (g := fun g => tv (F g)) fun g hg => ?_) ?_
        · refine Wp_eq ?_
          simp -implicitDefEqProofs [-List.getD_eq_getElem?_getD, -List.map_map]
          refine Wp_of (hF g hg).2.2.2 ?_
          simp -implicitDefEqProofs [-List.getD_eq_getElem?_getD, -List.map_map]
        · rw [show fs.map (fun g => tv (F g)) = (fs.map F).map tv by rw [List.map_map]; rfl]
          simp -implicitDefEqProofs [-List.getD_eq_getElem?_getD, -List.map_map, show fs.length ≤ 16777216 by omega]
          refine Wp_of e ?_
          simp -implicitDefEqProofs [-List.getD_eq_getElem?_getD, -List.map_map]
    · rename_i x g
      simp only [fok, Bool.and_eq_true, decide_eq_true_eq] at h
      obtain ⟨T, h1, h2, h3, e⟩ := ih k g h.2 hp hb
      obtain ⟨S, g1, g2, g3, e2⟩ := counted_ok B h1 x 1 (Nat.le_refl _) (k + d + 3) hp
      refine ⟨S, g1, fun y hy => ?_, fun ρ hρ => ?_, call_eq fn_table_of rfl rfl ?_⟩
      · rw [g2] at hy; have := List.mem_filter.mp hy; exact List.mem_filter.mpr ⟨h2 y this.1, this.2⟩
      · refine (g3 ρ hρ).trans ?_
        show (_ : Nat) ≤ _ ↔ tr w _ ρ = true
        rw [cnt_tr h3 hρ]
        simp only [tr, List.any_eq_true]
        exact List.countP_pos_iff
      · simp -implicitDefEqProofs [-List.getD_eq_getElem?_getD, -List.map_map, b_table_of, fv, sv]
        refine Wp_of e ?_
        simp -implicitDefEqProofs [-List.getD_eq_getElem?_getD, -List.map_map]
        refine Wp_of e2 ?_
        simp -implicitDefEqProofs [-List.getD_eq_getElem?_getD, -List.map_map]
    · rename_i x g
      simp only [fok, Bool.and_eq_true, decide_eq_true_eq] at h
      obtain ⟨T, h1, h2, h3, e⟩ := ih k g h.2 hp hb
      obtain ⟨S, g1, g2, g3, e2⟩ := counted_ok B h1 x w.n hw.pos (k + d + 3) hp
      refine ⟨S, g1, fun y hy => ?_, fun ρ hρ => ?_, call_eq fn_table_of rfl rfl ?_⟩
      · rw [g2] at hy; have := List.mem_filter.mp hy; exact List.mem_filter.mpr ⟨h2 y this.1, this.2⟩
      · refine (g3 ρ hρ).trans ?_
        show (_ : Nat) ≤ _ ↔ tr w _ ρ = true
        rw [cnt_tr h3 hρ]
        have h1 := List.countP_le_length (p := fun a => tr w g (up ρ x a)) (l := List.range w.n)
        rw [List.length_range] at h1
        have h2 := List.countP_eq_length (p := fun a => tr w g (up ρ x a)) (l := List.range w.n)
        rw [List.length_range] at h2
        simp only [tr, List.all_eq_true]
        rw [← h2]
        omega
      · simp -implicitDefEqProofs [-List.getD_eq_getElem?_getD, -List.map_map, b_table_of, fv, sv]
        refine Wp_of e ?_
        simp -implicitDefEqProofs [-List.getD_eq_getElem?_getD, -List.map_map]
        refine Wp_of e2 ?_
        simp -implicitDefEqProofs [-List.getD_eq_getElem?_getD, -List.map_map]
    · rename_i m x g
      simp only [fok, Bool.and_eq_true, decide_eq_true_eq] at h
      obtain ⟨T, h1, h2, h3, e⟩ := ih k g h.2 hp hb
      obtain ⟨S, g1, g2, g3, e2⟩ := counted_ok B h1 x m h.1.1.1.2 (k + d + 3) hp
      refine ⟨S, g1, fun y hy => ?_, fun ρ hρ => ?_, call_eq fn_table_of rfl rfl ?_⟩
      · rw [g2] at hy; have := List.mem_filter.mp hy; exact List.mem_filter.mpr ⟨h2 y this.1, this.2⟩
      · refine (g3 ρ hρ).trans ?_
        show (_ : Nat) ≤ _ ↔ tr w _ ρ = true
        rw [cnt_tr h3 hρ]
        simp only [tr, decide_eq_true_eq]
      · simp -implicitDefEqProofs [-List.getD_eq_getElem?_getD, -List.map_map, b_table_of, fv, sv]
        refine Wp_of e ?_
        simp -implicitDefEqProofs [-List.getD_eq_getElem?_getD, -List.map_map]
        refine Wp_of e2 ?_
        simp -implicitDefEqProofs [-List.getD_eq_getElem?_getD, -List.map_map]
end K94
set_option maxRecDepth 100000
set_option maxHeartbeats 4000000
namespace K94
open PySem (Str)
open MP MX
/-! ### equal, of one kind at every place -/
/-- plain data, nested at most n deep -/
inductive Dt : Nat → PV → Prop where
  | non {n : Nat} : Dt n .non
  | bl {n : Nat} (b : Bool) : Dt n (.bl b)
  | int {n : Nat} (i : Int) : Dt n (.int i)
  | str {n : Nat} (z : Str) : Dt n (.str z)
  | tup {n : Nat} {xs : List PV} : xs.length ≤ 1000000 → (∀ x ∈ xs, Dt n x) → Dt (n + 1) (.tup xs)
  | lst {n : Nat} {xs : List PV} : xs.length ≤ 1000000 → (∀ x ∈ xs, Dt n x) → Dt (n + 1) (.lst xs)
def kindN : PV → Int
  | .bl _ => 1
  | .int _ => 2
  | .str _ => 3
  | .tup _ => 4
  | .lst _ => 5
  | _ => 0
theorem kind_ok (k : Nat) {n : Nat} {v : PV} (h : Dt n v) (hp : Hs) : callF G (k + 1) 18 [v] hp = some ((false, .int (kindN v)), hp) := by
  refine call_eq fn_law_kind rfl rfl ?_
  cases h <;> simp -implicitDefEqProofs [-List.getD_eq_getElem?_getD, -List.map_map, b_law_kind, kindN]
theorem equal_seq (k : Nat) {xs ys : List PV} (hl : ys.length ≤ 1000000) (hxy : xs.length = ys.length) (hp : Hs)
    (ih : ∀ i (h1 : i < xs.length) (h2 : i < ys.length), ∃ b, callF G k 19 [xs[i], ys[i]] hp = some ((false, .bl b), hp) ∧ (b = true ↔ xs[i] = ys[i])) :
    ∃ p : Nat → Bool, (∀ i, i < ys.length → ∃ b, callF G k 19 [xs.getD i .non, ys.getD i .non] hp = some ((false, .bl b), hp) ∧ (p i = !b)) ∧ (((List.range ys.length).filter p = []) ↔ xs = ys) := by
  have : ∀ i, ∃ b, i < ys.length → callF G k 19 [xs.getD i .non, ys.getD i .non] hp = some ((false, .bl b), hp) ∧ (b = true ↔ xs.getD i .non = ys.getD i .non) := fun i => by
    by_cases h : i < ys.length
    · obtain ⟨b, h1, h2⟩ := ih i (by omega) h
      have e1 : xs.getD i .non = xs[i]'(by omega) := by simp [List.getD, show i < xs.length by omega]
      have e2 : ys.getD i .non = ys[i] := by simp [List.getD, h]
      exact ⟨b, fun _ => by rw [e1, e2]; exact ⟨h1, h2⟩⟩
    · exact ⟨true, fun h' => absurd h' h⟩
  obtain ⟨f, hf⟩ := Classical.axiomOfChoice this
  refine ⟨fun i => !f i, fun i hi => ⟨f i, (hf i hi).1, rfl⟩, ?_⟩
  rw [List.filter_eq_nil_iff]
  constructor
  · intro h
    refine List.ext_getElem hxy fun i h1 h2 => ?_
    have := h i (List.mem_range.mpr h2)
    have := (hf i h2).2.mp (by simpa using this)
    simpa [List.getD, h1, h2] using this
  · rintro rfl i hi
    have := (hf i (List.mem_range.mp hi)).2.mpr rfl
    simp [this]
theorem equal_ne (k : Nat) {n m : Nat} {v x : PV} (hv : Dt n v) (hx : Dt m x) (hk : kindN x ≠ kindN v) (hp : Hs) : callF G (k + 2) 19 [x, v] hp = some ((false, .bl false), hp) := by
  refine call_eq fn_law_equal rfl rfl ?_
  simp -implicitDefEqProofs [-List.getD_eq_getElem?_getD, -List.map_map, b_law_equal]
  refine Wp_of (kind_ok k hx hp) ?_
  simp -implicitDefEqProofs [-List.getD_eq_getElem?_getD, -List.map_map]
  refine Wp_of (kind_ok k hv hp) ?_
  simp -implicitDefEqProofs [-List.getD_eq_getElem?_getD, -List.map_map, hk]
/-- what stands at a leaf -/
def leaf : PV → Bool
  | .tup _ => false
  | .lst _ => false
  | _ => true
theorem equal_leaf (k : Nat) {n m : Nat} {v x : PV} (hv : Dt n v) (hx : Dt m x) (hk : kindN x = kindN v) (hl : leaf v = true) (hp : Hs) : ∃ b, callF G (k + 2) 19 [x, v] hp = some ((false, .bl b), hp) ∧ (b = true ↔ x = v) := by
  have kx := kind_ok k hx hp
  have kv := kind_ok k hv hp
  have : ∃ b, Wp (exec G.cst (callF G (k + 1)) WF b_law_equal [some (false, x), some (false, v), none, none, none] hp) (fun r => r.1 = .rt (false, .bl b) ∧ r.2.2 = hp) ∧ (b = true ↔ x = v) := by
    cases hv with
    | non =>
      cases hx <;> simp [kindN] at hk
      refine ⟨true, ?_, by simp⟩
      simp -implicitDefEqProofs [-List.getD_eq_getElem?_getD, -List.map_map, b_law_equal]
      refine Wp_of kx ?_
      simp -implicitDefEqProofs [-List.getD_eq_getElem?_getD, -List.map_map]
      refine Wp_of kv ?_
      simp -implicitDefEqProofs [-List.getD_eq_getElem?_getD, -List.map_map, cmpP, okEq, PV.dat, PV.dep, eqP]
    | bl b =>
      cases hx <;> simp [kindN] at hk
      rename_i c
      refine ⟨c == b, ?_, by simp⟩
      simp -implicitDefEqProofs [-List.getD_eq_getElem?_getD, -List.map_map, b_law_equal]
      refine Wp_of kx ?_
      simp -implicitDefEqProofs [-List.getD_eq_getElem?_getD, -List.map_map]
      refine Wp_of kv ?_
      simp -implicitDefEqProofs [-List.getD_eq_getElem?_getD, -List.map_map, kindN]
    | int i =>
      cases hx <;> simp [kindN] at hk
      rename_i c
      refine ⟨decide (c = i), ?_, by simp⟩
      simp -implicitDefEqProofs [-List.getD_eq_getElem?_getD, -List.map_map, b_law_equal]
      refine Wp_of kx ?_
      simp -implicitDefEqProofs [-List.getD_eq_getElem?_getD, -List.map_map]
      refine Wp_of kv ?_
      simp -implicitDefEqProofs [-List.getD_eq_getElem?_getD, -List.map_map, kindN]
    | str z =>
      cases hx <;> simp [kindN] at hk
      rename_i c
      refine ⟨decide (c = z), ?_, by simp⟩
      simp -implicitDefEqProofs [-List.getD_eq_getElem?_getD, -List.map_map, b_law_equal]
      refine Wp_of kx ?_
      simp -implicitDefEqProofs [-List.getD_eq_getElem?_getD, -List.map_map]
      refine Wp_of kv ?_
      simp -implicitDefEqProofs [-List.getD_eq_getElem?_getD, -List.map_map, kindN]
    | tup _ _ => simp [leaf] at hl
    | lst _ _ => simp [leaf] at hl
  obtain ⟨b, w, h⟩ := this
  exact ⟨b, call_eq fn_law_equal rfl rfl w, h⟩
/-- two tuples, or two lists -/
theorem equal_two (k : Nat) (f : List PV → PV) (hf : f = PV.tup ∨ f = PV.lst) {n m : Nat} {xs ys : List PV} (hv : Dt n (f ys)) (hx : Dt m (f xs)) (hl : ys.length ≤ 1000000) (hp : Hs)
    (ih : xs.length = ys.length → ∀ i (h1 : i < xs.length) (h2 : i < ys.length), ∃ b, callF G (k + 1) 19 [xs[i], ys[i]] hp = some ((false, .bl b), hp) ∧ (b = true ↔ xs[i] = ys[i])) :
    ∃ b, callF G (k + 2) 19 [f xs, f ys] hp = some ((false, .bl b), hp) ∧ (b = true ↔ xs = ys) := by
  have kx := kind_ok k hx hp
  have kv := kind_ok k hv hp
  by_cases hxy : xs.length = ys.length
  · obtain ⟨p, h1, h2⟩ := equal_seq (k + 1) hl hxy hp (ih hxy)
    refine ⟨decide ((List.range ys.length).filter p = []), call_eq fn_law_equal rfl rfl ?_, by rw [decide_eq_true_eq, h2]⟩
    have hfl := List.length_filter_le p (List.range ys.length)
    simp only [List.length_range] at hfl
    rcases hf with rfl | rfl
    · simp -implicitDefEqProofs [-List.getD_eq_getElem?_getD, -List.map_map, b_law_equal]
      refine Wp_of kx ?_
      simp -implicitDefEqProofs [-List.getD_eq_getElem?_getD, -List.map_map]
      refine Wp_of kv ?_
      simp -implicitDefEqProofs [-List.getD_eq_getElem?_getD, -List.map_map, kindN, hxy, rng_nt ys.length (by omega)]
      refine Wp_of (lcE_filter (p := p) (g := nt) fun i hi => ?_) ?_
      · have hi := List.mem_range.mp hi
        obtain ⟨b, e, hb⟩ := h1 i hi
        have hi2 : i < xs.length := by omega
        have e1 : xs.getD i .non = xs[i] := by simp [List.getD, hi2]
        have e2 : ys.getD i .non = ys[i] := by simp [List.getD, hi]
        rw [e1, e2] at e
        refine Wp_eq ?_
        simp -implicitDefEqProofs [-List.getD_eq_getElem?_getD, -List.map_map, hi, hi2]
        refine Wp_of e ?_
        cases b <;> simp -implicitDefEqProofs [-List.getD_eq_getElem?_getD, -List.map_map, hb]
      · simp -implicitDefEqProofs [-List.getD_eq_getElem?_getD, -List.map_map, show ((List.range ys.length).filter p).length ≤ 16777216 by omega]
    · simp -implicitDefEqProofs [-List.getD_eq_getElem?_getD, -List.map_map, b_law_equal]
      refine Wp_of kx ?_
      simp -implicitDefEqProofs [-List.getD_eq_getElem?_getD, -List.map_map]
      refine Wp_of kv ?_
      simp -implicitDefEqProofs [-List.getD_eq_getElem?_getD, -List.map_map, kindN, hxy, rng_nt ys.length (by omega)]
      refine Wp_of (lcE_filter (p := p) (g := nt) fun i hi => ?_) ?_
      · have hi := List.mem_range.mp hi
        obtain ⟨b, e, hb⟩ := h1 i hi
        have hi2 : i < xs.length := by omega
        have e1 : xs.getD i .non = xs[i] := by simp [List.getD, hi2]
        have e2 : ys.getD i .non = ys[i] := by simp [List.getD, hi]
        rw [e1, e2] at e
        refine Wp_eq ?_
        simp -implicitDefEqProofs [-List.getD_eq_getElem?_getD, -List.map_map, hi, hi2]
        refine Wp_of e ?_
        cases b <;> simp -implicitDefEqProofs [-List.getD_eq_getElem?_getD, -List.map_map, hb]
      · simp -implicitDefEqProofs [-List.getD_eq_getElem?_getD, -List.map_map, show ((List.range ys.length).filter p).length ≤ 16777216 by omega]
  · refine ⟨false, call_eq fn_law_equal rfl rfl ?_, by simp; rintro rfl; exact hxy rfl⟩
    have hxy2 : ¬ (xs.length : Int) = (ys.length : Int) := by omega
    rcases hf with rfl | rfl
    · simp -implicitDefEqProofs [-List.getD_eq_getElem?_getD, -List.map_map, b_law_equal]
      refine Wp_of kx ?_
      simp -implicitDefEqProofs [-List.getD_eq_getElem?_getD, -List.map_map]
      refine Wp_of kv ?_
      simp -implicitDefEqProofs [-List.getD_eq_getElem?_getD, -List.map_map, kindN, hxy2]
    · simp -implicitDefEqProofs [-List.getD_eq_getElem?_getD, -List.map_map, b_law_equal]
      refine Wp_of kx ?_
      simp -implicitDefEqProofs [-List.getD_eq_getElem?_getD, -List.map_map]
      refine Wp_of kv ?_
      simp -implicitDefEqProofs [-List.getD_eq_getElem?_getD, -List.map_map, kindN, hxy2]
theorem equal_ok (n : Nat) : ∀ (k : Nat) {m : Nat} {v x : PV}, Dt n v → Dt m x → ∀ hp : Hs, ∃ b, callF G (k + n + 2) 19 [x, v] hp = some ((false, .bl b), hp) ∧ (b = true ↔ x = v) := by
  induction n with
  | zero =>
    intro k m v x hv hx hp
    by_cases hk : kindN x = kindN v
    · exact equal_leaf k hv hx hk (by cases hv <;> rfl) hp
    · exact ⟨false, equal_ne k hv hx hk hp, by simp; rintro rfl; exact hk rfl⟩
  | succ n ih =>
    intro k m v x hv hx hp
    by_cases hk : kindN x = kindN v
    · by_cases hl : leaf v = true
      · exact equal_leaf (k + n + 1) hv hx hk hl hp
      · cases hv with
        | @tup _ ys h1 h2 =>
          cases hx with
          | @tup _ xs g1 g2 =>
            obtain ⟨b, e, h⟩ := equal_two (k + n + 1) PV.tup (Or.inl rfl) (.tup h1 h2) (.tup g1 g2) h1 hp fun _ i a1 a2 => ih k (h2 _ (List.getElem_mem a2)) (g2 _ (List.getElem_mem a1)) hp
            exact ⟨b, e, by rw [h]; simp⟩
          | _ => simp [kindN] at hk
        | @lst _ ys h1 h2 =>
          cases hx with
          | @lst _ xs g1 g2 =>
            obtain ⟨b, e, h⟩ := equal_two (k + n + 1) PV.lst (Or.inr rfl) (.lst h1 h2) (.lst g1 g2) h1 hp fun _ i a1 a2 => ih k (h2 _ (List.getElem_mem a2)) (g2 _ (List.getElem_mem a1)) hp
            exact ⟨b, e, by rw [h]; simp⟩
          | _ => simp [kindN] at hk
        | _ => exact absurd rfl hl
    · exact ⟨false, equal_ne (k + n + 1) hv hx hk hp, by simp; rintro rfl; exact hk rfl⟩
/-- a value is equal to itself -/
theorem equal_self (k n : Nat) {v : PV} (hv : Dt n v) (hp : Hs) : callF G (k + n + 2) 19 [v, v] hp = some ((false, .bl true), hp) := by
  obtain ⟨b, e, h⟩ := equal_ok n k hv hv hp
  rw [e, h.mpr rfl]
end K94
namespace K94
open PySem (Str)
open MP MX
/-! ### whole tables: the program's and the law's -/
theorem su_nd (xs : List Nat) : (su xs).Nodup := (su_p xs).imp fun z => Nat.ne_of_lt z
def lawT (w : Wld) (f : Fm) : Tb := keepT w.n (su (fr f)) fun r => tr w f (asg (su (fr f)) r)
theorem keep_ok {n t : Nat} {names : List Nat} (hp : names.Pairwise (· < ·)) (hl : ∀ x ∈ names, x < t) (p : Row → Bool) : TOk n t (keepT n names p) := ⟨hp, hl, keep_rws n names p⟩
theorem lawT_ok {w : Wld} {t b d : Nat} {f : Fm} (h : fok t b d f = true) : TOk w.n t (lawT w f) := keep_ok (su_p _) (fun x hx => fr_lt h x (mem_su.mp hx)) _
theorem lawT_say (w : Wld) (f : Fm) : Say w.n (lawT w f) fun ρ => tr w f ρ = true :=
  Sem.filter fun ρ _ => by
    show tr w f (asg (su (fr f)) ((su (fr f)).map ρ)) = true ↔ _
    rw [tr_agree w f (asg (su (fr f)) ((su (fr f)).map ρ)) ρ fun x hx => asg_of_map _ ρ (mem_su.mpr hx)]
theorem full_table_ok {w : Wld} (hw : WOk w) {t b : Nat} (B : Bnd w.n t) (d k : Nat) (f : Fm) (h : fok t b d f = true) (hd : d ≤ 5) (hp : Hs) (hb : rbAll hp.length hp = true) :
    callF G (k + d + 5) 15 [wv w, fv f] hp = some ((false, tv (lawT w f)), hp) := by
  have t6 := B.t6
  obtain ⟨T, h1, h2, h3, e⟩ := table_of_ok hw B d k f h hp hb
  have sl := su_small (fr_lt h)
  have hs : ∀ x ∈ T.1, x ∈ su (fr f) := fun x hx => mem_su.mpr (h2 x hx)
  obtain ⟨w1, w2, w3, w4⟩ := wid_ok B.pos (su_nd (fr f)) h1.nd h1.rw_ hs
  have ew := widened_ok B (su_nd (fr f)) sl h1.nd h1.rw_ hs (k + d + 2) hp
  have eq : ((su (fr f), widT w.n (su (fr f)) T.1 T.2) : Tb) = lawT w f :=
    tb_eq B.pos rfl (su_nd _) w3 (keep_rws _ _ _) w4 (lawT_say w f) fun ρ hρ => h3 ρ hρ
  rw [← eq]
  refine call_eq fn_full_table rfl rfl ?_
  simp -implicitDefEqProofs [-List.getD_eq_getElem?_getD, -List.map_map, b_full_table]
  have ef := free_ok t b (by omega) d (k + 1) f h hd hp
  rw [show k + 1 + d + 3 = k + d + 4 by omega] at ef
  refine Wp_of ef ?_
  simp -implicitDefEqProofs [-List.getD_eq_getElem?_getD, -List.map_map]
  refine Wp_of e ?_
  simp -implicitDefEqProofs [-List.getD_eq_getElem?_getD, -List.map_map]
  refine Wp_of ew ?_
  simp -implicitDefEqProofs [-List.getD_eq_getElem?_getD, -List.map_map]
theorem putP_nt {xs : List PV} {y : Nat} (h : y < xs.length) (v : PV) : putP (.lst xs) (.int (y : Int)) v = some (.lst (xs.set y v)) := by
  simp [putP, h]
theorem six_non : binP .mul (.lst [.non]) (.int 6) = some (true, .lst [.non, .non, .non, .non, .non, .non]) := by rfl
theorem law_table_ok {w : Wld} {t b : Nat} (B : Bnd w.n t) (d k : Nat) (f : Fm) (h : fok t b d f = true) (hd : d ≤ 5) (hp : Hs) :
    callF G (k + d + 3) 35 [wv w, fv f] hp = some ((false, tv (lawT w f)), hp) := by
  have t6 := B.t6
  have n8 := B.n8
  have sl := su_small (fr_lt h)
  have nd := su_nd (fr f)
  have nlt : ∀ x ∈ su (fr f), x < 6 := fun x hx => by have := fr_lt h x (mem_su.mp hx); omega
  have hin : ∀ x ∈ fr f, x ∈ su (fr f) := fun x hx => mem_su.mpr hx
  have frl := fr_len h
  have hp3 : 3 ^ d ≤ 3 ^ 5 := Nat.pow_le_pow_right (by decide) hd
  let p : Row → Bool := fun r => tr w f (asg (su (fr f)) r)
  have tl : (tps w.n (su (fr f)).length).length ≤ 1000 := by rw [len_tps]; exact B.le sl
  have e0 : lawT w f = (su (fr f), (tps w.n (su (fr f)).length).filter p) := rfl
  rw [e0]
  obtain ⟨names, hnames⟩ : ∃ names, su (fr f) = names := ⟨_, rfl⟩
  have ep : p = fun r => tr w f (asg names r) := by rw [← hnames]
  rw [hnames] at sl nd nlt hin tl ⊢
  refine call_eq fn_law_table rfl rfl ?_
  unfold b_law_table
  let E (R : List Row) (x4 x5 x6 : Option Rv) : FEnv := [some (false, wv w), some (false, fv f), some (false, .tup (names.map nt)), some (true, .lst (R.map mv)), x4, x5, x6]
  refine Wp_seq1 (env' := [some (false, wv w), some (false, fv f), some (false, .tup (names.map nt)), none, none, none, none]) (hp' := hp) ?_ ?_
  · simp -implicitDefEqProofs [-List.getD_eq_getElem?_getD, -List.map_map]
    refine Wp_of (law_free_ok t b d k f h (by omega) hp) ?_
    simp -implicitDefEqProofs [-List.getD_eq_getElem?_getD, -List.map_map]
    have eu := unlike_nt (fr f) (by omega) (k + d + 1) hp
    rw [hnames] at eu
    refine Wp_of eu ?_
    simp -implicitDefEqProofs [-List.getD_eq_getElem?_getD, -List.map_map]
  refine Wp_seq1 (env' := E [] none none none) (hp' := hp) (by simp -implicitDefEqProofs [-List.getD_eq_getElem?_getD, -List.map_map, E]) ?_
  obtain ⟨P, hP⟩ := mkI2 fun (e : FEnv) (h : Hs) => hp = h ∧ ∃ x4 x5 x6, e = E ((tps w.n names.length).filter p) x4 x5 x6
  refine Wp_seq P ?_ fun e h' hh => ?_
  · simp -implicitDefEqProofs [-List.getD_eq_getElem?_getD, -List.map_map, E]
    refine Wp_of (law_tuples_ok (k + d + 1) w.n names.length (B.tps sl) B.n8 (by omega) hp) ?_
    simp -implicitDefEqProofs [-List.getD_eq_getElem?_getD, -List.map_map]
    obtain ⟨I, iI⟩ := mkI4 (fun (done rest : List Row) (env : FEnv) (h : Hs) => hp = h ∧ done ++ rest = tps w.n names.length ∧ ∃ x4 x5 x6, env = E (done.filter p) x4 x5 x6)
    refine Wp_for (enc := mv) I ?_ (tps w.n names.length) [] _ _ ((iI _ _ _ _).mpr ⟨rfl, rfl, none, none, none, by simp [E]⟩) ?_
    · intro done r rest env h' hI
      obtain ⟨rfl, hdn, x4, x5, x6, rfl⟩ := (iI _ _ _ _).mp hI
      have hr : r ∈ tps w.n names.length := by rw [← hdn]; simp
      have hrl := (mem_tps.mp hr).1
      have hdl : done.length + rest.length + 1 ≤ 1000 := by
        rw [← hdn] at tl; simp at tl; omega
      have hfl := List.length_filter_le p done
      simp -implicitDefEqProofs [-List.getD_eq_getElem?_getD, -List.map_map, E]
      refine Wp_of six_non ?_
      simp -implicitDefEqProofs [-List.getD_eq_getElem?_getD, -List.map_map, rng_nt names.length (by omega)]
      rw [← upTo_nt]
      obtain ⟨J, iJ⟩ := mkI3 (fun (i : Nat) (env : FEnv) (h : Hs) => hp = h ∧ ∃ vs : List (Option Nat), ∃ x6, vs.length = 6 ∧ (∀ j < i, vs[names.getD j 0]? = some (some (r.getD j 0))) ∧ env = E (done.filter p) (some (false, mv r)) (some (true, .lst (vs.map ov))) x6)
      refine Wp_rng names.length J ((iJ _ _ _).mpr ⟨rfl, List.replicate 6 none, x6, by simp, by simp, by simp [E, ov, List.replicate]⟩) ?_ ?_
      · intro i env h' hi hJ
        obtain ⟨rfl, vs, x6, hvl, hv, rfl⟩ := (iJ _ _ _).mp hJ
        have hi2 : i < r.length := by omega
        have n1 := nt_at' (l := names) hi
        have n2 := nt_at' (l := r) hi2
        have hlt : names.getD i 0 < 6 := nlt _ (by simp [List.getD, hi])
        obtain ⟨y, hy⟩ : ∃ y, names.getD i 0 = y := ⟨_, rfl⟩
        rw [hy] at n1 hlt
        simp -implicitDefEqProofs [-List.getD_eq_getElem?_getD, -List.map_map, E, n1, n2, hvl, hlt]
        refine Wp_of (putP_nt (by simp; omega) (.int (r.getD i 0 : Nat))) ?_
        refine (iJ (i + 1) _ _).mpr ⟨rfl, vs.set y (some (r.getD i 0)), some (false, .int (i : Int)), by simp [hvl], fun j hj => ?_, by simp [E, ov, List.map_set]⟩
        by_cases hji : j = i
        · subst hji
          rw [hy, List.getElem?_set_self (by omega)]
        · rw [List.getElem?_set_ne, hv j (by omega)]
          intro e
          have hj2 : j < names.length := by omega
          rw [← hy] at e
          have e : names[i] = names[j] := by simpa [List.getD, hi, hj2] using e
          exact hji ((List.getElem_inj nd).mp e).symm
      · intro env h' hJ
        obtain ⟨rfl, vs, x6, hvl, hv, rfl⟩ := (iJ _ _ _).mp hJ
        have hA : Ag f vs (asg names r) := fun x hx => by
          have hx := hin x hx
          have hi := List.idxOf_lt_length_of_mem hx
          have := hv _ hi
          rwa [show names.getD (names.idxOf x) 0 = x by simp [List.getD, hi]] at this
        simp -implicitDefEqProofs [-List.getD_eq_getElem?_getD, -List.map_map, E]
        refine Wp_of (law_truth_ok B.n8 t b t6 d k f h vs (asg names r) hvl hA hp) ?_
        cases hb : tr w f (asg names r) with
        | true =>
          simp -implicitDefEqProofs [-List.getD_eq_getElem?_getD, -List.map_map, show (done.filter p).length < 16777216 by omega]
          exact (iI _ _ _ _).mpr ⟨rfl, by simpa using hdn, some (false, mv r), some (true, .lst (vs.map ov)), x6, by simp [E, List.filter_append, ep, hb]⟩
        | false =>
          simp -implicitDefEqProofs [-List.getD_eq_getElem?_getD, -List.map_map]
          exact (iI _ _ _ _).mpr ⟨rfl, by simpa using hdn, some (false, mv r), some (true, .lst (vs.map ov)), x6, by simp [E, List.filter_append, ep, hb]⟩
    · intro env h' hI
      obtain ⟨rfl, hdn, x4, x5, x6, rfl⟩ := (iI _ _ _ _).mp hI
      simp -implicitDefEqProofs [-List.getD_eq_getElem?_getD, -List.map_map]
      exact (hP _ _).mpr ⟨rfl, x4, x5, x6, rfl⟩
  obtain ⟨rfl, x4, x5, x6, rfl⟩ := (hP _ _).mp hh
  have hfl := List.length_filter_le p (tps w.n names.length)
  simp -implicitDefEqProofs [-List.getD_eq_getElem?_getD, -List.map_map, E, show ((tps w.n names.length).filter p).length ≤ 16777216 by omega]
/-- whether a row fits a table -/
def fitsB (T : Tb) (names : List Nat) (r : Row) : Bool := decide ((T.1.map fun x => r.getD (names.idxOf x) 0) ∈ T.2)
theorem fits_ok {n t : Nat} (B : Bnd n t) {T : Tb} (hT : TOk n t T) {names : List Nat} (hs : ∀ x ∈ T.1, x ∈ names) {r : Row} (hr : r.length = names.length) (hl : names.length ≤ 100) (k : Nat) (hp : Hs) :
    callF G (k + 1) 36 [tv T, .tup (names.map nt), mv r] hp = some ((false, .bl (fitsB T names r)), hp) := by
  have nl := hT.nl
  have t6 := B.t6
  refine call_eq fn_law_fits rfl rfl ?_
  simp -implicitDefEqProofs [-List.getD_eq_getElem?_getD, -List.map_map, b_law_fits]
  refine Wp_of (lcE_map1 (enc := nt) (g := fun x => nt (r.getD (names.idxOf x) 0)) fun x hx => ?_) ?_
  · have ix := ntOk.index_tup x names (by decide) (hs x hx)
    simp only [nt_eq] at ix
    have hi := List.idxOf_lt_length_of_mem (hs x hx)
    obtain ⟨i, hie⟩ : ∃ i, names.idxOf x = i := ⟨_, rfl⟩
    rw [hie] at ix hi
    have n2 := nt_at' (l := r) (q := i) (by omega)
    refine Wp_eq ?_
    simp -implicitDefEqProofs [-List.getD_eq_getElem?_getD, -List.map_map, ix, hie, n2]
  · rw [show (T.1.map fun x => nt (r.getD (names.idxOf x) 0)) = (T.1.map fun x => r.getD (names.idxOf x) 0).map nt by rw [List.map_map]; rfl]
    simp -implicitDefEqProofs [-List.getD_eq_getElem?_getD, -List.map_map, show T.1.length ≤ 16777216 by omega, fitsB]
theorem fits_map {T : Tb} {names : List Nat} (hs : ∀ x ∈ T.1, x ∈ names) (ρ : Asg) : fitsB T names (names.map ρ) = true ↔ T.1.map ρ ∈ T.2 := by
  unfold fitsB
  rw [decide_eq_true_eq, List.map_congr_left fun x hx => getD_map names ρ (hs x hx)]
theorem mv_dt (r : Row) (h : r.length ≤ 1000000) : Dt 1 (mv r) := .tup (by simpa using h) fun x hx => by obtain ⟨a, _, rfl⟩ := List.mem_map.mp hx; exact .int _
theorem tv_dt {n t : Nat} (B : Bnd n t) {T : Tb} (hT : TOk n t T) : Dt 3 (tv T) := by
  have nl := hT.nl
  have t6 := B.t6
  have Tl := TOk.tl B hT
  refine .tup (by simp) fun x hx => ?_
  simp at hx
  rcases hx with rfl | rfl
  · exact .tup (by simp; omega) fun x hx => by obtain ⟨a, _, rfl⟩ := List.mem_map.mp hx; exact .int _
  · refine .tup (by simp; omega) fun x hx => ?_
    obtain ⟨r, hr, rfl⟩ := List.mem_map.mp hx
    exact mv_dt r (by have := (hT.rw_.mem r hr).1; omega)
theorem tv_equal {n t : Nat} (B : Bnd n t) {T : Tb} (hT : TOk n t T) (k : Nat) (hp : Hs) : callF G (k + 5) 19 [tv T, tv T] hp = some ((false, .bl true), hp) := equal_self k 3 (tv_dt B hT) hp
end K94
set_option maxRecDepth 100000
set_option maxHeartbeats 4000000
namespace K94
open PySem (Str)
open MP MX
/-! ### the law's last part: rows counted for a name -/
theorem rb_Hp (a : Nat) : rbAll (Hp a).length (Hp a) = true := rfl
/-- the law's dict of names -/
def whD (x item : Nat) (left r : List Nat) (i : Nat) : List (Nat × Nat) := (x, item) :: (List.range i).map fun j => (left.getD j 0, r.getD j 0)
theorem whD_keys (x item : Nat) (left r : List Nat) (i : Nat) : (whD x item left r i).map (·.1) = x :: (List.range i).map fun j => left.getD j 0 := by
  simp [whD]
theorem whD_nin {x item : Nat} {left r : List Nat} {i : Nat} (hn : left.Nodup) (hx : x ∉ left) (hi : i < left.length) : left.getD i 0 ∉ (whD x item left r i).map (·.1) := by
  rw [whD_keys]
  have gi : left.getD i 0 = left[i] := by simp [List.getD, hi]
  simp only [List.mem_cons, List.mem_map, List.mem_range, not_or, not_exists, not_and]
  refine ⟨fun e => hx (by rw [← e, gi]; exact List.getElem_mem hi), fun j hj e => ?_⟩
  have gj : left.getD j 0 = left[j] := by simp [List.getD, show j < left.length by omega]
  rw [gi, gj] at e
  have := (List.getElem_inj hn).mp e
  omega
theorem whD_nd {x item : Nat} {left r : List Nat} {i : Nat} (hn : left.Nodup) (hx : x ∉ left) (hi : i ≤ left.length) : ((whD x item left r i).map (·.1)).Nodup := by
  rw [whD_keys, List.nodup_cons]
  constructor
  · simp only [List.mem_map, List.mem_range, not_exists, not_and]
    intro j hj e
    refine hx ?_
    rw [← e, show left.getD j 0 = left[j]'(by omega) by simp [List.getD, show j < left.length by omega]]
    exact List.getElem_mem _
  · rw [List.nodup_iff_pairwise_ne, List.pairwise_map]
    refine List.Pairwise.imp_of_mem ?_ (List.nodup_range (n := i))
    intro a b ha hb hne e
    have ha := List.mem_range.mp ha
    have hb := List.mem_range.mp hb
    rw [show left.getD a 0 = left[a]'(by omega) by simp [List.getD, show a < left.length by omega], show left.getD b 0 = left[b]'(by omega) by simp [List.getD, show b < left.length by omega]] at e
    exact hne ((List.getElem_inj hn).mp e)
theorem lookup_of_mem {α β : Type} [BEq α] [LawfulBEq α] : ∀ {L : List (α × β)} {a : α} {b : β}, (L.map (·.1)).Nodup → (a, b) ∈ L → L.lookup a = some b
  | [], _, _, _, h => by simp at h
  | p :: L, a, b, hn, h => by
    rw [List.map_cons, List.nodup_cons] at hn
    rcases List.mem_cons.mp h with rfl | h
    · simp
    · have : (a == p.1) = false := by
        simp only [beq_eq_false_iff_ne]
        rintro rfl
        exact hn.1 (List.mem_map.mpr ⟨_, h, rfl⟩)
      have e : L.lookup a = some b := lookup_of_mem hn.2 h
      obtain ⟨c, d⟩ := p
      rw [List.lookup_cons, this]
      exact e
theorem whD_look {x item : Nat} {left r : List Nat} (hn : left.Nodup) (hx : x ∉ left) {y : Nat} (hy : y = x ∨ y ∈ left) : (whD x item left r left.length).lookup y = some (up (asg left r) x item y) := by
  refine lookup_of_mem (whD_nd hn hx (Nat.le_refl _)) ?_
  unfold up
  by_cases h : y = x
  · subst h; rw [if_pos rfl]; simp [whD]
  · rw [if_neg h]
    have hy := hy.resolve_left h
    have hi := List.idxOf_lt_length_of_mem hy
    refine List.mem_cons_of_mem _ (List.mem_map.mpr ⟨left.idxOf y, List.mem_range.mpr hi, ?_⟩)
    simp [asg, List.getD, hi]
theorem wh_put (x item : Nat) {left r : List Nat} {i : Nat} (hn : left.Nodup) (hx : x ∉ left) (hi : i < left.length) (hl : left.length ≤ 1000) :
    putP (.dct ((whD x item left r i).map fun p => (nt p.1, nt p.2))) (nt (left.getD i 0)) (nt (r.getD i 0)) = some (.dct ((whD x item left r (i + 1)).map fun p => (nt p.1, nt p.2))) := by
  have h1 := okKey_s (enc := nt) (fun _ => rfl) nt (left.getD i 0) (whD x item left r i)
  have h2 := setKv_new ntOk nt (left.getD i 0) (r.getD i 0) (whD x item left r i) (whD_nin hn hx hi)
  have e : whD x item left r (i + 1) = whD x item left r i ++ [(left.getD i 0, r.getD i 0)] := by simp [whD, List.range_succ]
  rw [putP_dct, h1, h2, e]
  have : (whD x item left r i).length = i + 1 := by simp [whD]
  simp [this]
  omega
theorem wh_get (x item : Nat) {left r : List Nat} (hn : left.Nodup) (hx : x ∉ left) {y : Nat} (hy : y = x ∨ y ∈ left) :
    idxP (.dct ((whD x item left r left.length).map fun p => (nt p.1, nt p.2))) (nt y) = some (nt (up (asg left r) x item y)) := by
  have h1 := okKey_s (enc := nt) (fun _ => rfl) nt y (whD x item left r left.length)
  rw [idx_dct, h1]
  have := getKv_enc ntOk nt y (whD x item left r left.length)
  rw [whD_look hn hx hy] at this
  simpa using this
def cntL (n : Nat) (T : Tb) (x : Nat) (left : List Nat) (r : Row) : Nat := (List.range n).countP fun a => decide (T.1.map (up (asg left r) x a) ∈ T.2)
theorem end_ok {w : Wld} (B : Bnd w.n 3) {T : Tb} (hT : TOk w.n 3 T) {rows : List Nat} (P : Pool rows) (a : Nat) (ha : a ≤ 900000) (o1 : Bool) (y0 y3 y4 y6 y7 y8 y9 y10 y11 y16 y17 y18 y22 y23 y24 : Option Rv) :
    Wp (exec G.cst (callF G 19) WF (dropS 15 b_law) [y0, some (o1, pl rows), some (false, wv w), y3, y4, some (false, tv T), y6, y7, y8, y9, y10, y11, none, none, none, none, y16, y17, y18, none, none, none, y22, y23, y24] (Hp a)) fun r => r.1 = .rt (false, .bl true) ∧ ∃ a, r.2.2 = Hp a := by
  obtain ⟨x, hx, ex⟩ := pick_ok 18 P a (by omega) 3 (by decide)
  obtain ⟨m, hm, em⟩ := pick_ok 18 P (a + 1) (by omega) 4 (by decide)
  have nl := hT.nl
  have n8 := B.n8
  have Tl := TOk.tl B hT
  obtain ⟨S, s1, s2, s3, es⟩ := counted_ok B hT x (1 + m) (by omega) 18 (Hp (a + 1 + 1))
  obtain ⟨left, hleft⟩ : ∃ l, (T.1.filter fun y => !decide (y = x)) = l := ⟨_, rfl⟩
  have hmem : ∀ y, y ∈ left ↔ y ∈ T.1 ∧ y ≠ x := fun y => by rw [← hleft]; simp
  have ll : left.length ≤ 3 := by rw [← hleft]; exact Nat.le_trans (List.length_filter_le _ _) nl
  have lp : left.Pairwise (· < ·) := by rw [← hleft]; exact List.Pairwise.filter _ hT.nm
  have ln : left.Nodup := lp.imp fun z => Nat.ne_of_lt z
  have lx : x ∉ left := fun h => ((hmem x).mp h).2 rfl
  have ly : ∀ y ∈ T.1, y = x ∨ y ∈ left := fun y hy => by
    by_cases h : y = x
    · exact .inl h
    · exact .inr ((hmem y).mpr ⟨hy, h⟩)
  let p : Row → Bool := fun r => decide (1 + m ≤ cntL w.n T x left r)
  have K0 : TOk w.n 3 (keepT w.n left p) := keep_ok lp (fun y hy => hT.lt y ((hmem y).mp hy).1) p
  have eS : S = keepT w.n left p := by
    rw [hleft] at s2
    refine tb_eq B.pos s2 s1.nd s1.rw_ K0.rw_ s3 (Sem.filter (P := fun ρ => 1 + m ≤ (List.range w.n).countP fun a => decide (T.1.map (up ρ x a) ∈ T.2)) fun ρ hρ => ?_) fun ρ hρ => Iff.rfl
    show decide (1 + m ≤ cntL w.n T x left (left.map ρ)) = true ↔ _
    have : cntL w.n T x left (left.map ρ) = (List.range w.n).countP fun a => decide (T.1.map (up ρ x a) ∈ T.2) := by
      unfold cntL
      refine List.countP_congr fun a _ => ?_
      rw [show T.1.map (up (asg left (left.map ρ)) x a) = T.1.map (up ρ x a) from List.map_congr_left fun y hy => by
        unfold up
        by_cases h : y = x
        · rw [if_pos h, if_pos h]
        · rw [if_neg h, if_neg h]
          exact asg_of_map left ρ ((ly y hy).resolve_left h)]
    rw [decide_eq_true_eq, this]
  rw [eS] at es
  have tl : (tps w.n left.length).length ≤ 1000 := by rw [len_tps]; exact B.le ll
  let E (y14 y15 y16 y19 y20 y21 y22 y24 : Option Rv) : FEnv := [y0, some (o1, pl rows), some (false, wv w), y3, y4, some (false, tv T), y6, y7, y8, y9, y10, y11, some (false, .int (x : Int)), some (false, .int ((1 + m : Nat) : Int)), y14, y15, y16, y17, y18, y19, y20, y21, y22, y23, y24]
  obtain ⟨Q, hQ⟩ := mkI1 fun r : Flow × FEnv × Hs => r.1 = .rt (false, .bl true) ∧ ∃ a, r.2.2 = Hp a
  refine Wp.mono (P := Q) ?_ fun r hr => (hQ r).mp hr
  show Wp (exec G.cst (callF G 19) WF (dropS 15 b_law) _ _) Q
  simp only [dropS, b_law]
  refine Wp_seq1 (env' := [y0, some (o1, pl rows), some (false, wv w), y3, y4, some (false, tv T), y6, y7, y8, y9, y10, y11, some (false, .int (x : Int)), none, none, none, y16, y17, y18, none, none, none, y22, y23, y24]) (hp' := Hp (a + 1)) ?_ ?_
  · simp -implicitDefEqProofs [-List.getD_eq_getElem?_getD, -List.map_map]
    refine Wp_of ex ?_
    simp -implicitDefEqProofs [-List.getD_eq_getElem?_getD, -List.map_map]
  refine Wp_seq1 (env' := E none none y16 none none none y22 y24) (hp' := Hp (a + 1 + 1)) ?_ ?_
  · simp -implicitDefEqProofs [-List.getD_eq_getElem?_getD, -List.map_map]
    refine Wp_of em ?_
    simp -implicitDefEqProofs [-List.getD_eq_getElem?_getD, -List.map_map, E]
  refine Wp_seq1 (env' := E (some (false, .tup (left.map nt))) none y16 none none none y22 y24) (hp' := Hp (a + 1 + 1)) ?_ ?_
  · simp -implicitDefEqProofs [-List.getD_eq_getElem?_getD, -List.map_map, E]
    refine Wp_of (lcE_filter (enc := nt) (p := fun y => !decide (y = x)) (g := nt) fun y hy => ?_) ?_
    · refine Wp_eq ?_
      by_cases h : y = x
      · simp -implicitDefEqProofs [-List.getD_eq_getElem?_getD, -List.map_map, h]
      · have h2 : ¬ (y : Int) = (x : Int) := by omega
        simp -implicitDefEqProofs [-List.getD_eq_getElem?_getD, -List.map_map, h, h2]
    · rw [hleft]
      simp -implicitDefEqProofs [-List.getD_eq_getElem?_getD, -List.map_map, show left.length ≤ 16777216 by omega, E]
  refine Wp_seq1 (env' := E (some (false, .tup (left.map nt))) (some (true, .lst [])) y16 none none none y22 y24) (hp' := Hp (a + 1 + 1)) (by simp -implicitDefEqProofs [-List.getD_eq_getElem?_getD, -List.map_map, E]) ?_
  obtain ⟨hA, hhA⟩ : ∃ h, Hp (a + 1 + 1) = h := ⟨_, rfl⟩
  rw [hhA] at es ⊢
  have hb' : ∃ b, hA = Hp b := ⟨_, hhA.symm⟩
  obtain ⟨P1, hP1⟩ := mkI2 fun (e : FEnv) (h : Hs) => hA = h ∧ ∃ z16 z19 z20 z21 z22 z24, e = E (some (false, .tup (left.map nt))) (some (true, .lst (((tps w.n left.length).filter p).map mv))) z16 z19 z20 z21 z22 z24
  refine Wp_seq P1 ?_ fun e h' hh => ?_
  · simp -implicitDefEqProofs [-List.getD_eq_getElem?_getD, -List.map_map, E]
    refine Wp_of (law_tuples_ok 18 w.n left.length (B.tps ll) B.n8 (by omega) hA) ?_
    simp -implicitDefEqProofs [-List.getD_eq_getElem?_getD, -List.map_map]
    obtain ⟨I, iI⟩ := mkI4 (fun (done rest : List Row) (env : FEnv) (h : Hs) => hA = h ∧ done ++ rest = tps w.n left.length ∧ ∃ z16 z19 z20 z21 z22 z24, env = E (some (false, .tup (left.map nt))) (some (true, .lst ((done.filter p).map mv))) z16 z19 z20 z21 z22 z24)
    refine Wp_for (enc := mv) I ?_ (tps w.n left.length) [] _ _ ((iI _ _ _ _).mpr ⟨rfl, rfl, y16, none, none, none, y22, y24, by simp [E]⟩) ?_
    · intro done r rest env h' hI
      obtain ⟨rfl, hdn, z16, z19, z20, z21, z22, z24, rfl⟩ := (iI _ _ _ _).mp hI
      have hr : r ∈ tps w.n left.length := by rw [← hdn]; simp
      have hrl := (mem_tps.mp hr).1
      have hdl : done.length + rest.length + 1 ≤ 1000 := by
        rw [← hdn] at tl; simp at tl; omega
      have hfl := List.length_filter_le p done
      simp -implicitDefEqProofs [-List.getD_eq_getElem?_getD, -List.map_map, E, rng_nt w.n (by omega)]
      rw [← upTo_nt]
      obtain ⟨c, hc⟩ : ∃ c : Nat → Nat, c = fun i => (List.range i).countP fun a => decide (T.1.map (up (asg left r) x a) ∈ T.2) := ⟨_, rfl⟩
      obtain ⟨J, iJ⟩ := mkI3 (fun (i : Nat) (env : FEnv) (h : Hs) => hA = h ∧ ∃ z20 z21 z22 z24, env = E (some (false, .tup (left.map nt))) (some (true, .lst ((done.filter p).map mv))) (some (false, mv r)) (some (false, .int ((c i : Nat) : Int))) z20 z21 z22 z24)
      refine Wp_rng w.n J ((iJ _ _ _).mpr ⟨rfl, z20, z21, z22, z24, by simp [E, hc]⟩) ?_ ?_
      · intro i env h' hi hJ
        obtain ⟨rfl, z20, z21, z22, z24, rfl⟩ := (iJ _ _ _).mp hJ
        have hci : c (i + 1) = c i + if decide (T.1.map (up (asg left r) x i) ∈ T.2) = true then 1 else 0 := by
          rw [hc]
          simp only [List.range_succ, List.countP_append, List.countP_singleton]
        simp -implicitDefEqProofs [-List.getD_eq_getElem?_getD, -List.map_map, E, rng_nt left.length (by omega), show isKey (.int (x : Int)) = true from rfl]
        rw [← upTo_nt]
        obtain ⟨L, iL⟩ := mkI3 (fun (q : Nat) (env : FEnv) (h : Hs) => hA = h ∧ ∃ z22 z24, env = E (some (false, .tup (left.map nt))) (some (true, .lst ((done.filter p).map mv))) (some (false, mv r)) (some (false, .int ((c i : Nat) : Int))) (some (false, .int (i : Int))) (some (true, .dct ((whD x i left r q).map fun p => (nt p.1, nt p.2)))) z22 z24)
        refine Wp_rng left.length L ((iL _ _ _).mpr ⟨rfl, z22, z24, by simp [E, whD]⟩) ?_ ?_
        · intro q env h' hq hL
          obtain ⟨rfl, z22, z24, rfl⟩ := (iL _ _ _).mp hL
          have n1 := nt_at' (l := left) hq
          have n2 := nt_at' (l := r) (q := q) (by omega)
          have pt := wh_put x i (r := r) ln lx hq (by omega)
          simp only [nt_eq] at pt
          simp -implicitDefEqProofs [-List.getD_eq_getElem?_getD, -List.map_map, E, n1, n2]
          refine Wp_of pt ?_
          exact (iL (q + 1) _ _).mpr ⟨rfl, some (false, .int (q : Int)), z24, by simp [E]⟩
        · intro env h' hL
          obtain ⟨rfl, z22, z24, rfl⟩ := (iL _ _ _).mp hL
          simp -implicitDefEqProofs [-List.getD_eq_getElem?_getD, -List.map_map, E]
          refine Wp_of (lcE_map1 (enc := nt) (g := fun y => nt (up (asg left r) x i y)) fun y hy => ?_) ?_
          · have gt := wh_get x i (r := r) ln lx (ly y hy)
            simp only [nt_eq] at gt
            refine Wp_eq ?_
            simp -implicitDefEqProofs [-List.getD_eq_getElem?_getD, -List.map_map, gt]
          · rw [show (T.1.map fun y => nt (up (asg left r) x i y)) = (T.1.map (up (asg left r) x i)).map nt by rw [List.map_map]; rfl]
            by_cases hin : T.1.map (up (asg left r) x i) ∈ T.2
            · rw [if_pos (by simp [hin])] at hci
              simp -implicitDefEqProofs [-List.getD_eq_getElem?_getD, -List.map_map, show T.1.length ≤ 16777216 by omega, hin]
              exact (iJ (i + 1) _ _).mpr ⟨rfl, _, _, _, _, by rw [hci]; simp [E]; exact ⟨rfl, rfl, rfl, rfl⟩⟩
            · rw [if_neg (by simp [hin])] at hci
              simp -implicitDefEqProofs [-List.getD_eq_getElem?_getD, -List.map_map, show T.1.length ≤ 16777216 by omega, hin]
              exact (iJ (i + 1) _ _).mpr ⟨rfl, _, _, _, _, by rw [hci]; simp [E]; exact ⟨rfl, rfl, rfl, rfl⟩⟩
      · intro env h' hJ
        obtain ⟨rfl, z20, z21, z22, z24, rfl⟩ := (iJ _ _ _).mp hJ
        have pc : p r = decide (1 + m ≤ c w.n) := by rw [hc]; rfl
        have hfd : (done.filter p).length < 16777216 := by omega
        by_cases hge : 1 + m ≤ c w.n
        · have hge2 : (1 : Int) + (m : Int) ≤ ((c w.n : Nat) : Int) := by omega
          simp -implicitDefEqProofs [-List.getD_eq_getElem?_getD, -List.map_map, E, hge, hge2, hfd]
          exact (iI _ _ _ _).mpr ⟨rfl, by simpa using hdn, some (false, mv r), some (false, .int ((c w.n : Nat) : Int)), z20, z21, z22, z24, by simp [E, List.filter_append, pc, hge]⟩
        · have hge2 : ¬ (1 : Int) + (m : Int) ≤ ((c w.n : Nat) : Int) := by omega
          simp -implicitDefEqProofs [-List.getD_eq_getElem?_getD, -List.map_map, E, hge, hge2]
          exact (iI _ _ _ _).mpr ⟨rfl, by simpa using hdn, some (false, mv r), some (false, .int ((c w.n : Nat) : Int)), z20, z21, z22, z24, by simp [E, List.filter_append, pc, hge]⟩
    · intro env h' hI
      obtain ⟨rfl, hdn, z16, z19, z20, z21, z22, z24, rfl⟩ := (iI _ _ _ _).mp hI
      simp -implicitDefEqProofs [-List.getD_eq_getElem?_getD, -List.map_map]
      exact (hP1 _ _).mpr ⟨rfl, z16, z19, z20, z21, z22, z24, rfl⟩
  obtain ⟨rfl, z16, z19, z20, z21, z22, z24, rfl⟩ := (hP1 _ _).mp hh
  have hfl := List.length_filter_le p (tps w.n left.length)
  have eq := tv_equal B K0 14 hA
  have es : callF G 19 13 [wv w, tv T, .int (x : Int), .int ((1 + m : Nat) : Int)] hA = some ((false, tv (keepT w.n left p)), hA) := es
  simp -implicitDefEqProofs [-List.getD_eq_getElem?_getD, -List.map_map, E]
  refine Wp_of es ?_
  simp -implicitDefEqProofs [-List.getD_eq_getElem?_getD, -List.map_map, show ((tps w.n left.length).filter p).length ≤ 16777216 by omega]
  refine Wp_of eq ?_
  simp -implicitDefEqProofs [-List.getD_eq_getElem?_getD, -List.map_map]
  obtain ⟨b, rfl⟩ := hb'
  exact (hQ _).mpr ⟨rfl, b, rfl⟩
end K94
set_option maxRecDepth 100000
set_option maxHeartbeats 4000000
namespace K94
open PySem (Str)
open MP MX
/-! ### the law's middle part: joined, meet, union, complement -/
theorem range_filter (L : List Row) (p : Row → Bool) : ((List.range L.length).filter fun k => p (L.getD k [])).map (fun k => mv (L.getD k [])) = (L.filter p).map mv := by
  have e : (List.range L.length).map (fun k => L.getD k []) = L := by
    refine List.ext_getElem (by simp) fun i h1 h2 => ?_
    simp [List.getD, h2]
  conv => rhs; rw [← e]
  rw [List.filter_map, List.map_map]
  rfl
theorem in3 (b a1 a2 a3 : Bool) : cmpP .isin (.bl b) (.lst [.bl a1, .bl a2, .bl a3]) = some (b == a1 || (b == a2 || b == a3)) := by
  cases b <;> cases a1 <;> cases a2 <;> cases a3 <;> rfl
theorem nin3 (b a1 a2 a3 : Bool) : cmpP .nin (.bl b) (.lst [.bl a1, .bl a2, .bl a3]) = some (!(b == a1 || (b == a2 || b == a3))) := by
  cases b <;> cases a1 <;> cases a2 <;> cases a3 <;> rfl
theorem mid_ok {w : Wld} (B : Bnd w.n 3) {T1 T2 T3 : Tb} (h1 : TOk w.n 3 T1) (h2 : TOk w.n 3 T2) (h3 : TOk w.n 3 T3) {rows : List Nat} (P : Pool rows) (a : Nat) (ha : a ≤ 900000) (o1 : Bool) (y0 y4 y17 y18 : Option Rv) :
    Wp (exec G.cst (callF G 19) WF (dropS 4 b_law) [y0, some (o1, pl rows), some (false, wv w), some (true, .lst [tv T1, tv T2, tv T3]), y4, none, none, none, none, none, none, none, none, none, none, none, none, y17, y18, none, none, none, none, none, none] (Hp a)) fun r => r.1 = .rt (false, .bl true) ∧ ∃ a, r.2.2 = Hp a := by
  have n8 := B.n8
  have l1 := h1.nl
  have l2 := h2.nl
  have l3 := h3.nl
  have L1 := TOk.tl B h1
  obtain ⟨Q, hQ⟩ := mkI1 fun r : Flow × FEnv × Hs => r.1 = .rt (false, .bl true) ∧ ∃ a, r.2.2 = Hp a
  refine Wp.mono (P := Q) ?_ fun r hr => (hQ r).mp hr
  have fin : ∀ (o1 : Bool) (y0 y3 y4 y8 y9 y10 y11 y17 y18 : Option Rv), Wp (exec G.cst (callF G 19) WF (dropS 15 b_law) [y0, some (o1, pl rows), some (false, wv w), y3, y4, some (false, tv T1), some (false, tv T2), some (false, tv T3), y8, y9, y10, y11, none, none, none, none, none, y17, y18, none, none, none, none, none, none] (Hp a)) Q := fun o1 y0 y3 y4 y8 y9 y10 y11 y17 y18 =>
    (end_ok B h1 P a ha o1 _ _ _ _ _ _ _ _ _ _ _ _ _ _ _).mono fun r hr => (hQ r).mpr hr
  have hb := rb_Hp a
  generalize hAe : Hp a = hA at fin hb ⊢
  -- joined
  have nlt1 : ∀ x ∈ su (T1.1 ++ T2.1), x < 3 := fun x hx => by
    rcases List.mem_append.mp (mem_su.mp hx) with h | h
    · exact h1.lt x h
    · exact h2.lt x h
  have s11 : ∀ x ∈ T1.1, x ∈ su (T1.1 ++ T2.1) := fun x hx => mem_su.mpr (by simp [hx])
  have s12 : ∀ x ∈ T2.1, x ∈ su (T1.1 ++ T2.1) := fun x hx => mem_su.mpr (by simp [hx])
  have nd1 := su_nd (T1.1 ++ T2.1)
  have np1 := su_p (T1.1 ++ T2.1)
  obtain ⟨_, _, j3, j4⟩ := join_ok B.pos h1 h2
  have ej := joined_ok B h1 h2 17 hA hb
  have eu1 := unlike_ntT (T1.1 ++ T2.1) (by simp; omega) 18 hA
  rw [List.map_append] at eu1
  have e0 : (joinT T1 T2).1 = su (T1.1 ++ T2.1) := rfl
  generalize su (T1.1 ++ T2.1) = names1 at *
  have nl1 := nodup_le nd1 nlt1
  let p1 : Row → Bool := fun r => fitsB T1 names1 r && fitsB T2 names1 r
  have K1 : TOk w.n 3 (keepT w.n names1 p1) := keep_ok np1 nlt1 p1
  have tl1 : (tps w.n names1.length).length ≤ 1000 := by rw [len_tps]; exact B.le nl1
  have eq1 : joinT T1 T2 = keepT w.n names1 p1 := by
    refine tb_eq B.pos e0 j3.nd j3.rw_ K1.rw_ j4 (Sem.filter (P := fun ρ => T1.1.map ρ ∈ T1.2 ∧ T2.1.map ρ ∈ T2.2) fun ρ hρ => ?_) fun ρ hρ => Iff.rfl
    show (fitsB T1 names1 (names1.map ρ) && fitsB T2 names1 (names1.map ρ)) = true ↔ _
    rw [Bool.and_eq_true, fits_map s11, fits_map s12]
  rw [eq1] at ej
  let E (y8 y9 y10 y11 : Option Rv) : FEnv := [y0, some (o1, pl rows), some (false, wv w), some (false, .lst [tv T1, tv T2, tv T3]), y4, some (false, tv T1), some (false, tv T2), some (false, tv T3), y8, y9, y10, y11, none, none, none, none, none, y17, y18, none, none, none, none, none, none]
  simp only [dropS, b_law] at fin ⊢
  refine Wp_seq1 (env' := E none none none none) (hp' := hA) (by simp -implicitDefEqProofs [-List.getD_eq_getElem?_getD, -List.map_map, E]) ?_
  refine Wp_seq1 (env' := E (some (false, .tup (names1.map nt))) none none none) (hp' := hA) ?_ ?_
  · simp -implicitDefEqProofs [-List.getD_eq_getElem?_getD, -List.map_map, E, show T1.1.length + T2.1.length ≤ 16777216 by omega]
    refine Wp_of eu1 ?_
    simp -implicitDefEqProofs [-List.getD_eq_getElem?_getD, -List.map_map]
  refine Wp_seq1 (env' := E (some (false, .tup (names1.map nt))) (some (true, .lst ((tps w.n names1.length).map mv))) none none) (hp' := hA) ?_ ?_
  · simp -implicitDefEqProofs [-List.getD_eq_getElem?_getD, -List.map_map, E]
    refine Wp_of (law_tuples_ok 18 w.n names1.length (B.tps nl1) B.n8 (by omega) hA) ?_
    simp -implicitDefEqProofs [-List.getD_eq_getElem?_getD, -List.map_map]
  refine Wp_seq1 (env' := E (some (false, .tup (names1.map nt))) (some (true, .lst ((tps w.n names1.length).map mv))) none none) (hp' := hA) ?_ ?_
  · simp -implicitDefEqProofs [-List.getD_eq_getElem?_getD, -List.map_map, E]
    refine Wp_of ej ?_
    simp -implicitDefEqProofs [-List.getD_eq_getElem?_getD, -List.map_map]
    refine Wp_of (lcE_filter (enc := mv) (p := p1) (g := mv) fun r hr => ?_) ?_
    · have hrl := (mem_tps.mp hr).1
      refine Wp_eq ?_
      simp -implicitDefEqProofs [-List.getD_eq_getElem?_getD, -List.map_map]
      refine Wp_of (fits_ok B h1 s11 hrl (by omega) 18 hA) ?_
      cases f1 : fitsB T1 names1 r with
      | false => simp -implicitDefEqProofs [-List.getD_eq_getElem?_getD, -List.map_map, p1, f1]
      | true =>
        simp -implicitDefEqProofs [-List.getD_eq_getElem?_getD, -List.map_map]
        refine Wp_of (fits_ok B h2 s12 hrl (by omega) 18 hA) ?_
        cases f2 : fitsB T2 names1 r with
        | false => simp -implicitDefEqProofs [-List.getD_eq_getElem?_getD, -List.map_map, p1, f1, f2]
        | true => simp -implicitDefEqProofs [-List.getD_eq_getElem?_getD, -List.map_map, p1, f1, f2]
    · have hfl := List.length_filter_le p1 (tps w.n names1.length)
      simp -implicitDefEqProofs [-List.getD_eq_getElem?_getD, -List.map_map, show ((tps w.n names1.length).filter p1).length ≤ 16777216 by omega]
      refine Wp_of (tv_equal B K1 14 hA) ?_
      simp -implicitDefEqProofs [-List.getD_eq_getElem?_getD, -List.map_map]
  -- meet and union
  have em2 : meetN [T1, T2, T3] = su (T1.1 ++ T2.1 ++ T3.1) := by simp [meetN]
  have hTs : ∀ T ∈ [T1, T2, T3], TOk w.n 3 T := fun T h => by
    simp at h; rcases h with rfl | rfl | rfl <;> assumption
  have nlt2 : ∀ x ∈ su (T1.1 ++ T2.1 ++ T3.1), x < 3 := fun x hx => by
    have := mem_su.mp hx
    simp only [List.mem_append] at this
    rcases this with (h | h) | h
    · exact h1.lt x h
    · exact h2.lt x h
    · exact h3.lt x h
  have s21 : ∀ x ∈ T1.1, x ∈ su (T1.1 ++ T2.1 ++ T3.1) := fun x hx => mem_su.mpr (by simp [hx])
  have s22 : ∀ x ∈ T2.1, x ∈ su (T1.1 ++ T2.1 ++ T3.1) := fun x hx => mem_su.mpr (by simp [hx])
  have s23 : ∀ x ∈ T3.1, x ∈ su (T1.1 ++ T2.1 ++ T3.1) := fun x hx => mem_su.mpr (by simp [hx])
  have nd2 := su_nd (T1.1 ++ T2.1 ++ T3.1)
  have np2 := su_p (T1.1 ++ T2.1 ++ T3.1)
  obtain ⟨M, m1, m2, m3, em⟩ := meet_ok B [T1, T2, T3] (by simp) hTs 16 hA hb
  obtain ⟨U, u1, u2, u3, eu⟩ := union_ok B [T1, T2, T3] (by simp) hTs 16 hA
  have eu2 := unlike_ntT (T1.1 ++ T2.1 ++ T3.1) (by simp; omega) 18 hA
  rw [List.map_append, List.map_append] at eu2
  rw [em2] at m2 u2
  generalize su (T1.1 ++ T2.1 ++ T3.1) = names2 at *
  have nl2 := nodup_le nd2 nlt2
  let p2 : Row → Bool := fun r => fitsB T1 names2 r && (fitsB T2 names2 r && fitsB T3 names2 r)
  let p3 : Row → Bool := fun r => fitsB T1 names2 r || (fitsB T2 names2 r || fitsB T3 names2 r)
  have K2 : TOk w.n 3 (keepT w.n names2 p2) := keep_ok np2 nlt2 p2
  have K3 : TOk w.n 3 (keepT w.n names2 p3) := keep_ok np2 nlt2 p3
  have tl2 : (tps w.n names2.length).length ≤ 1000 := by rw [len_tps]; exact B.le nl2
  have eq2 : M = keepT w.n names2 p2 := by
    refine tb_eq B.pos m2 m1.nd m1.rw_ K2.rw_ m3 (Sem.filter (P := fun ρ => ∀ T ∈ [T1, T2, T3], T.1.map ρ ∈ T.2) fun ρ hρ => ?_) fun ρ hρ => Iff.rfl
    show (fitsB T1 names2 (names2.map ρ) && (fitsB T2 names2 (names2.map ρ) && fitsB T3 names2 (names2.map ρ))) = true ↔ _
    rw [Bool.and_eq_true, Bool.and_eq_true, fits_map s21, fits_map s22, fits_map s23]
    simp
  have eq3 : U = keepT w.n names2 p3 := by
    refine tb_eq B.pos u2 u1.nd u1.rw_ K3.rw_ u3 (Sem.filter (P := fun ρ => ∃ T ∈ [T1, T2, T3], T.1.map ρ ∈ T.2) fun ρ hρ => ?_) fun ρ hρ => Iff.rfl
    show (fitsB T1 names2 (names2.map ρ) || (fitsB T2 names2 (names2.map ρ) || fitsB T3 names2 (names2.map ρ))) = true ↔ _
    rw [Bool.or_eq_true, Bool.or_eq_true, fits_map s21, fits_map s22, fits_map s23]
    simp
  rw [eq2] at em
  rw [eq3] at eu
  refine Wp_seq1 (env' := E (some (false, .tup (names2.map nt))) (some (true, .lst ((tps w.n names1.length).map mv))) none none) (hp' := hA) ?_ ?_
  · simp -implicitDefEqProofs [-List.getD_eq_getElem?_getD, -List.map_map, E, show T1.1.length + T2.1.length ≤ 16777216 by omega, show T1.1.length + T2.1.length + T3.1.length ≤ 16777216 by omega, show T1.1.length + (T2.1.length + T3.1.length) ≤ 16777216 by omega]
    try simp only [← List.append_assoc]
    refine Wp_of eu2 ?_
    simp -implicitDefEqProofs [-List.getD_eq_getElem?_getD, -List.map_map]
  refine Wp_seq1 (env' := E (some (false, .tup (names2.map nt))) (some (true, .lst ((tps w.n names2.length).map mv))) none none) (hp' := hA) ?_ ?_
  · simp -implicitDefEqProofs [-List.getD_eq_getElem?_getD, -List.map_map, E]
    refine Wp_of (law_tuples_ok 18 w.n names2.length (B.tps nl2) B.n8 (by omega) hA) ?_
    simp -implicitDefEqProofs [-List.getD_eq_getElem?_getD, -List.map_map]
  obtain ⟨L, hL⟩ : ∃ L, tps w.n names2.length = L := ⟨_, rfl⟩
  have hLl : ∀ r ∈ L, r.length = names2.length := fun r hr => by rw [← hL] at hr; exact (mem_tps.mp hr).1
  have k2e : keepT w.n names2 p2 = (names2, L.filter p2) := by rw [← hL]; rfl
  have k3e : keepT w.n names2 p3 = (names2, L.filter p3) := by rw [← hL]; rfl
  rw [k2e] at em K2
  rw [k3e] at eu K3
  rw [hL] at tl2 ⊢
  let fv3 : Row → PV := fun r => .lst [.bl (fitsB T1 names2 r), .bl (fitsB T2 names2 r), .bl (fitsB T3 names2 r)]
  have hlf : lfAll (L.map fv3) = false := by
    have hpos : 0 < L.length := by rw [← hL, len_tps]; exact Nat.pos_of_ne_zero (by have := B.pos; exact Nat.ne_of_gt (Nat.pow_pos (by omega)))
    match L, hpos with
    | r :: L', _ => rfl
  let E2 (y8 y9 y10 y11 : Option Rv) : FEnv := [frz1 y0, some (false, pl rows), some (false, wv w), some (false, .lst [tv T1, tv T2, tv T3]), frz1 y4, some (false, tv T1), some (false, tv T2), some (false, tv T3), y8, y9, y10, y11, none, none, none, none, none, frz1 y17, frz1 y18, none, none, none, none, none, none]
  refine Wp_seq1 (env' := E2 (some (false, .tup (names2.map nt))) (some (false, .lst (L.map mv))) (some (true, .lst (L.map fv3))) none) (hp' := hA) ?_ ?_
  · simp -implicitDefEqProofs [-List.getD_eq_getElem?_getD, -List.map_map, E, E2]
    refine Wp_of (lcE_map1 (enc := mv) (g := fv3) fun r hr => ?_) ?_
    · have hrl := hLl r hr
      refine Wp_eq ?_
      simp -implicitDefEqProofs [-List.getD_eq_getElem?_getD, -List.map_map]
      refine Wp_of (fits_ok B h1 s21 hrl (by omega) 18 hA) ?_
      simp -implicitDefEqProofs [-List.getD_eq_getElem?_getD, -List.map_map]
      refine Wp_of (fits_ok B h2 s22 hrl (by omega) 18 hA) ?_
      simp -implicitDefEqProofs [-List.getD_eq_getElem?_getD, -List.map_map]
      refine Wp_of (fits_ok B h3 s23 hrl (by omega) 18 hA) ?_
      exact ⟨rfl, rfl⟩
    · simp -implicitDefEqProofs [-List.getD_eq_getElem?_getD, -List.map_map, show L.length ≤ 16777216 by omega, hlf]
  have nat_ : ∀ k < L.length, ∃ r, L[k]? = some r ∧ L.getD k [] = r := fun k hk => ⟨L[k], by simp [hk], by simp [List.getD, hk]⟩
  refine Wp_seq1 (env' := E2 (some (false, .tup (names2.map nt))) (some (false, .lst (L.map mv))) (some (true, .lst (L.map fv3))) none) (hp' := hA) ?_ ?_
  · simp -implicitDefEqProofs [-List.getD_eq_getElem?_getD, -List.map_map, E2]
    refine Wp_of em ?_
    simp -implicitDefEqProofs [-List.getD_eq_getElem?_getD, -List.map_map, rng_nt L.length (by omega)]
    refine Wp_of (lcE_filter (enc := nt) (p := fun k => p2 (L.getD k [])) (g := fun k => mv (L.getD k [])) fun k hk => ?_) ?_
    · obtain ⟨r, e1, e2⟩ := nat_ k (List.mem_range.mp hk)
      refine Wp_eq ?_
      rw [e2]
      simp -implicitDefEqProofs [-List.getD_eq_getElem?_getD, -List.map_map, e1, fv3, p2, nin3]
    · rw [range_filter]
      have hfl := List.length_filter_le p2 L
      simp -implicitDefEqProofs [-List.getD_eq_getElem?_getD, -List.map_map, show (L.filter p2).length ≤ 16777216 by omega]
      refine Wp_of (tv_equal B K2 14 hA) ?_
      simp -implicitDefEqProofs [-List.getD_eq_getElem?_getD, -List.map_map]
  refine Wp_seq1 (env' := E2 (some (false, .tup (names2.map nt))) (some (false, .lst (L.map mv))) (some (true, .lst (L.map fv3))) none) (hp' := hA) ?_ ?_
  · simp -implicitDefEqProofs [-List.getD_eq_getElem?_getD, -List.map_map, E2]
    refine Wp_of eu ?_
    simp -implicitDefEqProofs [-List.getD_eq_getElem?_getD, -List.map_map, rng_nt L.length (by omega)]
    refine Wp_of (lcE_filter (enc := nt) (p := fun k => p3 (L.getD k [])) (g := fun k => mv (L.getD k [])) fun k hk => ?_) ?_
    · obtain ⟨r, e1, e2⟩ := nat_ k (List.mem_range.mp hk)
      refine Wp_eq ?_
      rw [e2]
      simp -implicitDefEqProofs [-List.getD_eq_getElem?_getD, -List.map_map, e1, fv3, p3, in3]
      cases fitsB T1 names2 r <;> cases fitsB T2 names2 r <;> cases fitsB T3 names2 r <;> simp -implicitDefEqProofs [-List.getD_eq_getElem?_getD, -List.map_map, e1]
    · rw [range_filter]
      have hfl := List.length_filter_le p3 L
      simp -implicitDefEqProofs [-List.getD_eq_getElem?_getD, -List.map_map, show (L.filter p3).length ≤ 16777216 by omega]
      refine Wp_of (tv_equal B K3 14 hA) ?_
      simp -implicitDefEqProofs [-List.getD_eq_getElem?_getD, -List.map_map]
  -- complement
  let p4 : Row → Bool := fun r => !decide (r ∈ T1.2)
  obtain ⟨C, c1, c2, c3, ec⟩ := compl_ok B h1 17 hA
  have K4 : TOk w.n 3 (keepT w.n T1.1 p4) := keep_ok h1.nm h1.lt p4
  have eq4 : C = keepT w.n T1.1 p4 := tb_eq B.pos c2 c1.nd c1.rw_ K4.rw_ c3 (Sem.filter (P := fun ρ => T1.1.map ρ ∉ T1.2) fun ρ hρ => by simp [p4, keepT]) fun ρ hρ => Iff.rfl
  rw [eq4] at ec
  have tl4 : (tps w.n T1.1.length).length ≤ 1000 := by rw [len_tps]; exact B.le l1
  have hfl4 := List.length_filter_le p4 (tps w.n T1.1.length)
  refine Wp_seq1 (env' := E2 (some (false, .tup (names2.map nt))) (some (false, .lst (L.map mv))) (some (true, .lst (L.map fv3))) (some (false, .tup (((tps w.n T1.1.length).filter p4).map mv)))) (hp' := hA) ?_ ?_
  · simp -implicitDefEqProofs [-List.getD_eq_getElem?_getD, -List.map_map, E2]
    refine Wp_of (law_tuples_ok 18 w.n T1.1.length (B.tps l1) B.n8 (by omega) hA) ?_
    simp -implicitDefEqProofs [-List.getD_eq_getElem?_getD, -List.map_map]
    refine Wp_of (lcE_filter (enc := mv) (p := p4) (g := mv) fun r hr => ?_) ?_
    · refine Wp_eq ?_
      by_cases h : r ∈ T1.2
      · simp -implicitDefEqProofs [-List.getD_eq_getElem?_getD, -List.map_map, h, p4]
      · simp -implicitDefEqProofs [-List.getD_eq_getElem?_getD, -List.map_map, h, p4]
    · simp -implicitDefEqProofs [-List.getD_eq_getElem?_getD, -List.map_map, show ((tps w.n T1.1.length).filter p4).length ≤ 16777216 by omega]
  refine Wp_seq1 (env' := E2 (some (false, .tup (names2.map nt))) (some (false, .lst (L.map mv))) (some (true, .lst (L.map fv3))) (some (false, .tup (((tps w.n T1.1.length).filter p4).map mv)))) (hp' := hA) ?_ ?_
  · simp -implicitDefEqProofs [-List.getD_eq_getElem?_getD, -List.map_map, E2]
    refine Wp_of ec ?_
    simp -implicitDefEqProofs [-List.getD_eq_getElem?_getD, -List.map_map]
    refine Wp_of (tv_equal B K4 14 hA) ?_
    simp -implicitDefEqProofs [-List.getD_eq_getElem?_getD, -List.map_map]
  exact fin _ _ _ _ _ _ _ _ _ _
end K94
set_option maxRecDepth 100000
set_option maxHeartbeats 4000000
namespace K94
open PySem (Str)
open MP MX
/-! ### the law -/
theorem fok_up {t b : Nat} {d : Nat} {f : Fm} (h : fok t b d f = true) {x : Nat} (hx : x < t) : fok t b (d + 1) (.al x f) = true := by
  simp [fok, h, hx]
def FW : List String := ["not", "and", "or", "some", "all", "least"]
theorem law_ok (ns : List Int) : ∃ hp1, callF G 20 37 [.lst (ns.map PV.int)] [] = some ((false, .bl true), hp1) := by
  obtain ⟨rows, o1, P, e1⟩ := pool_ok 17 ns
  have hw : Wp (exec G.cst (callF G 19) WF b_law ([some (false, .lst (ns.map PV.int))] ++ List.replicate 24 none) []) fun r => r.1 = .rt (false, .bl true) ∧ ∃ a, r.2.2 = Hp a := by
    have c0 := cell_ok 18 ns 0 (Hp 0)
    simp -implicitDefEqProofs [-List.getD_eq_getElem?_getD, -List.map_map] at c0
    obtain ⟨ds, d1, d2, d3⟩ := draws_ok 18 (ns.getD 0 0) 60 (by decide) (Hp 0)
    obtain ⟨w, hw, hwn, ew⟩ := world_ok 16 ds (by omega) (by omega) 4 (by decide) (by decide) (Hp 0)
    have B : Bnd w.n 3 := ⟨hw.pos, by omega, by decide, Nat.le_trans (Nat.pow_le_pow_left hwn 3) (by decide)⟩
    obtain ⟨Q, hQ⟩ := mkI1 fun r : Flow × FEnv × Hs => r.1 = .rt (false, .bl true) ∧ ∃ a, r.2.2 = Hp a
    refine Wp.mono (P := Q) ?_ fun r hr => (hQ r).mp hr
    have fin : ∀ {T1 T2 T3 : Tb}, TOk w.n 3 T1 → TOk w.n 3 T2 → TOk w.n 3 T3 → ∀ a, a ≤ 900000 → ∀ (y0 y4 y17 y18 : Option Rv), Wp (exec G.cst (callF G 19) WF (dropS 4 b_law) [y0, some (o1, pl rows), some (false, wv w), some (true, .lst [tv T1, tv T2, tv T3]), y4, none, none, none, none, none, none, none, none, none, none, none, none, y17, y18, none, none, none, none, none, none] (Hp a)) Q := fun h1 h2 h3 a ha y0 y4 y17 y18 => (mid_ok B h1 h2 h3 P a ha o1 y0 y4 y17 y18).mono fun r hr => (hQ r).mpr hr
    simp only [dropS, b_law] at fin ⊢
    let E (y2 y3 y4 y17 y18 : Option Rv) : FEnv := [some (false, .lst (ns.map PV.int)), some (o1, pl rows), y2, y3, y4, none, none, none, none, none, none, none, none, none, none, none, none, y17, y18, none, none, none, none, none, none]
    refine Wp_seq1 (env' := E none none none none none) (hp' := Hp 0) ?_ ?_
    · simp -implicitDefEqProofs [-List.getD_eq_getElem?_getD, -List.map_map, List.replicate]
      refine Wp_of e1 ?_
      simp -implicitDefEqProofs [-List.getD_eq_getElem?_getD, -List.map_map, E]
    refine Wp_seq1 (env' := E (some (false, wv w)) none none none none) (hp' := Hp 0) ?_ ?_
    · simp -implicitDefEqProofs [-List.getD_eq_getElem?_getD, -List.map_map, E]
      refine Wp_of c0 ?_
      simp -implicitDefEqProofs [-List.getD_eq_getElem?_getD, -List.map_map]
      refine Wp_of d3 ?_
      simp -implicitDefEqProofs [-List.getD_eq_getElem?_getD, -List.map_map]
      refine Wp_of ew ?_
      simp -implicitDefEqProofs [-List.getD_eq_getElem?_getD, -List.map_map]
    refine Wp_seq1 (env' := E (some (false, wv w)) (some (true, .lst [])) none none none) (hp' := Hp 0) (by simp -implicitDefEqProofs [-List.getD_eq_getElem?_getD, -List.map_map, E]) ?_
    obtain ⟨P1, hP1⟩ := mkI2 fun (e : FEnv) (h : Hs) => ∃ a, a ≤ 660 ∧ Hp a = h ∧ ∃ (Ts : List Tb) (y4 y17 y18 : Option Rv), Ts.length = 3 ∧ (∀ T ∈ Ts, TOk w.n 3 T) ∧ e = E (some (false, wv w)) (some (true, .lst (Ts.map tv))) y4 y17 y18
    refine Wp_seq P1 ?_ fun e h' hh => ?_
    · simp -implicitDefEqProofs [-List.getD_eq_getElem?_getD, -List.map_map, E]
      refine Wp_of (show rngP [.int 3] = some (upTo 0 3) from rfl) ?_
      obtain ⟨I, iI⟩ := mkI3 fun (i : Nat) (e : FEnv) (h : Hs) => ∃ a, a ≤ 220 * i ∧ Hp a = h ∧ ∃ (Ts : List Tb) (y4 y17 y18 : Option Rv), Ts.length = i ∧ (∀ T ∈ Ts, TOk w.n 3 T) ∧ e = E (some (false, wv w)) (some (true, .lst (Ts.map tv))) y4 y17 y18
      refine Wp_rng 3 I ((iI 0 _ _).mpr ⟨0, by simp, rfl, [], none, none, none, by simp, by simp, by simp [E]⟩) ?_ ?_
      · intro i env h hi hI
        obtain ⟨a, ha, rfl, Ts, y4, y17, y18, hl, hTs, rfl⟩ := (iI _ _ _).mp hI
        obtain ⟨f, a', f1, f2, f3, f4, ef⟩ := formula_ok P 3 (by decide) FW (by decide) (by decide) 3 14 a (by omega)
        simp only [FW, sv, List.map_cons, List.map_nil] at ef
        have eg : ∃ g d, d ≤ 4 ∧ fok 3 3 d g = true ∧ atP [fv f, .tup [.str (S "all"), .int (i : Int), fv f], fv f] (i : Int) = some (fv g) := by
          rcases (show i = 0 ∨ i = 1 ∨ i = 2 by omega) with rfl | rfl | rfl
          · exact ⟨f, 3, by decide, f1, rfl⟩
          · exact ⟨.al 1 f, 4, by decide, fok_up f1 (by decide), rfl⟩
          · exact ⟨f, 3, by decide, f1, rfl⟩
        obtain ⟨g, d, hd, hg, eg⟩ := eg
        have et := law_table_ok B d (16 - d) g hg (by omega) (Hp a')
        have efu := full_table_ok hw B d (14 - d) g hg (by omega) (Hp a') (rb_Hp a')
        rw [show 16 - d + d + 3 = 19 by omega] at et
        rw [show 14 - d + d + 5 = 19 by omega] at efu
        have K := lawT_ok (w := w) hg
        simp -implicitDefEqProofs [-List.getD_eq_getElem?_getD, -List.map_map, E]
        refine Wp_of ef ?_
        simp -implicitDefEqProofs [-List.getD_eq_getElem?_getD, -List.map_map]
        refine Wp_of eg ?_
        simp -implicitDefEqProofs [-List.getD_eq_getElem?_getD, -List.map_map]
        refine Wp_of et ?_
        simp -implicitDefEqProofs [-List.getD_eq_getElem?_getD, -List.map_map]
        refine Wp_of efu ?_
        simp -implicitDefEqProofs [-List.getD_eq_getElem?_getD, -List.map_map]
        refine Wp_of (tv_equal B K 14 (Hp a')) ?_
        simp -implicitDefEqProofs [-List.getD_eq_getElem?_getD, -List.map_map, show Ts.length < 16777216 by omega]
        exact (iI (i + 1) _ _).mpr ⟨a', by omega, rfl, Ts ++ [lawT w g], some (false, .int (i : Int)), some (false, fv g), some (false, tv (lawT w g)), by simp [hl], fun T hT => by
          rcases List.mem_append.mp hT with h | h
          · exact hTs T h
          · simp at h; subst h; exact K, by simp [E]⟩
      · intro env h hI
        obtain ⟨a, ha, rfl, Ts, y4, y17, y18, hl, hTs, rfl⟩ := (iI _ _ _).mp hI
        simp -implicitDefEqProofs [-List.getD_eq_getElem?_getD, -List.map_map]
        exact (hP1 _ _).mpr ⟨a, by omega, rfl, Ts, y4, y17, y18, hl, hTs, rfl⟩
    obtain ⟨a, ha, rfl, Ts, y4, y17, y18, hl, hTs, rfl⟩ := (hP1 _ _).mp hh
    match Ts, hl with
    | [T1, T2, T3], _ => exact fin (hTs T1 (by simp)) (hTs T2 (by simp)) (hTs T3 (by simp)) a (by omega) _ _ _ _
  obtain ⟨⟨f, env, h⟩, e, h1, a, h2⟩ := hw
  rw [callF_def fn_law rfl rfl]
  show ((exec G.cst (callF G 19) WF b_law ([some (false, .lst (ns.map PV.int))] ++ List.replicate 24 none) []).bind (endF 0) |> fun x => ∃ hp1, x = some ((false, .bl true), hp1))
  rw [e]
  simp only at h1 h2
  subst h1 h2
  show ∃ hp1, some (trim 0 (false, .bl true) (Hp a)) = some ((false, .bl true), hp1)
  exact ⟨[], by rfl⟩
end K94
set_option maxRecDepth 100000
set_option maxHeartbeats 0
namespace K94
open PySem PySem.Spec PyProof.Rows L2 MP
abbrev R : PySem.W.OpenRow := PySem.W.OpenLaw.row PySem.Challenge.rw_backforth_k94_truth_by_tables
abbrev hk : PySem.W.Hook := hookM 5 (factsOf ds cf) (ds.map PDef.toD) fun _ => true
def ob (s : PySem.W.SharedT) : He.AlD × Bool := obsMG 5 (factsOf ds cf) (ds.map PDef.toD) (fun _ => true) (HandSHeadRun.getT s)
theorem ob_eq (s : PySem.W.SharedT) : ob s = hk.obs s.abs := obsMG_eq (HandSHeadRun.getT_eq s)
def loose0 : List PySem.Str := [S "tuples_of", S "parts_of", S "bound_name", S "own_names", S "free_list", S "free", S "single_table", S "widened", S "joined_names", S "meet", S "joined", S "union", S "complement", S "counted", S "table_of", S "full_table", S "_law_cell", S "_law_draws", S "_law_kind", S "_law_equal"]
def loose1 : List PySem.Str := [S "_law_pool", S "_law_pick", S "_law_line", S "_law_ring", S "_law_both_ways", S "_law_special", S "_law_world", S "_law_tuples", S "_law_inner", S "_law_bound", S "_law_own", S "_law_free", S "_law_unlike", S "_law_truth", S "_law_formula", S "_law_table", S "_law_fits"]
abbrev loose : List PySem.Str := loose0 ++ loose1
theorem run (w : World) : HandSHeadRun.RunEq R (PySem.W.view R.prog [41]) hk ob 4000 loose w := by
  intro os
  kernel_rfl
/-- what the evaluator is to say of the law -/
def Says (k : Nat) : Prop := ∀ ns : List Int, ns.length ≤ 63 → (∀ z ∈ ns, Builtin.Int.intBits z ≤ 1048576) → ∃ hp1, callF G k 37 [.lst (ns.map PV.int)] [] = some ((false, .bl true), hp1)
end K94
open PySem PySem.W PySem.Calls PyProof.Rows
theorem K94_end (pu : K94.Says 20) : PySem.Challenge.rw_backforth_k94_truth_by_tables.Holds := by
  w_on; o_law
  refine HandSHeadRun.head_any (r := OpenLaw.row PySem.Challenge.rw_backforth_k94_truth_by_tables) (q := view (OpenLaw.row PySem.Challenge.rw_backforth_k94_truth_by_tables).prog [41]) (H := K94.hk) (ob := K94.ob) (M := 4000) (loose := K94.loose) (d := HandSHeadRun.topDef (OpenLaw.row PySem.Challenge.rw_backforth_k94_truth_by_tables).prog 41) (kwd := []) K94.ob_eq
    (by kernel_rfl) (fun s => by kernel_rfl) K94.run (by kernel_rfl) (by kernel_rfl) (by kernel_rfl) (by rfl) (by first | assumption | decide +kernel) (by decide +kernel) ⟨rfl, rfl, rfl, rfl, rfl, by decide +kernel⟩ ?hw ?hc
  case hw => w_witness2
  case hc =>
    refine MP.walk_ofM (l := PySem.Challenge.rw_backforth_k94_truth_by_tables) (n := 63) (k := 20) (x := "script") rfl (by decide) (by kernel_rfl) ⟨rfl, by decide, by decide⟩ ?F
    intro w mg fa h Y Gh hmg0
    obtain ⟨K, KX, c, nl, _⟩ := Y
    have hmg : mg K94.pb_law.nm = some (.ref fa) := by
      have e : (HandSHeadRun.topDef (OpenLaw.row PySem.Challenge.rw_backforth_k94_truth_by_tables).prog 41).name = K94.pb_law.nm := by kernel_rfl
      rw [← e]
      exact hmg0
    exact MP.law_fact (l := PySem.Challenge.rw_backforth_k94_truth_by_tables) (p := K94.pb_law) (f := 37) KX Gh c nl K94.bp_all K94.hd_all K94.ck_all (fun base KB GB => K94.cst_all KX Gh c) (by kernel_rfl) (by kernel_rfl) hmg pu
set_option maxRecDepth 100000
set_option maxHeartbeats 4000000
namespace K94
theorem says : Says 20 := fun ns _ _ => law_ok ns
end K94
theorem PySem.Challenge.cw_backforth_k94_truth_by_tables_holds : PySem.Challenge.rw_backforth_k94_truth_by_tables.Holds :=
  K94_end K94.says
