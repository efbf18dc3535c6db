import PyProof.Rows.All
import HandS.ForMost
import HandS.TupSets
import HandS.Strs
import HandS.TupMul
import KE.DatumOrd
import HandS.Deep
import KE.DataCmp
import KE.SortData
import HandS.TupAny
import HandS.Style
import HandS.Dict
import HandS.Iter
import HandS.Text
import HandS.IsInst
import HandS.StrMore
import HandS.SetFor
import HandS.SetIn
import KE.KDictWalk
import KE.KDictSum
import PyProof.SeqIndex
import HandS.RevRange
import HandS.Conv
import KE.KDictDisplayH
import HandS.Defaults
import HandS.EndBits
import HandS.Head0
import HandS.Head1
import HandS.Head2
import HandS.HeadEnd
import HandS.HeadHook1
import HandS.HeadHook2
import HandS.Ends
import KE.KStateDown
import HandS.Words
import HandS.WordsExc
import PySem.Challenge.RW_backforth_k90_automata_alike
set_option Elab.async false
set_option linter.all false
set_option autoImplicit false
/-! MiniPy: an evaluator over plain values for the part of Python that the program uses. -/
namespace MP
open PySem (Str)

/-- a value, written out: tuples by content; lists, dicts, sets that nobody changes any more by content; ref n: the n-th shared object; fn f: a def -/
inductive PV where
  | non | bl (b : Bool) | int (i : Int) | str (s : Str)
  | tup (xs : List PV) | lst (xs : List PV) | dct (kvs : List (PV × PV)) | pst (xs : List PV)
  | ref (n : Nat) | fn (f : Nat)

def b2i (b : Bool) : Int := if b then 1 else 0

/-! ### data: equality, order -/
mutual
def PV.dat : PV → Bool
  | .non => true | .bl _ => true | .int _ => true | .str _ => true
  | .tup xs => datAll xs | .lst xs => datAll xs
  | .dct _ => false | .pst _ => false | .ref _ => false | .fn _ => false
def datAll : List PV → Bool
  | [] => true
  | x :: xs => x.dat && datAll xs
end
mutual
def PV.dep : PV → Nat
  | .tup xs => depAll xs + 1 | .lst xs => depAll xs + 1
  | .non => 0 | .bl _ => 0 | .int _ => 0 | .str _ => 0 | .dct _ => 0 | .pst _ => 0 | .ref _ => 0 | .fn _ => 0
def depAll : List PV → Nat
  | [] => 0
  | x :: xs => max x.dep (depAll xs)
end
mutual
/-- no list, dict or set within -/
def PV.lf : PV → Bool
  | .tup xs => lfAll xs
  | .lst _ => false | .dct _ => false | .pst _ => false
  | .non => true | .bl _ => true | .int _ => true | .str _ => true | .ref _ => true | .fn _ => true
def lfAll : List PV → Bool
  | [] => true
  | x :: xs => x.lf && lfAll xs
end
mutual
/-- every shared object named within stands below n -/
def PV.rb (n : Nat) : PV → Bool
  | .tup xs => rbAll n xs | .lst xs => rbAll n xs | .pst xs => rbAll n xs
  | .dct kvs => rbKv n kvs
  | .ref m => decide (m < n)
  | .non => true | .bl _ => true | .int _ => true | .str _ => true | .fn _ => true
def rbAll (n : Nat) : List PV → Bool
  | [] => true
  | x :: xs => x.rb n && rbAll n xs
def rbKv (n : Nat) : List (PV × PV) → Bool
  | [] => true
  | (k, v) :: r => k.rb n && v.rb n && rbKv n r
end
mutual
/-- a == b -/
def eqP : PV → PV → Bool
  | .non, y => match y with | .non => true | _ => false
  | .bl a, y => match y with | .bl b => a == b | .int j => b2i a == j | _ => false
  | .int i, y => match y with | .bl b => i == b2i b | .int j => i == j | _ => false
  | .str x, y => match y with | .str z => x == z | _ => false
  | .tup xs, y => match y with | .tup ys => eqAll xs ys | _ => false
  | .lst xs, y => match y with | .lst ys => eqAll xs ys | _ => false
  | .dct _, _ => false | .pst _, _ => false | .ref _, _ => false | .fn _, _ => false
def eqAll : List PV → List PV → Bool
  | [], ys => match ys with | [] => true | _ :: _ => false
  | x :: xs, ys => match ys with | [] => false | y :: ys => eqP x y && eqAll xs ys
end
mutual
/-- of one kind, place by place -/
def alk : PV → PV → Bool
  | .non, y => match y with | .non => true | _ => false
  | .bl _, y => match y with | .bl _ => true | _ => false
  | .int _, y => match y with | .int _ => true | _ => false
  | .str _, y => match y with | .str _ => true | _ => false
  | .tup xs, y => match y with | .tup ys => alkAll xs ys | _ => false
  | .lst xs, y => match y with | .lst ys => alkAll xs ys | _ => false
  | .dct _, _ => false | .pst _, _ => false | .ref _, _ => false | .fn _, _ => false
def alkAll : List PV → List PV → Bool
  | [], _ => true
  | x :: xs, ys => match ys with | [] => true | y :: ys => alk x y && alkAll xs ys
end
mutual
/-- a < b, of alike data -/
def ltP : PV → PV → Bool
  | .bl a, y => match y with | .bl b => decide (b2i a < b2i b) | _ => false
  | .int i, y => match y with | .int j => decide (i < j) | _ => false
  | .str x, y => match y with | .str z => decide (x.cps.toList < z.cps.toList) | _ => false
  | .tup xs, y => match y with | .tup ys => ltAll xs ys | _ => false
  | .lst xs, y => match y with | .lst ys => ltAll xs ys | _ => false
  | .non, _ => false | .dct _, _ => false | .pst _, _ => false | .ref _, _ => false | .fn _, _ => false
def ltAll : List PV → List PV → Bool
  | [], ys => match ys with | [] => false | _ :: _ => true
  | x :: xs, ys => match ys with | [] => false | y :: ys => if eqP x y = true then ltAll xs ys else ltP x y
end

/-! ### the text -/
inductive Bop where
  | add | sub | mul | fdiv | mod | pow | shl | shr | band
  deriving DecidableEq
inductive Cop where
  | eq | ne | lt | le | gt | ge | isin | nin | is | isnt
  deriving DecidableEq
inductive Ty where
  | int | bool | str | tuple | list | dict
  deriving DecidableEq
inductive Bfn where
  | len | int | sorted | set | tuple | list | sum | max | min | all | any | abs | str
  deriving DecidableEq
inductive Mth where
  | index | get
  deriving DecidableEq
/-- a target: a name's slot, or a tuple of targets -/
inductive Tg where
  | nm (i : Nat) | tp (ts : Tg) | nil | cons (t ts : Tg)
  deriving DecidableEq
/-- what a for walks: a value, or range(..), reversed(range(..)) of arguments -/
inductive Ik where
  | val | rng | rrng
  deriving DecidableEq
inductive ME where
  | var (i : Nat) | glb (g : Nat) | fnv (f : Nat)
  | non | bl (b : Bool) | int (i : Int) | str (s : Str)
  | nil | cons (e es : ME)
  | tup (es : ME) | lst (es : ME) | edct | dsp (k v : ME)
  | bin (op : Bop) (a b : ME) | neg (a : ME) | not (a : ME) | and (a b : ME) | or (a b : ME)
  | cmp (op : Cop) (a b : ME) | chn (op op' : Cop) (a b c : ME) | ife (c a b : ME)
  | call (f : Nat) (es : ME) | bcl (f : Bfn) (es : ME) | isi (a : ME) (t : Ty) | mth (m : Mth) (o es : ME)
  | idx (a i : ME) | slc (a lo hi : ME) | rev (a : ME)
  | lc (elt : ME) (t : Tg) (k : Ik) (it c : ME) | lc2 (elt : ME) (t : Tg) (k : Ik) (it c : ME) (t1 : Tg) (k1 : Ik) (it1 c1 : ME)
  | hp (e : ME)
  deriving DecidableEq
inductive MS where
  | nil | cons (s r : MS)
  | asg (t : Tg) (e : ME) | aug (i : Nat) (op : Bop) (e : ME)
  | seti (o i e : ME) | app (i : Nat) (e : ME) | ext (i : Nat) (e : ME) | pop (t i : Nat) (e : ME)
  | ife (c : ME) (a b : MS) | whl (c : ME) (b : MS) | for_ (t : Tg) (k : Ik) (it : ME) (b : MS)
  | ret (e : ME) | retn | brk | cnt | pas | exp (e : ME)
  deriving DecidableEq

/-! ### operations on values -/
abbrev LINE : Nat := PySem.sizeLine
abbrev Hs := List PV
/-- a result: own (a new list, dict or set that nothing else holds), or a value -/
abbrev Rv := Bool × PV
abbrev Env := List (Option PV)
abbrev FEnv := List (Option Rv)

def big (i : Int) : Bool := decide (-(2 ^ 64) < i ∧ i < 2 ^ 64)
def okEq (a b : PV) : Bool := a.dat && b.dat && decide (min a.dep b.dep ≤ 60)
def okLt (a b : PV) : Bool := alk a b && a.dat && b.dat && decide (min a.dep b.dep ≤ 60) && !eqP a .non

instance (xs : List PV) : Decidable (xs ≠ []) := match xs with
  | [] => isFalse fun h => h rfl
  | _ :: _ => isTrue fun h => nomatch h
def binP : Bop → PV → PV → Option Rv
  | .add, .int i, .int j => some (false, .int (i + j))
  | .add, .str x, .str y => if x.length + y.length ≤ LINE then some (false, .str (x ++ y)) else none
  | .add, .tup xs, .tup ys => if xs.length + ys.length ≤ LINE then some (false, .tup (xs ++ ys)) else none
  | .add, .lst xs, .lst ys => if xs.length + ys.length ≤ LINE then some (true, .lst (xs ++ ys)) else none
  | .sub, .int i, .int j => some (false, .int (i - j))
  | .mul, .int i, .int j => if big i || big j then some (false, .int (i * j)) else none
  | .mul, .lst xs, .int k => if xs.length * k.toNat ≤ LINE ∧ -(2 ^ 63) ≤ k ∧ k < 2 ^ 63 then some (true, .lst (List.replicate k.toNat xs).flatten) else none
  | .mul, .tup xs, .int k => if xs ≠ [] ∧ 1 ≤ k ∧ k ≤ 1000 ∧ xs.length ≤ 1000 then some (false, .tup (List.replicate k.toNat xs).flatten) else none
  | .fdiv, .int i, .int j => if j ≠ 0 ∧ j.natAbs < 1073741824 then some (false, .int (i.fdiv j)) else none
  | .mod, .int i, .int j => if j ≠ 0 then some (false, .int (i.fmod j)) else none
  | .pow, .int i, .int j => if 0 ≤ j ∧ j ≤ 1000000 ∧ i.natAbs < 2 ^ 64 then some (false, .int (i ^ j.toNat)) else none
  | .shl, .int i, .int j => if 0 ≤ j ∧ j ≤ 1000000 ∧ i.natAbs < 2 ^ 64 then some (false, .int (i * 2 ^ j.toNat)) else none
  | .shr, .int i, .int j => if 0 ≤ j then some (false, .int (i / 2 ^ j.toNat)) else none
  | .band, .int i, .int j => some (false, .int (PySem.Builtin.bitAnd i j))
  | _, _, _ => none

/-- one sign -/
def chr1 (c : Nat) : PV := .str ⟨#[c]⟩
def strIn (x y : Str) : Bool := !(PySem.Builtin.Str.occurrences y x 0 y.length 1).isEmpty
def memP (x : PV) (xs : List PV) : Bool := xs.any fun y => eqP y x
def okMem (x : PV) (xs : List PV) : Bool := x.dat && datAll xs && decide (min x.dep (depAll xs) ≤ 60)
def keysP (kvs : List (PV × PV)) : List PV := kvs.map (·.1)
/-- keys: ints and texts, or tuples of these; all of one dict are of one kind -/
def isKey : PV → Bool
  | .int _ => true | .str _ => true | _ => false
def isTKey : PV → Bool
  | .tup xs => xs.all isKey | _ => false
def okKey (k : PV) (kvs : List (PV × PV)) : Bool := (isKey k && (keysP kvs).all isKey) || (isTKey k && (keysP kvs).all isTKey)
def inP (x y : PV) : Option Bool := match y with
  | .lst ys => if okMem x ys then some (memP x ys) else none
  | .tup ys => if okMem x ys then some (memP x ys) else none
  | .dct kvs => if okKey x kvs then some (memP x (keysP kvs)) else none
  | .str z => (match x with | .str w => some (strIn w z) | _ => none)
  | _ => none
def isNon : PV → Bool
  | .non => true | _ => false
def isP (x y : PV) : Option Bool := match y with
  | .non => some (isNon x)
  | .bl b => (match x with | .bl c => some (c == b) | _ => none)
  | _ => none
def cmpP : Cop → PV → PV → Option Bool
  | .eq, x, y => if okEq x y then some (eqP x y) else none
  | .ne, x, y => if okEq x y then some (!eqP x y) else none
  | .lt, x, y => if okLt x y then some (ltP x y) else none
  | .gt, x, y => if okLt x y then some (ltP y x) else none
  | .le, x, y => if okLt x y then some (!ltP y x) else none
  | .ge, x, y => if okLt x y then some (!ltP x y) else none
  | .isin, x, y => inP x y
  | .nin, x, y => (inP x y).map not
  | .is, x, y => isP x y
  | .isnt, x, y => (isP x y).map not

def atP {α : Type} (xs : List α) (i : Int) : Option α :=
  if 0 ≤ i then xs[i.toNat]? else if -(xs.length : Int) ≤ i then xs[(i + xs.length).toNat]? else none
def getKv (k : PV) : List (PV × PV) → Option PV
  | [] => none
  | (k', v) :: r => if eqP k' k = true then some v else getKv k r
def setKv (k v : PV) : List (PV × PV) → List (PV × PV)
  | [] => [(k, v)]
  | (k', v') :: r => if eqP k' k = true then (k', v) :: r else (k', v') :: setKv k v r
def idxP (a i : PV) : Option PV := match a with
  | .tup xs => (match i with | .int i => atP xs i | _ => none)
  | .lst xs => (match i with | .int i => atP xs i | _ => none)
  | .str z => (match i with | .int i => if z.length ≤ LINE then (atP z.cps.toList i).map chr1 else none | _ => none)
  | .dct kvs => if okKey i kvs then getKv i kvs else none
  | _ => none
def clipI (n d : Nat) : Option Int → Nat
  | none => d
  | some i => if i < 0 then (i + (n : Int)).toNat else min i.toNat n
def cutL {α : Type} (xs : List α) (lo hi : Option Int) : List α :=
  (xs.drop (clipI xs.length 0 lo)).take (clipI xs.length xs.length hi - clipI xs.length 0 lo)
def slcP (a : PV) (lo hi : Option Int) : Option Rv := match a with
  | .tup xs => some (false, .tup (cutL xs lo hi))
  | .lst xs => some (true, .lst (cutL xs lo hi))
  | .str z => if z.length ≤ LINE then some (false, .str ⟨(cutL z.cps.toList lo hi).toArray⟩) else none
  | _ => none
def revP (a : PV) : Option Rv := match a with
  | .tup xs => some (false, .tup xs.reverse)
  | .lst xs => some (true, .lst xs.reverse)
  | _ => none

def intsP : List PV → Option (List Int)
  | [] => some []
  | .int i :: r => (intsP r).map (i :: ·)
  | _ :: _ => none
def boolsP : List PV → Option (List Bool)
  | [] => some []
  | .bl b :: r => (boolsP r).map (b :: ·)
  | _ :: _ => none
def seqP : PV → Option (List PV)
  | .tup xs => some xs | _ => none
def intKey : PV → Bool
  | .int _ => true
  | .tup xs => (intsP xs).isSome
  | _ => false
/-- what a for walks -/
def itemsP : PV → Option (List PV)
  | .tup xs => some xs | .lst xs => some xs
  | .str z => some (z.cps.toList.map chr1)
  | .dct kvs => if (keysP kvs).all intKey = true then some (keysP kvs) else none
  | _ => none
def dedup : List PV → List PV → List PV
  | acc, [] => acc
  | acc, x :: xs => if memP x acc = true then dedup acc xs else dedup (acc ++ [x]) xs
def leP (a b : PV) : Bool := !ltP b a
def notTup0 : PV → Bool
  | .tup [] => false | .non => false | _ => true
def isTup : PV → Bool
  | .tup _ => true | _ => false
def okSort (xs : List PV) : Bool :=
  (xs.all fun x => xs.all fun y => alk x y) && xs.all notTup0 && xs.all (fun x => decide (x.dep ≤ 60)) && decide (xs.length ≤ PySem.sizeLine)
def sortP (xs : List PV) : Option (List PV) := if okSort xs then some (xs.mergeSort leP) else none
/-- tuples of ints, small sets -/
def okSet (xs : List PV) : Bool := decide (xs.length < 64) && (xs.all fun x => match x with | .tup ys => (intsP ys).isSome | _ => false)
/-- a tuple of d ints, none negative or huge -/
def okRow (d : Nat) : PV → Bool
  | .tup ys => decide (ys.length = d) && (match intsP ys with | some is => is.all fun i => decide (0 ≤ i ∧ i < 2 ^ 30) | none => false)
  | _ => false
def widthP : List PV → Nat
  | .tup ys :: _ => ys.length
  | _ => 1
def okRows (xs : List PV) : Bool := decide (1 ≤ widthP xs) && xs.all (okRow (widthP xs))
/-- ints, not too many -/
def okInts (xs : List PV) : Bool := (intsP xs).isSome && decide (xs.length < 1000)
def setP (xs : List PV) : Option (Bool × PV) := if okSet xs = true then some (true, .pst (dedup [] xs)) else if okInts xs = true then some (true, .pst (dedup [] xs)) else none
def maxI : List Int → Option Int
  | [] => none
  | i :: r => some (r.foldl max i)
def minI : List Int → Option Int
  | [] => none
  | i :: r => some (r.foldl min i)
def bclP : Bfn → List PV → Option Rv
  | .len, [x] => (match x with
    | .tup xs => some (false, .int xs.length) | .lst xs => some (false, .int xs.length)
    | .dct kvs => some (false, .int kvs.length)
    | .str z => if z.length ≤ LINE then some (false, .int z.length) else none
    | _ => none)
  | .int, [x] => (match x with | .int i => some (false, .int i) | .bl b => some (false, .int (b2i b)) | _ => none)
  | .abs, [x] => (match x with | .int i => some (false, .int (if i < 0 then -i else i)) | _ => none)
  | .str, [x] => (match x with | .int i => if i.natAbs.log2 < 1920 then some (false, .str (PySem.Str.ofString (toString i))) else none | _ => none)
  | .tuple, [x] => (match x with | .tup xs => some (false, .tup xs) | .lst xs => some (false, .tup xs) | _ => none)
  | .list, [x] => (match x with | .tup xs => some (true, .lst xs) | .lst xs => some (true, .lst xs) | _ => none)
  | .set, [x] => (match x with
    | .lst xs => setP xs
    | .tup xs => setP xs
    | _ => none)
  | .sorted, [x] => (match x with
    | .lst xs => (sortP xs).map fun ys => (true, .lst ys)
    | .tup xs => (sortP xs).map fun ys => (true, .lst ys)
    | .dct kvs => if ((keysP kvs).all intKey && okSort (keysP kvs)) = true then some (true, .lst ((keysP kvs).mergeSort leP)) else none
    | .pst xs => if okRows xs = true ∧ xs ≠ [] then some (true, .lst (xs.mergeSort leP)) else if okInts xs = true ∧ xs.length < 64 then some (true, .lst (xs.mergeSort leP)) else none
    | _ => none)
  | .sum, [x] => (match x with | .lst xs => (intsP xs).map fun is => (false, .int is.sum) | _ => none)
  | .all, [x] => (match x with | .lst xs => (boolsP xs).map fun bs => (false, .bl (bs.all id)) | _ => none)
  | .any, [x] => (match x with | .lst xs => (boolsP xs).map fun bs => (false, .bl (bs.any id)) | _ => none)
  | .max, [x] => (match x with | .lst xs => (intsP xs).bind fun is => (maxI is).map fun m => (false, .int m) | .tup xs => (intsP xs).bind fun is => (maxI is).map fun m => (false, .int m) | _ => none)
  | .min, [x] => (match x with | .lst xs => (intsP xs).bind fun is => (minI is).map fun m => (false, .int m) | .tup xs => (intsP xs).bind fun is => (minI is).map fun m => (false, .int m) | _ => none)
  | .max, [.int i, .int j] => some (false, .int (if j > i then j else i))
  | .min, [.int i, .int j] => some (false, .int (if j < i then j else i))
  | _, _ => none
def isiP : PV → Ty → Option Bool
  | .non, _ => some false
  | .bl _, t => some (match t with | .int => true | .bool => true | _ => false)
  | .int _, t => some (match t with | .int => true | _ => false)
  | .str _, t => some (match t with | .str => true | _ => false)
  | .tup _, t => some (match t with | .tuple => true | _ => false)
  | .lst _, t => some (match t with | .list => true | _ => false)
  | .dct _, t => some (match t with | .dict => true | _ => false)
  | _, _ => none
def findP (x : PV) : List PV → Option Nat
  | [] => none
  | y :: ys => if eqP y x = true then some 0 else (findP x ys).map (· + 1)
def mthP : Mth → PV → List PV → Option PV
  | .index, .lst xs, [y] => if okMem y xs then (findP y xs).map fun (n : Nat) => .int n else none
  | .index, .tup xs, [y] => if okMem y xs then (findP y xs).map fun (n : Nat) => .int n else none
  | .index, .str z, [.str y] => (PySem.Builtin.Str.occurrences z y 0 z.length 1).head?.map fun (n : Nat) => .int n
  | .get, .dct kvs, [k] => if okKey k kvs then some ((getKv k kvs).getD .non) else none
  | .get, .dct kvs, [k, d] => if okKey k kvs then some ((getKv k kvs).getD d) else none
  | _, _, _ => none
def okRng (i : Int) : Bool := decide (-(2 ^ 62) ≤ i ∧ i < 2 ^ 62)
def upTo (lo : Int) (n : Nat) : List PV := (List.range n).map fun (k : Nat) => .int (lo + k)
def rngP : List PV → Option (List PV)
  | [.int j] => if okRng j then some (upTo 0 j.toNat) else none
  | [.int i, .int j] => if okRng i && okRng j then some (upTo i (j - i).toNat) else none
  | _ => none

/-! ### stores -/
def Tg.slots : Tg → List Nat
  | .nm i => [i]
  | .tp ts => ts.slots
  | .nil => []
  | .cons t ts => t.slots ++ ts.slots
/-- the length of a tuple of targets -/
def Tg.len : Tg → Nat
  | .cons _ ts => ts.len + 1
  | _ => 0
mutual
/-- target = value -/
def setTg : Tg → PV → Env → Option Env
  | .nm i, v, env => some (env.set i (some v))
  | .tp ts, v, env => (seqP v).bind fun xs => setTgs ts xs env
  | .nil, _, _ => none
  | .cons _ _, _, _ => none
def setTgs : Tg → List PV → Env → Option Env
  | .nil, [], env => some env
  | .cons t ts, x :: xs, env => (setTg t x env).bind fun env1 => setTgs ts xs env1
  | _, _, _ => none
end
def wipeE (env : Env) : List Nat → Env
  | [] => env
  | v :: vs => (wipeE env vs).set v none

/-! ### expressions -/
abbrev CallT := Nat → List PV → Hs → Option (Rv × Hs)
/-- an operand's value, then f -/
def bnd {β : Type} (r : Option (Rv × Hs)) (f : PV → Hs → Option β) : Option β := r.bind fun p => f p.1.2 p.2
def bndL {β : Type} (r : Option (List PV × Hs)) (f : List PV → Hs → Option β) : Option β := r.bind fun p => f p.1 p.2
/-- one turn after another of a comprehension: f gives what the item at hand adds -/
def lcE (f : PV → Hs → Option (List PV × Hs)) : List PV → Hs → Option (List PV × Hs)
  | [], hp => some ([], hp)
  | x :: xs, hp => bndL (f x hp) fun ys hp1 => bndL (lcE f xs hp1) fun zs hp2 => some (ys ++ zs, hp2)
def asB : PV → Option Bool
  | .bl b => some b | _ => none
def asI : PV → Option Int
  | .int i => some i | _ => none
def ME.isNil : ME → Bool
  | .nil => true | _ => false
/-- a shared object: what it holds now -/
def drf (x : PV) (hp : Hs) : PV := match x with
  | .ref n => (hp[n]?).getD x
  | _ => x
/-- a new list, tuple of a comprehension or display -/
def mk (own : Bool) (c : List PV → PV) (r : Option (List PV × Hs)) : Option (Rv × Hs) := bndL r fun vs hp => if vs.length ≤ LINE then some ((own, c vs), hp) else none
/-- what is walked: a value's items, a range, a range from behind -/
def wK (k : Ik) (rv : Option (Rv × Hs)) (rl : Option (List PV × Hs)) : Option (List PV × Hs) := match k with
  | .val => bnd rv fun x hp => (itemsP x).map fun xs => (xs, hp)
  | .rng => bndL rl fun vs hp => (rngP vs).map fun xs => (xs, hp)
  | .rrng => bndL rl fun vs hp => (rngP vs).map fun xs => (xs.reverse, hp)
/-- a test, then f -/
def bndB {β : Type} (r : Option (Rv × Hs)) (f : Bool → Hs → Option β) : Option β := bnd r fun x hp => (asB x).bind fun b => f b hp
def one (r : Option (Rv × Hs)) : Option (List PV × Hs) := bnd r fun y hp => some ([y], hp)
/-- what a list, dict, set holds has no list .. within; another value has none itself -/
def clean : Rv → Bool
  | (false, v) => v.lf
  | (true, .lst xs) => lfAll xs
  | (true, .pst xs) => lfAll xs
  | (true, .dct kvs) => kvs.all fun p => p.1.lf && p.2.lf
  | (true, _) => false
section
variable (gl : Nat → Option PV) (call : CallT)
mutual
def ev : ME → Env → Hs → Option (Rv × Hs)
  | .var i, env, hp => (env[i]?.bind id).map fun v => ((false, v), hp)
  | .glb g, _, hp => (gl g).map fun v => ((false, v), hp)
  | .fnv f, _, hp => some ((false, .fn f), hp)
  | .non, _, hp => some ((false, .non), hp)
  | .bl b, _, hp => some ((false, .bl b), hp)
  | .int i, _, hp => some ((false, .int i), hp)
  | .str s, _, hp => some ((false, .str s), hp)
  | .nil, _, _ => none
  | .cons _ _, _, _ => none
  | .tup es, env, hp => mk false .tup (evL es env hp)
  | .lst es, env, hp => mk true .lst (evL es env hp)
  | .edct, _, hp => some ((true, .dct []), hp)
  | .dsp k v, env, hp => bnd (ev k env hp) fun x hp1 => bnd (ev v env hp1) fun y hp2 => if (isKey x || isTKey x) = true then some ((true, .dct [(x, y)]), hp2) else none
  | .bin op a b, env, hp => bnd (ev a env hp) fun x hp1 => bnd (ev b env hp1) fun y hp2 => (binP op x y).map fun r => (r, hp2)
  | .neg a, env, hp => bnd (ev a env hp) fun x hp1 => (asI x).map fun i => ((false, .int (-i)), hp1)
  | .not a, env, hp => bndB (ev a env hp) fun b hp1 => some ((false, .bl !b), hp1)
  | .and a b, env, hp => bndB (ev a env hp) fun c hp1 => if c = true then bndB (ev b env hp1) fun d hp2 => some ((false, .bl d), hp2) else some ((false, .bl false), hp1)
  | .or a b, env, hp => bndB (ev a env hp) fun c hp1 => if c = true then some ((false, .bl true), hp1) else bndB (ev b env hp1) fun d hp2 => some ((false, .bl d), hp2)
  | .cmp op a b, env, hp => bnd (ev a env hp) fun x hp1 => bnd (ev b env hp1) fun y hp2 => (cmpP op x y).map fun c => ((false, .bl c), hp2)
  | .chn op op' a b c, env, hp => bnd (ev a env hp) fun x hp1 => bnd (ev b env hp1) fun y hp2 => (cmpP op x y).bind fun k =>
      if k = true then bnd (ev c env hp2) fun z hp3 => (cmpP op' y z).map fun k' => ((false, .bl k'), hp3) else some ((false, .bl false), hp2)
  | .ife c a b, env, hp => bndB (ev c env hp) fun k hp1 => if k = true then ev a env hp1 else ev b env hp1
  | .call f es, env, hp => bndL (evL es env hp) fun vs hp1 => call f vs hp1
  | .bcl f es, env, hp => bndL (evL es env hp) fun vs hp1 => (bclP f vs).map fun r => (r, hp1)
  | .isi a t, env, hp => bnd (ev a env hp) fun x hp1 => (isiP x t).map fun b => ((false, .bl b), hp1)
  | .mth m o es, env, hp => bnd (ev o env hp) fun x hp1 => bndL (evL es env hp1) fun vs hp2 => (mthP m x vs).map fun v => ((false, v), hp2)
  | .idx a i, env, hp => bnd (ev a env hp) fun x hp1 => bnd (ev i env hp1) fun y hp2 => (idxP (drf x hp2) y).map fun v => ((false, v), hp2)
  | .slc a lo hi, env, hp => bnd (ev a env hp) fun x hp1 =>
      (if lo.isNil then some (none, hp1) else bnd (ev lo env hp1) fun l hp2 => (asI l).map fun i => (some i, hp2)).bind fun p =>
      (if hi.isNil then some (none, p.2) else bnd (ev hi env p.2) fun h hp3 => (asI h).map fun i => (some i, hp3)).bind fun q =>
      (slcP x p.1 q.1).map fun r => (r, q.2)
  | .rev a, env, hp => bnd (ev a env hp) fun x hp1 => (revP x).map fun r => (r, hp1)
  | .lc elt t k it c, env, hp => bndL (wK k (ev it env hp) (evL it env hp)) fun xs hp1 =>
      mk true .lst (lcE (fun x hp => (setTg t x (wipeE env t.slots)).bind fun env1 => bndB (ev c env1 hp) fun b hp1 =>
        if b = true then one (ev elt env1 hp1) else some ([], hp1)) xs hp1)
  | .lc2 elt t k it c t1 k1 it1 c1, env, hp => bndL (wK k (ev it env hp) (evL it env hp)) fun xs hp1 =>
      mk true .lst (lcE (fun x hp => (setTg t x (wipeE env (t.slots ++ t1.slots))).bind fun env1 => bndB (ev c env1 hp) fun b hp1 =>
        if b = true then bndL (wK k1 (ev it1 env1 hp1) (evL it1 env1 hp1)) fun xs1 hp2 =>
          lcE (fun x1 hp => (setTg t1 x1 (wipeE env1 t1.slots)).bind fun env2 => bndB (ev c1 env2 hp) fun b1 hp1 =>
            if b1 = true then one (ev elt env2 hp1) else some ([], hp1)) xs1 hp2
        else some ([], hp1)) xs hp1)
  | .hp e, env, hp => (ev e env hp).bind fun p => if (p.1.1 && clean p.1) = true then some ((false, .ref p.2.length), p.2 ++ [p.1.2]) else none
def evL : ME → Env → Hs → Option (List PV × Hs)
  | .nil, _, hp => some ([], hp)
  | .cons e es, env, hp => bnd (ev e env hp) fun x hp1 => bndL (evL es env hp1) fun vs hp2 => some (x :: vs, hp2)
  | _, _, _ => none
end

/-! ### statements -/
inductive Flow where
  | nx | rt (r : Rv) | bk | ct
abbrev XR := Option (Flow × FEnv × Hs)
def unf (env : FEnv) : Env := env.map fun o => o.map (·.2)
def frz1 : Option Rv → Option Rv
  | some (_, v) => some (false, v)
  | none => none
/-- nothing is own any more -/
def frz (env : FEnv) : FEnv := env.map frz1
def frzAt (i : Nat) (env : FEnv) : FEnv := match env[i]? with
  | some o => env.set i (frz1 o)
  | none => env
/-- the slots that hold no object of one's own -/
def vis1 : Option Rv → Option PV
  | some (false, v) => some v
  | _ => none
def vis (env : FEnv) : Env := env.map vis1
/-- the slots that an expression reads -/
def ME.vars : ME → List Nat
  | .var i => [i]
  | .glb _ => [] | .fnv _ => [] | .non => [] | .bl _ => [] | .int _ => [] | .str _ => [] | .nil => [] | .edct => []
  | .cons a b => a.vars ++ b.vars | .dsp a b => a.vars ++ b.vars | .bin _ a b => a.vars ++ b.vars | .and a b => a.vars ++ b.vars | .or a b => a.vars ++ b.vars
  | .cmp _ a b => a.vars ++ b.vars | .idx a b => a.vars ++ b.vars | .mth _ a b => a.vars ++ b.vars
  | .tup a => a.vars | .lst a => a.vars | .neg a => a.vars | .not a => a.vars | .call _ a => a.vars | .bcl _ a => a.vars | .isi a _ => a.vars | .rev a => a.vars | .hp a => a.vars
  | .chn _ _ a b c => a.vars ++ (b.vars ++ c.vars) | .ife a b c => a.vars ++ (b.vars ++ c.vars) | .slc a b c => a.vars ++ (b.vars ++ c.vars)
  | .lc e _ _ it c => e.vars ++ (it.vars ++ c.vars)
  | .lc2 e _ _ it c _ _ it1 c1 => e.vars ++ (it.vars ++ (c.vars ++ (it1.vars ++ c1.vars)))
/-- the slots named are own no more -/
def frzV : List Nat → FEnv → FEnv
  | [], env => env
  | i :: is, env => frzV is (match env[i]? with
    | some (some _) => frzAt i env
    | _ => env)
/-- behind an expression whose value is r -/
def keep (r : Rv) (env : FEnv) : FEnv := if clean r = true then env else frz env
mutual
def setF : Tg → PV → FEnv → Option FEnv
  | .nm i, v, env => some (env.set i (some (false, v)))
  | .tp ts, v, env => (seqP v).bind fun xs => setFs ts xs env
  | .nil, _, _ => none
  | .cons _ _, _, _ => none
def setFs : Tg → List PV → FEnv → Option FEnv
  | .nil, [], env => some env
  | .cons t ts, x :: xs, env => (setF t x env).bind fun env1 => setFs ts xs env1
  | _, _, _ => none
end
/-- an object's new content behind o[i] = v, x.append(v), x.extend(v), x.pop(i) -/
def putP (o i v : PV) : Option PV := match o with
  | .dct kvs => if okKey i kvs && decide (kvs.length < LINE) then some (.dct (setKv i v kvs)) else none
  | .lst xs => (match i with
    | .int k => if 0 ≤ k then (if k.toNat < xs.length then some (.lst (xs.set k.toNat v)) else none) else none
    | _ => none)
  | _ => none
def appP (v o : PV) : Option PV := match o with
  | .lst xs => if xs.length < LINE then some (.lst (xs ++ [v])) else none
  | _ => none
def extP (v o : PV) : Option PV := match o with
  | .lst xs => (match v with
    | .lst ys => if xs.length + ys.length ≤ LINE then some (.lst (xs ++ ys)) else none
    | _ => none)
  | _ => none
def popP (i o : PV) : Option (PV × PV) := match o with
  | .lst xs => (match i with
    | .int k => if 0 ≤ k ∧ k < 2 ^ 63 then (xs[k.toNat]?).map fun v => (v, .lst (xs.eraseIdx k.toNat)) else none
    | _ => none)
  | _ => none
/-- the object of a slot is changed: an own one, or a shared one -/
def mutF (i : Nat) (f : PV → Option PV) (env : FEnv) (hp : Hs) : XR := match env[i]? with
  | some (some (true, v)) => (f v).map fun v' => (.nx, env.set i (some (true, v')), hp)
  | some (some (false, .ref n)) => (hp[n]?.bind f).map fun v' => (.nx, env, hp.set n v')
  | _ => none
/-- .. an own one; .. a shared one -/
def ownF (i : Nat) (f : PV → Option PV) (env : FEnv) (hp : Hs) : XR := match env[i]? with
  | some (some (true, v)) => (f v).map fun v' => (.nx, env.set i (some (true, v')), hp)
  | _ => none
def refF (x : PV) (f : PV → Option PV) (env : FEnv) (hp : Hs) : XR := match x with
  | .ref n => (hp[n]?.bind f).map fun v' => (.nx, env, hp.set n v')
  | _ => none
/-- behind a turn's body -/
def turnE (next : FEnv → Hs → XR) (r : Flow × FEnv × Hs) : XR := match r.1 with
  | .nx => next r.2.1 r.2.2
  | .ct => next r.2.1 r.2.2
  | .bk => some (.nx, r.2.1, r.2.2)
  | .rt v => some (.rt v, r.2.1, r.2.2)
def forE (tg : Tg) (body : FEnv → Hs → XR) : List PV → FEnv → Hs → XR
  | [], env, hp => some (.nx, env, hp)
  | x :: xs, env, hp => (setF tg x env).bind fun env1 => (body env1 hp).bind (turnE (forE tg body xs))
def whlE (c : FEnv → Hs → Option (Rv × Hs)) (body : FEnv → Hs → XR) : Nat → FEnv → Hs → XR
  | 0, _, _ => none
  | n + 1, env, hp => bndB (c env hp) fun b hp1 => if b = true then (body env hp1).bind (turnE (whlE c body n)) else some (.nx, env, hp1)
def ME.varOf : ME → Option Nat
  | .var i => some i | _ => none
def augP : Bop → PV → PV → Option PV
  | .add, .int i, .int j => some (.int (i + j))
  | .sub, .int i, .int j => some (.int (i - j))
  | _, _, _ => none
/-- behind one statement: the rest -/
def seqE (rest : FEnv → Hs → XR) (r : Flow × FEnv × Hs) : XR := match r.1 with
  | .nx => rest r.2.1 r.2.2
  | f => some (f, r.2.1, r.2.2)
def nxE (r : Option (FEnv × Hs)) : XR := r.map fun p => (.nx, p.1, p.2)
/-- an expression's value, and what is left own -/
def evK (e : ME) (env : FEnv) (hp : Hs) : Option (Rv × FEnv × Hs) := match e.varOf with
  | some i => (env[i]?.bind id).map fun r => ((false, r.2), frzAt i env, hp)
  | none => (ev gl call e (unf env) hp).map fun p => (p.1, keep p.1 env, p.2)
/-- what is walked, and what is left own -/
def evIK (k : Ik) (it : ME) (env : FEnv) (hp : Hs) : Option (List PV × FEnv × Hs) := match k with
  | .val => (evK gl call it env hp).bind fun p => (itemsP p.1.2).map fun xs => (xs, p.2.1, p.2.2)
  | .rng => bndL (evL gl call it (unf env) hp) fun vs hp1 => (rngP vs).map fun xs => (xs, env, hp1)
  | .rrng => bndL (evL gl call it (unf env) hp) fun vs hp1 => (rngP vs).map fun xs => (xs.reverse, env, hp1)
variable (wf : Nat)
def exec : MS → FEnv → Hs → XR
  | .nil, env, hp => some (.nx, env, hp)
  | .cons s r, env, hp => (exec s env hp).bind (seqE (exec r))
  | .asg t e, env, hp => (evK gl call e env hp).bind fun p => (match t with
    | .nm i => some (.nx, p.2.1.set i (some p.1), p.2.2)
    | t => (setF t p.1.2 p.2.1).map fun env2 => (.nx, env2, p.2.2))
  | .aug i op e, env, hp => (env[i]?.bind id).bind fun x => bnd (ev gl call e (unf env) hp) fun y hp1 => (augP op x.2 y).map fun v => (.nx, env.set i (some (false, v)), hp1)
  | .seti o i e, env, hp => bnd (ev gl call e (unf env) hp) fun v hp1 => (match o.varOf with
    | some n => bnd (ev gl call i (unf env) hp1) fun j hp2 => if (v.lf && j.lf) = true then mutF n (fun c => putP c j v) env hp2 else none
    | none => bnd (ev gl call o (unf env) hp1) fun x hp2 => bnd (ev gl call i (unf env) hp2) fun j hp3 => if (v.lf && j.lf) = true then refF x (fun c => putP c j v) env hp3 else none)
  | .app n e, env, hp => bnd (ev gl call e (unf env) hp) fun v hp1 => if v.lf = true then ownF n (appP v) env hp1
      else bnd (ev gl call e (vis (frzV e.vars env)) hp) fun v hp1 => ownF n (appP v) (frzV e.vars env) hp1
  | .ext n e, env, hp => bnd (ev gl call e (unf env) hp) fun v hp1 => if clean (true, v) = true then mutF n (extP v) env hp1 else none
  | .pop t n e, env, hp => bnd (ev gl call e (unf env) hp) fun j hp1 => (match env[n]? with
    | some (some (true, c)) => (popP j c).map fun q => (.nx, (env.set n (some (true, q.2))).set t (some (false, q.1)), hp1)
    | _ => none)
  | .ife c a b, env, hp => bndB (ev gl call c (unf env) hp) fun k hp1 => if k = true then exec a env hp1 else exec b env hp1
  | .whl c b, env, hp => whlE (fun env hp => ev gl call c (unf env) hp) (exec b) wf env hp
  | .for_ t k it b, env, hp => (evIK gl call k it env hp).bind fun p => forE t (exec b) p.1 p.2.1 p.2.2
  | .ret e, env, hp => (match e.varOf with
    | some i => (env[i]?.bind id).map fun r => (.rt r, env, hp)
    | none => (ev gl call e (unf env) hp).map fun p => (.rt p.1, env, p.2))
  | .retn, env, hp => some (.rt (false, .non), env, hp)
  | .brk, env, hp => some (.bk, env, hp)
  | .cnt, env, hp => some (.ct, env, hp)
  | .pas, env, hp => some (.nx, env, hp)
  | .exp e, env, hp => (evK gl call e env hp).map fun p => (.nx, p.2.1, p.2.2)
end

/-! ### defs -/
structure Fd where
  np : Nat
  ns : Nat
  body : MS
  dfl : List PV := []
structure Gl where
  fns : Nat → Option Fd
  cst : Nat → Option PV
def WF : Nat := 1000000
/-- what is made in a call and named by nothing behind it is forgotten -/
def trim (n : Nat) (r : Rv) (hp : Hs) : Rv × Hs :=
  if hp.length = n then (r, hp) else if (r.2.rb n && rbAll n (hp.take n)) = true then (r, hp.take n) else (r, hp)
def endF (n : Nat) (r : Flow × FEnv × Hs) : Option (Rv × Hs) := match r.1 with
  | .rt v => some (trim n v r.2.2)
  | .nx => some (trim n (false, .non) r.2.2)
  | _ => none
def startE (fd : Fd) (as : List PV) : FEnv := (as.map fun v => some (false, v)) ++ List.replicate (fd.ns - fd.np) none
def fillA (fd : Fd) (args : List PV) : List PV := args ++ fd.dfl.drop (fd.dfl.length - (fd.np - args.length))
def callF (G : Gl) : Nat → CallT
  | 0, _, _, _ => none
  | k + 1, f, args, hp => (G.fns f).bind fun fd =>
      if (fillA fd args).length = fd.np then (exec G.cst (callF G k) WF fd.body (startE fd (fillA fd args)) hp).bind (endF hp.length) else none
theorem t0 (gl call) : ev gl call (.bin .add (.int 3) (.int 4)) [] [] = some ((false, .int 7), []) := rfl
theorem t1 (gl call) : ev gl call (.lc (.bin .mul (.var 0) (.int 4)) (.nm 0) .rng (.cons (.int 3) .nil) (.bl true)) [none] [] = some ((true, .lst [.int 0, .int 4, .int 8]), []) := rfl
end MP
set_option maxRecDepth 100000
/-! MiniPy: what a plain value stands for in the abstract heap. -/
namespace MP
open PySem PySem.Spec PyProof.Rows L2

/-- a key of a dict whose keys are ints and texts -/
def keyOf : PV → Option Key
  | .int i => some (.inl i)
  | .str s => some (.inr s)
  | _ => none
def keysOf : List PV → Option (List Key)
  | [] => some []
  | x :: xs => (keyOf x).bind fun k => (keysOf xs).map (k :: ·)
def tkeyOf : PV → Option (List Key)
  | .tup xs => keysOf xs
  | _ => none
/-- a tuple of the written part -/
def KTup (K : PySem.W.Frag) (a : Addr) (xs : List V) : Prop :=
  ∃ (o : Obj) (its : Array Value) (n : Nat), K.lookup a = some o ∧ o.cls = .type "tuple" ∧ o.data = .seq its n ∧ its.size ≤ sizeLine ∧ Vals xs its.toList
/-- what never changes while the proof runs: the program, the world, the written part, the defs' places -/
structure Wd where
  P : Program
  w : World
  K : PySem.W.Frag
  fa : Nat → Option Addr

/-- a dict's object, known to the bit -/
def dctO (a : Addr) (ob : Obj) : HO := .ext fun h => h.get? a = some ob
/-- a dict's entry has the key x -/
inductive KeyR (W : Wd) (F : Hp) : PV → Int → Value → Prop
  | scal {x : PV} {k : Key} {u : Value} : keyOf x = some k → keyIs k u = true → KeyR W F x (keyH W.w k) u
  | tup {x : PV} {ks : List Key} {b : Addr} : tkeyOf x = some ks → (F b = some (.tup (ks.map kV)) ∨ KTup W.K b (ks.map kV)) → KeyR W F x (tupleKeyHash (mixKind W.P W.w) ks) (.ref b)
mutual
inductive Rep (W : Wd) (F : Hp) (ph : List Addr) : PV → V → Prop
  | non : Rep W F ph .non .non
  | bl (b : Bool) : Rep W F ph (.bl b) (.bl b)
  | int (i : Int) : Rep W F ph (.int i) (.int i)
  | str (s : Str) : PyData.strOk s = true → Rep W F ph (.str s) (.str s)
  | tup {a : Addr} {xs : List PV} {vs : List V} : F a = some (.tup vs) → RepA W F ph xs vs → Rep W F ph (.tup xs) (.ref a)
  | ktup {a : Addr} {xs : List PV} {vs : List V} : KTup W.K a vs → RepA W F ph xs vs → Rep W F ph (.tup xs) (.ref a)
  | obj {a : Addr} {v : PV} {o : HO} : F a = some o → ORep W F ph a v o → Rep W F ph v (.ref a)
  | ref {n : Nat} {a : Addr} : ph[n]? = some a → Rep W F ph (.ref n) (.ref a)
  | fn {f : Nat} {a : Addr} : W.fa f = some a → Rep W F ph (.fn f) (.ref a)
inductive RepA (W : Wd) (F : Hp) (ph : List Addr) : List PV → List V → Prop
  | nil : RepA W F ph [] []
  | cons {x : PV} {v : V} {xs : List PV} {vs : List V} : Rep W F ph x v → RepA W F ph xs vs → RepA W F ph (x :: xs) (v :: vs)
inductive RepD (W : Wd) (F : Hp) (ph : List Addr) : List (PV × PV) → List DictEntry → Prop
  | nil : RepD W F ph [] []
  | cons {x y : PV} {e : DictEntry} {v : V} {xs : List (PV × PV)} {es : List DictEntry} : KeyR W F x e.hash e.key → Rep W F ph y v → RelV v e.val → RepD W F ph xs es → RepD W F ph ((x, y) :: xs) (e :: es)
inductive ORep (W : Wd) (F : Hp) (ph : List Addr) : Addr → PV → HO → Prop
  | lst {a : Addr} {xs : List PV} {vs : List V} : RepA W F ph xs vs → ORep W F ph a (.lst xs) (.lst vs)
  | dct {a : Addr} {xs : List (PV × PV)} {ob : Obj} {es : Array DictEntry} {ep : Nat} : (a == sysModules) = false → ob.ExactDict → ob.data = .dict es ep → es.size ≤ sizeLine →
      (xs.map (·.1)).Pairwise (fun x y => eqP x y = false) → RepD W F ph xs es.toList → ORep W F ph a (.dct xs) (dctO a ob)
  | psI {a : Addr} {ns : List Int} {S : Int → Bool} {n : Nat} : (∀ i, S i = true ↔ i ∈ ns) → ns.Nodup → n = ns.length → ORep W F ph a (.pst (ns.map PV.int)) (SetO W.w a S n)
  | psT {a : Addr} {ns : List (List Int)} {L : List (Addr × List Int)} : (L.map (·.2)).Perm ns → ns.Nodup → (∀ p ∈ L, F p.1 = some (.tup (p.2.map V.int)) ∨ KTup W.K p.1 (p.2.map V.int)) →
      ORep W F ph a (.pst (ns.map fun r => .tup (r.map PV.int))) (SetTO W.P W.w a L)
end

section
variable {W : Wd} {F F' H H' : Hp} {ph ph' : List Addr}
theorem KeyR.mono (hF : ∀ a o, F a = some o → F' a = some o) {x : PV} {i : Int} {u : Value} (h : KeyR W F x i u) : KeyR W F' x i u := by
  cases h with
  | scal h1 h2 => exact .scal h1 h2
  | tup h1 h2 => exact .tup h1 (h2.imp (hF _ _) id)
mutual
theorem Rep.mono (hF : ∀ a o, F a = some o → F' a = some o) (hp : ∀ (n : Nat) (a : Addr), ph[n]? = some a → ph'[n]? = some a) : ∀ {v : PV} {x : V}, Rep W F ph v x → Rep W F' ph' v x
  | _, _, .non => .non
  | _, _, .bl b => .bl b
  | _, _, .int i => .int i
  | _, _, .str s h => .str s h
  | _, _, .tup h r => .tup (hF _ _ h) (RepA.mono hF hp r)
  | _, _, .ktup h r => .ktup h (RepA.mono hF hp r)
  | _, _, .obj h r => .obj (hF _ _ h) (ORep.mono hF hp r)
  | _, _, .ref h => .ref (hp _ _ h)
  | _, _, .fn h => .fn h
theorem RepA.mono (hF : ∀ a o, F a = some o → F' a = some o) (hp : ∀ (n : Nat) (a : Addr), ph[n]? = some a → ph'[n]? = some a) : ∀ {v : List PV} {x : List V}, RepA W F ph v x → RepA W F' ph' v x
  | _, _, .nil => .nil
  | _, _, .cons h r => .cons (Rep.mono hF hp h) (RepA.mono hF hp r)
theorem RepD.mono (hF : ∀ a o, F a = some o → F' a = some o) (hp : ∀ (n : Nat) (a : Addr), ph[n]? = some a → ph'[n]? = some a) : ∀ {v : List (PV × PV)} {x : List DictEntry}, RepD W F ph v x → RepD W F' ph' v x
  | _, _, .nil => .nil
  | _, _, .cons k h r t => .cons (k.mono hF) (Rep.mono hF hp h) r (RepD.mono hF hp t)
theorem ORep.mono (hF : ∀ a o, F a = some o → F' a = some o) (hp : ∀ (n : Nat) (a : Addr), ph[n]? = some a → ph'[n]? = some a) : ∀ {a : Addr} {v : PV} {x : HO}, ORep W F ph a v x → ORep W F' ph' a v x
  | _, _, _, .lst r => .lst (RepA.mono hF hp r)
  | _, _, _, .dct h1 h2 h3 h4 h5 r => .dct h1 h2 h3 h4 h5 (RepD.mono hF hp r)
  | _, _, _, .psI h1 h2 h3 => .psI h1 h2 h3
  | _, _, _, .psT h1 h2 h3 => .psT h1 h2 fun p hm => (h3 p hm).imp (hF _ _) id
end
/-! a value without lists leans on tuples alone -/
mutual
theorem Rep.tups (hF : ∀ a vs, F a = some (.tup vs) → F' a = some (.tup vs)) : ∀ {v : PV} {x : V}, v.lf = true → Rep W F ph v x → Rep W F' ph v x
  | _, _, _, .non => .non
  | _, _, _, .bl b => .bl b
  | _, _, _, .int i => .int i
  | _, _, _, .str s h => .str s h
  | _, _, l, .tup h r => .tup (hF _ _ h) (RepA.tups hF (by simpa [PV.lf] using l) r)
  | _, _, l, .ktup h r => .ktup h (RepA.tups hF (by simpa [PV.lf] using l) r)
  | _, _, l, .obj h r => by cases r <;> simp [PV.lf] at l
  | _, _, _, .ref h => .ref h
  | _, _, _, .fn h => .fn h
theorem RepA.tups (hF : ∀ a vs, F a = some (.tup vs) → F' a = some (.tup vs)) : ∀ {v : List PV} {x : List V}, lfAll v = true → RepA W F ph v x → RepA W F' ph v x
  | _, _, _, .nil => .nil
  | _, _, l, .cons h r => by
    simp only [lfAll, Bool.and_eq_true] at l
    exact .cons (Rep.tups hF l.1 h) (RepA.tups hF l.2 r)
end
theorem RepA.length : ∀ {xs : List PV} {vs : List V}, RepA W F ph xs vs → xs.length = vs.length
  | _, _, .nil => rfl
  | _, _, .cons _ r => congrArg Nat.succ (RepA.length r)
theorem RepD.length : ∀ {xs : List (PV × PV)} {vs : List DictEntry}, RepD W F ph xs vs → xs.length = vs.length
  | _, _, .nil => rfl
  | _, _, .cons _ _ _ r => congrArg Nat.succ (RepD.length r)
theorem RepA.get : ∀ {xs : List PV} {vs : List V} {i : Nat} {x : PV}, RepA W F ph xs vs → xs[i]? = some x → ∃ v, vs[i]? = some v ∧ Rep W F ph x v
  | _, _, _, _, .nil, h => by simp at h
  | _, _, 0, _, .cons r _, h => by simp at h; subst h; exact ⟨_, rfl, r⟩
  | _, _, i + 1, _, .cons _ t, h => by
    obtain ⟨v, h1, h2⟩ := RepA.get (i := i) t (by simpa using h)
    exact ⟨v, by simpa using h1, h2⟩
theorem RepA.append : ∀ {xs ys : List PV} {vs ws : List V}, RepA W F ph xs vs → RepA W F ph ys ws → RepA W F ph (xs ++ ys) (vs ++ ws)
  | _, _, _, _, .nil, s => s
  | _, _, _, _, .cons r t, s => .cons r (RepA.append t s)
theorem RepA.take : ∀ {xs : List PV} {vs : List V} (n : Nat), RepA W F ph xs vs → RepA W F ph (xs.take n) (vs.take n)
  | _, _, 0, _ => .nil
  | _, _, _ + 1, .nil => .nil
  | _, _, n + 1, .cons r t => .cons r (RepA.take n t)
theorem RepA.drop : ∀ {xs : List PV} {vs : List V} (n : Nat), RepA W F ph xs vs → RepA W F ph (xs.drop n) (vs.drop n)
  | _, _, 0, r => r
  | _, _, _ + 1, .nil => .nil
  | _, _, n + 1, .cons _ t => RepA.drop n t
theorem RepA.reverse {xs : List PV} {vs : List V} (r : RepA W F ph xs vs) : RepA W F ph xs.reverse vs.reverse := by
  induction xs generalizing vs with
  | nil => cases r; exact .nil
  | cons x xs ih =>
    cases r with
    | cons h t =>
      rw [List.reverse_cons, List.reverse_cons]
      exact (ih t).append (.cons h .nil)
theorem RepA.rep {xs : List PV} {vs : List V} (r : RepA W F ph xs vs) : ∀ n : Nat, RepA W F ph (List.replicate n xs).flatten (List.replicate n vs).flatten
  | 0 => .nil
  | n + 1 => by
    rw [List.replicate_succ, List.replicate_succ, List.flatten_cons, List.flatten_cons]
    exact r.append (r.rep n)
theorem RepA.set {x : PV} {v : V} (r : Rep W F ph x v) : ∀ {xs : List PV} {vs : List V} (i : Nat), RepA W F ph xs vs → RepA W F ph (xs.set i x) (vs.set i v)
  | _, _, _, .nil => .nil
  | _, _, 0, .cons _ t => .cons r t
  | _, _, i + 1, .cons q t => .cons q (RepA.set r i t)
theorem RepA.eraseIdx : ∀ {xs : List PV} {vs : List V} (i : Nat), RepA W F ph xs vs → RepA W F ph (xs.eraseIdx i) (vs.eraseIdx i)
  | _, _, _, .nil => .nil
  | _, _, 0, .cons _ t => t
  | _, _, i + 1, .cons q t => .cons q (RepA.eraseIdx i t)
theorem RepA.of_ints : ∀ (ns : List Int), RepA W F ph (ns.map PV.int) (ns.map V.int)
  | [] => .nil
  | n :: ns => .cons (.int n) (RepA.of_ints ns)
theorem RepA.ints : ∀ {xs : List PV} {vs : List V} {ns : List Int}, RepA W F ph xs vs → intsP xs = some ns → vs = ns.map V.int
  | _, _, ns, .nil, h => by
    have e : ns = [] := by simpa [intsP] using h.symm
    subst e; rfl
  | _, _, ns, .cons r t, h => by
    cases r with
    | int i =>
      simp only [intsP, Option.map_eq_some_iff] at h
      obtain ⟨ms, h1, rfl⟩ := h
      rw [RepA.ints t h1]; rfl
    | obj e q => cases q <;> simp [intsP] at h
    | _ => simp [intsP] at h
theorem RepA.bools : ∀ {xs : List PV} {vs : List V} {ns : List Bool}, RepA W F ph xs vs → boolsP xs = some ns → vs = ns.map V.bl
  | _, _, ns, .nil, h => by
    have e : ns = [] := by simpa [boolsP] using h.symm
    subst e; rfl
  | _, _, ns, .cons r t, h => by
    cases r with
    | bl i =>
      simp only [boolsP, Option.map_eq_some_iff] at h
      obtain ⟨ms, h1, rfl⟩ := h
      rw [RepA.bools t h1]; rfl
    | obj e q => cases q <;> simp [boolsP] at h
    | _ => simp [boolsP] at h
end

theorem ORep.no_tup {W : Wd} {F : Hp} {ph : List Addr} {a : Addr} {v : PV} {o : HO} (r : ORep W F ph a v o) (vs : List V) : o ≠ .tup vs := by
  intro h
  cases r with
  | lst _ => cases h
  | dct _ _ _ _ _ _ => exact nomatch (show HO.ext _ = HO.tup vs from h)
  | psI _ _ _ => exact nomatch (show HO.ext _ = HO.tup vs from h)
  | psT _ _ _ => exact nomatch (show HO.ext _ = HO.tup vs from h)
/-! ### states -/
/-- the shared objects and the frozen ones -/
structure RelH (W : Wd) (F : Hp) (ph : List Addr) (hp : Hs) (H : Hp) : Prop where
  sub : ∀ a o, F a = some o → Rd H a o
  len : ph.length = hp.length
  nd : ph.Nodup
  sh : ∀ (n : Nat) (a : Addr) (v : PV), ph[n]? = some a → hp[n]? = some v → F a = none ∧ ∃ o, H a = some o ∧ ORep W F ph a v o
  cl : ∀ (n : Nat) (v : PV), hp[n]? = some v → clean (true, v) = true
  td : ∀ (a : Addr) (vs : List V), F a = some (.tup vs) → ∃ ob : Obj, H a = some (.frz ob (.tup vs)) ∧ ob.dict = none
/-- what may have come about: more is frozen and shared, all of it new; what was tracked stands, but for the shared -/
structure Ext (F : Hp) (ph : List Addr) (H F' : Hp) (ph' : List Addr) (H' : Hp) : Prop where
  le : ∀ a o, F a = some o → F' a = some o
  new : ∀ a, F' a ≠ none → F a ≠ none ∨ H a = none
  pre : ∀ (n : Nat) (a : Addr), ph[n]? = some a → ph'[n]? = some a
  pnew : ∀ a ∈ ph', a ∈ ph ∨ H a = none
  pres : ∀ a o, H a = some o → a ∉ ph → H' a = some o
  dom : ∀ a, H a ≠ none → H' a ≠ none
structure RelE (W : Wd) (F : Hp) (ph : List Addr) (env : Env) (σ : L2.St) : Prop where
  len : env.length = σ.length
  at_ : ∀ (i : Nat) (v : PV), env[i]? = some (some v) → ∃ x, σ[i]? = some (some x) ∧ Rep W F ph v x
/-- a result; own: its object is new, tracked, neither frozen nor shared -/
def RRep (W : Wd) (F : Hp) (ph : List Addr) (H0 H : Hp) (r : Rv) (x : V) : Prop :=
  if r.1 = true then ∃ a o, x = .ref a ∧ F a = none ∧ a ∉ ph ∧ H0 a = none ∧ H a = some o ∧ ORep W F ph a r.2 o else Rep W F ph r.2 x
section
variable {W : Wd} {F F1 F2 H H1 H2 : Hp} {ph ph1 ph2 : List Addr} {hp : Hs}
theorem Ext.refl : Ext F ph H F ph H := ⟨fun _ _ h => h, fun _ h => .inl h, fun _ _ h => h, fun _ h => .inl h, fun _ _ h _ => h, fun _ h => h⟩
theorem Ext.trans (a : Ext F ph H F1 ph1 H1) (b : Ext F1 ph1 H1 F2 ph2 H2) : Ext F ph H F2 ph2 H2 where
  le := fun x o h => b.le x o (a.le x o h)
  new := fun x h => by
    rcases b.new x h with h | h
    · exact a.new x h
    · exact .inr (Classical.byContradiction fun q => a.dom x q h)
  pre := fun n x h => b.pre n x (a.pre n x h)
  pnew := fun x h => by
    rcases b.pnew x h with h | h
    · exact a.pnew x h
    · exact .inr (Classical.byContradiction fun q => a.dom x q h)
  pres := fun x o h hn => by
    refine b.pres x o (a.pres x o h hn) fun hm => ?_
    rcases a.pnew x hm with q | q
    · exact hn q
    · rw [h] at q; cases q
  dom := fun x h => b.dom x (a.dom x h)
theorem Rep.ext {v : PV} {x : V} (r : Rep W F ph v x) (e : Ext F ph H F1 ph1 H1) : Rep W F1 ph1 v x := r.mono e.le e.pre
theorem RepA.ext {v : List PV} {x : List V} (r : RepA W F ph v x) (e : Ext F ph H F1 ph1 H1) : RepA W F1 ph1 v x := r.mono e.le e.pre
theorem RelE.ext {env : Env} {σ : L2.St} (r : RelE W F ph env σ) (e : Ext F ph H F1 ph1 H1) : RelE W F1 ph1 env σ :=
  ⟨r.len, fun i v h => let ⟨x, h1, h2⟩ := r.at_ i v h; ⟨x, h1, h2.ext e⟩⟩
theorem RelH.tup {a : Addr} {vs : List V} (h : RelH W F ph hp H) (e : F a = some (.tup vs)) (K : PySem.W.Frag) : SqT K H a vs := .inl (h.sub _ _ e)
theorem KTup.sq {K : PySem.W.Frag} {a : Addr} {vs : List V} (h : KTup K a vs) (H : Hp) : SqT K H a vs := .inr h
/-- a tuple, to be read -/
theorem Rep.tupAt {xs : List PV} {x : V} (h : RelH W F ph hp H) (r : Rep W F ph (.tup xs) x) : ∃ a vs, x = .ref a ∧ SqT W.K H a vs ∧ RepA W F ph xs vs := by
  cases r with
  | tup e q => exact ⟨_, _, rfl, .inl (h.sub _ _ e), q⟩
  | ktup e q => exact ⟨_, _, rfl, .inr e, q⟩
  | obj e q => cases q
theorem Rep.lstAt {xs : List PV} {x : V} (h : RelH W F ph hp H) (r : Rep W F ph (.lst xs) x) : ∃ a vs, x = .ref a ∧ F a = some (.lst vs) ∧ SqL W.K H a vs ∧ RepA W F ph xs vs := by
  cases r with
  | obj e q => cases q with | lst q => exact ⟨_, _, rfl, e, .inl (h.sub _ _ e), q⟩
theorem Rep.intV {i : Int} {x : V} (r : Rep W F ph (.int i) x) : x = .int i := by
  cases r with
  | int => rfl
  | obj e q => cases q
theorem Rep.blV {i : Bool} {x : V} (r : Rep W F ph (.bl i) x) : x = .bl i := by
  cases r with
  | bl => rfl
  | obj e q => cases q
theorem Rep.strV {i : Str} {x : V} (r : Rep W F ph (.str i) x) : x = .str i ∧ PyData.strOk i = true := by
  cases r with
  | str _ h => exact ⟨rfl, h⟩
  | obj e q => cases q
theorem Rep.nonV {x : V} (r : Rep W F ph .non x) : x = .non := by
  cases r with
  | non => rfl
  | obj e q => cases q
theorem shared_not_new (h : RelH W F ph hp H) {a : Addr} (n : H a = none) : a ∉ ph ∧ F a = none := by
  constructor
  · intro hm
    obtain ⟨i, hi⟩ := List.getElem?_of_mem hm
    have hl : i < hp.length := by rw [← h.len]; exact (List.getElem?_eq_some_iff.mp hi).1
    obtain ⟨_, o, e, _⟩ := h.sh i a hp[i] hi (List.getElem?_eq_getElem hl)
    rw [n] at e; cases e
  · cases q : F a with
    | none => rfl
    | some o =>
      rcases h.sub a o q with e | ⟨_, e⟩ <;> (rw [n] at e; cases e)
/-- a new object is laid -/
theorem RelH.laid (h : RelH W F ph hp H) {p : Addr} {o : HO} (n : H p = none) : RelH W F ph hp (upd H p o) ∧ Ext F ph H F ph (upd H p o) := by
  obtain ⟨np, nF⟩ := shared_not_new h n
  have st : ∀ a q, H a = some q → upd H p o a = some q := fun a q e => by rw [upd_ne (ne_of_none e n)]; exact e
  refine ⟨⟨fun a q e => ?_, h.len, h.nd, fun i a v e1 e2 => ?_, h.cl, fun a vs e => let ⟨ob, e1, e2⟩ := h.td a vs e; ⟨ob, st _ _ e1, e2⟩⟩, ⟨fun _ _ e => e, fun _ e => .inl e, fun _ _ e => e, fun _ e => .inl e, fun a q e _ => st a q e, fun a e => ?_⟩⟩
  · rcases h.sub a q e with e | ⟨b, e⟩
    · exact .inl (st _ _ e)
    · exact .inr ⟨b, st _ _ e⟩
  · obtain ⟨f, q, e3, r⟩ := h.sh i a v e1 e2
    exact ⟨f, q, st _ _ e3, r⟩
  · cases q : H a with
    | none => exact absurd q e
    | some u => rw [st a u q]; simp
/-- an object that is tracked, neither frozen nor shared, is frozen -/
theorem RelH.freeze (h : RelH W F ph hp H) {p : Addr} {o : HO} (e : Rd H p o) (n : F p = none) (ns : p ∉ ph) (ht : ∀ vs, o = .tup vs → ∃ ob : Obj, H p = some (.frz ob (.tup vs)) ∧ ob.dict = none) : RelH W (upd F p o) ph hp H := by
  have le : ∀ a q, F a = some q → upd F p o a = some q := fun a q e => by rw [upd_ne (ne_of_none e n)]; exact e
  refine ⟨fun a q e2 => ?_, h.len, h.nd, fun i a v e1 e2 => ?_, h.cl, fun a vs e2 => ?_⟩
  rotate_left 2
  · by_cases ha : a = p
    · subst ha; rw [upd_same] at e2; exact ht vs (Option.some.inj e2)
    · rw [upd_ne ha] at e2; exact h.td a vs e2
  · by_cases ha : a = p
    · subst ha; rw [upd_same] at e2; cases e2; exact e
    · rw [upd_ne ha] at e2; exact h.sub a q e2
  · obtain ⟨f, q, e3, r⟩ := h.sh i a v e1 e2
    have hne : a ≠ p := fun z => ns (z ▸ List.mem_of_getElem? e1)
    exact ⟨by rw [upd_ne hne]; exact f, q, e3, r.mono le fun _ _ z => z⟩
theorem le_upd {p : Addr} {o : HO} (n : F p = none) : ∀ a q, F a = some q → upd F p o a = some q := fun a q e => by rw [upd_ne (ne_of_none e n)]; exact e
/-- a result is a value from here on -/
theorem RRep.val {r : Rv} {x : V} (e : Ext F ph H F1 ph1 H1) (h : RelH W F1 ph1 hp H1) (q : RRep W F1 ph1 H H1 r x) : ∃ F2, Ext F ph H F2 ph1 H1 ∧ RelH W F2 ph1 hp H1 ∧ Rep W F2 ph1 r.2 x := by
  unfold RRep at q
  by_cases c : r.1 = true
  · rw [if_pos c] at q
    obtain ⟨a, o, rfl, n, ns, n0, ho, ro⟩ := q
    refine ⟨upd F1 a o, ⟨fun b u hb => le_upd n b u (e.le b u hb), fun b hb => ?_, e.pre, e.pnew, e.pres, e.dom⟩, h.freeze (.inl ho) n ns (fun vs z => absurd z (ro.no_tup vs)), .obj upd_same (ro.mono (le_upd n) fun _ _ z => z)⟩
    by_cases hba : b = a
    · subst hba; exact .inr n0
    · rw [upd_ne hba] at hb; exact e.new b hb
  · rw [if_neg c] at q
    exact ⟨F1, e, h, q⟩
theorem RRep.of {v : PV} {x : V} {H0 : Hp} (r : Rep W F ph v x) : RRep W F ph H0 H (false, v) x := by
  unfold RRep; rw [if_neg (by simp)]; exact r
theorem RRep.own {v : PV} {a : Addr} {o : HO} {H0 : Hp} (n : F a = none) (ns : a ∉ ph) (n0 : H0 a = none) (ho : H a = some o) (r : ORep W F ph a v o) : RRep W F ph H0 H (true, v) (.ref a) := by
  unfold RRep; rw [if_pos rfl]; exact ⟨a, o, rfl, n, ns, n0, ho, r⟩
/-- relative to an earlier heap -/
theorem RRep.back {r : Rv} {x : V} (e : Ext F ph H F1 ph1 H1) (q : RRep W F2 ph2 H1 H2 r x) : RRep W F2 ph2 H H2 r x := by
  unfold RRep at q ⊢
  split at q
  · rename_i c
    rw [if_pos c]
    obtain ⟨a, o, rfl, n, ns, n0, ho, ro⟩ := q
    exact ⟨a, o, rfl, n, ns, Classical.byContradiction fun z => e.dom a z n0, ho, ro⟩
  · rename_i c
    rw [if_neg c]; exact q
end
end MP
set_option maxRecDepth 100000
/-! MiniPy: the operations by values. -/
namespace MP
open PySem PySem.Spec PyProof.Rows L2

/-! ### data, as the library has it -/
mutual
def toD : PV → PyData
  | .non => .none | .bl b => .bool b | .int i => .int i | .str s => .str s
  | .tup xs => .tuple (toDs xs) | .lst xs => .list (toDs xs)
  | .dct _ => .none | .pst _ => .none | .ref _ => .none | .fn _ => .none
def toDs : List PV → List PyData
  | [] => []
  | x :: xs => toD x :: toDs xs
end
mutual
theorem toD_dep : ∀ v : PV, (toD v).depth = v.dep
  | .non => rfl | .bl _ => rfl | .int _ => rfl | .str _ => rfl
  | .tup xs => by simp only [toD, PyData.depth, PV.dep, toDs_dep xs]
  | .lst xs => by simp only [toD, PyData.depth, PV.dep, toDs_dep xs]
  | .dct _ => rfl | .pst _ => rfl | .ref _ => rfl | .fn _ => rfl
theorem toDs_dep : ∀ v : List PV, PyData.depthAll (toDs v) = depAll v
  | [] => rfl
  | x :: xs => by simp only [toDs, PyData.depthAll, depAll, toD_dep x, toDs_dep xs]
end
mutual
theorem toD_eqv : ∀ a b : PV, a.dat = true → b.dat = true → PyData.eqv (toD a) (toD b) = eqP a b
  | .non, b, _, hb => by cases b <;> simp [PV.dat] at hb <;> simp [toD, PyData.eqv, eqP]
  | .bl x, b, _, hb => by cases b <;> simp [PV.dat] at hb <;> simp [toD, PyData.eqv, eqP, b2i]
  | .int x, b, _, hb => by cases b <;> simp [PV.dat] at hb <;> simp [toD, PyData.eqv, eqP, b2i]
  | .str x, b, _, hb => by cases b <;> simp [PV.dat] at hb <;> simp [toD, PyData.eqv, eqP]
  | .tup xs, b, ha, hb => by
    have ih := toDs_eqv xs
    cases b <;> simp [PV.dat] at ha hb <;> simp [toD, PyData.eqv, eqP]
    exact ih _ ha hb
  | .lst xs, b, ha, hb => by
    have ih := toDs_eqv xs
    cases b <;> simp [PV.dat] at ha hb <;> simp [toD, PyData.eqv, eqP]
    exact ih _ ha hb
  | .dct _, _, h, _ => by simp [PV.dat] at h
  | .pst _, _, h, _ => by simp [PV.dat] at h
  | .ref _, _, h, _ => by simp [PV.dat] at h
  | .fn _, _, h, _ => by simp [PV.dat] at h
theorem toDs_eqv : ∀ a b : List PV, datAll a = true → datAll b = true → PyData.eqvAll (toDs a) (toDs b) = eqAll a b
  | [], b, _, _ => by cases b <;> simp [toDs, PyData.eqvAll, eqAll]
  | x :: xs, b, ha, hb => by
    cases b with
    | nil => simp [toDs, PyData.eqvAll, eqAll]
    | cons y ys =>
      simp only [datAll, Bool.and_eq_true] at ha hb
      simp only [toDs, PyData.eqvAll, eqAll, toD_eqv x y ha.1 hb.1, toDs_eqv xs ys ha.2 hb.2]
end
mutual
theorem toD_alk : ∀ a b : PV, alk a b = true → PySem.W.alike (toD a) (toD b) = true
  | .non, b, h => by cases b <;> simp [alk] at h <;> simp [toD, PySem.W.alike]
  | .bl x, b, h => by cases b <;> simp [alk] at h <;> simp [toD, PySem.W.alike]
  | .int x, b, h => by cases b <;> simp [alk] at h <;> simp [toD, PySem.W.alike]
  | .str x, b, h => by cases b <;> simp [alk] at h <;> simp [toD, PySem.W.alike]
  | .tup xs, b, h => by
    have ih := toDs_alk xs
    cases b <;> simp [alk] at h <;> simp [toD, PySem.W.alike]
    exact ih _ h
  | .lst xs, b, h => by
    have ih := toDs_alk xs
    cases b <;> simp [alk] at h <;> simp [toD, PySem.W.alike]
    exact ih _ h
  | .dct _, _, h => by simp [alk] at h
  | .pst _, _, h => by simp [alk] at h
  | .ref _, _, h => by simp [alk] at h
  | .fn _, _, h => by simp [alk] at h
theorem toDs_alk : ∀ a b : List PV, alkAll a b = true → PySem.W.alikeAll (toDs a) (toDs b) = true
  | [], b, _ => by cases b <;> simp [toDs, PySem.W.alikeAll]
  | x :: xs, b, h => by
    cases b with
    | nil => simp [toDs, PySem.W.alikeAll]
    | cons y ys =>
      simp only [alkAll, Bool.and_eq_true] at h
      simp only [toDs, PySem.W.alikeAll, toD_alk x y h.1, toDs_alk xs ys h.2, Bool.and_self]
end
mutual
theorem alk_eqv : ∀ a b : PV, alk a b = true → PyData.eqv (toD a) (toD b) = eqP a b
  | .non, b, h => by cases b <;> simp [alk] at h <;> simp [toD, PyData.eqv, eqP]
  | .bl x, b, h => by cases b <;> simp [alk] at h <;> simp [toD, PyData.eqv, eqP, b2i]
  | .int x, b, h => by cases b <;> simp [alk] at h <;> simp [toD, PyData.eqv, eqP, b2i]
  | .str x, b, h => by cases b <;> simp [alk] at h <;> simp [toD, PyData.eqv, eqP]
  | .tup xs, b, h => by
    have ih := alkAll_eqv xs
    cases b <;> simp [alk] at h <;> simp [toD, PyData.eqv, eqP]
    exact ih _ h
  | .lst xs, b, h => by
    have ih := alkAll_eqv xs
    cases b <;> simp [alk] at h <;> simp [toD, PyData.eqv, eqP]
    exact ih _ h
  | .dct _, _, h => by simp [alk] at h
  | .pst _, _, h => by simp [alk] at h
  | .ref _, _, h => by simp [alk] at h
  | .fn _, _, h => by simp [alk] at h
theorem alkAll_eqv : ∀ a b : List PV, alkAll a b = true → PyData.eqvAll (toDs a) (toDs b) = eqAll a b
  | [], b, _ => by cases b <;> simp [toDs, PyData.eqvAll, eqAll]
  | x :: xs, b, h => by
    cases b with
    | nil => simp [toDs, PyData.eqvAll, eqAll]
    | cons y ys =>
      simp only [alkAll, Bool.and_eq_true] at h
      simp only [toDs, PyData.eqvAll, eqAll, alk_eqv x y h.1, alkAll_eqv xs ys h.2]
end


mutual
theorem alk_lt : ∀ a b : PV, alk a b = true → PySem.W.dataLt (toD a) (toD b) = ltP a b
  | .non, b, h => by
    cases b <;> simp [alk] at h
    simp only [toD, ltP]
    first | rfl | decide +kernel
  | .bl x, b, h => by cases b <;> simp [alk] at h; exact PySem.W.dataLt_bool _ _
  | .int x, b, h => by cases b <;> simp [alk] at h; exact PySem.W.dataLt_int _ _
  | .str x, b, h => by cases b <;> simp [alk] at h; exact PySem.W.dataLt_str _ _
  | .tup xs, b, h => by
    have ih := alkAll_lt xs
    cases b <;> simp [alk] at h
    rw [toD, toD, PySem.W.dataLt_tuple, ltP]
    exact ih _ h
  | .lst xs, b, h => by
    have ih := alkAll_lt xs
    cases b <;> simp [alk] at h
    rw [toD, toD, PySem.W.dataLt_list, ltP]
    exact ih _ h
  | .dct _, _, h => by simp [alk] at h
  | .pst _, _, h => by simp [alk] at h
  | .ref _, _, h => by simp [alk] at h
  | .fn _, _, h => by simp [alk] at h
theorem alkAll_lt : ∀ a b : List PV, alkAll a b = true → PyProof.Rows.lexLt PyProof.Rows.itemOrd (PySem.W.keyToksAll (toDs a)) (PySem.W.keyToksAll (toDs b)) = ltAll a b
  | [], b, _ => by
    cases b with
    | nil => simp only [toDs, ltAll]; decide +kernel
    | cons y ys =>
      simp only [toDs, ltAll, PySem.W.keyToksAll]
      exact (PyProof.Rows.lex_diff (O := PyProof.Rows.itemOrd) (by simp)).trans (by decide +kernel)
  | x :: xs, b, h => by
    cases b with
    | nil =>
      simp only [toDs, ltAll, PySem.W.keyToksAll]
      exact (PyProof.Rows.lex_diff (O := PyProof.Rows.itemOrd) (by simp)).trans (by decide +kernel)
    | cons y ys =>
      simp only [alkAll, Bool.and_eq_true] at h
      rw [toDs, toDs, PySem.W.dataLt_cons (toD_alk x y h.1), alk_eqv x y h.1, alkAll_lt xs ys h.2, alk_lt x y h.1]
      simp only [ltAll]
end
theorem toDs_map : ∀ xs : List PV, toDs xs = xs.map toD
  | [] => rfl
  | x :: xs => by rw [toDs, toDs_map xs]; rfl
theorem datAll_iff : ∀ {xs : List PV}, datAll xs = true ↔ ∀ x ∈ xs, x.dat = true
  | [] => by simp [datAll]
  | x :: xs => by simp [datAll, datAll_iff (xs := xs)]
mutual
theorem alk_dat : ∀ a : PV, alk a a = true → a.dat = true
  | .non, _ => rfl | .bl _, _ => rfl | .int _, _ => rfl | .str _, _ => rfl
  | .tup xs, h => by rw [PV.dat]; exact alkAll_dat xs (by simpa [alk] using h)
  | .lst xs, h => by rw [PV.dat]; exact alkAll_dat xs (by simpa [alk] using h)
  | .dct _, h => by simp [alk] at h
  | .pst _, h => by simp [alk] at h
  | .ref _, h => by simp [alk] at h
  | .fn _, h => by simp [alk] at h
theorem alkAll_dat : ∀ a : List PV, alkAll a a = true → datAll a = true
  | [], _ => rfl
  | x :: xs, h => by
    simp only [alkAll, Bool.and_eq_true] at h
    simp only [datAll, alk_dat x h.1, alkAll_dat xs h.2, Bool.and_self]
end

/-! ### what is read -/
section
variable {W : Wd} {F H : Hp} {ph : List Addr} {hp : Hs}
mutual
theorem Rep.dp (h : RelH W F ph hp H) : ∀ (v : PV) {x : V}, v.dat = true → Rep W F ph v x → Dp W.K H x (toD v)
  | .non, _, _, r => by rw [r.nonV]; exact .non
  | .bl b, _, _, r => by rw [r.blV]; exact .bl b
  | .int i, _, _, r => by rw [r.intV]; exact .int i
  | .str s, _, _, r => by rw [r.strV.1]; exact .str s
  | .tup xs, _, d, r => by
    obtain ⟨a, vs, rfl, ha, ra⟩ := r.tupAt h
    exact .tup ha (RepA.dp h xs (by simpa [PV.dat] using d) ra)
  | .lst xs, _, d, r => by
    obtain ⟨a, vs, rfl, _, ha, ra⟩ := r.lstAt h
    exact .lst ha (RepA.dp h xs (by simpa [PV.dat] using d) ra)
  | .dct _, _, d, _ => by simp [PV.dat] at d
  | .pst _, _, d, _ => by simp [PV.dat] at d
  | .ref _, _, d, _ => by simp [PV.dat] at d
  | .fn _, _, d, _ => by simp [PV.dat] at d
theorem RepA.dp (h : RelH W F ph hp H) : ∀ (v : List PV) {x : List V}, datAll v = true → RepA W F ph v x → DpAll W.K H x (toDs v)
  | [], _, _, r => by cases r; exact .nil
  | y :: ys, _, d, r => by
    simp only [datAll, Bool.and_eq_true] at d
    cases r with
    | cons r t => exact .cons (Rep.dp h y d.1 r) (RepA.dp h ys d.2 t)
end
theorem Rep.tup' {xs : List PV} {x : V} (r : Rep W F ph (.tup xs) x) : ∃ vs, RepA W F ph xs vs := by
  cases r with
  | tup e q => exact ⟨_, q⟩
  | ktup e q => exact ⟨_, q⟩
  | obj e q => cases q
theorem Rep.lst' {xs : List PV} {x : V} (r : Rep W F ph (.lst xs) x) : ∃ vs, RepA W F ph xs vs := by
  cases r with
  | obj e q => cases q with | lst q => exact ⟨_, q⟩
mutual
theorem Rep.lay : ∀ (v : PV) {x : V}, v.dat = true → Rep W F ph v x → PyData.canLay0 (toD v) = true
  | .non, _, _, _ => rfl
  | .bl b, _, _, _ => rfl
  | .int i, _, _, _ => rfl
  | .str s, _, _, r => r.strV.2
  | .tup xs, _, d, r => by
    obtain ⟨vs, q⟩ := r.tup'
    rw [toD, PyData.canLay0]
    exact RepA.lay xs (by simpa [PV.dat] using d) q
  | .lst xs, _, d, r => by
    obtain ⟨vs, q⟩ := r.lst'
    rw [toD, PyData.canLay0]
    exact RepA.lay xs (by simpa [PV.dat] using d) q
  | .dct _, _, d, _ => by simp [PV.dat] at d
  | .pst _, _, d, _ => by simp [PV.dat] at d
  | .ref _, _, d, _ => by simp [PV.dat] at d
  | .fn _, _, d, _ => by simp [PV.dat] at d
theorem RepA.lay : ∀ (v : List PV) {x : List V}, datAll v = true → RepA W F ph v x → PyData.canLayAll0 (toDs v) = true
  | [], _, _, _ => rfl
  | y :: ys, _, d, r => by
    simp only [datAll, Bool.and_eq_true] at d
    cases r with
    | cons r t => rw [toDs, PyData.canLayAll0, Rep.lay y d.1 r, RepA.lay ys d.2 t]; rfl
end
end

/-! ### contexts that fit -/
structure Fit (W : Wd) (X : Cx) : Prop where
  P : X.prog = W.P
  w : X.w = W.w
  K : X.K = W.K
  un : X.A.units + 64 < cLine
  calm : X.calm = true
  kd : ∀ (a : Addr) (o : Obj), W.K.lookup a = some o → o.cls = .type "tuple" → o.dict = none
/-- what a result r is to bring about -/
def Res (W : Wd) (F : Hp) (ph : List Addr) (hp : Hs) (H : Hp) (r : Rv) (Q : VK) : Prop :=
  ∀ F' x H', Ext F ph H F' ph H' → RelH W F' ph hp H' → RRep W F' ph H H' r x → Q x H'
section
variable {W : Wd} {F H : Hp} {ph : List Addr} {hp : Hs} {Q : VK}
theorem Res.at_ (h : RelH W F ph hp H) {v : PV} {x : V} (q : Res W F ph hp H (false, v) Q) (r : Rep W F ph v x) : Q x H := q F x H Ext.refl h (RRep.of r)
/-- a new tuple, known to the object -/
theorem Res.tup (h : RelH W F ph hp H) {xs : List PV} {vs : List V} (q : Res W F ph hp H (false, .tup xs) Q) (r : RepA W F ph xs vs) {p : Addr} {ob : Obj} (hd : ob.dict = none) (n : H p = none) : Q (.ref p) (upd H p (.frz ob (.tup vs))) := by
  obtain ⟨np, nF⟩ := shared_not_new h n
  obtain ⟨h1, e1⟩ := h.laid (o := .frz ob (.tup vs)) n
  refine q (upd F p (.tup vs)) _ _ ⟨le_upd nF, fun a ha => ?_, e1.pre, e1.pnew, e1.pres, e1.dom⟩ (h1.freeze (.inr ⟨ob, upd_same⟩) nF np fun vs' z => ⟨ob, by cases z; exact upd_same, hd⟩) (RRep.of (.tup upd_same (r.mono (le_upd nF) fun _ _ z => z)))
  by_cases hap : a = p
  · subst hap; exact .inr n
  · rw [upd_ne hap] at ha; exact .inl ha
/-- a new object of one's own -/
theorem Res.new (h : RelH W F ph hp H) {v : PV} {o : HO} {p : Addr} (q : Res W F ph hp H (true, v) Q) (r : ORep W F ph p v o) (n : H p = none) : Q (.ref p) (upd H p o) := by
  obtain ⟨np, nF⟩ := shared_not_new h n
  obtain ⟨h1, e1⟩ := h.laid (o := o) n
  exact q F _ _ e1 h1 (RRep.own nF np n upd_same r)
end
/-- an operation on two values -/
def r2 (W : Wd) (f : PV → PV → Option Rv) : R2 := fun x y H Q => ∃ F ph hp vx vy r, RelH W F ph hp H ∧ Rep W F ph vx x ∧ Rep W F ph vy y ∧ f vx vy = some r ∧ Res W F ph hp H r Q
def opOf : Bop → Operator
  | .add => .Add | .sub => .Sub | .mul => .Mult | .fdiv => .FloorDiv | .mod => .Mod | .pow => .Pow | .shl => .LShift | .shr => .RShift | .band => .BitAnd
def cmpOf : Cop → CmpOp
  | .eq => .Eq | .ne => .NotEq | .lt => .Lt | .le => .LtE | .gt => .Gt | .ge => .GtE | .isin => .In | .nin => .NotIn | .is => .Is | .isnt => .IsNot
theorem big_iff {i : Int} (h : big i = true) : -(2 ^ 64) < i ∧ i < 2 ^ 64 := by simpa [big] using h
theorem strOk_append {x y : Str} (hx : PyData.strOk x = true) (hy : PyData.strOk y = true) : PyData.strOk (x ++ y) = true := by
  unfold PyData.strOk at *
  show (x.cps ++ y.cps).all _ = true
  rw [Array.all_append, hx, hy]; rfl
section
variable {X : Cx} {pins : List (Addr × Obj)} {σ : L2.St} {H : Hp} {s : Shared}
/-- a list to be read, as it lies in the heap -/
theorem rdL (I : Inv X pins σ H s) {l : Addr} {xs : List V} (h : Rd H l (.lst xs)) : ∃ (its : List Value) (n : Nat), Vals xs its ∧ xs.length = its.length ∧ its.length ≤ sizeLine ∧ s.heap.get? l = some { cls := .type "list", data := .seq its.toArray n } := by
  obtain ⟨z, its, n, r, e⟩ := h.ok I.hok
  exact ⟨its, n, r, r.length, by rw [← r.length]; exact z, e⟩
/-- the object of a new tuple -/
abbrev tupOb (its : List Value) : Obj := { cls := .type "tuple", data := .seq its.toArray }
theorem lay_tup {t : Nat} (I : Inv X pins σ H s) {xs : List V} {its : List Value} (r : Vals xs its) (hz : xs.length ≤ sizeLine) : Inv X pins σ (upd H s.heap.objs.size (.frz (tupOb its) (.tup xs))) { s with heap := s.heap.push (tupOb its), toks := t } :=
  I.laid (t' := t) (fun _ _ e => Heap.get?_push_of_some _ e) (Nat.le_refl _) ⟨Heap.get?_push_size _ rfl, hz, its, r, IsTup.new _ _⟩
/-- tuple + tuple, a new one known to the object -/
def rCatM (K : PySem.W.Frag) : R2 := fun x y H Q => ∃ a b xs ys, x = .ref a ∧ y = .ref b ∧ SqT K H a xs ∧ SqT K H b ys ∧ xs.length + ys.length ≤ sizeLine ∧
  (xs = [] → Q (.ref b) H) ∧ (xs ≠ [] → ys = [] → Q (.ref a) H) ∧ ∀ p (ob : Obj), ob.dict = none → H p = none → Q (.ref p) (upd H p (.frz ob (.tup (xs ++ ys))))
theorem op_catM : OpR X (binaryOp .Add) (rCatM X.K) := by
  intro pins s σ H x y v u Q I rx ry ⟨a, b, xs, ys, ex, ey, ha, hb, hz, q0, q1, q2⟩
  subst ex ey
  cases rx; cases ry
  obtain ⟨is1, r1, p1, _⟩ := I.tuple ha
  obtain ⟨is2, r2, p2, _⟩ := I.tuple hb
  by_cases hx : xs = []
  · subst hx; cases r1
    exact cat_tup0 p1 p2 ⟨.ref b, H, I, rfl, q0 rfl⟩
  · refine HT.cat_tup p1 p2 (fun z => hx (r1.nil_iff.mp z)) (fun z => ⟨.ref a, H, I, rfl, q1 hx (r2.nil_iff.mp z)⟩) (fun _ => ?_) (by rw [← r1.length, ← r2.length]; exact hz)
    have hl : (xs ++ ys).length ≤ sizeLine := by rw [List.length_append]; exact hz
    exact ⟨.ref _, _, lay_tup (t := s.toks) I (r1.append r2) hl, rfl, q2 _ _ rfl (I.hok.fresh (Nat.le_refl _))⟩
/-- list + list -/
def rCatR : R2 := fun x y H Q => ∃ l b xs zs, x = .ref l ∧ y = .ref b ∧ Rd H l (.lst xs) ∧ Rd H b (.lst zs) ∧ xs.length + zs.length ≤ sizeLine ∧ ∀ p, H p = none → Q (.ref p) (upd H p (.lst (xs ++ zs)))
theorem op_catR : OpR X (binaryOp .Add) rCatR := by
  intro pins s σ H x y v u Q I rx ry ⟨l, b, xs, zs, ex, ey, h1, h2, hz, q⟩
  subst ex ey
  cases rx; cases ry
  obtain ⟨is1, n1, r1, l1, _, g1⟩ := rdL I h1
  obtain ⟨is2, n2, r2, l2, _, g2⟩ := rdL I h2
  have hsum : is1.toArray.size + is2.toArray.size ≤ sizeLine := by simp only [List.size_toArray]; omega
  refine PySem.P.add_list g1 g2 ?_ hsum
  rw [show is1.toArray ++ is2.toArray = (is1 ++ is2).toArray by simp]
  have hl : (xs ++ zs).length ≤ sizeLine := by rw [List.length_append]; exact hz
  exact ⟨.ref _, _, I.lnew (t' := s.toks) (r1.append r2) hl, rfl, q _ I.fresh⟩
/-- list * int -/
def rRepR : R2 := fun x y H Q => ∃ l k xs, x = .ref l ∧ y = .int k ∧ Rd H l (.lst xs) ∧ -(2 ^ 63) ≤ k ∧ k < 2 ^ 63 ∧ xs.length * k.toNat ≤ sizeLine ∧
  ∀ p, H p = none → Q (.ref p) (upd H p (.lst (List.replicate k.toNat xs).flatten))
theorem op_repR : OpR X (binaryOp .Mult) rRepR := by
  intro pins s σ H x y v u Q I rx ry ⟨l, k, xs, ex, ey, h1, klo, khi, hz, q⟩
  subst ex ey
  cases rx
  obtain ⟨tk, rfl⟩ := ry
  obtain ⟨is1, n1, r1, l1, _, g1⟩ := rdL I h1
  have small : is1.toArray.size * k.toNat ≤ sizeLine := by simp only [List.size_toArray, ← l1]; exact hz
  have c1 : ¬ (!Builtin.List.listFitsIndex k) = true := by rw [fitsIndex_both klo khi]; simp
  have c2 : ¬ is1.toArray.size * k.toNat > (2 ^ 63 - 1) / 8 := by
    have line : (sizeLine : Nat) ≤ (2 ^ 63 - 1) / 8 := by decide
    exact Nat.not_lt.mpr (Nat.le_trans small line)
  have c3 : ¬ Builtin.List.listTooLong (is1.toArray.size * k.toNat) = true := by rw [notLongL small]; simp
  have all : ∀ m : Nat, List.foldl (fun a b => a ++ b) #[] (List.replicate m is1.toArray) = (List.replicate m is1).flatten.toArray := fun m => (foldl_rep is1 m []).trans (by rw [List.nil_append])
  have made : List.foldl (fun a b => a ++ b) #[] (List.replicate (if is1.toArray.isEmpty = true then 0 else k.toNat) is1.toArray) = (List.replicate k.toNat is1).flatten.toArray := by
    rw [all]
    cases is1 with
    | nil => simp
    | cons _ _ => simp
  have fin : wpAny (model X.prog X.w) X.A (binaryOp .Mult (.ref l) (.int k tk)) (EP X pins σ Q) X.xe s := by
    refine wpAny_binaryOp_repeat_ref (T := "list") (U := "int") (by decide) ⟨_, g1, rfl⟩ (fun s' => typeIs_int s' k tk) noFill_list_mul F.fills_int_mul F.slot_int_rmul repeat_list F.slot_int_index.lookup ?_
    refine call_meets F.slot_int_rmul (typeIs_int s k tk) F.entry_int_rmul (F.args_int_rmul_2 _ _) (int___rmul___int_list k tk l is1.toArray n1) ⟨g1, rfl, ⟨_, g1, rfl⟩, ?_⟩
    refine call_meets F.slot_list_mul ⟨_, g1, rfl⟩ F.entry_list_mul (F.args_list_mul_2 _ _) (AutoListH.list___mul___list_int_3 l is1.toArray n1 k tk c1 c2 c3) ⟨g1, ?_⟩
    rw [made]
    have hl : ((List.replicate k.toNat xs).flatten).length ≤ sizeLine := by rw [PyProof.Rows.lm_len_rep_flat, Nat.mul_comm]; exact hz
    exact ⟨.ref _, _, I.lnew (t' := s.toks) (r1.rep k.toNat) hl, rfl, q _ I.fresh⟩
  exact fin
/-- tuple * 1: the tuple itself -/
theorem tup_mul1 (l : Addr) (its : Array Value) (n : Nat) (dd : Option Addr) (sl : Array (Option Value)) (u : Tok) :
    Meets (Builtin.«tuple.__mul__» ⟨[.ref l, .int 1 u], []⟩) (fun _ R s => s.heap.get? l = some { cls := .type "tuple", dict := dd, data := .seq its n, slots := sl } ∧ R (.ok (.ret (Value.ref l))) s) :=
  .of_wp fun prog w A R s h => by
    obtain ⟨hp, g, d, tk, os⟩ := s
    obtain ⟨hl, hr⟩ := h
    have f1 := AutoSeq1.idx_int
    wp_walk using wpAny_loadPart' hl
    exact ⟨_, rfl, hr⟩
/-- tuple * int -/
def rRepTM (K : PySem.W.Frag) : R2 := fun x y H Q => ∃ l k xs, x = .ref l ∧ y = .int k ∧ SqT K H l xs ∧ xs ≠ [] ∧ 1 ≤ k ∧ k ≤ 1000 ∧ xs.length ≤ 1000 ∧
  (k = 1 → Q (.ref l) H) ∧ ∀ p (ob : Obj), ob.dict = none → H p = none → Q (.ref p) (upd H p (.frz ob (.tup (List.replicate k.toNat xs).flatten)))
theorem op_repTM : OpR X (binaryOp .Mult) (rRepTM X.K) := by
  intro pins s σ H x y v u Q I rx ry ⟨l, k, xs, ex, ey, hT, hne, k1, k2, hz, q1, q⟩
  subst ex ey
  cases rx
  obtain ⟨tk, rfl⟩ := ry
  obtain ⟨its, r, ⟨ob, ho, hc, n, hd⟩, hs⟩ := I.tuple hT
  obtain ⟨cls, dd, data, sl⟩ := ob
  simp only at hc hd
  subst hc hd
  have hle : its.length = xs.length := r.length.symm
  have e0 : its.toArray.isEmpty = false := by
    cases its with
    | nil => exact absurd (List.eq_nil_of_length_eq_zero hle.symm) hne
    | cons _ _ => rfl
  have e1 : its.toArray.size = xs.length := by rw [List.size_toArray, hle]
  refine wpAny_binaryOp_repeat_ref (T := "tuple") (U := "int") (by decide) ⟨_, ho, rfl⟩ (fun s' => typeIs_int s' k tk) L2.noFill_tuple_mul F.fills_int_mul F.slot_int_rmul L2.repeat_tuple F.slot_int_index.lookup ?_
  refine call_meets F.slot_int_rmul (typeIs_int s k tk) F.entry_int_rmul (F.args_int_rmul_2 _ _) (L2.int_rmul_tuple k tk l its.toArray n dd sl) ⟨ho, rfl, ⟨_, ho, rfl⟩, ?_⟩
  by_cases hk : k = 1
  · subst hk
    exact call_meets F.slot_tuple_mul ⟨_, ho, rfl⟩ F.entry_tuple_mul (F.args_tuple_mul_2 _ _) (tup_mul1 l its.toArray n dd sl tk) ⟨ho, .ref l, H, I, rfl, q1 rfl⟩
  · have hb : ((its.toArray.size : Nat) : Int) * k ≤ 1000000 := by
      rw [e1]
      have := Int.mul_le_mul_of_nonneg_right (show ((xs.length : Nat) : Int) ≤ 1000 by omega) (show (0 : Int) ≤ k by omega)
      omega
    have hfl : ((List.replicate k.toNat xs).flatten).length ≤ sizeLine := by
      rw [PyProof.Rows.lm_len_rep_flat, sizeLine_eq]
      have : k.toNat * xs.length ≤ 1000 * 1000 := Nat.mul_le_mul (by omega) hz
      omega
    have hfi : (List.replicate k.toNat its).flatten.length ≤ sizeLine := by
      rw [PyProof.Rows.lm_len_rep_flat, hle, ← PyProof.Rows.lm_len_rep_flat]
      exact hfl
    have b0 : (decide (k < -(2 ^ 63)) || decide (k ≥ 2 ^ 63)) = false := by
      rw [Bool.or_eq_false_iff]
      exact ⟨decide_eq_false (by omega), decide_eq_false (by omega)⟩
    have b1 : (its.toArray.isEmpty || k == 1) = false := by rw [e0]; simpa using hk
    have b2 : (decide (k ≤ 0) || its.toArray.isEmpty) = false := by rw [e0]; simp; omega
    have b4 : Builtin.Tuple.tupleTooMany (((its.toArray.size : Nat) : Int) * k) = false := by
      unfold Builtin.Tuple.tupleTooMany
      rw [sizeLine_eq]
      exact decide_eq_false (by omega)
    refine call_meets F.slot_tuple_mul ⟨_, ho, rfl⟩ F.entry_tuple_mul (F.args_tuple_mul_2 _ _) (L2.tuple_mulW l its.toArray n dd sl k tk b0 b1 b2 (by omega) b4 (by rw [L2.size_rep, List.size_toArray]; exact hfi)) ⟨ho, ?_⟩
    rw [L2.size_rep]
    exact ⟨.ref _, _, lay_tup (t := s.toks) I (r.rep k.toNat) hfl, rfl, q _ _ rfl (I.hok.fresh (Nat.le_refl _))⟩
end
section
variable {W : Wd} {X : Cx}
theorem op_bin (fit : Fit W X) (op : Bop) (hop : op ≠ .mul ∨ True) : OpR X (binaryOp (opOf op)) (r2 W (binP op)) := by
  obtain ⟨hP, hw, hK, hu, hc, _⟩ := fit
  intro pins s σ H x y v u Q I rx ry ⟨F, ph, hp, vx, vy, r, hR, qx, qy, e, hQ⟩
  unfold binP at e
  split at e
  · cases e; cases qx.intV; cases qy.intV
    exact op_add pins s σ H _ _ v u Q I rx ry ⟨_, _, rfl, rfl, hQ.at_ hR (.int _)⟩
  · rename_i i j
    split at e
    · rename_i hl
      cases e
      obtain ⟨rfl, ox⟩ := qx.strV
      obtain ⟨rfl, oy⟩ := qy.strV
      exact op_add_str pins s σ H _ _ v u Q I rx ry ⟨_, _, rfl, rfl, hl, hQ.at_ hR (.str _ (strOk_append ox oy))⟩
    · cases e
  · rename_i xs ys
    split at e
    · rename_i hl
      cases e
      obtain ⟨a, vs, rfl, ha, ra⟩ := qx.tupAt hR
      obtain ⟨b, ws, rfl, hb, rb⟩ := qy.tupAt hR
      rw [← hK] at ha hb
      refine op_catM pins s σ H _ _ v u Q I rx ry ⟨a, b, vs, ws, rfl, rfl, ha, hb, by rw [← ra.length, ← rb.length]; exact hl, fun z => ?_, fun _ z => ?_, fun p ob hd n => hQ.tup hR (ra.append rb) hd n⟩
      · subst z; cases ra; exact hQ.at_ hR qy
      · subst z; cases rb; rw [List.append_nil] at hQ; exact hQ.at_ hR qx
    · cases e
  · rename_i xs ys
    split at e
    · rename_i hl
      cases e
      obtain ⟨a, vs, rfl, fa, _, ra⟩ := qx.lstAt hR
      obtain ⟨b, ws, rfl, fb, _, rb⟩ := qy.lstAt hR
      exact op_catR pins s σ H _ _ v u Q I rx ry ⟨a, b, vs, ws, rfl, rfl, hR.sub _ _ fa, hR.sub _ _ fb, by rw [← ra.length, ← rb.length]; exact hl, fun p n => hQ.new hR (.lst (ra.append rb)) n⟩
    · cases e
  · cases e; cases qx.intV; cases qy.intV
    exact op_sub pins s σ H _ _ v u Q I rx ry ⟨_, _, rfl, rfl, hQ.at_ hR (.int _)⟩
  · split at e
    · rename_i hb
      cases e; cases qx.intV; cases qy.intV
      rw [Bool.or_eq_true] at hb
      exact op_mul pins s σ H _ _ v u Q I rx ry ⟨_, _, rfl, rfl, hb.imp big_iff big_iff, hQ.at_ hR (.int _)⟩
    · cases e
  · rename_i xs k
    split at e
    · rename_i hb
      cases e; cases qy.intV
      obtain ⟨a, vs, rfl, fa, _, ra⟩ := qx.lstAt hR
      exact op_repR pins s σ H _ _ v u Q I rx ry ⟨a, k, vs, rfl, rfl, hR.sub _ _ fa, hb.2.1, hb.2.2, by rw [← ra.length]; exact hb.1, fun p n => hQ.new hR (.lst (ra.rep _)) n⟩
    · cases e
  · rename_i xs k
    split at e
    · rename_i hb
      cases e; cases qy.intV
      obtain ⟨a, vs, rfl, ha, ra⟩ := qx.tupAt hR
      rw [← hK] at ha
      refine op_repTM pins s σ H _ _ v u Q I rx ry ⟨a, k, vs, rfl, rfl, ha, fun z => hb.1 ?_, hb.2.1, hb.2.2.1, by rw [← ra.length]; exact hb.2.2.2, fun z => ?_, fun p ob hd n => hQ.tup hR (ra.rep _) hd n⟩
      · subst z; cases ra; rfl
      · subst z
        have : (List.replicate (1 : Int).toNat xs).flatten = xs := by simp
        rw [this] at hQ
        exact hQ.at_ hR qx
    · cases e
  · split at e
    · rename_i hb
      cases e; cases qx.intV; cases qy.intV
      exact op_fdivN pins s σ H _ _ v u Q I rx ry ⟨_, _, rfl, rfl, hb, hQ.at_ hR (.int _)⟩
    · cases e
  · split at e
    · rename_i hb
      cases e; cases qx.intV; cases qy.intV
      exact op_modN pins s σ H _ _ v u Q I rx ry ⟨_, _, rfl, rfl, hb, hQ.at_ hR (.int _)⟩
    · cases e
  · split at e
    · rename_i hb
      cases e; cases qx.intV; cases qy.intV
      exact op_pow pins s σ H _ _ v u Q I rx ry ⟨_, _, rfl, rfl, hb, hQ.at_ hR (.int _)⟩
    · cases e
  · split at e
    · rename_i hb
      cases e; cases qx.intV; cases qy.intV
      exact op_shl pins s σ H _ _ v u Q I rx ry ⟨_, _, rfl, rfl, hb, hQ.at_ hR (.int _)⟩
    · cases e
  · split at e
    · rename_i hb
      cases e; cases qx.intV; cases qy.intV
      exact op_shr pins s σ H _ _ v u Q I rx ry ⟨_, _, rfl, rfl, hb, hQ.at_ hR (.int _)⟩
    · cases e
  · cases e; cases qx.intV; cases qy.intV
    exact op_and pins s σ H _ _ v u Q I rx ry ⟨_, _, rfl, rfl, hQ.at_ hR (.int _)⟩
  · cases e
/-- a comparison of two values -/
def r2b (W : Wd) (f : PV → PV → Option Bool) : R2 := fun x y H Q => ∃ F ph hp vx vy b, RelH W F ph hp H ∧ Rep W F ph vx x ∧ Rep W F ph vy y ∧ f vx vy = some b ∧ Q (.bl b) H
theorem okEq_iff {a b : PV} (h : okEq a b = true) : a.dat = true ∧ b.dat = true ∧ min a.dep b.dep ≤ 60 := by
  simpa [okEq, Bool.and_eq_true, and_assoc] using h
theorem okLt_all {a b : PV} (h : okLt a b = true) : alk a b = true ∧ min a.dep b.dep ≤ 60 ∧ eqP a .non = false ∧ a.dat = true ∧ b.dat = true := by
  have q : (((alk a b = true ∧ a.dat = true) ∧ b.dat = true) ∧ min a.dep b.dep ≤ 60) ∧ eqP a .non = false := by simpa only [okLt, Bool.and_eq_true, decide_eq_true_eq, Bool.not_eq_true'] using h
  exact ⟨q.1.1.1.1, q.1.2, q.2, q.1.1.1.2, q.1.1.2⟩
/-- two data, as they read in the heap -/
theorem two_reads (fit : Fit W X) {pins : List (Addr × Obj)} {σ : L2.St} {H F : Hp} {s : Shared} {ph : List Addr} {hp : Hs} {x y : V} {v u : Value} {vx vy : PV} (I : Inv X pins σ H s) (rx : RelV x v) (ry : RelV y u) (hR : RelH W F ph hp H)
    (qx : Rep W F ph vx x) (qy : Rep W F ph vy y) (dx : vx.dat = true) (dy : vy.dat = true) : (∃ as, Reads s.heap v (toD vx) as) ∧ ∃ bs, Reads s.heap u (toD vy) bs := by
  have h1 := qx.dp hR vx dx
  have h2 := qy.dp hR vy dy
  rw [← fit.K] at h1 h2
  exact ⟨h1.reads I _ _ _ rx, h2.reads I _ _ _ ry⟩
end
end MP
set_option maxRecDepth 100000
/-! MiniPy: comparisons, items, slices, built-ins by values. -/
namespace MP
open PySem PySem.Spec PyProof.Rows L2
mutual
theorem alk_symm : ∀ a b : PV, alk a b = true → alk b a = true
  | .non, b, h => by cases b <;> simp [alk] at h ⊢
  | .bl _, b, h => by cases b <;> simp [alk] at h ⊢
  | .int _, b, h => by cases b <;> simp [alk] at h ⊢
  | .str _, b, h => by cases b <;> simp [alk] at h ⊢
  | .tup xs, b, h => by
    have ih := alkAll_symm xs
    cases b <;> simp [alk] at h ⊢
    exact ih _ h
  | .lst xs, b, h => by
    have ih := alkAll_symm xs
    cases b <;> simp [alk] at h ⊢
    exact ih _ h
  | .dct _, _, h => by simp [alk] at h
  | .pst _, _, h => by simp [alk] at h
  | .ref _, _, h => by simp [alk] at h
  | .fn _, _, h => by simp [alk] at h
theorem alkAll_symm : ∀ a b : List PV, alkAll a b = true → alkAll b a = true
  | [], b, _ => by cases b <;> simp [alkAll]
  | x :: xs, b, h => by
    cases b with
    | nil => simp [alkAll]
    | cons y ys =>
      simp only [alkAll, Bool.and_eq_true] at h ⊢
      exact ⟨alk_symm x y h.1, alkAll_symm xs ys h.2⟩
end
theorem toD_none {a : PV} (h : eqP a .non = false) (d : a.dat = true) : toD a ≠ .none := by
  cases a <;> simp [eqP, PV.dat] at h d <;> simp [toD]
section
variable {W : Wd} {X : Cx}
theorem room60 {n m : Nat} {A : Around} (hu : A.units + 64 < cLine) (h : min n m ≤ 60) : A.units + min n m < cLine := by omega
theorem room61 {n m : Nat} {A : Around} (hu : A.units + 64 < cLine) (h : min n m ≤ 60) : A.units + 1 + min n m < cLine := by omega
theorem any_eqv {x : PV} (hx : x.dat = true) : ∀ {ys : List PV}, datAll ys = true → ((toDs ys).any fun y => PyData.eqv y (toD x)) = memP x ys
  | [], _ => rfl
  | y :: ys, h => by
    simp only [datAll, Bool.and_eq_true] at h
    simp only [toDs, List.any_cons, toD_eqv y x h.1 hx, any_eqv hx h.2, memP]
theorem okMem_iff {x : PV} {xs : List PV} (h : okMem x xs = true) : x.dat = true ∧ datAll xs = true ∧ min (depAll xs) x.dep ≤ 60 := by
  have q : (x.dat = true ∧ datAll xs = true) ∧ min x.dep (depAll xs) ≤ 60 := by simpa [okMem, Bool.and_eq_true] using h
  exact ⟨q.1.1, q.1.2, by rw [Nat.min_comm]; exact q.2⟩
/-- the keys of a dict, as the layer has them -/
theorem keyOf_rel {F : Hp} {ph : List Addr} {x : PV} {k : Key} {v : V} (h : keyOf x = some k) (r : Rep W F ph x v) : v = kV k := by
  cases x <;> simp [keyOf] at h
  · subst h; exact r.intV
  · subst h; exact r.strV.1
theorem keysOf_rel {F : Hp} {ph : List Addr} : ∀ {xs : List PV} {ks : List Key} {vs : List V}, keysOf xs = some ks → RepA W F ph xs vs → vs = ks.map kV
  | [], ks, vs, h, r => by
    cases r
    have e : ks = [] := by simpa [keysOf] using h.symm
    subst e; rfl
  | x :: xs, ks, vs, h, r => by
    cases r with
    | cons r t =>
      simp only [keysOf, Option.bind_eq_some_iff, Option.map_eq_some_iff] at h
      obtain ⟨k, h1, ms, h2, rfl⟩ := h
      rw [keyOf_rel h1 r, keysOf_rel h2 t]; rfl
theorem eqP_key {x y : PV} {k j : Key} (hx : keyOf x = some k) (hy : keyOf y = some j) : eqP x y = decide (k = j) := by
  cases x <;> simp [keyOf] at hx <;> cases y <;> simp [keyOf] at hy <;> subst hx <;> subst hy <;> simp [eqP]
  · rw [Bool.beq_eq_decide_eq]
  · rw [Bool.beq_eq_decide_eq]
theorem eqAll_keys : ∀ {xs ys : List PV} {k j : List Key}, keysOf xs = some k → keysOf ys = some j → eqAll xs ys = decide (k = j)
  | [], ys, k, j, hx, hy => by
    have e : k = [] := by simpa [keysOf] using hx.symm
    subst e
    cases ys with
    | nil =>
      have e : j = [] := by simpa [keysOf] using hy.symm
      subst e; rfl
    | cons y ys =>
      simp only [keysOf, Option.bind_eq_some_iff, Option.map_eq_some_iff] at hy
      obtain ⟨k, h1, ms, h2, rfl⟩ := hy
      simp [eqAll]
  | x :: xs, ys, k, j, hx, hy => by
    simp only [keysOf, Option.bind_eq_some_iff, Option.map_eq_some_iff] at hx
    obtain ⟨k1, h1, ms, h2, rfl⟩ := hx
    cases ys with
    | nil =>
      have e : j = [] := by simpa [keysOf] using hy.symm
      subst e; simp [eqAll]
    | cons y ys =>
      simp only [keysOf, Option.bind_eq_some_iff, Option.map_eq_some_iff] at hy
      obtain ⟨k2, h3, ns, h4, rfl⟩ := hy
      rw [eqAll, eqP_key h1 h3, eqAll_keys h2 h4]
      by_cases e1 : k1 = k2
      · by_cases e2 : ms = ns
        · simp [e1, e2]
        · simp [e1, e2]
      · simp [e1]
theorem eqP_tkey {x y : PV} {k j : List Key} (hx : tkeyOf x = some k) (hy : tkeyOf y = some j) : eqP x y = decide (k = j) := by
  cases x <;> simp [tkeyOf] at hx
  cases y <;> simp [tkeyOf] at hy
  rw [eqP]; exact eqAll_keys hx hy
end
end MP
set_option maxRecDepth 100000
/-! MiniPy: dicts by values. -/
namespace MP
open PySem PySem.Spec PyProof.Rows L2
section
variable {W : Wd} {F : Hp} {ph : List Addr}
inductive EK (W : Wd) (F : Hp) (ph : List Addr) : List (PV × PV) → List (Key × Value) → Prop
  | nil : EK W F ph [] []
  | cons {x y : PV} {k : Key} {v : V} {u : Value} {xs : List (PV × PV)} {us : List (Key × Value)} : keyOf x = some k → Rep W F ph y v → RelV v u → EK W F ph xs us → EK W F ph ((x, y) :: xs) ((k, u) :: us)
def TKey (W : Wd) (F : Hp) (b : Addr) (ks : List Key) : Prop := F b = some (.tup (ks.map kV)) ∨ KTup W.K b (ks.map kV)
inductive ET (W : Wd) (F : Hp) (ph : List Addr) : List (PV × PV) → List (List Key × Addr × Value) → Prop
  | nil : ET W F ph [] []
  | cons {x y : PV} {k : List Key} {b : Addr} {v : V} {u : Value} {xs : List (PV × PV)} {us : List (List Key × Addr × Value)} : tkeyOf x = some k → TKey W F b k → Rep W F ph y v → RelV v u → ET W F ph xs us → ET W F ph ((x, y) :: xs) ((k, b, u) :: us)
theorem isKey_some {x : PV} (h : isKey x = true) : ∃ k, keyOf x = some k := by cases x <;> simp [isKey] at h <;> exact ⟨_, rfl⟩
theorem keys_some : ∀ {xs : List PV}, xs.all isKey = true → ∃ ks, keysOf xs = some ks
  | [], _ => ⟨[], rfl⟩
  | x :: xs, h => by
    simp only [List.all_cons, Bool.and_eq_true] at h
    obtain ⟨k, hk⟩ := isKey_some h.1
    obtain ⟨ks, hks⟩ := keys_some h.2
    exact ⟨k :: ks, by simp [keysOf, hk, hks]⟩
theorem isTKey_some {x : PV} (h : isTKey x = true) : ∃ k, tkeyOf x = some k := by
  cases x <;> simp [isTKey] at h
  obtain ⟨ks, e⟩ := keys_some (List.all_eq_true.mpr h)
  exact ⟨ks, e⟩
theorem scal_not_tup {x : PV} {k : Key} {ks : List Key} (h : keyOf x = some k) (h' : tkeyOf x = some ks) : False := by
  cases x <;> simp [keyOf, tkeyOf] at h h'
theorem RepD.scal : ∀ {kvs : List (PV × PV)} {es : List DictEntry}, RepD W F ph kvs es → (keysP kvs).all isKey = true →
    ∃ us, Pairs (mixKind W.P W.w) es us ∧ (∀ e ∈ es, ∃ k, (mixKind W.P W.w).is k e.key = true ∧ e.hash = (mixKind W.P W.w).hash k) ∧ EK W F ph kvs us
  | _, _, .nil, _ => ⟨[], .nil, fun _ h => by simp at h, .nil⟩
  | _, _, .cons (x := x) (e := e) hk r rv t, h => by
    simp only [keysP, List.map_cons, List.all_cons, Bool.and_eq_true] at h
    obtain ⟨us, p, q, z⟩ := RepD.scal t h.2
    obtain ⟨k, hx⟩ := isKey_some h.1
    obtain ⟨hh, ky, vl⟩ := e
    cases hk with
    | scal h1 h2 =>
      refine ⟨_, .cons (kv := (_, vl)) h2 rfl p, fun e he => ?_, .cons h1 r rv z⟩
      rcases List.mem_cons.mp he with rfl | he
      · exact ⟨_, h2, rfl⟩
      · exact q e he
    | tup h1 h2 => exact (scal_not_tup hx h1).elim
theorem RepD.tupk : ∀ {kvs : List (PV × PV)} {es : List DictEntry}, RepD W F ph kvs es → (keysP kvs).all isTKey = true →
    ∃ us, es = us.map (entryOfKey (tupleKind (mixKind W.P W.w))) ∧ ET W F ph kvs us
  | _, _, .nil, _ => ⟨[], rfl, .nil⟩
  | _, _, .cons (x := x) (e := e) hk r rv t, h => by
    simp only [keysP, List.map_cons, List.all_cons, Bool.and_eq_true] at h
    obtain ⟨us, p, z⟩ := RepD.tupk t h.2
    obtain ⟨k, hx⟩ := isTKey_some h.1
    obtain ⟨hh, ky, vl⟩ := e
    cases hk with
    | scal h1 h2 => exact (scal_not_tup h1 hx).elim
    | tup h1 h2 => exact ⟨(_, _, vl) :: us, by rw [p]; rfl, .cons h1 h2 r rv z⟩
theorem EK.look {x : PV} {k : Key} (hx : keyOf x = some k) : ∀ {kvs : List (PV × PV)} {us : List (Key × Value)}, EK W F ph kvs us →
    (∀ y, getKv x kvs = some y → ∃ v u, valueAt us k = some u ∧ RelV v u ∧ Rep W F ph y v) ∧ (getKv x kvs = none → valueAt us k = none)
  | _, _, .nil => ⟨fun y h => by simp [getKv] at h, fun _ => rfl⟩
  | _, _, .cons (x := x') (k := k') (us := us) hk r rv t => by
    obtain ⟨i1, i2⟩ := EK.look hx t
    have e := eqP_key hk hx
    by_cases c : k' = k
    · have e' : eqP x' x = true := by rw [e]; simp [c]
      refine ⟨fun y h => ?_, fun h => ?_⟩
      · simp only [getKv, if_pos e'] at h
        cases h
        exact ⟨_, _, by simp [valueAt, List.find?_cons, c], rv, r⟩
      · simp [getKv, e'] at h
    · have e' : eqP x' x = false := by rw [e]; simp [c]
      have q : ∀ u, valueAt ((k', u) :: us) k = valueAt us k := fun u => by simp [valueAt, List.find?_cons, c]
      refine ⟨fun y h => ?_, fun h => ?_⟩
      · simp only [getKv, e', Bool.false_eq_true, if_false] at h
        rw [q]; exact i1 y h
      · simp only [getKv, e', Bool.false_eq_true, if_false] at h
        rw [q]; exact i2 h
theorem ET.look {x : PV} {k : List Key} (hx : tkeyOf x = some k) : ∀ {kvs : List (PV × PV)} {us : List (List Key × Addr × Value)}, ET W F ph kvs us →
    (∀ y, getKv x kvs = some y → ∃ v b u, atKey us k = some (b, u) ∧ RelV v u ∧ Rep W F ph y v) ∧ (getKv x kvs = none → atKey us k = none)
  | _, _, .nil => ⟨fun y h => by simp [getKv] at h, fun _ => rfl⟩
  | _, _, .cons (x := x') (k := k') (b := b') (u := u') (us := us) hk hb r rv t => by
    obtain ⟨i1, i2⟩ := ET.look hx t
    have e := eqP_tkey hk hx
    by_cases c : k' = k
    · have e' : eqP x' x = true := by rw [e]; simp [c]
      refine ⟨fun y h => ?_, fun h => ?_⟩
      · simp only [getKv, if_pos e'] at h
        cases h
        exact ⟨_, b', u', by simp [atKey, List.find?_cons, c], rv, r⟩
      · simp [getKv, e'] at h
    · have e' : eqP x' x = false := by rw [e]; simp [c]
      have q : ∀ u, atKey ((k', u) :: us) k = atKey us k := fun u => by simp [atKey, List.find?_cons, c]
      refine ⟨fun y h => ?_, fun h => ?_⟩
      · simp only [getKv, e', Bool.false_eq_true, if_false] at h
        rw [q]; exact i1 y h
      · simp only [getKv, e', Bool.false_eq_true, if_false] at h
        rw [q]; exact i2 h
theorem getKv_isSome (x : PV) : ∀ kvs : List (PV × PV), memP x (keysP kvs) = (getKv x kvs).isSome
  | [] => rfl
  | (k, v) :: r => by
    have ih := getKv_isSome x r
    simp only [keysP, List.map_cons, memP, List.any_cons, getKv] at ih ⊢
    cases eqP k x <;> simp [ih]
theorem EK.mem {k : Key} : ∀ {kvs : List (PV × PV)} {us : List (Key × Value)}, EK W F ph kvs us → k ∈ us.map (·.1) → ∃ x ∈ keysP kvs, keyOf x = some k
  | _, _, .nil, h => by simp at h
  | _, _, .cons (x := x') hk r rv t, h => by
    rw [List.map_cons] at h
    rcases List.mem_cons.mp h with rfl | h
    · exact ⟨x', by simp [keysP], hk⟩
    · obtain ⟨x, h1, h2⟩ := EK.mem t h
      exact ⟨x, by rw [keysP, List.map_cons]; exact List.mem_cons_of_mem _ h1, h2⟩
theorem EK.nodup : ∀ {kvs : List (PV × PV)} {us : List (Key × Value)}, EK W F ph kvs us → (kvs.map (·.1)).Pairwise (fun x y => eqP x y = false) → (us.map (·.1)).Nodup
  | _, _, .nil, _ => List.nodup_nil
  | _, _, .cons (x := x') hk r rv t, h => by
    rw [List.map_cons] at h ⊢
    obtain ⟨h1, h2⟩ := List.pairwise_cons.mp h
    refine List.nodup_cons.mpr ⟨fun hm => ?_, EK.nodup t h2⟩
    obtain ⟨x, hx, e⟩ := EK.mem t hm
    have q := h1 x hx
    rw [eqP_key hk e] at q
    simp at q
theorem ET.mem {k : List Key} : ∀ {kvs : List (PV × PV)} {us : List (List Key × Addr × Value)}, ET W F ph kvs us → k ∈ us.map (·.1) → ∃ x ∈ keysP kvs, tkeyOf x = some k
  | _, _, .nil, h => by simp at h
  | _, _, .cons (x := x') hk hb r rv t, h => by
    rw [List.map_cons] at h
    rcases List.mem_cons.mp h with rfl | h
    · exact ⟨x', by simp [keysP], hk⟩
    · obtain ⟨x, h1, h2⟩ := ET.mem t h
      exact ⟨x, by rw [keysP, List.map_cons]; exact List.mem_cons_of_mem _ h1, h2⟩
theorem ET.nodup : ∀ {kvs : List (PV × PV)} {us : List (List Key × Addr × Value)}, ET W F ph kvs us → (kvs.map (·.1)).Pairwise (fun x y => eqP x y = false) → (us.map (·.1)).Nodup
  | _, _, .nil, _ => List.nodup_nil
  | _, _, .cons (x := x') hk hb r rv t, h => by
    rw [List.map_cons] at h ⊢
    obtain ⟨h1, h2⟩ := List.pairwise_cons.mp h
    refine List.nodup_cons.mpr ⟨fun hm => ?_, ET.nodup t h2⟩
    obtain ⟨x, hx, e⟩ := ET.mem t hm
    have q := h1 x hx
    rw [eqP_tkey hk e] at q
    simp at q
theorem EK.put {x y : PV} {k : Key} {v : V} {u : Value} (hx : keyOf x = some k) (ry : Rep W F ph y v) (rv : RelV v u) : ∀ {kvs : List (PV × PV)} {us : List (Key × Value)}, EK W F ph kvs us → (us.map (·.1)).Nodup →
    EK W F ph (setKv x y kvs) (stored us k u)
  | _, _, .nil, _ => .cons hx ry rv .nil
  | _, _, .cons (x := x') (k := k') (u := u') (us := us) hk r rv' t, h => by
    rw [List.map_cons, List.nodup_cons] at h
    have ih := EK.put hx ry rv t h.2
    have e := eqP_key hk hx
    by_cases c : k' = k
    · have e' : eqP x' x = true := by rw [e]; simp [c]
      have no : us.map (fun kv => if kv.1 = k then (kv.1, u) else kv) = us := by
        have : ∀ kv ∈ us, (if kv.1 = k then (kv.1, u) else kv) = kv := fun kv hm => if_neg fun z => h.1 (by rw [c, ← z]; exact List.mem_map.mpr ⟨kv, hm, rfl⟩)
        rw [List.map_congr_left this, List.map_id']
      have q : stored ((k', u') :: us) k u = (k', u) :: us := by
        simp only [stored, List.any_cons, c, decide_true, Bool.true_or, if_true, List.map_cons]
        rw [no]
      rw [q]
      simp only [setKv, if_pos e']
      exact .cons hk ry rv t
    · have e' : eqP x' x = false := by rw [e]; simp [c]
      have q : stored ((k', u') :: us) k u = (k', u') :: stored us k u := by
        simp only [stored, List.any_cons, c, decide_false, Bool.false_or, List.map_cons, if_false]
        split <;> rfl
      rw [q]
      simp only [setKv, e', Bool.false_eq_true, if_false]
      exact .cons hk r rv' ih
theorem ET.put {x y : PV} {k : List Key} {b : Addr} {v : V} {u : Value} (hx : tkeyOf x = some k) (hb : TKey W F b k) (ry : Rep W F ph y v) (rv : RelV v u) : ∀ {kvs : List (PV × PV)} {us : List (List Key × Addr × Value)}, ET W F ph kvs us → (us.map (·.1)).Nodup →
    ET W F ph (setKv x y kvs) (storedH us k b u)
  | _, _, .nil, _ => .cons hx hb ry rv .nil
  | _, _, .cons (x := x') (k := k') (b := b') (u := u') (us := us) hk hb' r rv' t, h => by
    rw [List.map_cons, List.nodup_cons] at h
    have ih := ET.put hx hb ry rv t h.2
    have e := eqP_tkey hk hx
    by_cases c : k' = k
    · have e' : eqP x' x = true := by rw [e]; simp [c]
      have no : us.map (putAt k u) = us := by
        have : ∀ kv ∈ us, putAt k u kv = kv := fun kv hm => if_neg fun z => h.1 (by rw [c, ← z]; exact List.mem_map.mpr ⟨kv, hm, rfl⟩)
        rw [List.map_congr_left this, List.map_id']
      have q : storedH ((k', b', u') :: us) k b u = (k', b', u) :: us := by
        have a1 : atKey ((k', b', u') :: us) k = some (b', u') := by simp [atKey, List.find?_cons, c]
        rw [storedH_old a1, List.map_cons, no]
        simp [putAt, c]
      rw [q]
      simp only [setKv, if_pos e']
      exact .cons hk hb' ry rv t
    · have e' : eqP x' x = false := by rw [e]; simp [c]
      have q : storedH ((k', b', u') :: us) k b u = (k', b', u') :: storedH us k b u := by
        have a1 : atKey ((k', b', u') :: us) k = atKey us k := by simp [atKey, List.find?_cons, c]
        unfold storedH
        rw [a1]
        split
        · rw [List.map_cons]; simp [putAt, c]
        · rfl
      rw [q]
      simp only [setKv, e', Bool.false_eq_true, if_false]
      exact .cons hk hb' r rv' ih
theorem EK.back : ∀ {kvs : List (PV × PV)} {us : List (Key × Value)} {es : List DictEntry}, EK W F ph kvs us → Pairs (mixKind W.P W.w) es us →
    (∀ e ∈ es, ∃ k, (mixKind W.P W.w).is k e.key = true ∧ e.hash = (mixKind W.P W.w).hash k) → RepD W F ph kvs es
  | _, _, _, .nil, p, _ => by cases p; exact .nil
  | _, _, _, .cons (k := k) hk r rv t, p, q => by
    cases p with
    | @cons e _ es _ h1 h2 p' =>
      obtain ⟨j, hj, hh⟩ := q e List.mem_cons_self
      have ej : j = k := (mixKind W.P W.w).inj _ _ _ hj h1
      subst ej
      exact .cons (by rw [hh]; exact .scal hk h1) r (by rw [h2]; exact rv) (EK.back t p' fun e he => q e (List.mem_cons_of_mem _ he))
theorem ET.back : ∀ {kvs : List (PV × PV)} {us : List (List Key × Addr × Value)}, ET W F ph kvs us → RepD W F ph kvs (us.map (entryOfKey (tupleKind (mixKind W.P W.w))))
  | _, _, .nil => .nil
  | _, _, .cons hk hb r rv t => .cons (.tup hk hb) r rv (ET.back t)
theorem pairwise_put {x y : PV} : ∀ {kvs : List (PV × PV)}, (kvs.map (·.1)).Pairwise (fun x y => eqP x y = false) → ((setKv x y kvs).map (·.1)).Pairwise (fun x y => eqP x y = false)
  | [], _ => by simp [setKv]
  | (k, v) :: r, h => by
    rw [List.map_cons, List.pairwise_cons] at h
    unfold setKv
    by_cases c : eqP k x = true
    · rw [if_pos c, List.map_cons, List.pairwise_cons]; exact h
    · rw [if_neg c, List.map_cons, List.pairwise_cons]
      refine ⟨fun z hz => ?_, pairwise_put h.2⟩
      have : ∀ r : List (PV × PV), ∀ z ∈ (setKv x y r).map (·.1), z = x ∨ z ∈ r.map (·.1) := by
        intro r
        induction r with
        | nil => intro z hz; simp [setKv] at hz; exact .inl hz
        | cons p r ih =>
          intro z hz
          obtain ⟨k', v'⟩ := p
          unfold setKv at hz
          split at hz
          · exact .inr hz
          · rw [List.map_cons] at hz ⊢
            rcases List.mem_cons.mp hz with rfl | hz
            · exact .inr List.mem_cons_self
            · exact (ih z hz).imp id (List.mem_cons_of_mem _)
      rcases this r z hz with rfl | hm
      · simpa using c
      · exact h.1 z hm
theorem ET.keys {us : List (List Key × Addr × Value)} {kvs : List (PV × PV)} (h : ET W F ph kvs us) : ∀ z ∈ us, TKey W F z.2.1 z.1 := by
  induction h with
  | nil => intro z hz; simp at hz
  | cons hk hb r rv t ih =>
    intro z hz
    rcases List.mem_cons.mp hz with rfl | hz
    · exact hb
    · exact ih z hz
theorem setKv_length (x y : PV) : ∀ kvs : List (PV × PV), (setKv x y kvs).length ≤ kvs.length + 1
  | [] => by simp [setKv]
  | (k, v) :: r => by
    have ih := setKv_length x y r
    unfold setKv
    split <;> simp <;> omega
end
end MP
set_option maxRecDepth 100000
/-! MiniPy: comparisons, items, dicts over the machine. -/
namespace MP
open PySem PySem.Spec PyProof.Rows L2
section
variable {W : Wd} {X : Cx} {pins : List (Addr × Obj)} {σ : L2.St} {H F : Hp} {s : Shared} {ph : List Addr} {hp : Hs}
theorem Fit.u1 (fit : Fit W X) : X.A.units + 1 < cLine := by have := fit.un; omega
theorem TKey.at_ (fit : Fit W X) (I : Inv X pins σ H s) (hR : RelH W F ph hp H) {b : Addr} {ks : List Key} (h : TKey W F b ks) : (tupleKind (mixKind W.P W.w)).is s.heap ks b := by
  have q : SqT X.K H b (ks.map kV) := by
    rw [fit.K]
    exact h.elim (fun e => .inl (hR.sub _ _ e)) fun e => .inr e
  obtain ⟨its, rv, ⟨o, h1, h2, n, h3⟩, _⟩ := I.tuple q
  exact ⟨o, its.toArray, n, h1, h2, h3, by simpa using items_are rv⟩
theorem tkey_of {x : PV} {ks : List Key} {v : V} (hx : tkeyOf x = some ks) (r : Rep W F ph x v) : ∃ b, v = .ref b ∧ TKey W F b ks := by
  cases x <;> simp [tkeyOf] at hx
  cases r with
  | tup e q => rw [keysOf_rel hx q] at e; exact ⟨_, rfl, .inl e⟩
  | ktup e q => rw [keysOf_rel hx q] at e; exact ⟨_, rfl, .inr e⟩
  | obj e q => cases q
theorem obj_at (I : Inv X pins σ H s) {a : Addr} {ob : Obj} (h : Rd H a (dctO a ob)) : s.heap.get? a = some ob := by
  have q := h.ok I.hok
  exact q.1
theorem okKey_iff {k : PV} {kvs : List (PV × PV)} (h : okKey k kvs = true) : (isKey k = true ∧ (keysP kvs).all isKey = true) ∨ (isTKey k = true ∧ (keysP kvs).all isTKey = true) := by
  simpa only [okKey, Bool.or_eq_true, Bool.and_eq_true] using h
/-- the dict as the library's rules want it -/
theorem dict_of (fit : Fit W X) (I : Inv X pins σ H s) (hR : RelH W F ph hp H) {a : Addr} {o : HO} {kvs : List (PV × PV)} (ho : Rd H a o) (r : ORep W F ph a (.dct kvs) o) {k : PV} (ok : okKey k kvs = true) :
    (a == sysModules) = false ∧ (kvs.map (·.1)).Pairwise (fun x y => eqP x y = false) ∧ kvs.length ≤ sizeLine ∧
    ((∃ kk us, keyOf k = some kk ∧ s.heap.DictOf (mixKind X.prog X.w) a us ∧ EK W F ph kvs us ∧ us.length = kvs.length) ∨
     ∃ kk us, tkeyOf k = some kk ∧ s.heap.DictOfH (tupleKind (mixKind X.prog X.w)) a us ∧ ET W F ph kvs us ∧ us.length = kvs.length) := by
  cases r with
  | dct h1 h2 h3 h4 h5 r =>
    have e := obj_at I ho
    have hl : kvs.length ≤ sizeLine := by rw [r.length]; simpa using h4
    refine ⟨h1, h5, hl, ?_⟩
    rcases okKey_iff ok with ⟨k1, k2⟩ | ⟨k1, k2⟩
    · obtain ⟨kk, hk⟩ := isKey_some k1
      obtain ⟨us, p, q, z⟩ := r.scal k2
      refine .inl ⟨kk, us, hk, ?_, z, by rw [← p.length, r.length]⟩
      rw [fit.P, fit.w]
      exact ⟨_, _, _, e, h2, h3, fun en hm => q en (by simpa using hm), p, z.nodup h5⟩
    · obtain ⟨kk, hk⟩ := isTKey_some k1
      obtain ⟨us, p, z⟩ := r.tupk k2
      refine .inr ⟨kk, us, hk, ?_, z, by rw [r.length, p, List.length_map]⟩
      rw [fit.P, fit.w]
      exact ⟨_, _, _, e, h2, h3, p, fun x hx => TKey.at_ fit I hR (z.keys x hx), z.nodup h5⟩
theorem Rep.dctAt {kvs : List (PV × PV)} {x : V} (h : RelH W F ph hp H) (r : Rep W F ph (.dct kvs) x) : ∃ a o, x = .ref a ∧ F a = some o ∧ Rd H a o ∧ ORep W F ph a (.dct kvs) o := by
  cases r with
  | obj e q => exact ⟨_, _, rfl, e, h.sub _ _ e, q⟩
/-- k in d -/
theorem dict_in (fit : Fit W X) (neg : Bool) (I : Inv X pins σ H s) (hR : RelH W F ph hp H) {kvs : List (PV × PV)} {k : PV} {x y : V} {u v : Value} {Q : VK} (ok : okKey k kvs = true)
    (rx : RelV x u) (ry : RelV y v) (qx : Rep W F ph k x) (qy : Rep W F ph (.dct kvs) y) (q : Q (.bl (if neg then !memP k (keysP kvs) else memP k (keysP kvs))) H) :
    wpAny (model X.prog X.w) X.A (compareOp (if neg then .NotIn else .In) u v) (EP X pins σ Q) X.xe s := by
  obtain ⟨a, o, rfl, e, ho, r⟩ := qy.dctAt hR
  obtain rfl : v = Value.ref a := ry
  obtain ⟨h1, h5, hl, c⟩ := dict_of fit I hR ho r ok
  rw [getKv_isSome] at q
  rcases c with ⟨kk, us, hk, dd, ek, _⟩ | ⟨kk, us, hk, dd, ek, _⟩
  · obtain ⟨i1, i2⟩ := ek.look hk
    have some_eq : (valueAt us kk).isSome = (getKv k kvs).isSome := by
      cases g : getKv k kvs with
      | none => rw [i2 g]; rfl
      | some y => obtain ⟨_, _, e, _⟩ := i1 y g; rw [e]; rfl
    have kis : (mixKind X.prog X.w).is kk u = true := by rw [keyOf_rel hk qx] at rx; exact kV_is rx
    cases neg with
    | true => exact wpAny_notIn_of kis h1 dd.mapOf ⟨.bl _, H, I.tok _, by rw [some_eq]; rfl, q⟩
    | false => exact wpAny_in_of kis h1 dd.mapOf ⟨.bl _, H, I.tok _, by rw [some_eq]; rfl, q⟩
  · obtain ⟨i1, i2⟩ := ek.look hk
    have some_eq : (atKey us kk).isSome = (getKv k kvs).isSome := by
      cases g : getKv k kvs with
      | none => rw [i2 g]; rfl
      | some y => obtain ⟨_, _, _, e, _⟩ := i1 y g; rw [e]; rfl
    obtain ⟨b, rfl, tb⟩ := tkey_of hk qx
    obtain rfl : u = Value.ref b := rx
    have kis := TKey.at_ fit I hR tb
    rw [← fit.P, ← fit.w] at kis
    cases neg with
    | true => exact wpAny_notIn_heap (tupleKind_room_in1 fit.u1) kis h1 dd ⟨.bl _, H, I.tok _, by rw [some_eq]; rfl, q⟩
    | false => exact wpAny_in_heap (tupleKind_room_in1 fit.u1) kis h1 dd ⟨.bl _, H, I.tok _, by rw [some_eq]; rfl, q⟩
/-- a value, or what a tracked object holds -/
def RepX (W : Wd) (F : Hp) (ph : List Addr) (H : Hp) (v : PV) (x : V) : Prop := Rep W F ph v x ∨ ∃ a o, x = .ref a ∧ H a = some o ∧ ORep W F ph a v o
theorem RepX.lstAt {xs : List PV} {x : V} (h : RelH W F ph hp H) (r : RepX W F ph H (.lst xs) x) : ∃ a vs, x = .ref a ∧ SqL W.K H a vs ∧ RepA W F ph xs vs := by
  rcases r with r | ⟨a, o, rfl, e, r⟩
  · obtain ⟨a, vs, e1, _, e2, e3⟩ := r.lstAt h
    exact ⟨a, vs, e1, e2, e3⟩
  · cases r with | lst r => exact ⟨a, _, rfl, .inl (.inl e), r⟩
theorem RepX.tupR {xs : List PV} {x : V} (r : RepX W F ph H (.tup xs) x) : Rep W F ph (.tup xs) x := by
  rcases r with r | ⟨a, o, rfl, e, r⟩
  · exact r
  · cases r
theorem RepX.strR {xs : Str} {x : V} (r : RepX W F ph H (.str xs) x) : Rep W F ph (.str xs) x := by
  rcases r with r | ⟨a, o, rfl, e, r⟩
  · exact r
  · cases r
theorem RepX.dctAt {kvs : List (PV × PV)} {x : V} (h : RelH W F ph hp H) (r : RepX W F ph H (.dct kvs) x) : ∃ a o, x = .ref a ∧ Rd H a o ∧ ORep W F ph a (.dct kvs) o := by
  rcases r with r | ⟨a, o, rfl, e, r⟩
  · obtain ⟨a, o, e1, _, e2, e3⟩ := r.dctAt h
    exact ⟨a, o, e1, e2, e3⟩
  · exact ⟨a, o, rfl, .inl e, r⟩
/-- d[k], there -/
theorem dict_get (fit : Fit W X) (I : Inv X pins σ H s) (hR : RelH W F ph hp H) {kvs : List (PV × PV)} {k y : PV} {x d : V} {u v : Value} {Q : VK} (ok : okKey k kvs = true) (g : getKv k kvs = some y)
    (rx : RelV d v) (ry : RelV x u) (qx : RepX W F ph H (.dct kvs) d) (qy : Rep W F ph k x) (q : ∀ z, Rep W F ph y z → Q z H) :
    wpAny (model X.prog X.w) X.A (getItem v u) (EP X pins σ Q) X.xe s := by
  obtain ⟨a, o, rfl, ho, r⟩ := qx.dctAt hR
  obtain rfl : v = Value.ref a := rx
  obtain ⟨h1, h5, hl, c⟩ := dict_of fit I hR ho r ok
  rcases c with ⟨kk, us, hk, dd, ek, _⟩ | ⟨kk, us, hk, dd, ek, _⟩
  · obtain ⟨i1, i2⟩ := ek.look hk
    obtain ⟨z, w', e, rz, rep⟩ := i1 y g
    have kis : (mixKind X.prog X.w).is kk u = true := by rw [keyOf_rel hk qy] at ry; exact kV_is ry
    exact wpAny_getItem_of kis dd.mapOf e ⟨z, H, I.tok _, rz, q z rep⟩
  · obtain ⟨i1, i2⟩ := ek.look hk
    obtain ⟨z, b', w', e, rz, rep⟩ := i1 y g
    obtain ⟨b, rfl, tb⟩ := tkey_of hk qy
    obtain rfl : u = Value.ref b := ry
    have kis := TKey.at_ fit I hR tb
    rw [← fit.P, ← fit.w] at kis
    exact wpAny_getItem_heap (tupleKind_room_in1 fit.u1) kis dd e ⟨z, H, I.tok _, rz, q z rep⟩
theorem ext_ok {h : Heap} {a : Addr} {ob : Obj} {P : Program} {w : World} {H : Hp} (e : h.get? a = some ob) : ObjOk P w H h a (dctO a ob) := ⟨e, ⟨ob, e⟩, fun _ _ p k => k _ p⟩
theorem exact_mut {a : Addr} {ob : Obj} : Mut (some (dctO a ob)) := trivial
/-- d[k] = v, d's object changed -/
theorem dict_put (fit : Fit W X) (I : Inv X pins σ H s) (hR : RelH W F ph hp H) {a : Addr} {o : HO} {kvs : List (PV × PV)} {k y : PV} {x d : V} {u r : Value} {Q : Unit → Shared → Prop} (ok : okKey k kvs = true) (hl : kvs.length < sizeLine)
    (ho : H a = some o) (ro : ORep W F ph a (.dct kvs) o) (rx : RelV x u) (rd : RelV d r) (qx : Rep W F ph k x) (qd : Rep W F ph y d)
    (q : ∀ o' s', Inv X pins σ (upd H a o') s' → ORep W F ph a (.dct (setKv k y kvs)) o' → Q () s') : wpAny (model X.prog X.w) X.A (setItem (.ref a) u r) Q X.xe s := by
  obtain ⟨h1, h5, hl', c⟩ := dict_of fit I hR (.inl ho) ro ok
  have mu : Mut (H a) := by rw [ho]; cases ro; trivial
  have len := setKv_length k y kvs
  rcases c with ⟨kk, us, hk, dd, ek, lu⟩ | ⟨kk, us, hk, dd, ek, lu⟩
  · have kis : (mixKind X.prog X.w).is kk u = true := by rw [keyOf_rel hk qx] at rx; exact kV_is rx
    refine wpAny_setItem_pairs (hsz := by rw [lu]; exact hl') kis dd fun h' dd' hs => ?_
    obtain ⟨o', es', ep', g', x', dt', ko', pr', nd'⟩ := dd'
    rw [fit.P, fit.w] at ko' pr'
    have ek' := ek.put hk qd rd (ek.nodup h5)
    have back := ek'.back pr' fun en hm => ko' en (by simpa using hm)
    refine q (dctO a o') _ (d_write I mu hs ⟨o', g'⟩ (ext_ok g')) (.dct h1 x' dt' ?_ (pairwise_put h5) back)
    have l2 : (setKv k y kvs).length = es'.size := by rw [back.length]; simp
    omega
  · obtain ⟨b, rfl, tb⟩ := tkey_of hk qx
    obtain rfl : u = Value.ref b := rx
    have kis := TKey.at_ fit I hR tb
    rw [← fit.P, ← fit.w] at kis
    refine wpAny_setItem_heap (hsz := by rw [lu]; exact hl') (tupleKind_room_in1 fit.u1) kis dd fun h' dd' hs => ?_
    obtain ⟨o', es', ep', g', x', dt', pr', _, nd'⟩ := dd'
    rw [fit.P, fit.w] at pr'
    have ek' := ek.put hk tb qd rd (ek.nodup h5)
    have back := ek'.back
    rw [← pr'] at back
    refine q (dctO a o') _ (d_write I mu hs ⟨o', g'⟩ (ext_ok g')) (.dct h1 x' dt' ?_ (pairwise_put h5) back)
    have l2 : (setKv k y kvs).length = es'.size := by rw [back.length]; simp
    omega
/-- {} -/
theorem pe_edct {pos : Pos} (fit : Fit W X) : PE X (.Dict [] [] pos) (fun _ H Q => ∀ p ob, H p = none → (∀ F ph, ORep W F ph p (.dct []) (dctO p ob)) → Q (.ref p) (upd H p (dctO p ob))) := by
  refine ⟨fun pins s σ H Q I h => wpAny_Dict_empty ?_⟩
  have g : (s.heap.push { cls := .type "dict", data := .dict #[] }).get? s.heap.objs.size = some { cls := .type "dict", data := .dict #[] } := Heap.get?_push_size _ rfl
  refine ⟨.ref _, _, I.laid (t' := s.toks) (fun _ _ q => Heap.get?_push_of_some _ q) (Nat.le_refl _) (ext_ok g), rfl, h _ _ I.fresh fun F ph => ?_⟩
  exact .dct (es := #[]) (ep := 0) (beq_eq_false_iff_ne.mpr (Ne.symm (Nat.ne_of_lt I.big))) ⟨rfl, rfl, rfl⟩ rfl (Nat.zero_le _) List.Pairwise.nil .nil
end
/-! ### comparisons -/
section
variable {W : Wd} {X : Cx}

theorem Rep.isNon {F : Hp} {ph : List Addr} {v : PV} {x : V} (r : Rep W F ph v x) : decide (x = V.non) = MP.isNon v := by
  cases r <;> simp [MP.isNon]
  rename_i e q; cases q <;> simp
theorem lift_bl {pins : List (Addr × Obj)} {σ : L2.St} {H : Hp} {s : Shared} {Q : VK} {b b' : Bool} (I : Inv X pins σ H s) (q : Q (.bl b) H) (e : b' = b) : EP X pins σ Q (.bool b') s := by
  subst e; exact ⟨.bl _, H, I, rfl, q⟩
/-- the two data read in the heap, and can be laid -/
theorem reads2 (fit : Fit W X) {pins : List (Addr × Obj)} {σ : L2.St} {H F : Hp} {s : Shared} {ph : List Addr} {hp : Hs} {x : V} {v : Value} {vx : PV} (I : Inv X pins σ H s) (rx : RelV x v) (hR : RelH W F ph hp H)
    (qx : Rep W F ph vx x) (dx : vx.dat = true) : (∃ as, Reads s.heap v (toD vx) as) ∧ PyData.canLay0 (toD vx) = true := by
  have h1 := qx.dp hR vx dx
  rw [← fit.K] at h1
  exact ⟨h1.reads I _ _ _ rx, qx.lay vx dx⟩
theorem op_cmp (fit : Fit W X) (op : Cop) : OpR X (compareOp (cmpOf op)) (r2b W (cmpP op)) := by
  intro pins s σ H x y v u Q I rx ry ⟨F, ph, hp, vx, vy, b, hR, qx, qy, e, hQ⟩
  have hu := fit.un
  cases op with
  | eq =>
    simp only [cmpP] at e
    split at e <;> cases e
    rename_i h
    obtain ⟨dx, dy, m⟩ := okEq_iff h
    obtain ⟨⟨as, r1⟩, l1⟩ := reads2 fit I rx hR qx dx
    obtain ⟨⟨bs, r2⟩, l2⟩ := reads2 fit I ry hR qy dy
    exact SeqAt.compareEq_reads r1 r2 l1 l2 (by rw [toD_dep, toD_dep]; exact room60 hu m) (lift_bl I hQ (toD_eqv _ _ dx dy))
  | ne =>
    simp only [cmpP] at e
    split at e <;> cases e
    rename_i h
    obtain ⟨dx, dy, m⟩ := okEq_iff h
    obtain ⟨⟨as, r1⟩, l1⟩ := reads2 fit I rx hR qx dx
    obtain ⟨⟨bs, r2⟩, l2⟩ := reads2 fit I ry hR qy dy
    exact SeqAt.compareNe_reads r1 r2 l1 l2 (by rw [toD_dep, toD_dep]; exact room60 hu m) (lift_bl I hQ (by rw [toD_eqv _ _ dx dy]))
  | lt =>
    simp only [cmpP] at e
    split at e <;> cases e
    rename_i h
    obtain ⟨a, m, n, dx, dy⟩ := okLt_all h
    obtain ⟨⟨as, r1⟩, l1⟩ := reads2 fit I rx hR qx dx
    obtain ⟨⟨bs, r2⟩, l2⟩ := reads2 fit I ry hR qy dy
    exact PySem.W.lt_data r1 r2 (toD_alk _ _ a) (toD_none n dx) (by rw [toD_dep, toD_dep]; exact room60 hu m) (lift_bl I hQ (alk_lt _ _ a))
  | gt =>
    simp only [cmpP] at e
    split at e <;> cases e
    rename_i h
    obtain ⟨a, m, n, dx, dy⟩ := okLt_all h
    obtain ⟨⟨as, r1⟩, l1⟩ := reads2 fit I rx hR qx dx
    obtain ⟨⟨bs, r2⟩, l2⟩ := reads2 fit I ry hR qy dy
    exact PySem.W.gt_data r1 r2 (toD_alk _ _ a) (toD_none n dx) (by rw [toD_dep, toD_dep]; exact room60 hu m) (lift_bl I hQ (alk_lt _ _ (alk_symm _ _ a)))
  | le =>
    simp only [cmpP] at e
    split at e <;> cases e
    rename_i h
    obtain ⟨a, m, n, dx, dy⟩ := okLt_all h
    obtain ⟨⟨as, r1⟩, l1⟩ := reads2 fit I rx hR qx dx
    obtain ⟨⟨bs, r2⟩, l2⟩ := reads2 fit I ry hR qy dy
    exact PySem.W.le_data r1 r2 (toD_alk _ _ a) (toD_none n dx) (by rw [toD_dep, toD_dep]; exact room60 hu m) (lift_bl I hQ (by rw [alk_lt _ _ (alk_symm _ _ a)]))
  | ge =>
    simp only [cmpP] at e
    split at e <;> cases e
    rename_i h
    obtain ⟨a, m, n, dx, dy⟩ := okLt_all h
    obtain ⟨⟨as, r1⟩, l1⟩ := reads2 fit I rx hR qx dx
    obtain ⟨⟨bs, r2⟩, l2⟩ := reads2 fit I ry hR qy dy
    exact PySem.W.ge_data r1 r2 (toD_alk _ _ a) (toD_none n dx) (by rw [toD_dep, toD_dep]; exact room60 hu m) (lift_bl I hQ (by rw [alk_lt _ _ a]))
  | isin =>
    simp only [cmpP, inP] at e
    split at e
    · rename_i ys
      split at e <;> cases e
      rename_i h
      obtain ⟨dx, dy, m⟩ := okMem_iff h
      obtain ⟨⟨as, r1⟩, l1⟩ := reads2 fit I rx hR qx dx
      obtain ⟨⟨bs, r2⟩, l2⟩ := reads2 fit I ry hR qy (by simpa [PV.dat] using dy)
      exact SeqAt.in_list_reads r2 r1 (by simpa [toD, PyData.canLay0] using l2) l1 (by rw [toDs_dep, toD_dep]; exact room61 hu m) (lift_bl I hQ (any_eqv dx dy))
    · rename_i ys
      split at e <;> cases e
      rename_i h
      obtain ⟨dx, dy, m⟩ := okMem_iff h
      obtain ⟨⟨as, r1⟩, l1⟩ := reads2 fit I rx hR qx dx
      obtain ⟨⟨bs, r2⟩, l2⟩ := reads2 fit I ry hR qy (by simpa [PV.dat] using dy)
      exact SeqAt.in_tuple_reads r2 r1 (by simpa [toD, PyData.canLay0] using l2) l1 (by rw [toDs_dep, toD_dep]; exact room61 hu m) (lift_bl I hQ (any_eqv dx dy))
    · split at e <;> cases e
      rename_i h
      exact dict_in fit false I hR h rx ry qx qy hQ
    · split at e
      · cases e
        obtain ⟨rfl, _⟩ := qx.strV
        obtain ⟨rfl, _⟩ := qy.strV
        exact op_in_str pins s σ H _ _ v u Q I rx ry ⟨_, _, rfl, rfl, hQ⟩
      · cases e
    · cases e
  | nin =>
    simp only [cmpP, inP, Option.map_eq_some_iff] at e
    obtain ⟨b', e, rfl⟩ := e
    split at e
    · rename_i ys
      split at e <;> cases e
      rename_i h
      obtain ⟨dx, dy, m⟩ := okMem_iff h
      obtain ⟨⟨as, r1⟩, l1⟩ := reads2 fit I rx hR qx dx
      obtain ⟨⟨bs, r2⟩, l2⟩ := reads2 fit I ry hR qy (by simpa [PV.dat] using dy)
      exact SeqAt.notIn_list_reads r2 r1 (by simpa [toD, PyData.canLay0] using l2) l1 (by rw [toDs_dep, toD_dep]; exact room61 hu m) (lift_bl I hQ (congrArg _ (any_eqv dx dy)))
    · rename_i ys
      split at e <;> cases e
      rename_i h
      obtain ⟨dx, dy, m⟩ := okMem_iff h
      obtain ⟨⟨as, r1⟩, l1⟩ := reads2 fit I rx hR qx dx
      obtain ⟨⟨bs, r2⟩, l2⟩ := reads2 fit I ry hR qy (by simpa [PV.dat] using dy)
      exact SeqAt.notIn_tuple_reads r2 r1 (by simpa [toD, PyData.canLay0] using l2) l1 (by rw [toDs_dep, toD_dep]; exact room61 hu m) (lift_bl I hQ (congrArg _ (any_eqv dx dy)))
    · split at e <;> cases e
      rename_i h
      exact dict_in fit true I hR h rx ry qx qy hQ
    · split at e
      · cases e
        obtain ⟨rfl, _⟩ := qx.strV
        obtain ⟨rfl, _⟩ := qy.strV
        exact op_notin_str pins s σ H _ _ v u Q I rx ry ⟨_, _, rfl, rfl, hQ⟩
      · cases e
    · cases e
  | is =>
    simp only [cmpP, isP] at e
    split at e
    · cases e; cases qy.nonV
      refine op_isN pins s σ H _ _ v u Q I rx ry ⟨rfl, ?_⟩
      rw [qx.isNon]; exact hQ
    · split at e <;> cases e
      cases qy.blV; cases qx.blV
      refine op_isBl pins s σ H _ _ v u Q I rx ry ⟨_, _, rfl, rfl, ?_⟩
      rw [← Bool.beq_eq_decide_eq]; exact hQ
    · cases e
  | isnt =>
    simp only [cmpP, isP, Option.map_eq_some_iff] at e
    obtain ⟨b', e, rfl⟩ := e
    split at e
    · cases e; cases qy.nonV
      refine op_notN pins s σ H _ _ v u Q I rx ry ⟨rfl, ?_⟩
      rw [qx.isNon]; exact hQ
    · split at e <;> cases e
      cases qy.blV; cases qx.blV
      refine op_notBl pins s σ H _ _ v u Q I rx ry ⟨_, _, rfl, rfl, ?_⟩
      rw [← Bool.beq_eq_decide_eq]; exact hQ
    · cases e
end
end MP
set_option maxRecDepth 100000
/-! MiniPy: items, slices over the machine. -/
namespace MP
open PySem PySem.Spec PyProof.Rows L2
theorem clip_eq (n d : Nat) (o : Option Int) : clipI n d o = HT.sIx n d o := by cases o <;> rfl
theorem cut_eq {α : Type} (xs : List α) (lo hi : Option Int) : cutL xs lo hi = (xs.drop (HT.sIx xs.length 0 lo)).take (HT.sIx xs.length xs.length hi - HT.sIx xs.length 0 lo) := by
  unfold cutL; rw [clip_eq, clip_eq]
theorem atP_eq {α : Type} (xs : List α) (i : Int) : atP xs i = atI xs i := by
  unfold atP atI ixN
  by_cases h : 0 ≤ i
  · rw [if_pos h, if_pos h]
    by_cases h2 : i < xs.length
    · rw [if_pos h2]; rfl
    · rw [if_neg h2, List.getElem?_eq_none (by omega)]; rfl
  · rw [if_neg h, if_neg h]
    by_cases h2 : -(xs.length : Int) ≤ i
    · rw [if_pos h2, if_pos h2]; rfl
    · rw [if_neg h2, if_neg h2]; rfl
section
variable {W : Wd} {F : Hp} {ph : List Addr}
theorem RepA.at_ {xs : List PV} {vs : List V} {i : Int} {y : PV} (r : RepA W F ph xs vs) (h : atP xs i = some y) : ∃ v, atI vs i = some v ∧ Rep W F ph y v := by
  rw [atP_eq] at h
  unfold atI at h ⊢
  rw [← r.length]
  cases e : ixN xs.length i with
  | none => rw [e] at h; cases h
  | some j =>
    rw [e] at h
    exact r.get h
theorem cutA {xs : List PV} {vs : List V} (r : RepA W F ph xs vs) (lo hi : Option Int) : RepA W F ph (cutL xs lo hi) (cutV vs lo hi) := by
  rw [cut_eq]; unfold cutV
  rw [← r.length]
  exact (r.drop _).take _
theorem sIx_whole {α : Type} {xs : List α} {lo hi : Option Int} (h : HT.sIx xs.length 0 lo = 0 ∧ HT.sIx xs.length xs.length hi = xs.length) : cutL xs lo hi = xs := by
  rw [cut_eq, h.1, h.2]; simp
theorem strOk_cut {z : Str} (h : PyData.strOk z = true) (lo hi : Option Int) : PyData.strOk ⟨(cutL z.cps.toList lo hi).toArray⟩ = true := by
  unfold PyData.strOk at *
  rw [Array.all_eq_true'] at h ⊢
  intro c hc
  refine h c ?_
  have h1 : c ∈ cutL z.cps.toList lo hi := by simpa using hc
  unfold cutL at h1
  have h2 := List.mem_of_mem_drop (List.mem_of_mem_take h1)
  simpa using h2
theorem strOk_one {z : Str} (h : PyData.strOk z = true) {c : Nat} (hc : c ∈ z.cps.toList) : PyData.strOk ⟨#[c]⟩ = true := by
  unfold PyData.strOk at *
  rw [Array.all_eq_true'] at h ⊢
  intro d hd
  have : d = c := by simpa using hd
  subst this
  exact h d (by simpa using hc)
end
/-- a value out of two values -/
def r2v (W : Wd) (f : PV → PV → Option PV) : R2 := fun x y H Q => ∃ F ph hp vx vy v, RelH W F ph hp H ∧ RepX W F ph H vx x ∧ Rep W F ph vy y ∧ f vx vy = some v ∧ ∀ z, Rep W F ph v z → Q z H
theorem mem_of_atI {α : Type} {xs : List α} {i : Int} {v : α} (h : atI xs i = some v) : v ∈ xs := by
  unfold atI at h
  cases e : ixN xs.length i with
  | none => rw [e] at h; cases h
  | some j => rw [e] at h; exact List.mem_of_getElem? h
section
variable {W : Wd} {X : Cx}
theorem ix_any (fit : Fit W X) : IxR X (r2v W idxP) := by
  intro value slice pins s σ H x y v u Q I rx ry ⟨F, ph, hp, vx, vy, w, hR, qx, qy, e, hQ⟩ hs
  unfold idxP at e
  split at e
  · split at e
    · have qx := qx.tupR
      obtain ⟨a, vs, rfl, ha, ra⟩ := qx.tupAt hR
      cases qy.intV
      obtain ⟨z, hz, rz⟩ := ra.at_ e
      rw [← fit.K] at ha
      exact ix_tup value slice pins s σ H _ _ v u Q I rx ry ⟨a, vs, _, z, rfl, rfl, ha, hz, hQ z rz⟩ hs
    · cases e
  · split at e
    · obtain ⟨a, vs, rfl, ha, ra⟩ := qx.lstAt hR
      cases qy.intV
      obtain ⟨z, hz, rz⟩ := ra.at_ e
      rw [← fit.K] at ha
      exact ix_list value slice pins s σ H _ _ v u Q I rx ry ⟨a, vs, _, z, rfl, rfl, ha, hz, hQ z rz⟩ hs
    · cases e
  · split at e
    · split at e
      · rename_i hl
        have qx := qx.strR
        obtain ⟨rfl, ok⟩ := qx.strV
        cases qy.intV
        rw [atP_eq, Option.map_eq_some_iff] at e
        obtain ⟨c, hc, rfl⟩ := e
        exact ix_str value slice pins s σ H _ _ v u Q I rx ry ⟨_, _, c, rfl, rfl, hl, hc, hQ _ (.str _ (strOk_one ok (mem_of_atI hc)))⟩ hs
      · cases e
    · cases e
  · split at e
    · rename_i ok
      obtain ⟨a, o, rfl, ho, r⟩ := qx.dctAt hR
      obtain rfl : v = Value.ref a := rx
      have hT : s.TypeIs (.ref a) "dict" := by
        obtain ⟨_, _, _, c⟩ := dict_of fit I hR ho r ok
        rcases c with ⟨_, _, _, dd, _⟩ | ⟨_, _, _, dd, _⟩
        · exact dd.typeIs
        · exact dd.typeIs
      exact tail_any (ops := [.ref a, u]) hT PySem.F.slot_dict_getitem.lookup (dict_get (d := .ref a) fit I hR ok e rfl ry qx qy hQ) hs
    · cases e
  · cases e
/-- a tuple's slice: the whole of it is the tuple itself, another one is known to the object -/
def rSlM (K : PySem.W.Frag) : V → Option Int → Option Int → Hp → VK → Prop := fun x lo hi H Q => ∃ a xs, x = .ref a ∧ SqT K H a xs ∧ (HT.sIx xs.length 0 lo = 0 ∧ HT.sIx xs.length xs.length hi = xs.length → Q (.ref a) H) ∧
  ∀ p (ob : Obj), ob.dict = none → H p = none → Q (.ref p) (upd H p (.frz ob (.tup (cutV xs lo hi))))
theorem sl_tupM {X : Cx} : SlR X (rSlM X.K) := by
  intro pins s σ H x v vl vu lo hi sl Q I rx hs pl pu ⟨a, xs, ex, hx, q1, q2⟩
  subst ex
  cases rx
  obtain ⟨its, r, ht, hz⟩ := I.tuple hx
  have hlen : its.toArray.size = xs.length := by rw [List.size_toArray]; exact r.length.symm
  refine ⟨"tuple", _, PyProof.Rows.slot_tuple_getitem.lookup, ht.typeIs, ?_⟩
  by_cases hw : HT.sIx xs.length 0 lo = 0 ∧ HT.sIx xs.length xs.length hi = xs.length
  · exact getItem_tuple_whole ht hs pl pu (by rw [hlen]; exact hw) ⟨.ref a, H, I, rfl, q1 hw⟩
  · refine HT.getItem_tuple_cut ht hs pl pu (by rw [hlen]; exact hw) ?_ (by rw [hlen]; exact hz)
    rw [hlen]
    have I2 := lay_tup (t := s.toks) I ((r.drop (HT.sIx xs.length 0 lo)).take (HT.sIx xs.length xs.length hi - HT.sIx xs.length 0 lo)) (Nat.le_trans (cutV_length xs lo hi) hz)
    exact ⟨.ref s.heap.objs.size, _, I2, rfl, q2 _ _ rfl (I.hok.fresh (Nat.le_refl _))⟩
/-- a slice by values -/
def rSl (W : Wd) : V → Option Int → Option Int → Hp → VK → Prop := fun x lo hi H Q => ∃ F ph hp vx r, RelH W F ph hp H ∧ Rep W F ph vx x ∧ slcP vx lo hi = some r ∧ Res W F ph hp H r Q
theorem sl_any (fit : Fit W X) : SlR X (rSl W) := by
  intro pins s σ H x v vl vu lo hi sl Q I rx hs pl pu ⟨F, ph, hp, vx, r, hR, qx, e, hQ⟩
  unfold slcP at e
  split at e
  · cases e
    obtain ⟨a, vs, rfl, ha, ra⟩ := qx.tupAt hR
    rw [← fit.K] at ha
    have hl := ra.length
    refine sl_tupM pins s σ H _ v vl vu lo hi sl Q I rx hs pl pu ⟨a, vs, rfl, ha, fun hw => ?_, fun p ob hd n => hQ.tup hR (cutA ra lo hi) hd n⟩
    rw [← hl] at hw
    rw [sIx_whole hw] at hQ
    exact hQ.at_ hR qx
  · cases e
    obtain ⟨a, vs, rfl, _, ha, ra⟩ := qx.lstAt hR
    rw [← fit.K] at ha
    exact sl_list pins s σ H _ v vl vu lo hi sl Q I rx hs pl pu ⟨a, vs, rfl, ha, fun p n => hQ.new hR (.lst (cutA ra lo hi)) n⟩
  · split at e
    · rename_i z hl
      cases e
      obtain ⟨rfl, ok⟩ := qx.strV
      refine sl_str pins s σ H _ v vl vu lo hi sl Q I rx hs pl pu ⟨_, rfl, hl, ?_⟩
      have q : cutS z lo hi = ⟨(cutL z.cps.toList lo hi).toArray⟩ := by
        unfold cutS; rw [cut_eq]; rfl
      rw [q]
      exact hQ.at_ hR (.str _ (strOk_cut ok lo hi))
    · cases e
  · cases e
/-- t[::-1] of a tuple -/
theorem places_back (n : Nat) : Builtin.Slice.slicePlaces ((n : Int) - 1) (-1) (-1) = n := by
  unfold Builtin.Slice.slicePlaces
  rw [if_neg (by decide)]
  by_cases h : (n : Int) - 1 > -1
  · rw [if_pos h]
    have : ((n : Int) - 1 - -1 - 1) / (- -1) + 1 = n := by
      have e : (- -1 : Int) = 1 := rfl
      rw [e, Int.ediv_one]; omega
    rw [this]; exact Int.toNat_natCast n
  · rw [if_neg h]
    have : n = 0 := by omega
    subst this; rfl
theorem pick_back (xs : List Value) : ((List.range xs.length).filterMap fun (m : Nat) => xs.toArray[(((xs.length : Int) - 1) + (m : Int) * (-1)).toNat]?) = xs.reverse := by
  have e : ∀ m ∈ List.range xs.length, xs.toArray[(((xs.length : Int) - 1) + (m : Int) * (-1)).toNat]? = xs.reverse[m]? := by
    intro m hm
    have hm : m < xs.length := List.mem_range.mp hm
    rw [List.getElem?_reverse hm]
    have : (((xs.length : Int) - 1) + (m : Int) * (-1)).toNat = xs.length - 1 - m := by omega
    rw [this]; simp
  have cg : ∀ (l : List Nat) (f g : Nat → Option Value), (∀ m ∈ l, f m = g m) → l.filterMap f = l.filterMap g := by
    intro l f g
    induction l with
    | nil => intro _; rfl
    | cons a l ih =>
      intro h
      rw [List.filterMap_cons, List.filterMap_cons, h a List.mem_cons_self, ih fun m hm => h m (List.mem_cons_of_mem _ hm)]
  rw [cg _ _ _ e]
  have h : ∀ ys : List Value, (List.range ys.length).filterMap (fun m => ys[m]?) = ys := by
    intro ys
    have h1 : (List.range ys.length).filterMap (fun m => ys[m]?) = ((List.range ys.length).map fun m => ys[m]?).filterMap id := by rw [List.filterMap_map]; rfl
    have h2 : ((List.range ys.length).map fun m => ys[m]?) = ys.map some := by
      apply List.ext_getElem?
      intro i
      by_cases hi : i < ys.length
      · simp [hi]
      · simp [hi]
    rw [h1, h2, List.filterMap_map]; simp
  have := h xs.reverse
  rwa [List.length_reverse] at this
theorem getItem_tuple_back {A : Around} {E : Value → Shared → Prop} {s : Shared} {prog : Program} {w : World} {t sl : Addr} {its : List Value} {k : Tok} {Q : Value → Shared → Prop} (ht : IsTup s.heap t its.toArray) (hs : s.heap.IsSliceOf sl .none .none (.int (-1) k)) (hsz : its.length ≤ sizeLine)
    (h : Q (.ref s.heap.objs.size) { s with heap := s.heap.push { cls := .type "tuple", data := .seq its.reverse.toArray } }) : wpAny (model prog w) A (getItem (.ref t) (.ref sl)) Q E s := by
  obtain ⟨os, hos, hcs, hds⟩ := id hs
  have hTs : s.TypeIs (.ref sl) "slice" := ⟨os, hos, hcs⟩
  have small : sizeOk (.seq its.reverse.toArray) := by show its.reverse.toArray.size ≤ sizeLine; simpa using hsz
  unfold getItem
  try with_reducible refine wpAny_holding ?_
  first | refine wpAny_bind (wpAny_pure ?_) | skip
  refine wpAny_bind (wpAny_sequenceKey ht.typeIs (by decide) ?_)
  refine wpAny_bind (wpAny_callSpecial?_slot (name := Str.ofString "__getitem__") ht.typeIs PyProof.Rows.slot_tuple_getitem (wpAny_call_entry PyProof.Rows.slot_tuple_getitem ht.typeIs entry_tuple_getitem ?_ (args_tuple_getitem _ _)))
  show wpAny _ _ (Builtin.Tuple.tupleItemsOf (.ref t) >>= _) _ _ s
  refine wpAny_bind (tupleItemsOf_ ht ?_)
  refine wpAny_bind (wpAny_typeOf hTs ?_)
  rw [if_pos (by decide)]
  refine wpAny_bind (m := Builtin.Slice.sliceApplied (.ref sl) _) ?_
  unfold Builtin.Slice.sliceApplied Builtin.Slice.sliceFields
  refine wpAny_bind (wpAny_bind (wpAny_field hos hds (x := .none) rfl (wpAny_bind (wpAny_field hos hds (x := .none) rfl (wpAny_bind (wpAny_field hos hds (x := .int (-1) k) rfl (wpAny_pure ?_)))))))
  refine wpAny_bind (HT.slicePart_ (.int (-1) k) ?_)
  show wpAny _ _ (if ((-1 : Int) == 0) = true then _ else _) _ _ s
  rw [if_neg (by decide)]
  refine wpAny_bind (HT.slicePart_ .none (wpAny_bind (HT.slicePart_ .none (wpAny_bind (wpAny_pure ?_)))))
  show wpAny _ _ (pure (((its.toArray.size : Nat) : Int) - 1, (-1 : Int), Builtin.Slice.slicePlaces (((its.toArray.size : Nat) : Int) - 1) (-1) (-1))) _ _ s
  rw [places_back]
  refine wpAny_pure ?_
  have hno : ¬ ((((its.toArray.size : Nat) : Int) - 1 == 0 && (-1 : Int) == 1 && its.toArray.size == its.toArray.size) = true) := by simp
  show wpAny _ _ (if ((((its.toArray.size : Nat) : Int) - 1 == 0 && (-1 : Int) == 1 && its.toArray.size == its.toArray.size) = true) then _ else _) _ _ s
  rw [if_neg hno]
  have pk := congrArg List.toArray (pick_back its)
  rw [show its.toArray.size = its.length by simp, pk]
  first
    | exact wpAny_bind (m := Builtin.Tuple.tupleExact _) (wpAny_newObj_type (wpAny_pure ⟨_, rfl, wpAny_pure h⟩) small)
    | exact wpAny_bind (m := Builtin.Tuple.tupleExact _) (wpAny_newObj_type (wpAny_bind (wpAny_pure (wpAny_pure ⟨_, rfl, wpAny_pure h⟩))) small)
    | exact wpAny_bind (wpAny_bind (m := Builtin.Tuple.tupleExact _) (wpAny_newObj_type (wpAny_pure (wpAny_pure ⟨_, rfl, wpAny_pure h⟩)) small))
    | exact wpAny_bind (wpAny_bind (m := Builtin.Tuple.tupleExact _) (wpAny_newObj_type (wpAny_pure ⟨_, rfl, wpAny_pure h⟩) small))
/-- a[::-1] -/
def tRev (W : Wd) (te : TE) : TE := fun σ H Q => te σ H fun x H1 => ∃ F ph hp vx r, RelH W F ph hp H1 ∧ Rep W F ph vx x ∧ revP vx = some r ∧ Res W F ph hp H1 r Q
theorem pe_rev (fit : Fit W X) {e : Expr} {te : TE} {k : Nat} {p1 p2 p3 pos : Pos} (he : PE X e te) : PE X (.Subscript e (.Slice none none (some (.UnaryOp .USub (.Constant (.int 1) k p1) p2)) p3) pos) (tRev W te) := by
  refine ⟨fun pins s σ H Q I h => ?_⟩
  refine Subscript_ (thn (he.run pins s σ H _ I h) fun v s1 ⟨x, H1, I1, r1, F, ph, hp, vx, r, hR, qx, e1, hQ⟩ => ?_)
  have minus : PO X (some (.UnaryOp .USub (.Constant (.int 1) k p1) p2)) (tPart (tUn (rU fun i => .int (-i)) (tC (.int 1)))) := po_some (pe_un un_neg pe_int)
  refine wpAny_Slice (thn (po_none.run pins s1 σ H1 (fun o H2 => o = none ∧ H2 = H1) I1 ⟨rfl, rfl⟩) fun vl s2 ⟨l, H2, I2, pl, el, e2⟩ => ?_)
  subst el e2
  refine thn (po_none.run pins s2 σ H2 (fun o H3 => o = none ∧ H3 = H2) I2 ⟨rfl, rfl⟩) fun vu s3 ⟨u, H3, I3, pu, eu, e3⟩ => ?_
  subst eu e3
  refine thn (minus.run pins s3 σ H3 (fun o H4 => o = some (-1) ∧ H4 = H3) I3 ⟨1, rfl, -1, rfl, rfl, rfl⟩) fun vs s4 ⟨o, H4, I4, ps, eo, e4⟩ => ?_
  subst eo e4
  cases pl; cases pu
  obtain ⟨tk, rfl⟩ : ∃ tk, vs = Value.int (-1) tk := by cases ps; exact ⟨_, rfl⟩
  have I5 : Inv X pins σ H4 { s4 with heap := s4.heap.push { cls := .type "slice", data := .fields #[.none, .none, .int (-1) tk] } } := I4.kept (t' := s4.toks) fun b ob q => Heap.get?_push_of_some _ q
  show wpAny (model X.prog X.w) X.A (subscriptTail e (.Slice none none (some (.UnaryOp .USub (.Constant (.int 1) k p1) p2)) p3) v (.ref s4.heap.objs.size)) (EP X pins σ Q) X.xe { s4 with heap := s4.heap.push { cls := .type "slice", data := .fields #[.none, .none, .int (-1) tk] } }
  unfold revP at e1
  split at e1
  · cases e1
    obtain ⟨a, ws, rfl, ha, ra⟩ := qx.tupAt hR
    rw [← fit.K] at ha
    obtain rfl : v = Value.ref a := r1
    obtain ⟨its, r, ht, hz⟩ := I5.tuple ha
    refine tail_any (ops := [.ref a, .ref s4.heap.objs.size]) ht.typeIs PyProof.Rows.slot_tuple_getitem.lookup ?_ (by with_unfolding_all rfl)
    refine getItem_tuple_back ht (Heap.IsSliceOf.new ..) (by rw [← r.length]; exact hz) ?_
    have I6 := lay_tup (t := s4.toks) I5 r.reverse (by rw [List.length_reverse]; exact hz)
    exact ⟨.ref _, _, I6, rfl, hQ.tup hR ra.reverse rfl (I5.hok.fresh (Nat.le_refl _))⟩
  · cases e1
    obtain ⟨a, ws, rfl, _, ha, ra⟩ := qx.lstAt hR
    rw [← fit.K] at ha
    obtain rfl : v = Value.ref a := r1
    obtain ⟨its, r, ht, hz⟩ := I5.list ha
    have hlen := r.length
    refine tail_any (ops := [.ref a, .ref s4.heap.objs.size]) ht.isList.typeIs PySem.slot_list_getitem.lookup ?_ (by with_unfolding_all rfl)
    refine wpAny_getItem_list_slice ht.isList (Heap.IsSliceOf.new _ .none .none (.int (-1) tk)) .none .none ps (by decide) ?_ (by rw [List.size_toArray]; omega)
    rw [PySem.W.krv_pick]
    refine ⟨.ref _, _, I5.laid (t' := s4.toks) (o := .lst ws.reverse) (fun b ob q => Heap.get?_push_of_some _ q) (Nat.le_refl _) ?_, rfl, hQ.new hR (.lst ra.reverse) (I5.hok.fresh (Nat.le_refl _))⟩
    exact ⟨by rw [List.length_reverse]; exact hz, _, 0, r.reverse, Heap.get?_push_size _ rfl⟩
  · cases e1
end
end MP
set_option maxRecDepth 100000
/-! MiniPy: built-in functions by values. -/
namespace MP
open PySem PySem.Spec PyProof.Rows L2
def bfV : Bfn → Value
  | .len => .builtin "len" | .int => .type "int" | .sorted => .builtin "sorted" | .set => .type "set" | .tuple => .type "tuple" | .list => .type "list"
  | .sum => .builtin "sum" | .max => .builtin "max" | .min => .builtin "min" | .all => .builtin "all" | .any => .builtin "any" | .abs => .builtin "abs" | .str => .type "str"
def rB (W : Wd) (f : Bfn) : List V → Hp → VK → Prop := fun xs H Q => ∃ F ph hp vs r, RelH W F ph hp H ∧ RepA W F ph vs xs ∧ bclP f vs = some r ∧ Res W F ph hp H r Q
theorem strOk_of (x : String) : PyData.strOk (PySem.Str.ofString x) = true := by
  rw [PySem.Str.ofString_eq_toList]
  unfold PyData.strOk
  rw [Array.all_eq_true']
  intro c hc
  have h1 : c ∈ x.toList.map Char.toNat := by simpa using hc
  obtain ⟨d, _, rfl⟩ := List.mem_map.mp h1
  have h2 := d.valid
  have h3 : d.val.toNat < 0xd800 ∨ (0xdfff < d.val.toNat ∧ d.val.toNat < 0x110000) := h2
  have h4 : d.toNat = d.val.toNat := rfl
  rw [decide_eq_true_eq, h4]
  rcases h3 with h | h <;> omega
section
variable {W : Wd} {X : Cx} {F H : Hp} {ph : List Addr} {hp : Hs}
theorem RepA.one {x : PV} {xs : List V} (r : RepA W F ph [x] xs) : ∃ v, xs = [v] ∧ Rep W F ph x v := by
  cases r with
  | cons r t => cases t; exact ⟨_, rfl, r⟩
theorem RepA.two {x y : PV} {xs : List V} (r : RepA W F ph [x, y] xs) : ∃ v u, xs = [v, u] ∧ Rep W F ph x v ∧ Rep W F ph y u := by
  cases r with
  | cons r t => obtain ⟨u, rfl, q⟩ := t.one; exact ⟨_, u, rfl, r, q⟩
theorem len_dict (fit : Fit W X) {pins : List (Addr × Obj)} {s : Shared} {σ : L2.St} {Q : VK} {kvs : List (PV × PV)} {x : V} {u : Value} (I : Inv X pins σ H s) (rx : RelV x u) (hR : RelH W F ph hp H) (qx : Rep W F ph (.dct kvs) x) (q : Q (.int kvs.length) H) :
    wpAny (model X.prog X.w) X.A (call (.builtin "len") [u]) (EP X pins σ Q) X.xe s := by
  obtain ⟨a, o, rfl, _, ho, r⟩ := qx.dctAt hR
  obtain rfl : u = Value.ref a := rx
  cases r with
  | @dct _ _ ob es ep h1 h2 h3 h4 h5 r =>
    have e := obj_at I ho
    have hl := r.length
    have hz : es.size ≤ sizeLine := h4
    rw [sizeLine_eq] at hz
    have hlen : kvs.length = es.size := by rw [hl]; simp
    unfold L2.EP
    refine Calls.call_function_entry kind_len plain_len entry_len (args_len1 _) ?_
    unfold Builtin.«len»
    have hT : s.TypeIs (.ref a) "dict" := ⟨ob, e, h2.1⟩
    refine wpAny_bind (m := oneArg "len" _) (wpAny_pure ?_)
    have mt : MeetsIn X.prog X.w (Builtin.«dict.__len__» ⟨[.ref a], []⟩) (fun _ R t => t.heap.get? a = some ob ∧ R (.ok (.ret (.int es.size t.toks))) { t with toks := t.toks + 1 }) := by
      refine .of_wp fun A R t ⟨ht, h⟩ => ?_
      show wpAny _ _ (dictSize a >>= _) _ _ t
      unfold dictSize
      refine wpAny_bind (wpAny_bind (wpAny_dictEntries ht h3 (wpAny_pure ?_)))
      show wpAny _ _ (Builtin.Dict.pendingCount a >>= _) _ _ t
      refine wpAny_bind (wpAny_pendingCount_other h1 ?_)
      exact wpAny_ret_mkInt (by rw [Nat.add_zero]; exact h)
    refine wpAny_bind (m := callSpecial? (.ref a) (Str.ofString "__len__")) (wpAny_callSpecial?_slot (name := Str.ofString "__len__") hT PySem.F.slot_dict_len (call_meetsIn PySem.F.slot_dict_len hT PySem.F.entry_dict_len (PySem.F.args_dict_len_1 _) mt ⟨e, ?_⟩))
    show wpAny _ _ _ _ _ { s with toks := s.toks + 1 }
    refine wpAny_bind (wpAny_holding (wpAny_pure ?_))
    refine wpAny_bind (wpAny_letGo ?_)
    show wpAny _ _ (if ((es.size : Nat) : Int) < 0 then _ else _) _ _ _
    rw [if_neg (by omega)]
    show wpAny _ _ (if ((es.size : Nat) : Int) ≥ 2 ^ 63 then _ else _) _ _ _
    rw [if_neg (by omega)]
    refine wpAny_bind (wpAny_mkInt (wpAny_pure ⟨_, rfl, ?_⟩))
    exact ⟨.int kvs.length, H, I.tok _, ⟨_, by rw [hlen]⟩, q⟩
theorem bcl_len (fit : Fit W X) : CallR X (.builtin "len") (rB W .len) := by
  intro pins s σ H xs us Q I rs ⟨F, ph, hp, vs, r, hR, qs, e, hQ⟩
  unfold bclP at e
  split at e <;> first | cases e | skip
  all_goals first | (rename_i hc; cases hc; done) | skip
  rename_i x
  obtain ⟨v, rfl, qx⟩ := qs.one
  split at e
  · cases e
    obtain ⟨a, ws, rfl, ha, ra⟩ := qx.tupAt hR
    rw [← fit.K] at ha
    exact call_len_seq pins s σ H _ us Q I rs ⟨a, ws, rfl, .inr ha, by rw [← ra.length]; exact hQ.at_ hR (.int _)⟩
  · cases e
    obtain ⟨a, ws, rfl, _, ha, ra⟩ := qx.lstAt hR
    rw [← fit.K] at ha
    exact call_len_seq pins s σ H _ us Q I rs ⟨a, ws, rfl, .inl ha, by rw [← ra.length]; exact hQ.at_ hR (.int _)⟩
  · cases e
    obtain ⟨u, rfl, ru⟩ := vals1 rs
    exact len_dict fit I ru hR qx (hQ.at_ hR (.int _))
  · split at e <;> cases e
    rename_i hl
    obtain ⟨rfl, _⟩ := qx.strV
    exact call_len_str pins s σ H _ us Q I rs ⟨_, rfl, hl, hQ.at_ hR (.int _)⟩
  · cases e
theorem bcl_int (fit : Fit W X) : CallR X (.type "int") (rB W .int) := by
  intro pins s σ H xs us Q I rs ⟨F, ph, hp, vs, r, hR, qs, e, hQ⟩
  unfold bclP at e
  split at e <;> first | cases e | skip
  all_goals first | (rename_i hc; cases hc; done) | skip
  obtain ⟨v, rfl, qx⟩ := qs.one
  split at e <;> cases e
  · cases qx.intV
    exact call_int1 pins s σ H _ us Q I rs (.inl ⟨_, rfl, hQ.at_ hR (.int _)⟩)
  · cases qx.blV
    exact call_int1 pins s σ H _ us Q I rs (.inr ⟨_, rfl, hQ.at_ hR (.int _)⟩)
theorem bcl_abs (fit : Fit W X) : CallR X (.builtin "abs") (rB W .abs) := by
  intro pins s σ H xs us Q I rs ⟨F, ph, hp, vs, r, hR, qs, e, hQ⟩
  unfold bclP at e
  split at e <;> first | cases e | skip
  all_goals first | (rename_i hc; cases hc; done) | skip
  obtain ⟨v, rfl, qx⟩ := qs.one
  split at e <;> cases e
  cases qx.intV
  exact call_abs pins s σ H _ us Q I rs ⟨_, rfl, hQ.at_ hR (.int _)⟩
theorem bcl_str (fit : Fit W X) : CallR X (.type "str") (rB W .str) := by
  intro pins s σ H xs us Q I rs ⟨F, ph, hp, vs, r, hR, qs, e, hQ⟩
  unfold bclP at e
  split at e <;> first | cases e | skip
  all_goals first | (rename_i hc; cases hc; done) | skip
  obtain ⟨v, rfl, qx⟩ := qs.one
  split at e
  · split at e <;> cases e
    rename_i hl
    cases qx.intV
    exact call_str_int pins s σ H _ us Q I rs ⟨_, rfl, hl, hQ.at_ hR (.str _ (strOk_of _))⟩
  · cases e
/-- tuple(a list): a new one known to the object; tuple(a tuple): itself -/
theorem call_tupM : CallR X (.type "tuple") (fun xs H Q => ∃ p ys, xs = [.ref p] ∧ ((SqL X.K H p ys ∧ ∀ l (ob : Obj), ob.dict = none → H l = none → Q (.ref l) (upd H l (.frz ob (.tup ys)))) ∨ (SqT X.K H p ys ∧ Q (.ref p) H))) := by
  intro pins s σ H xs us Q I r ⟨p, ys, ex, h⟩
  subst ex
  obtain ⟨u, rfl, rx⟩ := vals1 r
  cases rx
  rcases h with ⟨hq, q⟩ | ⟨hq, q⟩
  · obtain ⟨its, r', pl, hz⟩ := I.list hq
    have hlen := r'.length
    refine call_tuple_list pl.isList (fun h' kp => ?_) (by simp only [List.size_toArray] <;> omega)
    have I1 : Inv X pins σ H { s with heap := h' } := I.kept (t' := s.toks) kp
    have I2 := lay_tup (t := s.toks) I1 r' hz
    exact ⟨.ref h'.objs.size, _, I2, rfl, q _ _ rfl (I1.hok.fresh (Nat.le_refl _))⟩
  · obtain ⟨its, r', pl, hz⟩ := I.tuple hq
    exact call_tuple_same pl ⟨.ref p, H, I, rfl, q⟩
theorem bcl_tuple (fit : Fit W X) : CallR X (.type "tuple") (rB W .tuple) := by
  intro pins s σ H xs us Q I rs ⟨F, ph, hp, vs, r, hR, qs, e, hQ⟩
  unfold bclP at e
  split at e <;> first | cases e | skip
  all_goals first | (rename_i hc; cases hc; done) | skip
  obtain ⟨v, rfl, qx⟩ := qs.one
  split at e <;> cases e
  · obtain ⟨a, ws, rfl, ha, ra⟩ := qx.tupAt hR
    rw [← fit.K] at ha
    exact call_tupM pins s σ H _ us Q I rs ⟨a, ws, rfl, .inr ⟨ha, hQ.at_ hR qx⟩⟩
  · obtain ⟨a, ws, rfl, _, ha, ra⟩ := qx.lstAt hR
    rw [← fit.K] at ha
    exact call_tupM pins s σ H _ us Q I rs ⟨a, ws, rfl, .inl ⟨ha, fun p ob hd n => hQ.tup hR ra hd n⟩⟩
theorem bcl_list (fit : Fit W X) : CallR X (.type "list") (rB W .list) := by
  intro pins s σ H xs us Q I rs ⟨F, ph, hp, vs, r, hR, qs, e, hQ⟩
  unfold bclP at e
  split at e <;> first | cases e | skip
  all_goals first | (rename_i hc; cases hc; done) | skip
  obtain ⟨v, rfl, qx⟩ := qs.one
  split at e <;> cases e
  · obtain ⟨a, ws, rfl, ha, ra⟩ := qx.tupAt hR
    rw [← fit.K] at ha
    exact call_list_of pins s σ H _ us Q I rs ⟨a, ws, rfl, .inr ha, fun p n => hQ.new hR (.lst ra) n⟩
  · obtain ⟨a, ws, rfl, _, ha, ra⟩ := qx.lstAt hR
    rw [← fit.K] at ha
    exact call_list_of pins s σ H _ us Q I rs ⟨a, ws, rfl, .inl ha, fun p n => hQ.new hR (.lst ra) n⟩
theorem bcl_sum (fit : Fit W X) : CallR X (.builtin "sum") (rB W .sum) := by
  intro pins s σ H xs us Q I rs ⟨F, ph, hp, vs, r, hR, qs, e, hQ⟩
  unfold bclP at e
  split at e <;> first | cases e | skip
  all_goals first | (rename_i hc; cases hc; done) | skip
  obtain ⟨v, rfl, qx⟩ := qs.one
  split at e
  · rw [Option.map_eq_some_iff] at e
    obtain ⟨is, hi, rfl⟩ := e
    obtain ⟨a, ws, rfl, _, ha, ra⟩ := qx.lstAt hR
    rw [ra.ints hi, ← fit.K] at ha
    exact cr_sum fit.calm pins s σ H _ us Q I rs ⟨a, is, rfl, ha, hQ.at_ hR (.int _)⟩
  · cases e
theorem bcl_all (fit : Fit W X) : CallR X (.builtin "all") (rB W .all) := by
  intro pins s σ H xs us Q I rs ⟨F, ph, hp, vs, r, hR, qs, e, hQ⟩
  unfold bclP at e
  split at e <;> first | cases e | skip
  all_goals first | (rename_i hc; cases hc; done) | skip
  obtain ⟨v, rfl, qx⟩ := qs.one
  split at e
  · rw [Option.map_eq_some_iff] at e
    obtain ⟨is, hi, rfl⟩ := e
    obtain ⟨a, ws, rfl, _, ha, ra⟩ := qx.lstAt hR
    rw [ra.bools hi, ← fit.K] at ha
    exact cr_all fit.calm pins s σ H _ us Q I rs ⟨a, is, rfl, ha, hQ.at_ hR (.bl _)⟩
  · cases e
theorem bcl_any (fit : Fit W X) : CallR X (.builtin "any") (rB W .any) := by
  intro pins s σ H xs us Q I rs ⟨F, ph, hp, vs, r, hR, qs, e, hQ⟩
  unfold bclP at e
  split at e <;> first | cases e | skip
  all_goals first | (rename_i hc; cases hc; done) | skip
  obtain ⟨v, rfl, qx⟩ := qs.one
  split at e
  · rw [Option.map_eq_some_iff] at e
    obtain ⟨is, hi, rfl⟩ := e
    obtain ⟨a, ws, rfl, _, ha, ra⟩ := qx.lstAt hR
    rw [ra.bools hi, ← fit.K] at ha
    exact cr_any fit.calm pins s σ H _ us Q I rs ⟨a, is, rfl, ha, hQ.at_ hR (.bl _)⟩
  · cases e
theorem foldl_max : ∀ (is : List Int) (a m : Int), m ∈ a :: is → (∀ y ∈ a :: is, y ≤ m) → is.foldl max a = m
  | [], a, m, h, _ => by
    have q : m = a := by simpa using h
    simp [q]
  | i :: is, a, m, h, g => by
    refine foldl_max is (max a i) m ?_ fun y hy => ?_
    · have h1 := g a (by simp); have h2 := g i (by simp)
      simp only [List.mem_cons] at h ⊢
      rcases h with h | h | h
      · left; omega
      · left; omega
      · exact .inr h
    · simp only [List.mem_cons] at hy
      rcases hy with h | h
      · have h1 := g a (by simp); have h2 := g i (by simp); omega
      · exact g y (by simp [h])
theorem foldl_min : ∀ (is : List Int) (a m : Int), m ∈ a :: is → (∀ y ∈ a :: is, m ≤ y) → is.foldl min a = m
  | [], a, m, h, _ => by
    have q : m = a := by simpa using h
    simp [q]
  | i :: is, a, m, h, g => by
    refine foldl_min is (min a i) m ?_ fun y hy => ?_
    · have h1 := g a (by simp); have h2 := g i (by simp)
      simp only [List.mem_cons] at h ⊢
      rcases h with h | h | h
      · left; omega
      · left; omega
      · exact .inr h
    · simp only [List.mem_cons] at hy
      rcases hy with h | h
      · have h1 := g a (by simp); have h2 := g i (by simp); omega
      · exact g y (by simp [h])
theorem holdAll_ints {h : Heap} : ∀ {us : List Value} {ns : List Int}, IntsAre us ns → PySem.W.HoldAll h us ns
  | _, _, .nil => ⟨[], .nil⟩
  | _, _, .cons n t r => by
    obtain ⟨as, q⟩ := holdAll_ints r
    exact ⟨[] ++ as, .cons (.int n t) q⟩
theorem maxOf_fold (i : Int) : ∀ is : List Int, PySem.W.maxOf i is = is.foldl max i := fun is => by
  unfold PySem.W.maxOf
  congr 1
  funext a y
  show (if decide (a < y) = true then y else a) = max a y
  by_cases h : a < y
  · simp [h]; omega
  · simp [h]; omega
theorem minOf_fold (i : Int) : ∀ is : List Int, PySem.W.minOf i is = is.foldl min i := fun is => by
  unfold PySem.W.minOf
  congr 1
  funext a y
  show (if decide (y < a) = true then y else a) = min a y
  by_cases h : y < a
  · simp [h]; omega
  · simp [h]; omega
theorem bcl_max (fit : Fit W X) : CallR X (.builtin "max") (rB W .max) := by
  intro pins s σ H xs us Q I rs ⟨F, ph, hp, vs, r, hR, qs, e, hQ⟩
  unfold bclP at e
  split at e <;> first | cases e | skip
  all_goals first | (rename_i hc; cases hc; done) | skip
  · obtain ⟨v, rfl, qx⟩ := qs.one
    split at e
    · simp only [Option.bind_eq_some_iff, Option.map_eq_some_iff] at e
      obtain ⟨is, hi, m, hm, rfl⟩ := e
      obtain ⟨a, ws, rfl, _, ha, ra⟩ := qx.lstAt hR
      rw [ra.ints hi, ← fit.K] at ha
      cases is with
      | nil => cases hm
      | cons i is =>
        cases hm
        exact cr_max fit.calm pins s σ H _ us Q I rs ⟨a, _, rfl, ha, Nat.succ_pos _, fun m h1 h2 => by rw [← foldl_max is i m h1 h2]; exact hQ.at_ hR (.int _)⟩
    · simp only [Option.bind_eq_some_iff, Option.map_eq_some_iff] at e
      obtain ⟨is, hi, m, hm, rfl⟩ := e
      obtain ⟨a, ws, rfl, ha, ra⟩ := qx.tupAt hR
      rw [ra.ints hi, ← fit.K] at ha
      cases is with
      | nil => cases hm
      | cons i is =>
        cases hm
        obtain ⟨its, rv, hT, _⟩ := I.tuple ha
        have hu := fit.un
        rw [Vals.ref1 rs]
        refine PySem.W.max_tuple_datum (x := i) (xs := is) (I.ok.hd fit.calm) hT (holdAll_ints rv.ints) (by show X.A.units + 1 + 0 < cLine; omega) fun j v h' tk hj hv hk => ?_
        obtain ⟨as, hv⟩ := hv
        have hv : Reads h' v (.int (PySem.W.maxOf i is)) as := hv
        rw [maxOf_fold] at hv
        cases hv with
        | int _ t => exact ⟨.int _, H, I.kept hk, ⟨t, rfl⟩, hQ.at_ hR (.int _)⟩
    · cases e
  · obtain ⟨v, u, rfl, qx, qy⟩ := qs.two
    cases qx.intV; cases qy.intV
    exact call_max2 fit.calm pins s σ H _ us Q I rs ⟨_, _, rfl, hQ.at_ hR (.int _)⟩
theorem bcl_min (fit : Fit W X) : CallR X (.builtin "min") (rB W .min) := by
  intro pins s σ H xs us Q I rs ⟨F, ph, hp, vs, r, hR, qs, e, hQ⟩
  unfold bclP at e
  split at e <;> first | cases e | skip
  all_goals first | (rename_i hc; cases hc; done) | skip
  · obtain ⟨v, rfl, qx⟩ := qs.one
    split at e
    · simp only [Option.bind_eq_some_iff, Option.map_eq_some_iff] at e
      obtain ⟨is, hi, m, hm, rfl⟩ := e
      obtain ⟨a, ws, rfl, _, ha, ra⟩ := qx.lstAt hR
      rw [ra.ints hi, ← fit.K] at ha
      cases is with
      | nil => cases hm
      | cons i is =>
        cases hm
        exact cr_min fit.calm pins s σ H _ us Q I rs ⟨a, _, rfl, ha, Nat.succ_pos _, fun m h1 h2 => by rw [← foldl_min is i m h1 h2]; exact hQ.at_ hR (.int _)⟩
    · simp only [Option.bind_eq_some_iff, Option.map_eq_some_iff] at e
      obtain ⟨is, hi, m, hm, rfl⟩ := e
      obtain ⟨a, ws, rfl, ha, ra⟩ := qx.tupAt hR
      rw [ra.ints hi, ← fit.K] at ha
      cases is with
      | nil => cases hm
      | cons i is =>
        cases hm
        obtain ⟨its, rv, hT, _⟩ := I.tuple ha
        have hu := fit.un
        rw [Vals.ref1 rs]
        refine PySem.W.min_tuple_datum (x := i) (xs := is) (I.ok.hd fit.calm) hT (holdAll_ints rv.ints) (by show X.A.units + 1 + 0 < cLine; omega) fun j v h' tk hj hv hk => ?_
        obtain ⟨as, hv⟩ := hv
        have hv : Reads h' v (.int (PySem.W.minOf i is)) as := hv
        rw [minOf_fold] at hv
        cases hv with
        | int _ t => exact ⟨.int _, H, I.kept hk, ⟨t, rfl⟩, hQ.at_ hR (.int _)⟩
    · cases e
  · obtain ⟨v, u, rfl, qx, qy⟩ := qs.two
    cases qx.intV; cases qy.intV
    exact call_min2 fit.calm pins s σ H _ us Q I rs ⟨_, _, rfl, hQ.at_ hR (.int _)⟩
end
end MP
set_option maxRecDepth 100000
set_option maxHeartbeats 4000000
/-! MiniPy: set(x) of a list of ints, of a tuple of tuples of ints. -/
namespace MP
open PySem PySem.Spec PyProof.Rows L2
/-- the object of a new set -/
abbrev freshSet (w : World) : Obj := { cls := .type "set", dict := none, data := .set #[] 0 (.fresh 0 0 (!w.params.followText "set-order")) }
section
variable {P : Program} {w : World} {A : Around} {E : Value → Shared → Prop} {s : Shared}
/-- the init's run over a fresh set is to end with G -/
def InitRun (P : Program) (w : World) (A : Around) (E : Value → Shared → Prop) (s : Shared) (l : Addr) (G : Shared → Prop) : Prop :=
  wpAny (model P w) A.in1.in1 (Builtin.«set.__init__» ⟨[.ref s.heap.objs.size, .ref l], []⟩)
    (fun fin s' => match fin with
      | .done f => wants (fun r s2 => r = .none ∧ G s2) E (.ok f) s'
      | .again c' => c'.quiet = true ∧ codeAny (model P w) A.in1 c' (wants (fun r s2 => r = .none ∧ G s2) E) s')
    (fun e s' => wants (fun r s2 => r = .none ∧ G s2) E (.error e) s') { s with heap := s.heap.push (freshSet w) }
/-- set(x): what is left is the run of the init -/
theorem set_call1 {l : Addr} {Q : Value → Shared → Prop} {G : Shared → Prop} (run : InitRun P w A E s l G)
    (fin : ∀ s', G s' → Q (.ref s.heap.objs.size) s') : wpAny (model P w) A (call (.type "set") [.ref l]) Q E s := by
  obtain ⟨c, tl, hmro⟩ := F.called_set.mro
  have g1 := F.called_set.made
  have g2 := F.called_set.sub
  refine wpAny_call (codeAny_of_tree ?_)
  show wpAny _ _ (callAny (.type "set") _) _ _ _
  refine wpAny_pure ⟨Code.quiet_builtin _ (by decide +kernel), codeAny_builtin F.entry_type_call ?_⟩
  rw [Around.under_plain (weight_type_call_type "set" [.ref l] []) rfl]
  have g3 := F.called_set.notType
  have g4 := F.called_set.canCreate
  have g5 := F.typeCall_set_1 (.ref l)
  repeat (any_goals (first | assumption | wp_step))
  refine codeAny_mono (code_set_led1 (.ref l) (E := E) (Q₁ := fun obj s1 => obj = .ref s.heap.objs.size ∧ s1 = { s with heap := s.heap.push (freshSet w) }) ⟨rfl, rfl⟩) fun r s1 hr => ?_
  match r, hr with
  | .error e, hr => exact hr
  | .ok (.ret obj), ⟨e1, e2⟩ =>
    subst e1 e2
    have hT : Shared.TypeIs { s with heap := s.heap.push (freshSet w) } (.ref s.heap.objs.size) "set" := ⟨_, Heap.get?_push_size _ rfl, rfl⟩
    have i1 := F.called_set.init.lookup
    have i2 := F.called_set.init.bind (.ref s.heap.objs.size)
    repeat (any_goals (first | assumption | wp_step))
    refine codeAny_mono (codeAny_call_builtin (R := wants (fun r s2 => r = .none ∧ G s2) E) F.called_set.init.plain F.entry_set_init (check_set_init_1 hT ?_)) fun r2 s2 hr2 => ?_
    · exact run
    · match r2, hr2 with
      | .error e, hr2 => exact hr2
      | .ok (.ret r), ⟨e1, hg⟩ =>
        subst e1
        repeat (any_goals (first | assumption | wp_step))
        exact fin _ hg
/-- .. of a tuple: the loop is left -/
theorem init_tup {l : Addr} {its : Array Value} {G : Shared → Prop} (hl : s.heap.IsTuple l its)
    (loop : ∀ R : Result → Shared → Prop, (∀ s', G s' → R (.ok (.ret .none)) s') →
      codeAny (model P w) A.in1.in1 (.builtin "set.update.loop" ⟨[.ref s.heap.objs.size, .ref (s.heap.objs.size + 1)], []⟩) R { s with heap := (s.heap.push (freshSet w)).push { cls := .type "tuple_iterator", data := .fields #[.ref l, .int 0 0] } }) :
    InitRun P w A E s l G := by
  obtain ⟨⟨oc, od, da, osl⟩, ho, hc, n, hd⟩ := hl
  simp only at hc hd
  subst hc hd
  have ho' : (s.heap.push (freshSet w)).get? l = some { cls := .type "tuple", dict := od, data := .seq its n, slots := osl } := Heap.get?_push_of_some _ ho
  have f1 := F.sub_tuple_set
  have f2 := F.sub_tuple_frozenset
  have f3 : (Value.type "tuple" == Value.type "dict") = false := by decide
  have hz : (s.heap.push (freshSet w)).objs.size = s.heap.objs.size + 1 := Heap.size_push ..
  have hT : (s.heap.push (freshSet w)).IsTuple l its := ⟨_, ho', rfl, n, rfl⟩
  have hg : (s.heap.push (freshSet w)).get? s.heap.objs.size = some (freshSet w) := Heap.get?_push_size _ rfl
  unfold InitRun Builtin.«set.__init__» noKeywords Builtin.Frozenset.updateFrom
  generalize hPI : pyIter = PI
  wp_walk
  subst hPI
  refine wpAny_pyIter_tuple hT ?_
  refine wpAny_bind (wpAny_runValue ?_)
  rw [hz]
  refine loop _ fun s' hG => ?_
  show wpAny _ _ _ _ _ _
  refine wpAny_pure ?_
  show wpAny _ _ (ret Value.none) _ _ _
  exact wpAny_pure ⟨rfl, hG⟩
/-- .. of a list -/
theorem init_lst {l : Addr} {its : Array Value} {G : Shared → Prop} (hl : s.heap.IsList l its)
    (loop : ∀ R : Result → Shared → Prop, (∀ s', G s' → R (.ok (.ret .none)) s') →
      codeAny (model P w) A.in1.in1 (.builtin "set.update.loop" ⟨[.ref s.heap.objs.size, .ref (s.heap.objs.size + 1)], []⟩) R { s with heap := (s.heap.push (freshSet w)).push { cls := .type "list_iterator", data := .fields #[.ref l, .int 0 0] } }) :
    InitRun P w A E s l G := by
  obtain ⟨⟨oc, od, da, osl⟩, ho, hc, n, hd⟩ := hl
  simp only at hc hd
  subst hc hd
  have ho' : (s.heap.push (freshSet w)).get? l = some { cls := .type "list", dict := od, data := .seq its n, slots := osl } := Heap.get?_push_of_some _ ho
  have f1 := F.sub_list_set
  have f2 := F.sub_list_frozenset
  have f3 : (Value.type "list" == Value.type "dict") = false := by decide
  have hz : (s.heap.push (freshSet w)).objs.size = s.heap.objs.size + 1 := Heap.size_push ..
  have hT : (s.heap.push (freshSet w)).IsList l its := ⟨_, ho', rfl, n, rfl⟩
  have hg : (s.heap.push (freshSet w)).get? s.heap.objs.size = some (freshSet w) := Heap.get?_push_size _ rfl
  unfold InitRun Builtin.«set.__init__» noKeywords Builtin.Frozenset.updateFrom
  generalize hPI : pyIter = PI
  wp_walk
  subst hPI
  refine wpAny_pyIter_list hT ?_
  refine wpAny_bind (wpAny_runValue ?_)
  rw [hz]
  refine loop _ fun s' hG => ?_
  show wpAny _ _ _ _ _ _
  refine wpAny_pure ?_
  show wpAny _ _ (ret Value.none) _ _ _
  exact wpAny_pure ⟨rfl, hG⟩
/-- nothing lies above the heap -/
theorem above_none {b : Addr} (hb : s.heap.objs.size ≤ b) : s.heap.get? b = none := by
  cases q : s.heap.get? b with
  | none => rfl
  | some o => exact absurd (Nat.lt_of_lt_of_le (Heap.lt_size q) hb) (Nat.lt_irrefl _)
/-- set(t) of a tuple of tuples of ints -/
theorem set_tup_rows {l : Addr} {its : Array Value} (ks : List (Addr × List Int)) {Q : Value → Shared → Prop} (hh : A.handled = none) (hl : s.heap.IsTuple l its) (hit : its.toList = ks.map fun p => Value.ref p.1)
    (hk : ∀ p ∈ ks, IsT P w s.heap p.2 p.1) (few : ks.length < 64) (hu : A.units + 3 < cLine)
    (fin : ∀ (h' : Heap) (tk : Nat) L es ep t, SetTR P w h' s.heap.objs.size L es ep t → Got ks ks.length L → (∀ b o, s.heap.get? b = some o → h'.get? b = some o) → Q (.ref s.heap.objs.size) { s with heap := h', toks := tk }) :
    wpAny (model P w) A (call (.type "set") [.ref l]) Q E s := by
  have size : its.size = ks.length := by rw [← Array.length_toList, hit, List.length_map]
  refine set_call1 (G := fun s' => ∃ h' tk L es ep t, s' = { s with heap := h', toks := tk } ∧ SetTR P w h' s.heap.objs.size L es ep t ∧ Got ks ks.length L ∧ ∀ b o, s.heap.get? b = some o → h'.get? b = some o)
    (init_tup hl fun R hR => ?_) fun s' ⟨h', tk, L, es, ep, t, e, r, g, k⟩ => by subst e; exact fin h' tk L es ep t r g k
  have lt : l < s.heap.objs.size := by obtain ⟨o, ho, _⟩ := hl; exact Heap.lt_size ho
  have h3 : A.in1.in1.in1.handled = none := by simp [hh]
  have hz : (s.heap.push (freshSet w)).objs.size = s.heap.objs.size + 1 := Heap.size_push ..
  have nl : l ≠ s.heap.objs.size + 1 := Nat.ne_of_lt (Nat.lt_succ_of_lt lt)
  have nS : s.heap.objs.size ∉ [s.heap.objs.size + 1, l] := by
    simp only [List.mem_cons, List.not_mem_nil, or_false, not_or]
    exact ⟨Nat.ne_of_lt (Nat.lt_succ_self _), Nat.ne_of_gt lt⟩
  have val : ∀ (i : Nat) (v : Value), its[i]? = some v → ∃ p, ks[i]? = some p ∧ v = .ref p.1 := fun i v hv => by
    rw [← Array.getElem?_toList, hit, List.getElem?_map, Option.map_eq_some_iff] at hv
    obtain ⟨p, hp, e⟩ := hv
    exact ⟨p, hp, e.symm⟩
  have pt : (s.heap.push (freshSet w)).IsTuple l its := by
    obtain ⟨o, ho, r⟩ := hl
    exact ⟨o, Heap.get?_push_of_some _ ho, r⟩
  refine set_update_tups ((Walks.tuple h3 (s.heap.objs.size + 1) l nl its).toS) s.heap.objs.size nS ks size few val s.heap hk (above_none (Nat.le_refl _)) (fun b hb => above_none (by rw [List.mem_singleton.mp hb]; exact Nat.le_succ _)) hu (its.size - 0) 0 _ (by omega) (Nat.zero_le _)
    ⟨⟨_, by rw [← hz]; exact Heap.get?_push_size _ rfl, rfl, rfl⟩, pt.push _⟩ (fun b o e => Heap.get?_push_of_some _ (Heap.get?_push_of_some _ e)) ?_ ?_
  · exact ⟨[], #[], 0, _, setTR_fresh (Heap.get?_push_of_some _ (Heap.get?_push_size _ rfl)), Got.zero ks⟩
  · intro s' L es ep t hm r g k
    rw [size] at g
    refine hR s' ⟨s'.heap, s'.toks, L, es, ep, t, ?_, r, g, k⟩
    have e1 := hm.gens
    have e2 := hm.drawn
    have e3 := hm.os
    cases s'
    cases s
    simp only at e1 e2 e3
    subst e1 e2 e3
    rfl
/-- set(l) of a list of ints -/
theorem set_lst_ints {l : Addr} {its : Array Value} (ns : List Int) {Q : Value → Shared → Prop} (hh : A.handled = none) (hl : s.heap.IsList l its) (hit : IntsAre its.toList ns) (few : ns.length + 1 < scanBound)
    (fin : ∀ (h' : Heap) (tk c : Nat), SetR w h' s.heap.objs.size (fun j => decide (j ∈ ns)) c → (∀ b o, s.heap.get? b = some o → h'.get? b = some o) → Q (.ref s.heap.objs.size) { s with heap := h', toks := tk }) :
    wpAny (model P w) A (call (.type "set") [.ref l]) Q E s := by
  have size : its.size = ns.length := by
    have := IntsAre.length hit
    rwa [Array.length_toList] at this
  refine set_call1 (G := fun s' => ∃ h' tk c, s' = { s with heap := h', toks := tk } ∧ SetR w h' s.heap.objs.size (fun j => decide (j ∈ ns)) c ∧ ∀ b o, s.heap.get? b = some o → h'.get? b = some o)
    (init_lst hl fun R hR => ?_) fun s' ⟨h', tk, c, e, r, k⟩ => by subst e; exact fin h' tk c r k
  have lt : l < s.heap.objs.size := by obtain ⟨o, ho, _⟩ := hl; exact Heap.lt_size ho
  have h3 : A.in1.in1.in1.handled = none := by simp [hh]
  have hz : (s.heap.push (freshSet w)).objs.size = s.heap.objs.size + 1 := Heap.size_push ..
  have nl : l ≠ s.heap.objs.size + 1 := Nat.ne_of_lt (Nat.lt_succ_of_lt lt)
  have nS : s.heap.objs.size ∉ [s.heap.objs.size + 1, l] := by
    simp only [List.mem_cons, List.not_mem_nil, or_false, not_or]
    exact ⟨Nat.ne_of_lt (Nat.lt_succ_self _), Nat.ne_of_gt lt⟩
  have val : ∀ (i : Nat) (v : Value), its[i]? = some v → ∃ k t, ns[i]? = some k ∧ v = .int k t := fun i v hv => by
    have hi : i < ns.length := by rw [← size]; exact (Array.getElem?_eq_some_iff.mp hv).1
    obtain ⟨t, e⟩ := PyProof.Rows.IntsAre.int_at hit i v (by rw [Array.getElem?_toList]; exact hv)
    exact ⟨ns[i], t, List.getElem?_eq_getElem hi, by rw [e, List.getD_eq_getElem?_getD, List.getElem?_eq_getElem hi]; rfl⟩
  have pt : (s.heap.push (freshSet w)).IsList l its := by
    obtain ⟨o, ho, r⟩ := hl
    exact ⟨o, Heap.get?_push_of_some _ ho, r⟩
  refine set_update_ints ((Walks.list h3 (s.heap.objs.size + 1) l nl its).toS) s.heap.objs.size nS ns size few val (its.size - 0) 0 _ (by omega) (Nat.zero_le _)
    ⟨⟨_, by rw [← hz]; exact Heap.get?_push_size _ rfl, rfl, rfl⟩, pt.push _⟩ ?_ ?_
  · exact ⟨0, Nat.le_refl 0, setR_new_at (Heap.get?_push_of_some _ (Heap.get?_push_size _ rfl))⟩
  · intro s' c hm _ r
    refine hR s' ⟨s'.heap, s'.toks, c, ?_, r, fun b o e => ?_⟩
    · have e1 := hm.gens
      have e2 := hm.drawn
      have e3 := hm.os
      cases s'
      cases s
      simp only at e1 e2 e3
      subst e1 e2 e3
      rfl
    · have hb := Heap.lt_size e
      refine hm.heap b o (fun hm2 => ?_) (Heap.get?_push_of_some _ (Heap.get?_push_of_some _ e))
      simp only [List.mem_cons, List.not_mem_nil, or_false] at hm2
      rcases hm2 with rfl | rfl
      · exact absurd hb (Nat.lt_irrefl _)
      · exact absurd (Nat.lt_of_succ_lt hb) (Nat.lt_irrefl _)
end
end MP
set_option maxRecDepth 100000
/-! MiniPy: sorted, set by values. -/
namespace MP
open PySem PySem.Spec PyProof.Rows L2
/-! ### rows of ints -/
def rowP (r : List Int) : PV := .tup (r.map PV.int)
theorem eqAll_ints : ∀ a b : List Int, eqAll (a.map PV.int) (b.map PV.int) = decide (a = b)
  | [], [] => by simp [eqAll]
  | [], _ :: _ => by simp [eqAll]
  | _ :: _, [] => by simp [eqAll]
  | x :: a, y :: b => by
    rw [List.map_cons, List.map_cons, eqAll, eqAll_ints a b, eqP]
    by_cases h : x = y
    · subst h; by_cases h2 : a = b <;> simp [h2]
    · simp [h]
theorem eqP_row (a b : List Int) : eqP (rowP a) (rowP b) = decide (a = b) := by
  show eqAll (a.map PV.int) (b.map PV.int) = _
  exact eqAll_ints a b
theorem ltAll_ints : ∀ a b : List Int, ltAll (a.map PV.int) (b.map PV.int) = decide (a < b)
  | [], [] => by simp [ltAll]
  | [], _ :: _ => by simp [ltAll]
  | _ :: _, [] => by simp [ltAll]
  | x :: a, y :: b => by
    rw [List.map_cons, List.map_cons, ltAll, ltAll_ints a b, eqP, ltP]
    by_cases h : x = y
    · subst h; simp [List.cons_lt_cons_iff]
    · simp [h, List.cons_lt_cons_iff]
theorem leP_row (a b : List Int) : leP (rowP a) (rowP b) = decide (a ≤ b) := by
  show (!ltAll (b.map PV.int) (a.map PV.int)) = _
  rw [ltAll_ints]
  by_cases h : b < a
  · simp [h, List.not_le]
  · simp [h, List.not_lt.mp h]
theorem memP_rows (x : List Int) (xs : List (List Int)) : memP (rowP x) (xs.map rowP) = decide (x ∈ xs) := by
  unfold memP
  rw [List.any_map]
  by_cases h : x ∈ xs
  · rw [decide_eq_true h, List.any_eq_true]
    exact ⟨x, h, by show eqP (rowP x) (rowP x) = true; rw [eqP_row]; simp⟩
  · rw [decide_eq_false h, List.any_eq_false]
    intro y hy
    show ¬ eqP (rowP y) (rowP x) = true
    rw [eqP_row]
    intro e
    exact h ((of_decide_eq_true e) ▸ hy)
/-- the rows, each once, in the order of their first places -/
def ddR : List (List Int) → List (List Int) → List (List Int)
  | acc, [] => acc
  | acc, x :: xs => if x ∈ acc then ddR acc xs else ddR (acc ++ [x]) xs
theorem dedup_rows : ∀ (xs acc : List (List Int)), dedup (acc.map rowP) (xs.map rowP) = (ddR acc xs).map rowP
  | [], acc => rfl
  | x :: xs, acc => by
    rw [List.map_cons, dedup, memP_rows, ddR]
    by_cases h : x ∈ acc
    · rw [if_pos (decide_eq_true h), if_pos h, dedup_rows xs acc]
    · rw [if_neg (by simp [h]), if_neg h, ← dedup_rows xs (acc ++ [x])]
      simp
theorem ddR_mem : ∀ (xs acc : List (List Int)) (y : List Int), y ∈ ddR acc xs ↔ y ∈ acc ∨ y ∈ xs
  | [], acc, y => by simp [ddR]
  | x :: xs, acc, y => by
    rw [ddR]
    split
    · rename_i h
      rw [ddR_mem xs acc y, List.mem_cons]
      constructor
      · rintro (q | q)
        · exact .inl q
        · exact .inr (.inr q)
      · rintro (q | rfl | q)
        · exact .inl q
        · exact .inl h
        · exact .inr q
    · rw [ddR_mem xs _ y]; simp [or_assoc]
theorem ddR_nodup : ∀ (xs acc : List (List Int)), acc.Nodup → (ddR acc xs).Nodup
  | [], acc, h => h
  | x :: xs, acc, h => by
    rw [ddR]
    split
    · exact ddR_nodup xs acc h
    · rename_i hx
      refine ddR_nodup xs _ (List.nodup_append.mpr ⟨h, by simp, fun a ha b hb => ?_⟩)
      rintro rfl
      simp at hb
      subst hb
      exact hx ha
theorem sort_rows (xs : List (List Int)) : (xs.map rowP).mergeSort leP = (xs.mergeSort fun a b => decide (a ≤ b)).map rowP := by
  rw [List.map_mergeSort]
  intro a _ b _
  exact (leP_row a b).symm
theorem rows_sorted (xs : List (List Int)) : (xs.mergeSort fun a b => decide (a ≤ b)).Pairwise (· ≤ ·) := by
  have h := List.pairwise_mergeSort (le := fun (a b : List Int) => decide (a ≤ b)) (fun a b c h1 h2 => decide_eq_true (List.le_trans (of_decide_eq_true h1) (of_decide_eq_true h2)))
    (fun a b => by simpa using List.le_total a b) xs
  exact h.imp fun h => of_decide_eq_true h
theorem rows_unique {xs ys : List (List Int)} (hp : ys.Perm xs) (h : ys.Pairwise (· ≤ ·)) : ys = xs.mergeSort fun a b => decide (a ≤ b) := by
  refine List.Perm.eq_of_pairwise (fun a b _ _ h1 h2 => List.le_antisymm h1 h2) h (rows_sorted xs) (hp.trans (List.mergeSort_perm _ _).symm)
theorem code_of_lt {B : Int} : ∀ {a b : List Int}, a.length = b.length → TS.Bd B a → TS.Bd B b → a < b → TS.code B a < TS.code B b
  | [], [], _, _, _, h => by simp at h
  | x :: a, y :: b, hl, ha, hb, h => by
    have hl2 : a.length = b.length := Nat.succ.inj hl
    rcases List.cons_lt_cons_iff.mp h with g | ⟨rfl, g⟩
    · exact TS.code_lt hl2 ha.tail hb.tail g
    · have ha' : TS.Bd B a := fun m hm => ha m (List.mem_cons_of_mem _ hm)
      have hb' : TS.Bd B b := fun m hm => hb m (List.mem_cons_of_mem _ hm)
      have h2 : TS.code B a < TS.code B b := code_of_lt hl2 ha' hb' g
      exact (TS.code_same hl2).mpr h2
  | [], _ :: _, h, _, _, _ => by simp at h
  | _ :: _, [], h, _, _, _ => by simp at h
theorem le_of_code {B : Int} {a b : List Int} (hl : a.length = b.length) (ha : TS.Bd B a) (hb : TS.Bd B b) (h : TS.code B a ≤ TS.code B b) : a ≤ b := by
  refine List.not_lt.mp fun q => ?_
  have := code_of_lt hl.symm hb ha q
  omega
theorem intsP_map : ∀ {xs : List PV} {ns : List Int}, intsP xs = some ns → xs = ns.map PV.int
  | [], ns, h => by simp [intsP] at h; subst h; rfl
  | x :: xs, ns, h => by
    cases x <;> simp [intsP] at h
    obtain ⟨m, h1, rfl⟩ := h
    rw [intsP_map h1]; rfl
theorem okRow_row {d : Nat} {r : List Int} (h : okRow d (rowP r) = true) : r.length = d ∧ TS.Bd (2 ^ 30) r := by
  unfold rowP okRow at h
  have e : intsP (r.map PV.int) = some r := by
    clear h
    induction r with
    | nil => rfl
    | cons a r ih => rw [List.map_cons, intsP, ih]; rfl
  simp only [e] at h
  simp only [Bool.and_eq_true, decide_eq_true_eq, List.length_map, List.all_eq_true] at h
  exact ⟨h.1, fun m hm => h.2 m hm⟩
section
variable {W : Wd} {X : Cx} {F H : Hp} {ph : List Addr} {hp : Hs}
/-- a list's tuples of ints, with their places -/
theorem rows_of : ∀ {xs : List PV} {vs : List V}, RepA W F ph xs vs → (xs.all fun x => match x with | .tup ys => (intsP ys).isSome | _ => false) = true →
    ∃ ks : List (Addr × List Int), vs = ks.map (fun p => V.ref p.1) ∧ xs = (ks.map (·.2)).map rowP ∧ ∀ p ∈ ks, F p.1 = some (.tup (p.2.map V.int)) ∨ KTup W.K p.1 (p.2.map V.int)
  | _, _, .nil, _ => ⟨[], rfl, rfl, fun p hp => by simp at hp⟩
  | _, _, .cons (x := x) r t, h => by
    rw [List.all_cons, Bool.and_eq_true] at h
    obtain ⟨ks, e1, e2, e3⟩ := rows_of t h.2
    have h1 := h.1
    split at h1
    · rename_i ys
      obtain ⟨ns, hn⟩ := Option.isSome_iff_exists.mp h1
      have ey := intsP_map hn
      cases r with
      | @tup a _ vs e q =>
        rw [q.ints hn] at e
        exact ⟨(a, ns) :: ks, by rw [e1]; rfl, by rw [e2, ey]; rfl, fun p hp => (List.mem_cons.mp hp).elim (fun z => by subst z; exact .inl e) (e3 p)⟩
      | @ktup a _ vs e q =>
        rw [q.ints hn] at e
        exact ⟨(a, ns) :: ks, by rw [e1]; rfl, by rw [e2, ey]; rfl, fun p hp => (List.mem_cons.mp hp).elim (fun z => by subst z; exact .inr e) (e3 p)⟩
      | obj e q => cases q
    · cases h1
/-- a set's rows -/
theorem set_rows_res (fit : Fit W X) {pins : List (Addr × Obj)} {s : Shared} {σ : L2.St} {Q : VK} {xs : List PV} (I : Inv X pins σ H s) (hR : RelH W F ph hp H) (ks : List (Addr × List Int)) (ex : xs = (ks.map (·.2)).map rowP)
    (hk : ∀ p ∈ ks, F p.1 = some (.tup (p.2.map V.int)) ∨ KTup W.K p.1 (p.2.map V.int)) (hQ : Res W F ph hp H (true, .pst (dedup [] xs)) Q) {h' : Heap} {tk : Nat} {L : List (Addr × List Int)} {es : Array (Int × Value)} {ep : Nat} {t : SetTable}
    (R : SetTR X.prog X.w h' s.heap.objs.size L es ep t) (g : Got ks ks.length L) (k : ∀ b o, s.heap.get? b = some o → h'.get? b = some o) : EP X pins σ Q (.ref s.heap.objs.size) { s with heap := h', toks := tk } := by
  refine ⟨.ref s.heap.objs.size, upd H s.heap.objs.size (SetTO X.prog X.w s.heap.objs.size L), I.laid (t' := tk) k (Nat.le_refl _) (setTO_new R.t0), rfl, ?_⟩
  refine hQ.new hR ?_ (I.hok.fresh (Nat.le_refl _))
  have ed : dedup [] xs = (ddR [] (ks.map (·.2))).map rowP := by rw [ex, ← dedup_rows]; rfl
  rw [ed, fit.P, fit.w]
  refine .psT (L := L) ?_ (ddR_nodup _ _ List.nodup_nil) fun p hm => hk p (List.mem_of_mem_take (g.sub p hm))
  refine (List.perm_ext_iff_of_nodup R.nd (ddR_nodup _ _ List.nodup_nil)).mpr fun y => ?_
  rw [ddR_mem]
  constructor
  · intro hy
    obtain ⟨p, hm, rfl⟩ := List.mem_map.mp hy
    exact .inr (List.mem_map.mpr ⟨p, List.mem_of_mem_take (g.sub p hm), rfl⟩)
  · rintro (hy | hy)
    · simp at hy
    · obtain ⟨p, hm, rfl⟩ := List.mem_map.mp hy
      exact g.all p (by rw [List.take_length]; exact hm)
/-- the ints, each once -/
def ddI : List Int → List Int → List Int
  | acc, [] => acc
  | acc, x :: xs => if x ∈ acc then ddI acc xs else ddI (acc ++ [x]) xs
theorem memP_ints (x : Int) (xs : List Int) : memP (.int x) (xs.map PV.int) = decide (x ∈ xs) := by
  unfold memP
  rw [List.any_map]
  by_cases h : x ∈ xs
  · rw [decide_eq_true h, List.any_eq_true]
    exact ⟨x, h, by show (x == x) = true; simp⟩
  · rw [decide_eq_false h, List.any_eq_false]
    intro y hy
    show ¬ (y == x) = true
    simp
    rintro rfl
    exact h hy
theorem dedup_ints : ∀ (xs acc : List Int), dedup (acc.map PV.int) (xs.map PV.int) = (ddI acc xs).map PV.int
  | [], acc => rfl
  | x :: xs, acc => by
    rw [List.map_cons, dedup, memP_ints, ddI]
    by_cases h : x ∈ acc
    · rw [if_pos (decide_eq_true h), if_pos h, dedup_ints xs acc]
    · rw [if_neg (by simp [h]), if_neg h, ← dedup_ints xs (acc ++ [x])]
      simp
theorem ddI_mem : ∀ (xs acc : List Int) (y : Int), y ∈ ddI acc xs ↔ y ∈ acc ∨ y ∈ xs
  | [], acc, y => by simp [ddI]
  | x :: xs, acc, y => by
    rw [ddI]
    split
    · rename_i h
      rw [ddI_mem xs acc y, List.mem_cons]
      constructor
      · rintro (q | q)
        · exact .inl q
        · exact .inr (.inr q)
      · rintro (q | rfl | q)
        · exact .inl q
        · exact .inl h
        · exact .inr q
    · rw [ddI_mem xs _ y]; simp [or_assoc]
theorem ddI_nodup : ∀ (xs acc : List Int), acc.Nodup → (ddI acc xs).Nodup
  | [], acc, h => h
  | x :: xs, acc, h => by
    rw [ddI]
    split
    · exact ddI_nodup xs acc h
    · rename_i hx
      refine ddI_nodup xs _ (List.nodup_append.mpr ⟨h, by simp, fun a ha b hb => ?_⟩)
      rintro rfl
      simp at hb
      subst hb
      exact hx ha
/-- a set of ints, made of a list or a tuple -/
theorem set_ints_res (fit : Fit W X) {pins : List (Addr × Obj)} {s : Shared} {σ : L2.St} {Q : VK} {xs : List PV} {ns : List Int} (I : Inv X pins σ H s) (hR : RelH W F ph hp H) (ex : xs = ns.map PV.int)
    (hQ : Res W F ph hp H (true, .pst (dedup [] xs)) Q) {h' : Heap} {tk c : Nat} (R : SetR X.w h' s.heap.objs.size (fun j => decide (j ∈ ns)) c) (k : ∀ b o, s.heap.get? b = some o → h'.get? b = some o) :
    EP X pins σ Q (.ref s.heap.objs.size) { s with heap := h', toks := tk } := by
  refine ⟨.ref s.heap.objs.size, upd H s.heap.objs.size (SetO X.w s.heap.objs.size _ c), I.laid (t' := tk) k (Nat.le_refl _) (setO_new R), rfl, ?_⟩
  refine hQ.new hR ?_ (I.hok.fresh (Nat.le_refl _))
  have ed : dedup [] xs = (ddI [] ns).map PV.int := by rw [ex, ← dedup_ints]; rfl
  rw [ed, fit.w]
  have hm : ∀ i, decide (i ∈ ns) = true ↔ i ∈ ddI [] ns := fun i => by rw [ddI_mem]; simp
  refine .psI hm (ddI_nodup _ _ List.nodup_nil) ?_
  obtain ⟨o, es, ep, t, ho, hx, hd, g, nd, hS, hb, hf, hn, _⟩ := R
  rw [← hn, ← Array.length_toList, ← List.length_map (f := L2.keyOf)]
  refine List.Perm.length_eq ((List.perm_ext_iff_of_nodup nd (ddI_nodup _ _ List.nodup_nil)).mpr fun y => ?_)
  rw [← hS y, hm y]
theorem bcl_set (fit : Fit W X) : CallR X (.type "set") (rB W .set) := by
  intro pins s σ H xs us Q I rs ⟨F, ph, hp, vs, r, hR, qs, e, hQ⟩
  unfold bclP at e
  split at e <;> first | cases e | skip
  all_goals first | (rename_i hc; cases hc; done) | skip
  obtain ⟨v, rfl, qx⟩ := qs.one
  have hu := fit.un
  split at e
  · rename_i xs
    obtain ⟨a, ws, rfl, _, ha, ra⟩ := qx.lstAt hR
    unfold setP at e
    split at e
    · rename_i ok
      cases e
      simp only [okSet, Bool.and_eq_true, decide_eq_true_eq] at ok
      obtain ⟨ks, rfl, ex, hk⟩ := rows_of ra ok.2
      rw [← fit.K] at ha
      have hl : ks.length < 64 := by have := ok.1; rw [ex] at this; simpa using this
      have hkq : ∀ p ∈ ks, SqT X.K H p.1 (p.2.map V.int) := fun p hm => by
        rw [fit.K]
        exact (hk p hm).elim (fun z => .inl (hR.sub _ _ z)) fun z => .inr z
      obtain ⟨its, rv, pl, hz⟩ := I.list ha
      rw [Vals.ref1 rs]
      exact call_set_tups (P := X.prog) (w := X.w) ks (I.ok.hd fit.calm) pl.isList (by simpa using refs_of_vals rv) (fun p hm => I.isT (hkq p hm)) hl (by omega) fun h' tk L es ep t R g k => set_rows_res fit I hR ks ex hk hQ R g k
    · split at e
      · rename_i ok
        cases e
        simp only [okInts, Bool.and_eq_true, decide_eq_true_eq] at ok
        obtain ⟨ns, hn⟩ := Option.isSome_iff_exists.mp ok.1
        have ex := intsP_map hn
        rw [ra.ints hn, ← fit.K] at ha
        obtain ⟨its, rv, pl, hz⟩ := I.list ha
        rw [Vals.ref1 rs]
        refine set_lst_ints (P := X.prog) (w := X.w) ns (I.ok.hd fit.calm) pl.isList (by simpa using rv.ints) (by have := ok.2; rw [ex, List.length_map] at this; unfold scanBound; omega) fun h' tk c R k => set_ints_res fit I hR ex hQ R k
      · cases e
  · rename_i xs
    obtain ⟨a, ws, rfl, ha, ra⟩ := qx.tupAt hR
    unfold setP at e
    split at e
    · rename_i ok
      cases e
      simp only [okSet, Bool.and_eq_true, decide_eq_true_eq] at ok
      obtain ⟨ks, rfl, ex, hk⟩ := rows_of ra ok.2
      rw [← fit.K] at ha
      have hl : ks.length < 64 := by have := ok.1; rw [ex] at this; simpa using this
      have hkq : ∀ p ∈ ks, SqT X.K H p.1 (p.2.map V.int) := fun p hm => by
        rw [fit.K]
        exact (hk p hm).elim (fun z => .inl (hR.sub _ _ z)) fun z => .inr z
      obtain ⟨its, rv, pl, hz⟩ := I.tuple ha
      rw [Vals.ref1 rs]
      exact set_tup_rows (P := X.prog) (w := X.w) ks (I.ok.hd fit.calm) pl (by simpa using refs_of_vals rv) (fun p hm => I.isT (hkq p hm)) hl (by omega) fun h' tk L es ep t R g k => set_rows_res fit I hR ks ex hk hQ R g k
    · split at e
      · rename_i ok
        cases e
        simp only [okInts, Bool.and_eq_true, decide_eq_true_eq] at ok
        obtain ⟨ns, hn⟩ := Option.isSome_iff_exists.mp ok.1
        have ex := intsP_map hn
        rw [ra.ints hn, ← fit.K] at ha
        obtain ⟨its, rv, pl, hz⟩ := I.tuple ha
        rw [Vals.ref1 rs]
        refine call_set_tupI (P := X.prog) (w := X.w) ns (I.ok.hd fit.calm) pl (by simpa using rv.ints) (by have := ok.2; rw [ex, List.length_map] at this; unfold scanBound; omega) fun h' tk c R _ k => set_ints_res fit I hR ex hQ R k
      · cases e
  · cases e
theorem hQ_of {Q : VK} {v : List PV} {vs : List V} {p : Addr} (q : Res W F ph hp H (true, .lst v) Q) (r : RepA W F ph v vs) (hR : RelH W F ph hp H) (n : H p = none) : Q (.ref p) (upd H p (.lst vs)) := q.new hR (.lst r) n
theorem okRows_all {d : Nat} {xs : List PV} (h : xs.all (okRow d) = true) : (xs.all fun x => match x with | .tup ys => (intsP ys).isSome | _ => false) = true := by
  rw [List.all_eq_true] at h ⊢
  intro x hx
  have := h x hx
  unfold okRow at this
  split at this
  · rename_i ys
    rw [Bool.and_eq_true] at this
    cases e : intsP ys with
    | none => rw [e] at this; simp at this
    | some is => simp [e]
  · cases this
/-- the sorted rows of a set -/
theorem sorted_pst (fit : Fit W X) {pins : List (Addr × Obj)} {s : Shared} {σ : L2.St} {Q : VK} {xs : List PV} {x : V} {u : Value} (I : Inv X pins σ H s) (rx : RelV x u) (hR : RelH W F ph hp H) (qx : Rep W F ph (.pst xs) x) (ok : okRows xs = true) (ne : xs ≠ [])
    (q : Res W F ph hp H (true, .lst (xs.mergeSort leP)) Q) : wpAny (model X.prog X.w) X.A (call (.builtin "sorted") [u]) (EP X pins σ Q) X.xe s := by
  cases qx with
  | @obj a _ o e r =>
    obtain rfl : u = Value.ref a := rx
    simp only [okRows, Bool.and_eq_true, decide_eq_true_eq] at ok
    cases r with
    | psI h1 h2 h3 =>
      exfalso
      rename_i ns S n
      cases ns with
      | nil => exact ne rfl
      | cons i ns => have := ok.2; simp [okRow] at this
    | @psT _ ns L h1 h2 h3 =>
      have hrow : ∀ r ∈ ns, r.length = widthP (ns.map rowP) ∧ TS.Bd (2 ^ 30) r := fun r hr => okRow_row ((List.all_eq_true.mp ok.2) (rowP r) (List.mem_map.mpr ⟨r, hr, rfl⟩))
      have hk : ∀ p ∈ L, SqT X.K H p.1 (p.2.map V.int) := fun p hm => by
        rw [fit.K]
        exact (h3 p hm).elim (fun z => .inl (hR.sub _ _ z)) fun z => .inr z
      have R0 : SetT0 X.prog X.w s.heap a L := by
        rw [fit.P, fit.w]
        have z := (hR.sub _ _ e).ok I.hok
        exact z.1
      obtain ⟨es, ep, t, R⟩ := R0.full fun p hm => I.isT (hk p hm)
      refine sorted_setT (d := widthP (ns.map rowP)) (B := 2 ^ 30) R (I.ok.hd fit.calm) ok.1 (fun p hm => hrow p.2 (h1.mem_iff.mp (List.mem_map.mpr ⟨p, hm, rfl⟩))) fun s' p out c L' k g os hpl hg hout pm pw => ?_
      have few : L'.length < 64 := by rw [pm.length_eq]; exact R.few
      have hlen : (L'.map fun q => V.ref q.1).length ≤ sizeLine := by rw [List.length_map, sizeLine_eq]; omega
      have hn : H p = none := I.hok.fresh hpl
      have hv : Vals (L'.map fun q => V.ref q.1) out.toList := by rw [hout]; exact vals_of_refs L'
      have J : Inv X pins σ (upd H p (.lst (L'.map fun q => V.ref q.1))) { s with heap := s'.heap, gens := s'.gens, drawn := s'.drawn, toks := s'.toks } :=
        I.call (ch := []) (Un.laid k hpl hn) (I.hok.laid k hpl ⟨hlen, out.toList, c, hv, hg⟩) (by rw [g]; exact I.bare) (fun _ z => nomatch z)
      have es' : s' = { s with heap := s'.heap, gens := s'.gens, drawn := s'.drawn, toks := s'.toks } := by
        cases s'; cases s; cases os; rfl
      rw [es']
      refine ⟨.ref p, _, J, rfl, hQ_of q ?_ hR hn⟩
      have hs : L'.map (·.2) = ns.mergeSort fun a b => decide (a ≤ b) := by
        refine rows_unique ((pm.map (·.2)).trans h1) ?_
        rw [List.pairwise_map]
        refine pw.imp_of_mem fun {a b} ha hb hab => ?_
        have ra := hrow a.2 (h1.mem_iff.mp ((pm.map (·.2)).mem_iff.mp (List.mem_map.mpr ⟨a, ha, rfl⟩)))
        have rb := hrow b.2 (h1.mem_iff.mp ((pm.map (·.2)).mem_iff.mp (List.mem_map.mpr ⟨b, hb, rfl⟩)))
        exact le_of_code (ra.1.trans rb.1.symm) ra.2 rb.2 hab
      show RepA W F ph ((ns.map rowP).mergeSort leP) _
      rw [sort_rows, ← hs]
      have all : ∀ l : List (Addr × List Int), (∀ z ∈ l, z ∈ L) → RepA W F ph ((l.map (·.2)).map rowP) (l.map fun q => V.ref q.1) := by
        intro l
        induction l with
        | nil => intro _; exact .nil
        | cons z l ih =>
          intro hz
          refine .cons ?_ (ih fun y hy => hz y (List.mem_cons_of_mem _ hy))
          rcases h3 z (hz z List.mem_cons_self) with w | w
          · exact .tup w (RepA.of_ints _)
          · exact .ktup w (RepA.of_ints _)
      exact all L' fun z hz => pm.mem_iff.mp hz
theorem toD_none2 {x : PV} (h : notTup0 x = true) (d : x.dat = true) : toD x ≠ .none := by
  cases x <;> simp [PV.dat] at d <;> simp [toD]
  simp [notTup0] at h
end
mutual
theorem reads_lt {h : Heap} : ∀ {v : Value} {d : PyData} {as : List Addr}, Reads h v d as → ∀ a ∈ as, ∃ o, h.get? a = some o
  | _, _, _, .none => fun a ha => nomatch ha
  | _, _, _, .bool b => fun a ha => nomatch ha
  | _, _, _, .int i t => fun a ha => nomatch ha
  | _, _, _, .str x t => fun a ha => nomatch ha
  | _, _, _, .list e _ _ r => fun a ha => (List.mem_cons.mp ha).elim (fun z => ⟨_, z ▸ e⟩) (readsAll_lt r a)
  | _, _, _, .tuple _ _ _ r => readsAll_lt r
  | _, _, _, .dict e _ _ r q => fun a ha => (List.mem_append.mp ha).elim (fun z => (List.mem_cons.mp z).elim (fun z => ⟨_, z ▸ e⟩) (readsAll_lt r a)) (readsAll_lt q a)
theorem readsAll_lt {h : Heap} : ∀ {v : List Value} {d : List PyData} {as : List Addr}, ReadsAll h v d as → ∀ a ∈ as, ∃ o, h.get? a = some o
  | _, _, _, .nil => fun a ha => nomatch ha
  | _, _, _, .cons r q => fun a ha => (List.mem_append.mp ha).elim (reads_lt r a) (readsAll_lt q a)
end
section
variable {prog : Program} {w : World} {A : Around} {E : Value → Shared → Prop} {s : Shared} {β : Type} {vs : List Value} {bs : List β} {enc : β → PyData} {R : Value → β → Prop}
/-- sorted(x) of anything whose items are collected -/
theorem sorted_coll {x : Value} {Q : Value → Shared → Prop}
    (coll : ∀ S : List Value → Shared → Prop, (∀ h' tk, (∀ b o, s.heap.get? b = some o → h'.get? b = some o) → S vs { s with heap := h', toks := tk }) → wpAny (model prog w) A.in1 (collect x) S E s)
    (e : PySem.W.EachIs R vs bs) (er : PySem.W.EachIs (fun v b => ∃ as, Reads s.heap v (enc b) as) vs bs) (hal : PySem.W.AllAlike (bs.map enc)) (hk : PySem.W.Sortable (bs.map enc)) (hL : bs.length ≤ sizeLine)
    (hu : ∀ b, b ∈ bs → A.units + 2 + (enc b).depth < cLine)
    (fin : ∀ (h1 h' : Heap) (tk c : Nat) (out : List Value), (∀ b o, s.heap.get? b = some o → h1.get? b = some o) → (∀ b o, h1.get? b = some o → h'.get? b = some o) → h'.get? h1.objs.size = some (seqObj "list" out.toArray c) → out.length = bs.length → PySem.W.EachIs R out (bs.mergeSort (PySem.W.dataLe false enc)) → Q (.ref h1.objs.size) { s with heap := h', toks := tk }) :
    wpAny (model prog w) A (call (.builtin "sorted") [x]) Q E s := by
  refine Calls.call_function_entry kind_sorted plain_sorted entry_sorted (args_sorted1 _) ?_
  unfold Builtin.«sorted»
  refine wpAny_bind (m := checkCount "sorted" 1 1 _) (wpAny_pure ?_)
  refine wpAny_bind (coll _ fun h1 tk k1 => ?_)
  refine wpAny_bind (wpAny_newList ?_ (by rw [e.length]; exact hL))
  have k2 : ∀ b o, s.heap.get? b = some o → (h1.push (seqObj "list" vs.toArray 0)).get? b = some o := fun b o q => Heap.get?_push_of_some _ (k1 b o q)
  have g2 : (h1.push (seqObj "list" vs.toArray 0)).get? h1.objs.size = some (seqObj "list" vs.toArray 0) := Heap.get?_push_size _ rfl
  have er2 : PySem.W.EachIs (fun v b => ∃ as, Reads (h1.push (seqObj "list" vs.toArray 0)) v (enc b) as ∧ h1.objs.size ∉ as) vs bs := er.mono fun v b ⟨as, r⟩ => ⟨as, PyProof.Rows.Reads.keeps k2 r, fun hm => let ⟨o, ho⟩ := reads_lt r _ hm; absurd (Heap.lt_size (k1 _ o ho)) (Nat.lt_irrefl _)⟩
  show wpAny _ A.in1 _ _ _ { s with heap := h1.push (seqObj "list" vs.toArray 0), toks := tk }
  refine wpAny_bind (wpAny_holding (PySem.W.list_sort_data (s := { s with heap := h1.push (seqObj "list" vs.toArray 0), toks := tk }) (n := 0) g2 e er2 hal hk hL (fun b hb => ?_) fun out ho eo => ?_))
  · have := hu b hb
    show A.units + 1 + 1 + _ < _
    omega
  · obtain ⟨c, hc⟩ := PyProof.Rows.sortedHeap_at (out := out.toArray) g2
    refine wpAny_pure ⟨_, rfl, fin h1 _ tk c out k1 (fun b o q => ?_) hc ho eo⟩
    rw [PyProof.Rows.sortedHeap_old (Nat.ne_of_lt (Heap.lt_size q)) (Heap.lt_size (Heap.get?_push_of_some _ q))]
    exact Heap.get?_push_of_some _ q
end
section
variable {W : Wd} {X : Cx} {F H : Hp} {ph : List Addr} {hp : Hs}
/-- sorted(x) of anything whose items are collected, its data in order -/
theorem sorted_src (fit : Fit W X) {pins : List (Addr × Obj)} {s : Shared} {σ : L2.St} {Q : VK} {xs : List PV} {vs : List V} {its : List Value} {u : Value} (I : Inv X pins σ H s) (hR : RelH W F ph hp H) (ra : RepA W F ph xs vs) (rv : Vals vs its) (ok : okSort xs = true)
    (coll : ∀ (E : Value → Shared → Prop) (S : List Value → Shared → Prop), (∀ h' tk, (∀ b o, s.heap.get? b = some o → h'.get? b = some o) → S its { s with heap := h', toks := tk }) → wpAny (model X.prog X.w) X.A.in1 (collect u) S E s)
    (q : Res W F ph hp H (true, .lst (xs.mergeSort leP)) Q) : wpAny (model X.prog X.w) X.A (call (.builtin "sorted") [u]) (EP X pins σ Q) X.xe s := by
  simp only [okSort, Bool.and_eq_true, decide_eq_true_eq, List.all_eq_true] at ok
  obtain ⟨⟨⟨al, nt⟩, dp⟩, hl⟩ := ok
  have hdat : ∀ y ∈ xs, y.dat = true := fun y hy => alk_dat y (al y hy y hy)
  have hu := fit.un
  have e0 : ∀ (ys : List PV) (ws : List V) (us : List Value), RepA W F ph ys ws → Vals ws us → PySem.W.EachIs (fun (v : Value) (b : PV × V) => RelV b.2 v ∧ Rep W F ph b.1 b.2) us (ys.zip ws) := by
    intro ys
    induction ys with
    | nil => intro ws us r v; cases r; cases v; exact .nil
    | cons y ys ih =>
      intro ws us r v
      cases r with
      | cons r t =>
        cases v with
        | cons rv tv => exact .cons ⟨rv, r⟩ (ih _ _ t tv)
  have hm : (xs.zip vs).map (·.1) = xs := List.map_fst_zip (by rw [ra.length]; exact Nat.le_refl _)
  have mem1 : ∀ b ∈ xs.zip vs, b.1 ∈ xs := fun b hb => by rw [← hm]; exact List.mem_map.mpr ⟨b, hb, rfl⟩
  have er : PySem.W.EachIs (fun (v : Value) (b : PV × V) => ∃ as, Reads s.heap v (toD b.1) as) its (xs.zip vs) := by
    have go : ∀ (ys : List PV) (ws : List V) (us : List Value), (∀ y ∈ ys, y.dat = true) → RepA W F ph ys ws → Vals ws us → PySem.W.EachIs (fun (v : Value) (b : PV × V) => ∃ as, Reads s.heap v (toD b.1) as) us (ys.zip ws) := by
      intro ys
      induction ys with
      | nil => intro ws us _ r v; cases r; cases v; exact .nil
      | cons y ys ih =>
        intro ws us hd r v
        cases r with
        | cons r t =>
          cases v with
          | cons rv tv => exact .cons (reads2 fit I rv hR r (hd y List.mem_cons_self)).1 (ih _ _ (fun z hz => hd z (List.mem_cons_of_mem _ hz)) t tv)
    exact go xs vs its hdat ra rv
  have hal : PySem.W.AllAlike ((xs.zip vs).map fun b => toD b.1) := by
    intro d hd d' hd'
    obtain ⟨b, hb, rfl⟩ := List.mem_map.mp hd
    obtain ⟨b', hb', rfl⟩ := List.mem_map.mp hd'
    exact toD_alk _ _ (al _ (mem1 b hb) _ (mem1 b' hb'))
  have hk : PySem.W.Sortable ((xs.zip vs).map fun b => toD b.1) := by
    by_cases c : ∃ y ∈ xs, isTup y = true
    · obtain ⟨y, hy, ty⟩ := c
      refine .inl fun d hd => ?_
      obtain ⟨b, hb, rfl⟩ := List.mem_map.mp hd
      have h1 := al y hy b.1 (mem1 b hb)
      have h2 := nt b.1 (mem1 b hb)
      cases y <;> simp [isTup] at ty
      cases hb1 : b.1 <;> rw [hb1] at h1 h2 <;> simp [alk] at h1
      rename_i zs
      cases zs with
      | nil => simp [notTup0] at h2
      | cons z zs => exact ⟨_, _, rfl⟩
    · refine .inr fun d hd => ?_
      obtain ⟨b, hb, rfl⟩ := List.mem_map.mp hd
      refine ⟨toD_none2 (nt _ (mem1 b hb)) (hdat _ (mem1 b hb)), fun zs z => c ⟨b.1, mem1 b hb, ?_⟩⟩
      cases hb1 : b.1 <;> rw [hb1] at z <;> simp [toD] at z <;> rfl
  have hzl : (xs.zip vs).length = xs.length := by rw [List.length_zip, ra.length, Nat.min_self]
  refine sorted_coll (bs := xs.zip vs) (enc := fun b => toD b.1) (coll _) (e0 xs vs its ra rv) er hal hk (by rw [hzl]; exact hl) (fun b hb => ?_) fun h1 h' tk c out k1 k2 hD ho eo => ?_
  · have := dp b.1 (mem1 b hb)
    rw [toD_dep]
    omega
  · have srt : ((xs.zip vs).mergeSort (PySem.W.dataLe false fun b => toD b.1)).map (·.1) = xs.mergeSort leP := by
      rw [List.map_mergeSort (s := leP), hm]
      intro b hb b' hb'
      rw [PySem.W.dataLe_eq]
      show (!PySem.W.dataLt (toD b'.1) (toD b.1)) = !ltP b'.1 b.1
      rw [alk_lt _ _ (al _ (mem1 b' hb') _ (mem1 b hb))]
    generalize (xs.zip vs).mergeSort (PySem.W.dataLe false fun b => toD b.1) = bs at eo srt ho
    have two : ∀ (us : List Value) (bs : List (PV × V)), PySem.W.EachIs (fun (v : Value) (b : PV × V) => RelV b.2 v ∧ Rep W F ph b.1 b.2) us bs → Vals (bs.map (·.2)) us ∧ RepA W F ph (bs.map (·.1)) (bs.map (·.2)) := by
      intro us bs h
      induction h with
      | nil => exact ⟨.nil, .nil⟩
      | cons h _ ih => exact ⟨.cons h.1 ih.1, .cons h.2 ih.2⟩
    obtain ⟨t1, t2⟩ := two out bs eo
    rw [srt] at t2
    have hlen : (bs.map (·.2)).length ≤ sizeLine := by rw [← t2.length, List.length_mergeSort]; exact hl
    have I1 := I.kept (t' := tk) k1
    have hn : H h1.objs.size = none := I1.hok.fresh (Nat.le_refl _)
    exact ⟨.ref _, upd H h1.objs.size (.lst (bs.map (·.2))), I1.laid (t' := tk) k2 (Nat.le_refl _) ⟨hlen, out, c, t1, hD⟩, rfl, hQ_of q t2 hR hn⟩
/-- sorted(a list), sorted(a tuple) -/
theorem sorted_lst (fit : Fit W X) {pins : List (Addr × Obj)} {s : Shared} {σ : L2.St} {Q : VK} {xs : List PV} {x : V} {u : Value} (I : Inv X pins σ H s) (rx : RelV x u) (hR : RelH W F ph hp H) (qx : Rep W F ph (.lst xs) x) (ok : okSort xs = true)
    (q : Res W F ph hp H (true, .lst (xs.mergeSort leP)) Q) : wpAny (model X.prog X.w) X.A (call (.builtin "sorted") [u]) (EP X pins σ Q) X.xe s := by
  obtain ⟨a, vs, rfl, _, ha, ra⟩ := qx.lstAt hR
  obtain rfl : u = Value.ref a := rx
  rw [← fit.K] at ha
  obtain ⟨its, rv, pl, hz⟩ := I.list ha
  obtain ⟨o, ho, hc, n, hd⟩ := pl.isList
  refine sorted_src fit I hR ra rv ok (fun E S hS => wpAny_collect_seq a (.inl rfl) ho hc hd (fun h' hk => ?_) (by rw [List.size_toArray, ← rv.length]; exact hz)) q
  have := hS h' s.toks hk
  simpa using this
theorem sorted_tup (fit : Fit W X) {pins : List (Addr × Obj)} {s : Shared} {σ : L2.St} {Q : VK} {xs : List PV} {x : V} {u : Value} (I : Inv X pins σ H s) (rx : RelV x u) (hR : RelH W F ph hp H) (qx : Rep W F ph (.tup xs) x) (ok : okSort xs = true)
    (q : Res W F ph hp H (true, .lst (xs.mergeSort leP)) Q) : wpAny (model X.prog X.w) X.A (call (.builtin "sorted") [u]) (EP X pins σ Q) X.xe s := by
  obtain ⟨a, vs, rfl, ha, ra⟩ := qx.tupAt hR
  obtain rfl : u = Value.ref a := rx
  rw [← fit.K] at ha
  obtain ⟨its, rv, ⟨o, ho, hc, n, hd⟩, hz⟩ := I.tuple ha
  refine sorted_src fit I hR ra rv ok (fun E S hS => wpAny_collect_seq a (.inr rfl) ho hc hd (fun h' hk => ?_) (by rw [List.size_toArray, ← rv.length]; exact hz)) q
  have := hS h' s.toks hk
  simpa using this
/-- sorted(a set of ints), or of nothing -/
theorem sorted_psI (fit : Fit W X) {pins : List (Addr × Obj)} {s : Shared} {σ : L2.St} {Q : VK} {xs : List PV} {x : V} {u : Value} (I : Inv X pins σ H s) (rx : RelV x u) (hR : RelH W F ph hp H) (qx : Rep W F ph (.pst xs) x) (ok : okInts xs = true) (few : xs.length < 64)
    (q : Res W F ph hp H (true, .lst (xs.mergeSort leP)) Q) : wpAny (model X.prog X.w) X.A (call (.builtin "sorted") [u]) (EP X pins σ Q) X.xe s := by
  simp only [okInts, Bool.and_eq_true, decide_eq_true_eq] at ok
  obtain ⟨is, hi⟩ := Option.isSome_iff_exists.mp ok.1
  have ex := intsP_map hi
  cases qx with
  | @obj a _ o e r =>
    obtain rfl : u = Value.ref a := rx
    cases r with
    | @psI _ ns S n h1 h2 h3 =>
      have en : ns = is := by
        have : ns.map PV.int = is.map PV.int := ex
        exact (List.map_inj_right fun _ _ e => by cases e; rfl).mp this
      subst en
      have R : SetR X.w s.heap a S n := by
        rw [fit.w]
        exact ((hR.sub _ _ e).ok I.hok).1
      have h64 : n < 64 := by rw [h3]; simpa using few
      refine L2.sorted_set R (I.ok.hd fit.calm) h64 fun s' p out c ms k g os hpl hg hv hs hm hl => ?_
      have hlen : (ms.map V.int).length ≤ sizeLine := by rw [List.length_map, hl, sizeLine_eq]; omega
      have hn : H p = none := I.hok.fresh hpl
      have J : Inv X pins σ (upd H p (.lst (ms.map V.int))) { s with heap := s'.heap, gens := s'.gens, drawn := s'.drawn, toks := s'.toks } :=
        I.call (ch := []) (Un.laid k hpl hn) (I.hok.laid k hpl ⟨hlen, out.toList, c, vals_of_ints hv, hg⟩) (by rw [g]; exact I.bare) (fun _ z => nomatch z)
      have es : s' = { s with heap := s'.heap, gens := s'.gens, drawn := s'.drawn, toks := s'.toks } := by
        cases s'; cases s; cases os; rfl
      rw [es]
      refine ⟨.ref p, _, J, rfl, hQ_of q ?_ hR hn⟩
      have sm : (ns.map PV.int).mergeSort leP = ms.map PV.int := by
        have e1 : (ns.map PV.int).mergeSort leP = (ns.mergeSort fun a b => decide (a ≤ b)).map PV.int := by
          rw [List.map_mergeSort]
          intro a _ b _
          show decide (a ≤ b) = !decide (b < a)
          by_cases hab : b < a
          · simp [hab]
          · simp [hab]; omega
        rw [e1]
        congr 1
        refine List.Perm.eq_of_pairwise (le := fun a b => a ≤ b) (fun a b _ _ h1 h2 => Int.le_antisymm h1 h2) ?_ ?_ ?_
        · have := List.pairwise_mergeSort (le := fun (a b : Int) => decide (a ≤ b)) (fun a b c h1 h2 => decide_eq_true (Int.le_trans (of_decide_eq_true h1) (of_decide_eq_true h2))) (fun a b => by simpa using Int.le_total a b) ns
          exact this.imp fun h => of_decide_eq_true h
        · exact hs.imp fun h => Int.le_of_lt h
        · refine (List.mergeSort_perm _ _).trans ((List.perm_ext_iff_of_nodup h2 (hs.imp fun h => Int.ne_of_lt h)).mpr fun y => ?_)
          rw [← h1 y, hm y]
      show RepA W F ph ((ns.map PV.int).mergeSort leP) (ms.map V.int)
      rw [sm]
      exact RepA.of_ints ms
    | @psT _ ns L h1 h2 h3 =>
      -- nothing is in it
      have en : ns = [] := by
        cases ns with
        | nil => rfl
        | cons r ns => simp [intsP] at hi
      subst en
      have eL : L = [] := by simpa using h1
      subst eL
      have R0 : SetT0 X.prog X.w s.heap a [] := by
        rw [fit.P, fit.w]
        exact ((hR.sub _ _ e).ok I.hok).1
      obtain ⟨es, ep, t, R⟩ := R0.full fun p hm => by simp at hm
      refine sorted_setT (d := 1) (B := 1) R (I.ok.hd fit.calm) (by decide) (fun p hm => by simp at hm) fun s' p out c L' k g os hpl hg hout pm pw => ?_
      have eL : L' = [] := by simpa using pm
      subst eL
      have hn : H p = none := I.hok.fresh hpl
      have hv : Vals (([] : List (Addr × List Int)).map fun q => V.ref q.1) out.toList := by rw [hout]; exact vals_of_refs []
      have J : Inv X pins σ (upd H p (.lst [])) { s with heap := s'.heap, gens := s'.gens, drawn := s'.drawn, toks := s'.toks } :=
        I.call (ch := []) (Un.laid k hpl hn) (I.hok.laid k hpl ⟨by simp, out.toList, c, hv, hg⟩) (by rw [g]; exact I.bare) (fun _ z => nomatch z)
      have es' : s' = { s with heap := s'.heap, gens := s'.gens, drawn := s'.drawn, toks := s'.toks } := by
        cases s'; cases s; cases os; rfl
      rw [es']
      refine ⟨.ref p, _, J, rfl, hQ_of q ?_ hR hn⟩
      show RepA W F ph (([] : List PV).mergeSort leP) []
      rw [List.mergeSort_nil]
      exact .nil
theorem RepD.get : ∀ {kvs : List (PV × PV)} {es : List DictEntry} {i : Nat} {x : PV}, RepD W F ph kvs es → (kvs.map (·.1))[i]? = some x → ∃ en, es[i]? = some en ∧ KeyR W F x en.hash en.key
  | _, _, _, _, .nil, h => by simp at h
  | _, _, 0, _, .cons k _ _ _, h => by simp at h; subst h; exact ⟨_, rfl, k⟩
  | _, _, i + 1, _, .cons _ _ _ t, h => by
    obtain ⟨en, h1, h2⟩ := RepD.get (i := i) t (by simpa using h)
    exact ⟨en, by simpa using h1, h2⟩
theorem key_rep {x : PV} {i : Int} {u : Value} (h : KeyR W F x i u) (ok : intKey x = true) : ∃ y, RelV y u ∧ Rep W F ph x y := by
  cases h with
  | @scal k _ h1 h2 =>
    cases x <;> simp [keyOf] at h1 <;> simp [intKey] at ok
    subst h1
    exact ⟨_, relV_key h2, .int _⟩
  | @tup ks b h1 h2 =>
    cases x <;> simp [tkeyOf] at h1
    rename_i xs
    obtain ⟨ns, hn⟩ := Option.isSome_iff_exists.mp (show (intsP xs).isSome = true from ok)
    have e1 := intsP_map hn
    subst e1
    have e2 : ∀ (ns : List Int) (ks : List Key), keysOf (ns.map PV.int) = some ks → ks.map kV = ns.map V.int := by
      intro ns
      induction ns with
      | nil => intro ks h; simp [keysOf] at h; subst h; rfl
      | cons n ns ih =>
        intro ks h
        simp only [List.map_cons, keysOf, keyOf, Option.bind_some, Option.map_eq_some_iff] at h
        obtain ⟨r, hr, rfl⟩ := h
        rw [List.map_cons, ih r hr]; rfl
    rw [e2 ns ks h1] at h2
    refine ⟨.ref b, rfl, ?_⟩
    rcases h2 with h2 | h2
    · exact .tup h2 (RepA.of_ints _)
    · exact .ktup h2 (RepA.of_ints _)
theorem keys_reps : ∀ {kvs : List (PV × PV)} {es : List DictEntry}, RepD W F ph kvs es → (keysP kvs).all intKey = true → ∃ ws, RepA W F ph (keysP kvs) ws ∧ Vals ws (es.map (·.key))
  | _, _, .nil, _ => ⟨[], .nil, .nil⟩
  | _, _, .cons k _ _ t, h => by
    simp only [keysP, List.map_cons, List.all_cons, Bool.and_eq_true] at h
    obtain ⟨ws, r, v⟩ := keys_reps t h.2
    obtain ⟨y, ry, rep⟩ := key_rep (ph := ph) k h.1
    exact ⟨y :: ws, .cons rep r, .cons ry v⟩
/-- a dict as a source of its keys -/
theorem src_dict {prog : Program} {w : World} {d : Addr} {es : Array DictEntry} {ep : Nat} (lo : (d == sysModules) = false) : PySem.W.KdlSrc prog w "dict" d d es.size (fun i v => ∃ hi : i < es.size, v = es[i].key) (fun h => h.DictRaw d es ep) where
  type := fun _ hm => hm.typeIs
  there := fun _ hm => let ⟨_, ho, _⟩ := hm; ⟨Heap.lt_size ho, Heap.lt_size ho⟩
  keep := fun _ _ hm hk => hm.at fun o e => hk d (.inl rfl) o e
  notList := by decide
  notTuple := by decide
  hint := fun _ _ _ _ hm hq => PySem.W.kdl_hint_dict hm.typeIs hq
  iter := fun _ _ hh hm => ⟨_, _, (fun _ _ hq => wpAny_pyIter_dict_raw lo hm hq), Walks.rawKeys hh _ d (by obtain ⟨_, ho, _⟩ := hm; exact Nat.ne_of_lt (Heap.lt_size ho)) es ep, ⟨⟨_, Heap.get?_push_size _ rfl, rfl, rfl⟩, hm.at fun _ e => Heap.get?_push_of_some _ e⟩⟩
/-- sorted(a dict) -/
theorem sorted_dct (fit : Fit W X) {pins : List (Addr × Obj)} {s : Shared} {σ : L2.St} {Q : VK} {kvs : List (PV × PV)} {x : V} {u : Value} (I : Inv X pins σ H s) (rx : RelV x u) (hR : RelH W F ph hp H) (qx : Rep W F ph (.dct kvs) x) (oki : (keysP kvs).all intKey = true) (ok : okSort (keysP kvs) = true)
    (q : Res W F ph hp H (true, .lst ((keysP kvs).mergeSort leP)) Q) : wpAny (model X.prog X.w) X.A (call (.builtin "sorted") [u]) (EP X pins σ Q) X.xe s := by
  obtain ⟨a, o, rfl, e, ho, r⟩ := qx.dctAt hR
  obtain rfl : u = Value.ref a := rx
  cases r with
  | @dct _ _ ob es ep h1 h2 h3 h4 h5 r =>
    obtain ⟨ws, ra, rv⟩ := keys_reps r oki
    have g := obj_at I ho
    refine sorted_src fit I hR ra rv ok (fun E S hS => PySem.W.kdu_collect (src_dict (es := es) (ep := ep) h1) (by show X.A.in1.handled = none; have := I.ok.hd fit.calm; simp [this]) ⟨ob, g, h2, h3⟩ h4 fun h' tk acc hk hacc => ?_) q
    have ea : acc.toList = es.toList.map (·.key) := by
      refine List.ext_getElem (by simp [hacc.1]) fun j h1 h2 => ?_
      have hj : j < acc.size := by simpa using h1
      obtain ⟨hi, ev⟩ := hacc.2 j acc[j] (Array.getElem?_eq_getElem hj)
      simp [ev]
    rw [ea]
    exact hS h' tk hk
theorem bcl_sorted (fit : Fit W X) : CallR X (.builtin "sorted") (rB W .sorted) := by
  intro pins s σ H xs us Q I rs ⟨F, ph, hp, vs, r, hR, qs, e, hQ⟩
  unfold bclP at e
  split at e <;> first | cases e | skip
  all_goals first | (rename_i hc; cases hc; done) | skip
  obtain ⟨v, rfl, qx⟩ := qs.one
  obtain ⟨u, rfl, ru⟩ := vals1 rs
  split at e
  · rename_i ys
    simp only [sortP] at e
    split at e
    · rename_i ok
      cases e
      exact sorted_lst fit I ru hR qx ok hQ
    · cases e
  · rename_i ys
    simp only [sortP] at e
    split at e
    · rename_i ok
      cases e
      exact sorted_tup fit I ru hR qx ok hQ
    · cases e
  · split at e
    · rename_i ok
      cases e
      rw [Bool.and_eq_true] at ok
      exact sorted_dct fit I ru hR qx ok.1 ok.2 hQ
    · cases e
  · split at e
    · rename_i ok
      cases e
      exact sorted_pst fit I ru hR qx ok.1 ok.2 hQ
    · split at e
      · rename_i ok
        cases e
        exact sorted_psI fit I ru hR qx ok.1 ok.2 hQ
      · cases e
  · cases e
end
end MP
set_option maxRecDepth 100000
/-! MiniPy: checks of the text; expressions over the machine. -/
namespace MP
open PySem PySem.Spec PyProof.Rows L2
/-! ### what is checked -/
structure Cc where
  N : List Str
  sc : Scope
  cell : Str → Bool
  gl : Nat → Option Str
  fn : Nat → Option Str
def bname : Bfn → Str
  | .len => "len" | .int => "int" | .sorted => "sorted" | .set => "set" | .tuple => "tuple" | .list => "list"
  | .sum => "sum" | .max => "max" | .min => "min" | .all => "all" | .any => "any" | .abs => "abs" | .str => "str"
def tyname : Ty → Str
  | .int => "int" | .bool => "bool" | .str => "str" | .tuple => "tuple" | .list => "list" | .dict => "dict"
def bnames : List Str := ["len", "int", "sorted", "set", "tuple", "list", "sum", "max", "min", "all", "any", "abs", "str", "bool", "dict", "isinstance", "range", "reversed"]
def isGlB (sc : Scope) (x : Str) : Bool := decide (sc.names.lookup x = some .globalImplicit) && !(x == ("__debug__" : Str))
def visB (sc : Scope) (x : Str) : Bool := match sc.names.lookup x with
  | some .local => true | some .cell => true | some .free => true | _ => false
def locB (C : Cc) (x : Str) : Bool := match C.sc.names.lookup x with
  | some .local => true | some .cell => C.cell x | _ => false
def mname : Mth → Str
  | .index => "index" | .get => "get"
def plainO : Expr → Bool
  | .Call (.Name _ _) [] [] _ => false
  | _ => true
def noSl : Expr → Bool
  | .Slice _ _ _ _ => false
  | _ => true
def isSet : Expr → Bool
  | .Set _ _ _ => true
  | _ => false
def nameIs (C : Cc) (x : Str) : Expr → Bool
  | .Name y _ => decide (y = x) && isGlB C.sc x
  | _ => false
def CX0 : CXT := fun _ _ _ _ _ _ => False
def E0 : XK := fun _ _ _ => True
/-- what is wanted of a result, where the shared may have changed -/
def Post (W : Wd) (F : Hp) (ph : List Addr) (H : Hp) (hp1 : Hs) (r : Rv) (Q : VK) : Prop :=
  ∀ F' ph' x H', Ext F ph H F' ph' H' → RelH W F' ph' hp1 H' → RRep W F' ph' H H' r x → Q x H'
def PostL (W : Wd) (F : Hp) (ph : List Addr) (H : Hp) (hp1 : Hs) (vs : List PV) (Q : List V → Hp → Prop) : Prop :=
  ∀ F' ph' xs H', Ext F ph H F' ph' H' → RelH W F' ph' hp1 H' → RepA W F' ph' vs xs → Q xs H'
def spF (W : Wd) (G : Gl) (k f np : Nat) : Sp := fun xs H Q _ => ∃ F ph hp vs r hp1, RelH W F ph hp H ∧ RepA W F ph vs xs ∧ vs.length = np ∧ callF G k f vs hp = some (r, hp1) ∧ Post W F ph H hp1 r Q
structure XOk (W : Wd) (G : Gl) (k : Nat) (C : Cc) (X : Cx) : Prop where
  fit : Fit W X
  room : Room k X.A
  N : X.N = C.N
  nd : C.N.Nodup
  sc : X.env.scope = C.sc
  cell : ∀ x, C.cell x = true → X.fn x = true
  kind : C.sc.kind = .function
  cst : ∀ g x v, C.gl g = some x → G.cst g = some v → ∃ u y, X.mg x = some u ∧ RelV y u ∧ ∀ F ph, Rep W F ph v y
  fnv : ∀ f x, C.fn f = some x → ∃ a, X.mg x = some (.ref a) ∧ W.fa f = some a
  bt : ∀ x ∈ bnames, X.mg x = none
  call : ∀ f x fdm, C.fn f = some x → G.fns f = some fdm → ∃ a fd ps, X.mg x = some (.ref a) ∧ PySem.W.keepIn X.K (.ref a) = true ∧ FnOk X.prog X.w X.K X.mg X.base CX0 k a fd ps (spF W G k f fdm.np) ∧ ps.length = fdm.np ∧
    ∀ n, n + (fdm.dfl.length - (fdm.dfl.length - (fdm.np - n))) = fdm.np → ∃ ds dvs, Binds X.K fd ps ds ∧ Vals dvs ds ∧ ∀ F ph, RepA W F ph (fdm.dfl.drop (fdm.dfl.length - (fdm.np - n))) dvs
section
variable {W : Wd} {G : Gl} {k : Nat} {C : Cc} {X : Cx} {F F1 H H1 : Hp} {ph ph1 : List Addr} {hp hp1 : Hs}
theorem Post.res {r : Rv} {Q : VK} (p : Post W F ph H hp1 r Q) (e : Ext F ph H F1 ph1 H1) : Res W F1 ph1 hp1 H1 r Q := fun F' x H' e' h' r' => p F' ph1 x H' (e.trans e') h' (r'.back e)
theorem Post.at_ {v : PV} {x : V} {Q : VK} (p : Post W F ph H hp1 (false, v) Q) (e : Ext F ph H F1 ph1 H1) (h : RelH W F1 ph1 hp1 H1) (r : Rep W F1 ph1 v x) : Q x H1 := p F1 ph1 x H1 e h (RRep.of r)
theorem Post.comp {r : Rv} {Q : VK} (p : Post W F ph H hp1 r Q) (e : Ext F ph H F1 ph1 H1) : Post W F1 ph1 H1 hp1 r Q := fun F' ph' x H' e' h' r' => p F' ph' x H' (e.trans e') h' (r'.back e)
theorem PostL.comp {r : List PV} {Q : List V → Hp → Prop} (p : PostL W F ph H hp1 r Q) (e : Ext F ph H F1 ph1 H1) : PostL W F1 ph1 H1 hp1 r Q := fun F' ph' x H' e' h' r' => p F' ph' x H' (e.trans e') h' r'
def tE (W : Wd) (G : Gl) (k : Nat) (m : ME) : TE := fun σ H Q => ∃ F ph hp env r hp1, RelH W F ph hp H ∧ RelE W F ph env σ ∧ ev G.cst (callF G k) m env hp = some (r, hp1) ∧ Post W F ph H hp1 r Q
def tL (W : Wd) (G : Gl) (k : Nat) (m : ME) : TA := fun σ H Q => ∃ F ph hp env vs hp1, RelH W F ph hp H ∧ RelE W F ph env σ ∧ evL G.cst (callF G k) m env hp = some (vs, hp1) ∧ PostL W F ph H hp1 vs Q
/-- a part's value, then the rest -/
theorem tE_val {m : ME} {σ : L2.St} {Q : VK} {env : Env} {r : Rv} (h : RelH W F ph hp H) (he : RelE W F ph env σ) (e : ev G.cst (callF G k) m env hp = some (r, hp1))
    (q : ∀ F' ph' x H', Ext F ph H F' ph' H' → RelH W F' ph' hp1 H' → RelE W F' ph' env σ → Rep W F' ph' r.2 x → Q x H') : tE W G k m σ H Q := by
  refine ⟨F, ph, hp, env, r, hp1, h, he, e, fun F' ph' x H' e' h' r' => ?_⟩
  obtain ⟨F2, e2, h2, r2⟩ := r'.val e' h'
  exact q F2 ph' x H' e2 h2 (he.ext e2) r2
theorem tL_val {m : ME} {σ : L2.St} {Q : List V → Hp → Prop} {env : Env} {vs : List PV} (h : RelH W F ph hp H) (he : RelE W F ph env σ) (e : evL G.cst (callF G k) m env hp = some (vs, hp1))
    (q : ∀ F' ph' xs H', Ext F ph H F' ph' H' → RelH W F' ph' hp1 H' → RelE W F' ph' env σ → RepA W F' ph' vs xs → Q xs H') : tL W G k m σ H Q :=
  ⟨F, ph, hp, env, vs, hp1, h, he, e, fun F' ph' x H' e' h' r' => q F' ph' x H' e' h' (he.ext e') r'⟩
theorem PE_imp {e : Expr} {t t' : TE} (h : PE X e t) (i : ∀ σ H Q, t' σ H Q → t σ H Q) : PE X e t' := ⟨fun pins s σ H Q I q => h.run pins s σ H Q I (i σ H Q q)⟩
theorem PT_imp {e : Expr} {t t' : TT} (h : PT X e t) (i : ∀ σ H Q, t' σ H Q → t σ H Q) : PT X e t' := ⟨fun pins s σ H Q I q => h.run pins s σ H Q I (i σ H Q q)⟩
theorem PA_imp {e : List Expr} {t t' : TA} (h : PA X e t) (i : ∀ σ H Q, t' σ H Q → t σ H Q) : PA X e t' := ⟨fun pos pins s σ H Q I q => h.run pos pins s σ H Q I (i σ H Q q)⟩
theorem PI_imp {tg e : Expr} {t t' : TI} (h : PI X tg e t) (i : ∀ σ H Q, t' σ H Q → t σ H Q) : PI X tg e t' := ⟨fun pins s σ H Q I q => h.run pins s σ H Q I (i σ H Q q)⟩
theorem isGl_of {x : Str} (ok : XOk W G k C X) (h : isGlB C.sc x = true) : L2.Gl X x ∧ (x == ("__debug__" : Str)) = false := by
  simp only [isGlB, Bool.and_eq_true, decide_eq_true_eq, Bool.not_eq_true'] at h
  refine ⟨?_, h.2⟩
  show X.env.scope.names.lookup x = _
  rw [ok.sc]; exact h.1
theorem vis_of {x : Str} (ok : XOk W G k C X) (h : visB C.sc x = true) : Vis X.env.scope x := by
  unfold visB at h
  rw [ok.sc]
  unfold Vis
  split at h <;> simp_all
theorem loc_of {x : Str} (ok : XOk W G k C X) (h : locB C x = true) : L2.Loc X.env.scope x ∧ (X.fn x = true ∨ X.env.scope.names.lookup x = some .local) := by
  unfold locB at h
  rw [ok.sc]
  unfold L2.Loc
  split at h
  · rename_i q; exact ⟨.inl q, .inr q⟩
  · rename_i q; exact ⟨.inr q, .inl (ok.cell x h)⟩
  · cases h
end
/-! ### names, constants, operators -/
section
variable {W : Wd} {G : Gl} {k : Nat} {C : Cc} {X : Cx}
theorem se_var (ok : XOk W G k C X) {i : Nat} {x : Str} {pos : Pos} (h1 : C.N[i]? = some x) (h2 : visB C.sc x = true) (h3 : (x == ("__debug__" : Str)) = false) (h4 : (x == ("__classdict__" : Str)) = false) : PE X (.Name x pos) (tE W G k (.var i)) := by
  refine PE_imp (pe_var (i := i) (by rw [ok.N]; exact h1) (vis_of ok h2) h3 h4) ?_
  rintro σ H Q ⟨F, ph, hp, env, r, hp1, hR, hE, e, q⟩
  simp only [ev, Option.map_eq_some_iff] at e
  obtain ⟨v, hv, e⟩ := e
  cases e
  have hv' : env[i]? = some (some v) := by
    cases z : env[i]? with
    | none => rw [z] at hv; cases hv
    | some o => rw [z] at hv; exact congrArg some hv
  obtain ⟨y, hy, ry⟩ := hE.at_ i v hv'
  exact ⟨y, hy, q.at_ Ext.refl hR ry⟩
theorem se_const {e : Expr} {m : ME} {v : PV} {y : V} (h : PE X e (tC y)) (hm : ∀ env hp, ev G.cst (callF G k) m env hp = some ((false, v), hp)) (hr : ∀ F ph, Rep W F ph v y) : PE X e (tE W G k m) := by
  refine PE_imp h ?_
  rintro σ H Q ⟨F, ph, hp, env, r, hp1, hR, hE, e, q⟩
  rw [hm] at e
  cases e
  exact q.at_ Ext.refl hR (hr F ph)
theorem se_glb (ok : XOk W G k C X) {g : Nat} {x : Str} {pos : Pos} (h1 : C.gl g = some x) (h2 : isGlB C.sc x = true) : PE X (.Name x pos) (tE W G k (.glb g)) := by
  obtain ⟨h3, h4⟩ := isGl_of ok h2
  refine ⟨fun pins s σ H Q I h => ?_⟩
  obtain ⟨F, ph, hp, env, r, hp1, hR, hE, e, q⟩ := h
  simp only [ev, Option.map_eq_some_iff] at e
  obtain ⟨v, hv, e⟩ := e
  cases e
  obtain ⟨u, y, hm, ry, rep⟩ := ok.cst g x v h1 hv
  exact (pe_glob h3 hm ry h4).run pins s σ H Q I (q.at_ Ext.refl hR (rep F ph))
theorem se_fnv (ok : XOk W G k C X) {f : Nat} {x : Str} {pos : Pos} (h1 : C.fn f = some x) (h2 : isGlB C.sc x = true) : PE X (.Name x pos) (tE W G k (.fnv f)) := by
  obtain ⟨h3, h4⟩ := isGl_of ok h2
  obtain ⟨a, hm, ha⟩ := ok.fnv f x h1
  exact se_const (y := .ref a) (pe_glob h3 hm rfl h4) (fun _ _ => rfl) fun F ph => .fn ha
theorem bnd_some {β : Type} {r : Option (Rv × Hs)} {f : PV → Hs → Option β} {y : β} (h : bnd r f = some y) : ∃ p, r = some p ∧ f p.1.2 p.2 = some y := by
  unfold bnd at h; exact Option.bind_eq_some_iff.mp h
theorem bndL_some {β : Type} {r : Option (List PV × Hs)} {f : List PV → Hs → Option β} {y : β} (h : bndL r f = some y) : ∃ p, r = some p ∧ f p.1 p.2 = some y := by
  unfold bndL at h; exact Option.bind_eq_some_iff.mp h
theorem bndB_some {β : Type} {r : Option (Rv × Hs)} {f : Bool → Hs → Option β} {y : β} (h : bndB r f = some y) : ∃ p b, r = some p ∧ p.1.2 = .bl b ∧ f b p.2 = some y := by
  obtain ⟨p, e, q⟩ := bnd_some h
  obtain ⟨b, hb, q⟩ := Option.bind_eq_some_iff.mp q
  refine ⟨p, b, e, ?_, q⟩
  unfold asB at hb
  split at hb
  · cases hb; assumption
  · cases hb
theorem asI_some {v : PV} {i : Int} (h : asI v = some i) : v = .int i := by
  unfold asI at h
  split at h
  · cases h; rfl
  · cases h
theorem se_bin (ok : XOk W G k C X) {op : Bop} {a b : ME} {ea eb : Expr} {pos : Pos} (ha : PE X ea (tE W G k a)) (hb : PE X eb (tE W G k b)) : PE X (.BinOp ea (opOf op) eb pos) (tE W G k (.bin op a b)) := by
  refine PE_imp (pe_op (op_bin ok.fit op (.inr trivial)) ha hb) ?_
  rintro σ H Q ⟨F, ph, hp, env, r, hp1, hR, hE, e, q⟩
  simp only [ev] at e
  obtain ⟨p, e1, e⟩ := bnd_some e
  obtain ⟨p2, e2, e⟩ := bnd_some e
  obtain ⟨r', e3, e⟩ := Option.map_eq_some_iff.mp e
  cases e
  refine tE_val hR hE e1 fun F1 ph1 x H1 x1 hR1 hE1 rx => ?_
  refine tE_val hR1 hE1 e2 fun F2 ph2 y H2 x2 hR2 hE2 ry => ?_
  exact ⟨F2, ph2, _, _, _, _, hR2, rx.ext x2, ry, e3, q.res (x1.trans x2)⟩
theorem se_neg (ok : XOk W G k C X) {a : ME} {ea : Expr} {pos : Pos} (ha : PE X ea (tE W G k a)) : PE X (.UnaryOp .USub ea pos) (tE W G k (.neg a)) := by
  refine PE_imp (pe_un un_neg ha) ?_
  rintro σ H Q ⟨F, ph, hp, env, r, hp1, hR, hE, e, q⟩
  simp only [ev] at e
  obtain ⟨p, e1, e⟩ := bnd_some e
  obtain ⟨i, e3, e⟩ := Option.map_eq_some_iff.mp e
  cases e
  refine tE_val hR hE e1 fun F1 ph1 x H1 x1 hR1 hE1 rx => ?_
  rw [asI_some e3] at rx
  cases rx.intV
  exact ⟨i, rfl, q.at_ x1 hR1 (.int _)⟩
theorem se_cmp (ok : XOk W G k C X) {op : Cop} {a b : ME} {ea eb : Expr} {pos : Pos} (hm : behindInMarks (cmpOf op) eb = false) (ha : PE X ea (tE W G k a)) (hb : PE X eb (tE W G k b)) :
    PE X (.Compare ea [cmpOf op] [eb] pos) (tE W G k (.cmp op a b)) ∧ PT X (.Compare ea [cmpOf op] [eb] pos) (tB (tE W G k (.cmp op a b))) := by
  have main : ∀ σ H Q, tE W G k (.cmp op a b) σ H Q → tOp (r2b W (cmpP op)) (tE W G k a) (tE W G k b) σ H Q := by
    rintro σ H Q ⟨F, ph, hp, env, r, hp1, hR, hE, e, q⟩
    simp only [ev] at e
    obtain ⟨p, e1, e⟩ := bnd_some e
    obtain ⟨p2, e2, e⟩ := bnd_some e
    obtain ⟨c, e3, e⟩ := Option.map_eq_some_iff.mp e
    cases e
    refine tE_val hR hE e1 fun F1 ph1 x H1 x1 hR1 hE1 rx => ?_
    refine tE_val hR1 hE1 e2 fun F2 ph2 y H2 x2 hR2 hE2 ry => ?_
    exact ⟨F2, ph2, _, _, _, _, hR2, rx.ext x2, ry, e3, q.at_ (x1.trans x2) hR2 (.bl _)⟩
  exact ⟨PE_imp (pe_cmpR (op_cmp ok.fit op) ha hb hm) main, PT_imp (pt_cmpR (op_cmp ok.fit op) ha hb hm) fun σ H Q h => main σ H _ h⟩
end
end MP
set_option maxRecDepth 100000
/-! MiniPy: expressions over the machine, more. -/
namespace MP
open PySem PySem.Spec PyProof.Rows L2
section
variable {W : Wd} {G : Gl} {k : Nat} {C : Cc} {X : Cx}
abbrev PB (W : Wd) (G : Gl) (k : Nat) (X : Cx) (e : Expr) (m : ME) : Prop := PE X e (tE W G k m) ∧ PT X e (tB (tE W G k m))
/-- what is no test of its own -/
def plainT : Expr → Bool
  | .UnaryOp .Not _ _ => false | .BoolOp _ _ _ => false | .IfExp _ _ _ _ => false | .Compare _ _ _ _ => false
  | _ => true
theorem isTrue_of {e : Expr} (h : plainT e = true) (env : PySem.Env) (whole : Sem Value) : isTrue e env whole = (do let v ← whole; standAt e.pos; holding [v] (truthy v)) := by
  cases e <;> first | rfl | (simp [plainT] at h; done) | skip
  rename_i op _ _
  cases op <;> first | rfl | (simp [plainT] at h)
theorem PB_plain {e : Expr} {m : ME} (h : PE X e (tE W G k m)) (p : plainT e = true) : PB W G k X e m := ⟨h, pt_val h fun w => isTrue_of p _ w⟩
theorem se_not {a : ME} {ea : Expr} {pos : Pos} (ha : PB W G k X ea a) : PB W G k X (.UnaryOp .Not ea pos) (.not a) := by
  constructor
  · refine PE_imp (pe_not ha.1) ?_
    rintro σ H Q ⟨F, ph, hp, env, r, hp1, hR, hE, e, q⟩
    simp only [ev] at e
    obtain ⟨p, b, e1, eb, e⟩ := bndB_some e
    cases e
    refine tE_val hR hE e1 fun F1 ph1 x H1 x1 hR1 hE1 rx => ?_
    rw [eb] at rx
    cases rx.blV
    exact ⟨b, rfl, q.at_ x1 hR1 (.bl _)⟩
  · refine PT_imp (pt_not ha.2) ?_
    rintro σ H Q ⟨F, ph, hp, env, r, hp1, hR, hE, e, q⟩
    simp only [ev] at e
    obtain ⟨p, b, e1, eb, e⟩ := bndB_some e
    cases e
    refine tE_val hR hE e1 fun F1 ph1 x H1 x1 hR1 hE1 rx => ?_
    rw [eb] at rx
    cases rx.blV
    refine ⟨b, rfl, ?_⟩
    obtain ⟨c, ec, q'⟩ := q.at_ x1 hR1 (.bl _)
    cases ec
    exact q'
/-- behind the left operand -/
theorem and_step {a b : ME} {σ : L2.St} {H : Hp} {Q : VK} (h : tE W G k (.and a b) σ H Q) : tE W G k a σ H fun x H1 => ∃ c, x = .bl c ∧ if c = true then tE W G k b σ H1 Q else Q (.bl false) H1 := by
  obtain ⟨F, ph, hp, env, r, hp1, hR, hE, e, q⟩ := h
  simp only [ev] at e
  obtain ⟨p, c, e1, eb, e⟩ := bndB_some e
  refine tE_val hR hE e1 fun F1 ph1 x H1 x1 hR1 hE1 rx => ?_
  rw [eb] at rx
  cases rx.blV
  refine ⟨c, rfl, ?_⟩
  cases c with
  | true =>
    rw [if_pos rfl] at e ⊢
    obtain ⟨p2, d, e2, ed, e⟩ := bndB_some e
    cases e
    refine tE_val hR1 hE1 e2 fun F2 ph2 y H2 x2 hR2 hE2 ry => ?_
    rw [ed] at ry
    exact q.at_ (x1.trans x2) hR2 ry
  | false =>
    rw [if_neg (by simp)] at e ⊢
    cases e
    exact q.at_ x1 hR1 (.bl _)
theorem or_step {a b : ME} {σ : L2.St} {H : Hp} {Q : VK} (h : tE W G k (.or a b) σ H Q) : tE W G k a σ H fun x H1 => ∃ c, x = .bl c ∧ if c = true then Q (.bl true) H1 else tE W G k b σ H1 Q := by
  obtain ⟨F, ph, hp, env, r, hp1, hR, hE, e, q⟩ := h
  simp only [ev] at e
  obtain ⟨p, c, e1, eb, e⟩ := bndB_some e
  refine tE_val hR hE e1 fun F1 ph1 x H1 x1 hR1 hE1 rx => ?_
  rw [eb] at rx
  cases rx.blV
  refine ⟨c, rfl, ?_⟩
  cases c with
  | false =>
    rw [if_neg (by simp)] at e ⊢
    obtain ⟨p2, d, e2, ed, e⟩ := bndB_some e
    cases e
    refine tE_val hR1 hE1 e2 fun F2 ph2 y H2 x2 hR2 hE2 ry => ?_
    rw [ed] at ry
    exact q.at_ (x1.trans x2) hR2 ry
  | true =>
    rw [if_pos rfl] at e ⊢
    cases e
    exact q.at_ x1 hR1 (.bl _)
theorem pw_of {op : BoolOp} {vs : List Expr} {pos : Pos} {t : TT} (h : PT X (.BoolOp op vs pos) t) : PW X (.BoolOp op vs pos) t := ⟨fun wh pins s σ H Q I q => h.run pins s σ H Q I q⟩
theorem se_and {a b : ME} {ea eb : Expr} {rest : List Expr} {pos : Pos} (ha : PB W G k X ea a) (hb : PE X (.BoolOp .And (eb :: rest) pos) (tE W G k b)) (hw : PW X (.BoolOp .And (eb :: rest) pos) (tB (tE W G k b))) :
    PB W G k X (.BoolOp .And (ea :: eb :: rest) pos) (.and a b) := by
  constructor
  · exact PE_imp (pe_and ha.1 hb) fun σ H Q h => and_step h
  · refine PT_imp (pw_and ha.2 hw).pt ?_
    rintro σ H Q h
    obtain ⟨F, ph, hp, env, r, hp1, hR, hE, e, q⟩ := and_step h
    refine ⟨F, ph, hp, env, r, hp1, hR, hE, e, fun F' ph' x H' x1 h1 r1 => ?_⟩
    obtain ⟨c, rfl, z⟩ := q F' ph' x H' x1 h1 r1
    refine ⟨c, rfl, ?_⟩
    cases c with
    | true => rw [if_pos rfl] at z ⊢; exact z
    | false =>
      rw [if_neg (by simp)] at z ⊢
      obtain ⟨d, ed, z⟩ := z
      cases ed; exact z
theorem se_or {a b : ME} {ea eb : Expr} {rest : List Expr} {pos : Pos} (ha : PB W G k X ea a) (hb : PE X (.BoolOp .Or (eb :: rest) pos) (tE W G k b)) (hw : PW X (.BoolOp .Or (eb :: rest) pos) (tB (tE W G k b))) :
    PB W G k X (.BoolOp .Or (ea :: eb :: rest) pos) (.or a b) := by
  constructor
  · exact PE_imp (pe_or ha.1 hb) fun σ H Q h => or_step h
  · refine PT_imp (pw_or ha.2 hw).pt ?_
    rintro σ H Q h
    obtain ⟨F, ph, hp, env, r, hp1, hR, hE, e, q⟩ := or_step h
    refine ⟨F, ph, hp, env, r, hp1, hR, hE, e, fun F' ph' x H' x1 h1 r1 => ?_⟩
    obtain ⟨c, rfl, z⟩ := q F' ph' x H' x1 h1 r1
    refine ⟨c, rfl, ?_⟩
    cases c with
    | true =>
      rw [if_pos rfl] at z ⊢
      obtain ⟨d, ed, z⟩ := z
      cases ed; exact z
    | false => rw [if_neg (by simp)] at z ⊢; exact z
theorem se_chn (ok : XOk W G k C X) {op op' : Cop} {a b c : ME} {ea eb ec : Expr} {pos : Pos} (hm : lastMarks [cmpOf op, cmpOf op'] [eb, ec] = false) (ha : PE X ea (tE W G k a)) (hb : PE X eb (tE W G k b)) (hc : PE X ec (tE W G k c)) :
    PB W G k X (.Compare ea [cmpOf op, cmpOf op'] [eb, ec] pos) (.chn op op' a b c) := by
  have main : ∀ σ H Q, tE W G k (.chn op op' a b c) σ H Q → tChain (r2b W (cmpP op)) (r2b W (cmpP op')) (tE W G k a) (tE W G k b) (tE W G k c) σ H Q := by
    rintro σ H Q ⟨F, ph, hp, env, r, hp1, hR, hE, e, q⟩
    simp only [ev] at e
    obtain ⟨p, e1, e⟩ := bnd_some e
    obtain ⟨p2, e2, e⟩ := bnd_some e
    obtain ⟨d, e3, e⟩ := Option.bind_eq_some_iff.mp e
    refine tE_val hR hE e1 fun F1 ph1 x H1 x1 hR1 hE1 rx => ?_
    refine tE_val hR1 hE1 e2 fun F2 ph2 y H2 x2 hR2 hE2 ry => ?_
    refine ⟨F2, ph2, _, _, _, d, hR2, rx.ext x2, ry, e3, d, rfl, ?_⟩
    cases d with
    | true =>
      rw [if_pos rfl] at e ⊢
      obtain ⟨p3, e4, e⟩ := bnd_some e
      obtain ⟨d2, e5, e⟩ := Option.map_eq_some_iff.mp e
      cases e
      refine tE_val hR2 hE2 e4 fun F3 ph3 z H3 x3 hR3 hE3 rz => ?_
      exact ⟨F3, ph3, _, _, _, d2, hR3, ry.ext x3, rz, e5, q.at_ ((x1.trans x2).trans x3) hR3 (.bl _)⟩
    | false =>
      rw [if_neg (by simp)] at e ⊢
      cases e
      exact q.at_ (x1.trans x2) hR2 (.bl _)
  refine ⟨PE_imp (pe_chain (op_cmp ok.fit op) (op_cmp ok.fit op') ha hb hc hm) main, PT_imp (pt_chain (op_cmp ok.fit op) (op_cmp ok.fit op') ha hb hc hm) fun σ H Q h => main σ H _ h⟩
theorem ife_step {c a b : ME} {σ : L2.St} {H : Hp} {Q : VK} (h : tE W G k (.ife c a b) σ H Q) : tB (tE W G k c) σ H fun c H1 => if c = true then tE W G k a σ H1 Q else tE W G k b σ H1 Q := by
  obtain ⟨F, ph, hp, env, r, hp1, hR, hE, e, q⟩ := h
  simp only [ev] at e
  obtain ⟨p, d, e1, eb, e⟩ := bndB_some e
  refine tE_val hR hE e1 fun F1 ph1 x H1 x1 hR1 hE1 rx => ?_
  rw [eb] at rx
  cases rx.blV
  refine ⟨d, rfl, ?_⟩
  cases d with
  | true =>
    rw [if_pos rfl] at e ⊢
    exact ⟨F1, ph1, _, env, r, hp1, hR1, hE1, e, q.comp x1⟩
  | false =>
    rw [if_neg (by simp)] at e ⊢
    exact ⟨F1, ph1, _, env, r, hp1, hR1, hE1, e, q.comp x1⟩
theorem se_ife {c a b : ME} {ec ea eb : Expr} {pos : Pos} (hc : PB W G k X ec c) (ha : PB W G k X ea a) (hb : PB W G k X eb b) : PE X (.IfExp ec ea eb pos) (tE W G k (.ife c a b)) :=
  PE_imp (pe_ifExp hc.2 ha.1 hb.1) fun σ H Q h => ife_step h
/-! ### displays, lists of arguments -/
theorem sl_nil : PA X [] (tL W G k .nil) := by
  refine PA_imp pa_nil ?_
  rintro σ H Q ⟨F, ph, hp, env, r, hp1, hR, hE, e, q⟩
  simp only [evL] at e
  cases e
  exact q F ph [] H Ext.refl hR .nil
def notStar : Expr → Bool
  | .Starred _ _ => false
  | _ => true
theorem starEach_of {e : Expr} (h : notStar e = true) (es : List Expr) (env : PySem.Env) : starEach (e :: es) env = (false, eval e env) :: starEach es env := by
  cases e <;> first | rfl | (simp [notStar] at h)
theorem sl_cons {a b : ME} {e : Expr} {es : List Expr} (hs : notStar e = true) (ha : PE X e (tE W G k a)) (hb : PA X es (tL W G k b)) : PA X (e :: es) (tL W G k (.cons a b)) := by
  refine PA_imp (pa_cons ha hb (starEach_of hs es _)) ?_
  rintro σ H Q ⟨F, ph, hp, env, r, hp1, hR, hE, e, q⟩
  simp only [evL] at e
  obtain ⟨p, e1, e⟩ := bnd_some e
  obtain ⟨p2, e2, e⟩ := bndL_some e
  cases e
  refine tE_val hR hE e1 fun F1 ph1 x H1 x1 hR1 hE1 rx => ?_
  refine tL_val hR1 hE1 e2 fun F2 ph2 y H2 x2 hR2 hE2 ry => ?_
  exact q F2 ph2 _ H2 (x1.trans x2) hR2 (.cons (rx.ext x2) ry)
def tTupM (t : TA) : TE := fun σ H Q => t σ H fun xs H1 => xs.length ≤ sizeLine ∧ ∀ p (ob : Obj), ob.dict = none → H1 p = none → Q (.ref p) (upd H1 p (.frz ob (.tup xs)))
theorem pe_tupM {es : List Expr} {t : TA} {n : Nat} {pos : Pos} (h : PA X es t) : PE X (.Tuple es n pos) (tTupM t) := by
  refine ⟨fun pins s σ H Q I hq => ?_⟩
  refine wpAny_Tuple_spliced (thn (h.run pos pins s σ H _ I hq) fun us s1 ⟨xs, H1, I1, r, z, q⟩ => ⟨by rw [← r.length]; exact z, ?_⟩)
  exact ⟨.ref s1.heap.objs.size, _, lay_tup (t := s1.toks) I1 r z, rfl, q _ _ rfl (I1.hok.fresh (Nat.le_refl _))⟩
theorem se_tup {es : ME} {xs : List Expr} {n : Nat} {pos : Pos} (ha : PA X xs (tL W G k es)) : PE X (.Tuple xs n pos) (tE W G k (.tup es)) := by
  refine PE_imp (pe_tupM ha) ?_
  rintro σ H Q ⟨F, ph, hp, env, r, hp1, hR, hE, e, q⟩
  simp only [ev, mk] at e
  obtain ⟨p, e1, e⟩ := bndL_some e
  split at e <;> cases e
  rename_i hl
  refine tL_val hR hE e1 fun F1 ph1 xs H1 x1 hR1 hE1 rx => ?_
  exact ⟨by rw [← rx.length]; exact hl, fun p ob hd n => (q.res x1).tup hR1 rx hd n⟩
theorem se_lst {es : ME} {xs : List Expr} {pos : Pos} (ha : PA X xs (tL W G k es)) : PE X (.List xs pos) (tE W G k (.lst es)) := by
  refine PE_imp (pe_lst ha) ?_
  rintro σ H Q ⟨F, ph, hp, env, r, hp1, hR, hE, e, q⟩
  simp only [ev, mk] at e
  obtain ⟨p, e1, e⟩ := bndL_some e
  split at e <;> cases e
  rename_i hl
  refine tL_val hR hE e1 fun F1 ph1 xs H1 x1 hR1 hE1 rx => ?_
  exact ⟨by rw [← rx.length]; exact hl, fun p n => (q.res x1).new hR1 (.lst rx) n⟩
theorem se_edct (ok : XOk W G k C X) {pos : Pos} : PE X (.Dict [] [] pos) (tE W G k .edct) := by
  refine PE_imp (pe_edct (W := W) ok.fit) ?_
  rintro σ H Q ⟨F, ph, hp, env, r, hp1, hR, hE, e, q⟩
  simp only [ev] at e
  cases e
  exact fun p ob n o => (q.res Ext.refl).new hR (o F ph) n
/-! ### calls -/
theorem se_bcl (ok : XOk W G k C X) {f : Bfn} {es : ME} {e : Expr} {xs : List Expr} {x : Str} {p pos : Pos} (hx : x = bname f) (hg : isGlB C.sc x = true) (hs : notStar e = true) (hpl : (backTo pos (starEach xs X.env)).any (·.1) = false) (ha : PA X (e :: xs) (tL W G k es)) :
    PE X (.Call (.Name x p) (e :: xs) [] pos) (tE W G k (.bcl f es)) := by
  obtain ⟨g1, g2⟩ := isGl_of ok hg
  have main : ∀ σ H Q, tE W G k (.bcl f es) σ H Q → tCB (rB W f) (tL W G k es) σ H Q := by
    rintro σ H Q ⟨F, ph, hp, env, r, hp1, hR, hE, e, q⟩
    simp only [ev] at e
    obtain ⟨p, e1, e⟩ := bndL_some e
    obtain ⟨r', e3, e⟩ := Option.map_eq_some_iff.mp e
    cases e
    refine tL_val hR hE e1 fun F1 ph1 xs H1 x1 hR1 hE1 rx => ?_
    exact ⟨F1, ph1, _, _, _, hR1, rx, e3, q.res x1⟩
  subst hx
  have se := starEach_of hs xs X.env
  have nm : ∀ y ∈ bnames, X.mg y = none := ok.bt
  cases f with
  | len => exact PE_imp (pe_callB (bcl_len ok.fit) g1 (nm _ (by decide)) (by decide +kernel) ha (by decide) g2 se hpl) main
  | int => exact PE_imp (pe_callTy (bcl_int ok.fit) g1 (nm _ (by decide)) PyProof.Rows.boot_int ha (by decide) g2 se hpl) main
  | sorted => exact PE_imp (pe_callB (bcl_sorted ok.fit) g1 (nm _ (by decide)) PyProof.Rows.boot_sorted ha (by decide) g2 se hpl) main
  | set => exact PE_imp (pe_callTy (bcl_set ok.fit) g1 (nm _ (by decide)) PyProof.Rows.boot_set ha (by decide) g2 se hpl) main
  | tuple => exact PE_imp (pe_callTy (bcl_tuple ok.fit) g1 (nm _ (by decide)) PyProof.Rows.boot_tuple ha (by decide) g2 se hpl) main
  | list => exact PE_imp (pe_callTy (bcl_list ok.fit) g1 (nm _ (by decide)) PyProof.Rows.boot_list ha (by decide) g2 se hpl) main
  | sum => exact PE_imp (pe_callB (bcl_sum ok.fit) g1 (nm _ (by decide)) PyProof.Rows.boot_sum ha (by decide) g2 se hpl) main
  | max => exact PE_imp (pe_callB (bcl_max ok.fit) g1 (nm _ (by decide)) PyProof.Rows.boot_max ha (by decide) g2 se hpl) main
  | min => exact PE_imp (pe_callB (bcl_min ok.fit) g1 (nm _ (by decide)) PyProof.Rows.boot_min ha (by decide) g2 se hpl) main
  | all => exact PE_imp (pe_callB (bcl_all ok.fit) g1 (nm _ (by decide)) PyProof.Rows.boot_all ha (by decide) g2 se hpl) main
  | any => exact PE_imp (pe_callB (bcl_any ok.fit) g1 (nm _ (by decide)) PyProof.Rows.boot_any ha (by decide) g2 se hpl) main
  | abs => exact PE_imp (pe_callB (bcl_abs ok.fit) g1 (nm _ (by decide)) PyProof.Rows.boot_abs ha (by decide) g2 se hpl) main
  | str => exact PE_imp (pe_callTy (bcl_str ok.fit) g1 (nm _ (by decide)) PyProof.Rows.boot_str ha (by decide) g2 se hpl) main
end
end MP
set_option maxRecDepth 100000
/-! MiniPy: calls, methods, items over the machine. -/
namespace MP
open PySem PySem.Spec PyProof.Rows L2
/-- how many written items -/
def ME.count : ME → Nat
  | .cons _ es => es.count + 1
  | _ => 0
theorem evL_count {gl : Nat → Option PV} {call : CallT} : ∀ (m : ME) {env : Env} {hp hp1 : Hs} {vs : List PV}, evL gl call m env hp = some (vs, hp1) → vs.length = m.count := by
  intro m
  induction m with
  | cons a b iha ihb =>
    intro env hp hp1 vs e
    simp only [evL] at e
    obtain ⟨p, e1, e⟩ := bnd_some e
    obtain ⟨p2, e2, e⟩ := bndL_some e
    cases e
    rw [List.length_cons, ihb e2]; rfl
  | nil => intro env hp hp1 vs e; simp only [evL] at e; cases e; rfl
  | _ => intro env hp hp1 vs e; simp only [evL] at e; cases e
theorem callF_fill {G : Gl} {k f : Nat} {fdm : Fd} {args : List PV} {hp : Hs} {y : Rv × Hs} (hf : G.fns f = some fdm) (h : callF G k f args hp = some y) : (fillA fdm args).length = fdm.np ∧ callF G k f (fillA fdm args) hp = some y := by
  cases k with
  | zero => cases h
  | succ k =>
    simp only [callF, hf, Option.bind_some] at h ⊢
    split at h
    · rename_i hl
      refine ⟨hl, ?_⟩
      have e : fillA fdm (fillA fdm args) = fillA fdm args := by
        show fillA fdm args ++ fdm.dfl.drop (fdm.dfl.length - (fdm.np - (fillA fdm args).length)) = _
        rw [hl, Nat.sub_self, Nat.sub_zero, List.drop_length, List.append_nil]
      rw [e, if_pos hl]
      exact h
    · cases h
section
variable {W : Wd} {G : Gl} {k : Nat} {C : Cc} {X : Cx}
theorem pass0 (X : Cx) (E : XK) : Passes CX0 X E := fun _ _ _ _ _ _ _ h => h.elim
theorem fill_len {fdm : Fd} {args : List PV} (h : (fillA fdm args).length = fdm.np) : args.length + (fdm.dfl.length - (fdm.dfl.length - (fdm.np - args.length))) = fdm.np := by
  unfold fillA at h
  rw [List.length_append, List.length_drop] at h
  exact h
theorem call_step (ok : XOk W G k C X) {f : Nat} {fdm : Fd} {es : ME} {x : Str} (h1 : C.fn f = some x) (hf : G.fns f = some fdm) {a : Addr} {fd : FuncData} {ps : List Str} {dvs : List V} (hd : ∀ F ph, RepA W F ph (fdm.dfl.drop (fdm.dfl.length - (fdm.np - es.count))) dvs) :
    ∀ σ H Q, tE W G k (.call f es) σ H Q → tCall (spF W G k f fdm.np) dvs E0 (tL W G k es) σ H Q := by
  rintro σ H Q ⟨F, ph, hp, env, r, hp1, hR, hE, e, q⟩
  simp only [ev] at e
  obtain ⟨p, e1, e⟩ := bndL_some e
  obtain ⟨hl, e2⟩ := callF_fill hf e
  refine tL_val hR hE e1 fun F1 ph1 xs H1 x1 hR1 hE1 rx => ?_
  refine ⟨F1, ph1, _, fillA fdm p.1, r, hp1, hR1, ?_, hl, e2, q.comp x1⟩
  have := hd F1 ph1
  rw [← evL_count es e1] at this
  exact rx.append this
theorem se_call (ok : XOk W G k C X) {f : Nat} {fdm : Fd} {es : ME} {e : Expr} {xs : List Expr} {x : Str} {p pos : Pos} (h1 : C.fn f = some x) (hf : G.fns f = some fdm) (hn : es.count + (fdm.dfl.length - (fdm.dfl.length - (fdm.np - es.count))) = fdm.np) (hg : isGlB C.sc x = true) (hs : notStar e = true)
    (hpl : (backTo pos (starEach xs X.env)).any (·.1) = false) (ha : PA X (e :: xs) (tL W G k es)) : PE X (.Call (.Name x p) (e :: xs) [] pos) (tE W G k (.call f es)) := by
  obtain ⟨g1, g2⟩ := isGl_of ok hg
  obtain ⟨a, fd, ps, hm, hk, FO, hps, hb⟩ := ok.call f x fdm h1 hf
  obtain ⟨ds, dvs, b1, b2, b3⟩ := hb es.count hn
  exact PE_imp (pe_call FO ok.room g1 hm hk b1 b2 (pass0 X E0) ha g2 (starEach_of hs xs _) hpl) (call_step ok h1 hf (a := a) (fd := fd) (ps := ps) b3)
theorem se_call0 (ok : XOk W G k C X) {f : Nat} {fdm : Fd} {x : Str} {p pos : Pos} (h1 : C.fn f = some x) (hf : G.fns f = some fdm) (hn : 0 + (fdm.dfl.length - (fdm.dfl.length - (fdm.np - 0))) = fdm.np) (hg : isGlB C.sc x = true) :
    PE X (.Call (.Name x p) [] [] pos) (tE W G k (.call f .nil)) := by
  obtain ⟨g1, g2⟩ := isGl_of ok hg
  obtain ⟨a, fd, ps, hm, hk, FO, hps, hb⟩ := ok.call f x fdm h1 hf
  obtain ⟨ds, dvs, b1, b2, b3⟩ := hb 0 hn
  refine PE_imp (pe_call0 FO ok.room g1 hm hk b1 b2 (pass0 X E0) g2) fun σ H Q h => ?_
  obtain ⟨F, ph, hp, env, vs, hp1, hR, hE, e, q⟩ := call_step ok h1 hf (a := a) (fd := fd) (ps := ps) (es := .nil) b3 σ H Q h
  simp only [evL] at e
  cases e
  exact q F ph [] H Ext.refl hR .nil
/-! ### isinstance -/
def tyS : Ty → String
  | .int => "int" | .bool => "bool" | .str => "str" | .tuple => "tuple" | .list => "list" | .dict => "dict"
def rIsi1 (W : Wd) (t : Ty) : List V → Hp → VK → Prop := fun xs H Q => ∃ F ph hp v x b, RelH W F ph hp H ∧ Rep W F ph v x ∧ xs = [x, .ty (tyS t)] ∧ isiP v t = some b ∧ Q (.bl b) H
theorem kit_go {X : Cx} {pins : List (Addr × Obj)} {σ : L2.St} {H : Hp} {s : Shared} {Q : VK} {u : Value} {a : String} {t : Ty} {P : Heap → Prop} {b : Bool} (I : Inv X pins σ H s) (Z : PySem.W.KitX X.K u (.type a) P) (p : P s.heap) (e : kitB a (tyS t) = some b) (hx : u ≠ .builtin "__main__.__loader__#opaque") (q : Q (.bl b) H) :
    wpAny (model X.prog X.w) X.A (call (.builtin "isinstance") [u, .type (tyS t)]) (EP X pins σ Q) X.xe s :=
  PySem.W.kia_one Z I.kIn p (kit_ty e) hx fun tk => ⟨.bl b, H, I.tok tk, rfl, q⟩
theorem isi_any (fit : Fit W X) (t : Ty) : CallR X (.builtin "isinstance") (rIsi1 W t) := by
  intro pins s σ H xs us Q I rs ⟨F, ph, hp, v, x, b, hR, qx, ex, e, q⟩
  subst ex
  obtain ⟨u1, u2, rfl, r1, r2⟩ := vals2 rs
  obtain rfl : u2 = Value.type (tyS t) := r2
  cases v with
  | non =>
    cases qx.nonV
    cases (show u1 = Value.none from r1)
    refine kit_go I PySem.W.kitx_none True.intro ?_ (fun z => nomatch z) q
    cases t <;> cases e <;> decide +kernel
  | bl y =>
    cases qx.blV
    cases (show u1 = Value.bool y from r1)
    refine kit_go I PySem.W.kitx_bool True.intro ?_ (fun z => nomatch z) q
    cases t <;> cases e <;> decide +kernel
  | int i =>
    cases qx.intV
    obtain ⟨tk, z⟩ := (show ∃ t, u1 = Value.int i t from r1)
    cases z
    refine kit_go I PySem.W.kitx_int True.intro ?_ (fun z => nomatch z) q
    cases t <;> cases e <;> decide +kernel
  | str y =>
    obtain ⟨rfl, _⟩ := qx.strV
    obtain ⟨tk, z⟩ := (show ∃ t, u1 = Value.str y t from r1)
    cases z
    refine kit_go I PySem.W.kitx_str True.intro ?_ (fun z => nomatch z) q
    cases t <;> cases e <;> decide +kernel
  | tup ys =>
    obtain ⟨a, vs, rfl, ha, ra⟩ := qx.tupAt hR
    rw [← fit.K] at ha
    cases (show u1 = Value.ref a from r1)
    obtain ⟨its, rv, ⟨o, h1, h2, _⟩, _⟩ := I.tuple ha
    refine kit_go I PySem.W.kitx_tuple ⟨o, h1, h2⟩ ?_ (fun z => nomatch z) q
    cases t <;> cases e <;> decide +kernel
  | lst ys =>
    obtain ⟨a, vs, rfl, _, ha, ra⟩ := qx.lstAt hR
    rw [← fit.K] at ha
    cases (show u1 = Value.ref a from r1)
    obtain ⟨its, rv, ⟨o, n, h1, h2, _⟩, _⟩ := I.list ha
    refine kit_go I PySem.W.kitx_list ⟨o, h1, h2⟩ ?_ (fun z => nomatch z) q
    cases t <;> cases e <;> decide +kernel
  | dct kvs =>
    obtain ⟨a, o, rfl, _, ho, r⟩ := qx.dctAt hR
    cases (show u1 = Value.ref a from r1)
    cases r with
    | @dct _ _ ob es ep h1 h2 h3 h4 h5 r =>
      refine kit_go I PySem.W.kitx_dict ⟨ob, obj_at I ho, h2.1⟩ ?_ (fun z => nomatch z) q
      cases t <;> cases e <;> decide +kernel
  | pst ys => simp [isiP] at e
  | ref n => simp [isiP] at e
  | fn n => simp [isiP] at e
theorem se_isi (ok : XOk W G k C X) {a : ME} {t : Ty} {ea : Expr} {x y : Str} {p p2 pos : Pos} (hx : x = "isinstance") (hy : y = tyname t) (hg : isGlB C.sc x = true) (hg2 : isGlB C.sc y = true) (hs : notStar ea = true) (ha : PE X ea (tE W G k a)) :
    PE X (.Call (.Name x p) [ea, .Name y p2] [] pos) (tE W G k (.isi a t)) := by
  obtain ⟨g1, g2⟩ := isGl_of ok hg
  obtain ⟨g3, g4⟩ := isGl_of ok hg2
  have hty : PE X (.Name y p2) (tC (.ty (tyS t))) := by
    subst hy
    have hm : X.mg (tyname t) = none := ok.bt _ (by cases t <;> decide)
    cases t with
    | int => exact pe_bltn g3 hm PyProof.Rows.boot_int rfl (by decide) g4
    | bool => exact pe_bltn g3 hm PyProof.Rows.boot_bool rfl (by decide) g4
    | str => exact pe_bltn g3 hm PyProof.Rows.boot_str rfl (by decide) g4
    | tuple => exact pe_bltn g3 hm PyProof.Rows.boot_tuple rfl (by decide) g4
    | list => exact pe_bltn g3 hm PyProof.Rows.boot_list rfl (by decide) g4
    | dict => exact pe_bltn g3 hm PyProof.Rows.boot_dict rfl (by decide) g4
  subst hx
  refine PE_imp (pe_callB (isi_any ok.fit t) g1 (ok.bt _ (by decide)) PyProof.Rows.boot_isinstance (pa_cons ha (pa_cons hty pa_nil rfl) (starEach_of hs _ _)) (by decide) g2 (starEach_of hs _ _) rfl) ?_
  rintro σ H Q ⟨F, ph, hp, env, r, hp1, hR, hE, e, q⟩
  simp only [ev] at e
  obtain ⟨p, e1, e⟩ := bnd_some e
  obtain ⟨b, e3, e⟩ := Option.map_eq_some_iff.mp e
  cases e
  refine tE_val hR hE e1 fun F1 ph1 x H1 x1 hR1 hE1 rx => ?_
  exact ⟨F1, ph1, _, _, x, b, hR1, rx, rfl, e3, q.at_ x1 hR1 (.bl _)⟩
/-! ### items, slices -/
theorem plainIx_of {b : Expr} (h : noSl b = true) : PlainIx b := by
  intro o i
  cases b <;> first | rfl | (simp [noSl] at h)
theorem drf_rep {F H : Hp} {ph : List Addr} {hp : Hs} {v : PV} {x : V} (h : RelH W F ph hp H) (r : Rep W F ph v x) : RepX W F ph H (drf v hp) x := by
  unfold drf
  split
  · rename_i n
    cases e : hp[n]? with
    | none => exact .inl r
    | some c =>
      cases r with
      | ref ha =>
        obtain ⟨_, o, e1, e2⟩ := h.sh n _ c ha e
        exact .inr ⟨_, o, rfl, e1, e2⟩
      | obj e q => cases q
  · exact .inl r
theorem se_idx (ok : XOk W G k C X) {a b : ME} {ea eb : Expr} {pos : Pos} (h : noSl eb = true) (ha : PE X ea (tE W G k a)) (hb : PE X eb (tE W G k b)) : PE X (.Subscript ea eb pos) (tE W G k (.idx a b)) := by
  refine PE_imp (pe_ix (ix_any ok.fit) ha hb (plainIx_of h)) ?_
  rintro σ H Q ⟨F, ph, hp, env, r, hp1, hR, hE, e, q⟩
  simp only [ev] at e
  obtain ⟨p, e1, e⟩ := bnd_some e
  obtain ⟨p2, e2, e⟩ := bnd_some e
  obtain ⟨v, e3, e⟩ := Option.map_eq_some_iff.mp e
  cases e
  refine tE_val hR hE e1 fun F1 ph1 x H1 x1 hR1 hE1 rx => ?_
  refine tE_val hR1 hE1 e2 fun F2 ph2 y H2 x2 hR2 hE2 ry => ?_
  refine ⟨F2, ph2, _, _, _, v, hR2, drf_rep hR2 (rx.ext x2), ry, e3, fun z rz => q.at_ (x1.trans x2) hR2 rz⟩
theorem se_rev (ok : XOk W G k C X) {a : ME} {ea : Expr} {n : Nat} {p1 p2 p3 pos : Pos} (ha : PE X ea (tE W G k a)) : PE X (.Subscript ea (.Slice none none (some (.UnaryOp .USub (.Constant (.int 1) n p1) p2)) p3) pos) (tE W G k (.rev a)) := by
  refine PE_imp (pe_rev ok.fit ha) ?_
  rintro σ H Q ⟨F, ph, hp, env, r, hp1, hR, hE, e, q⟩
  simp only [ev] at e
  obtain ⟨p, e1, e⟩ := bnd_some e
  obtain ⟨v, e3, e⟩ := Option.map_eq_some_iff.mp e
  cases e
  refine tE_val hR hE e1 fun F1 ph1 x H1 x1 hR1 hE1 rx => ?_
  exact ⟨F1, ph1, _, _, _, hR1, rx, e3, q.res x1⟩
/-- a slice's part: none where the text has none -/
def tO (W : Wd) (G : Gl) (k : Nat) (m : ME) : TO := if m.isNil then tNoPart else tPart (tE W G k m)
theorem part_step {m : ME} {σ : L2.St} {Q : Option Int → Hp → Prop} {env : Env} {F H : Hp} {ph : List Addr} {hp : Hs} {p : Option Int × Hs} (hR : RelH W F ph hp H) (hE : RelE W F ph env σ)
    (e : (if m.isNil then some (none, hp) else bnd (ev G.cst (callF G k) m env hp) fun l hp2 => (asI l).map fun i => (some i, hp2)) = some p)
    (q : ∀ F' ph' H', Ext F ph H F' ph' H' → RelH W F' ph' p.2 H' → RelE W F' ph' env σ → Q p.1 H') : tO W G k m σ H Q := by
  unfold tO
  split at e
  · rename_i hm
    cases e
    rw [if_pos hm]
    exact q F ph H Ext.refl hR hE
  · rename_i hm
    rw [if_neg hm]
    obtain ⟨p1, e1, e⟩ := bnd_some e
    obtain ⟨i, hi, e⟩ := Option.map_eq_some_iff.mp e
    cases e
    refine tE_val hR hE e1 fun F1 ph1 x H1 x1 hR1 hE1 rx => ?_
    rw [asI_some hi] at rx
    cases rx.intV
    exact ⟨i, rfl, q F1 ph1 H1 x1 hR1 hE1⟩
theorem se_slc (ok : XOk W G k C X) {a lo hi : ME} {ea : Expr} {el eh : Option Expr} {p2 pos : Pos} (ha : PE X ea (tE W G k a)) (hl : PO X el (tO W G k lo)) (hh : PO X eh (tO W G k hi)) : PE X (.Subscript ea (.Slice el eh none p2) pos) (tE W G k (.slc a lo hi)) := by
  refine PE_imp (pe_slice (sl_any ok.fit) ha hl hh) ?_
  rintro σ H Q ⟨F, ph, hp, env, r, hp1, hR, hE, e, q⟩
  simp only [ev] at e
  obtain ⟨p, e1, e⟩ := bnd_some e
  obtain ⟨pl, e2, e⟩ := Option.bind_eq_some_iff.mp e
  obtain ⟨pu, e3, e⟩ := Option.bind_eq_some_iff.mp e
  obtain ⟨v, e4, e⟩ := Option.map_eq_some_iff.mp e
  cases e
  refine tE_val hR hE e1 fun F1 ph1 x H1 x1 hR1 hE1 rx => ?_
  refine part_step hR1 hE1 e2 fun F2 ph2 H2 x2 hR2 hE2 => ?_
  refine part_step hR2 hE2 e3 fun F3 ph3 H3 x3 hR3 hE3 => ?_
  exact ⟨F3, ph3, _, _, _, hR3, (rx.ext x2).ext x3, e4, q.res ((x1.trans x2).trans x3)⟩
end
end MP
set_option maxRecDepth 100000
/-! MiniPy: methods, shared objects, displays of dicts. -/
namespace MP
open PySem PySem.Spec PyProof.Rows L2
theorem star_map (env : PySem.Env) : ∀ {es : List Expr}, es.all notStar = true → starEach es env = es.map fun e => (false, eval e env)
  | [], _ => rfl
  | e :: es, h => by
    rw [List.all_cons, Bool.and_eq_true] at h
    rw [starEach_of h.1, star_map env h.2]; rfl
theorem star_any {env : PySem.Env} {pos : Pos} {es : List Expr} (h : es.all notStar = true) : (backTo pos (starEach es env)).any (·.1) = false := by
  rw [star_map env h]
  unfold backTo
  induction es with
  | nil => rfl
  | cons e es ih =>
    rw [List.all_cons, Bool.and_eq_true] at h
    rw [List.map_cons, List.map_cons, List.any_cons, ih h.2]; rfl
theorem star_few {env : PySem.Env} {pos : Pos} {es : List Expr} (h : es.all notStar = true) (hl : es.length < 30) : ((backTo pos (starEach es env)).all (fun x => !x.1) && (backToKw pos (keywordEach [] env)).all (fun x => x.1.isSome)
    && decide (es.length + ([] : List Keyword).length + (if ([] : List Keyword).isEmpty then 0 else 1) < 30)) = true := by
  have h1 : (backTo pos (starEach es env)).all (fun x => !x.1) = true := by
    rw [star_map env h]
    unfold backTo
    clear hl
    induction es with
    | nil => rfl
    | cons e es ih =>
      rw [List.all_cons, Bool.and_eq_true] at h
      rw [List.map_cons, List.map_cons, List.all_cons, ih h.2]; rfl
  have h2 : decide (es.length + ([] : List Keyword).length + (if ([] : List Keyword).isEmpty then 0 else 1) < 30) = true := decide_eq_true (by simpa using hl)
  rw [h1, h2]; rfl
theorem attrBase_of {o : Expr} {name : Str} {env : PySem.Env} (h : plainO o = true) (w : Sem Value) : attributeBase o name env w = w := by
  cases o with
  | Call f args kw pos =>
    cases f with
    | Name id p =>
      cases args with
      | nil =>
        cases kw with
        | nil => simp [plainO] at h
        | cons _ _ => rfl
      | cons _ _ => rfl
    | _ => rfl
  | _ => rfl
theorem findP_at {x : PV} : ∀ {xs : List PV} {j : Nat}, findP x xs = some j → ∃ z, xs[j]? = some z ∧ eqP z x = true ∧ ∀ (m : Nat) (z' : PV), m < j → xs[m]? = some z' → eqP z' x = false
  | [], _, h => by cases h
  | y :: ys, j, h => by
    rw [findP] at h
    split at h
    · rename_i e
      cases h
      exact ⟨y, rfl, e, fun m z' hm => by omega⟩
    · rename_i e
      obtain ⟨i, h1, rfl⟩ := Option.map_eq_some_iff.mp h
      obtain ⟨z, e1, e2, e3⟩ := findP_at h1
      refine ⟨z, by simpa using e1, e2, fun m z' hm hz => ?_⟩
      cases m with
      | zero =>
        have : z' = y := by simpa using hz.symm
        subst this
        simpa using e
      | succ m => exact e3 m z' (by omega) (by simpa using hz)
section
variable {W : Wd} {G : Gl} {k : Nat} {C : Cc} {X : Cx}
/-- the calls of the three methods, by the receiver's kind -/
theorem index_lst (fit : Fit W X) {pins : List (Addr × Obj)} {σ : L2.St} {H F : Hp} {s : Shared} {Q : VK} {ph : List Addr} {hp : Hs} {xs vs : List PV} {x : V} {v : Value} {ys : List V} {us : List Value} {w : PV} (I : Inv X pins σ H s) (rx : RelV x v) (rv : Vals ys us) (hR : RelH W F ph hp H) (qx : Rep W F ph (.lst xs) x) (qs : RepA W F ph vs ys)
    (e : mthP .index (.lst xs) vs = some w) (q : Q (match w with | .int i => V.int i | _ => V.non) H) : wpAny (model X.prog X.w) X.A (call (.builtin "list.index") (v :: us)) (EP X pins σ Q) X.xe s := by
  cases vs with
  | nil => simp [mthP] at e
  | cons y r =>
    cases r with
    | cons _ _ => simp [mthP] at e
    | nil =>
      simp only [mthP] at e
      split at e
      · rename_i ok
        obtain ⟨j, hj, rfl⟩ := Option.map_eq_some_iff.mp e
        obtain ⟨yv, rfl, ry⟩ := qs.one
        obtain ⟨uy, rfl, ru⟩ := vals1 rv
        obtain ⟨a, ws, rfl, _, ha, ra⟩ := qx.lstAt hR
        cases (show v = Value.ref a from rx)
        rw [← fit.K] at ha
        obtain ⟨dx, dy, m⟩ := okMem_iff ok
        obtain ⟨⟨bs, r1⟩, l1⟩ := reads2 fit I ru hR ry dx
        have hl := ra.dp hR xs dy
        rw [← fit.K] at hl
        have lx := ra.lay xs dy
        obtain ⟨its, rv2, ⟨⟨cls, dd, data, sls⟩, n, ho, hc, hdn, hdt⟩, hlen⟩ := I.list ha
        simp only at hc hdt
        subst hc hdt
        obtain ⟨as, h4⟩ := Dp.readsAll I (toDs xs) _ its hl rv2
        have hn : its.length = (toDs xs).length := SeqAt.ReadsAll.length (toDs xs) its as h4
        have hmap : its.map (SeqAt.readOf s.heap) = toDs xs := SeqAt.readsAll_map (toDs xs) its as lx h4
        rw [toDs_map, List.length_map] at hn
        rw [toDs_map] at hmap
        obtain ⟨z, z1, z2, z3⟩ := findP_at hj
        have hjx : j < xs.length := (List.getElem?_eq_some_iff.mp z1).1
        have hu := fit.un
        have hsl := sizeLine_eq
        have hvl := rv2.length
        have at_ : ∀ (m : Nat) (hm : m < its.toArray.size) (z' : PV), xs[m]? = some z' → SeqAt.readOf s.heap its.toArray[m] = toD z' := by
          intro m hm z' hz'
          have hml : m < its.length := by simpa using hm
          have e0 : (its.map (SeqAt.readOf s.heap))[m]? = some (toD z') := by rw [hmap, List.getElem?_map, hz']; rfl
          rw [List.getElem?_map, List.getElem?_eq_getElem hml] at e0
          simpa using e0
        have hjs : j < its.toArray.size := by simp; omega
        refine call_meets PySem.F.slot_list_index ⟨_, ho, rfl⟩ PySem.F.entry_list_index (PySem.F.args_list_index_2 _ _)
          (SeqAt.list_indexAt a its.toArray n dd sls uy (fun u => PyData.eqv (SeqAt.readOf s.heap u) (toD y)) j hjs (by omega) ?_ ?_) ⟨ho, SeqAt.items_eqAt (vs := its.toArray) (show ReadsAll s.heap its.toArray.toList (toDs xs) as from h4) r1 lx l1 (by rw [toDs_dep, toD_dep]; exact room61 hu m), ?_⟩
        · show PyData.eqv (SeqAt.readOf s.heap its.toArray[j]) (toD y) = true
          rw [at_ j hjs z z1, toD_eqv _ _ (datAll_iff.mp dy z (List.mem_of_getElem? z1)) dx]
          exact z2
        · intro m hm hmj
          have hmx : m < xs.length := by omega
          have e1 : xs[m]? = some xs[m] := List.getElem?_eq_getElem hmx
          show PyData.eqv (SeqAt.readOf s.heap its.toArray[m]) (toD y) = false
          rw [at_ m hm _ e1, toD_eqv _ _ (datAll_iff.mp dy _ (List.getElem_mem hmx)) dx]
          exact z3 m _ hmj e1
        · exact ⟨.int (j : Nat), H, I.tok _, ⟨_, rfl⟩, q⟩
      · cases e
theorem findP_idx {x : PV} : ∀ {xs : List PV} {j : Nat}, findP x xs = some j → (xs.map fun z => eqP z x).idxOf true = j ∧ true ∈ xs.map fun z => eqP z x
  | [], _, h => by cases h
  | y :: ys, j, h => by
    rw [findP] at h
    rw [List.map_cons, List.idxOf_cons]
    split at h
    · rename_i e
      cases h
      rw [e]
      exact ⟨rfl, by simp⟩
    · rename_i e
      obtain ⟨i, h1, rfl⟩ := Option.map_eq_some_iff.mp h
      obtain ⟨e1, e2⟩ := findP_idx h1
      have e : eqP y x = false := by simpa using e
      rw [e, e1]
      exact ⟨rfl, List.mem_cons_of_mem _ e2⟩
/-- a tuple's object has no dict of its own -/
theorem tup_dict (fit : Fit W X) {pins : List (Addr × Obj)} {σ : L2.St} {H F : Hp} {s : Shared} {ph : List Addr} {hp : Hs} {zs : List PV} {a : Addr} (I : Inv X pins σ H s) (hR : RelH W F ph hp H) (rx : Rep W F ph (.tup zs) (.ref a)) :
    s.TypeIs (.ref a) "tuple" ∧ ∀ b, Value.ref a = .ref b → ∃ ob, s.heap.get? b = some ob ∧ ob.dict = none := by
  have key : ∃ ob : Obj, s.heap.get? a = some ob ∧ ob.cls = .type "tuple" ∧ ob.dict = none := by
    cases rx with
    | tup e q =>
      obtain ⟨ob, h1, h2⟩ := hR.td _ _ e
      obtain ⟨g, _, its, _, o, ho, hc, _⟩ := (show ObjOk X.prog X.w H s.heap a (.frz ob (.tup _)) from I.hok a _ h1)
      rw [g] at ho
      cases ho
      exact ⟨ob, g, hc, h2⟩
    | ktup e q =>
      obtain ⟨o, its, n, lk, hc, _⟩ := e
      exact ⟨o, I.kIn a o (by rw [fit.K]; exact lk), hc, fit.kd a o lk hc⟩
    | obj e q => cases q
  obtain ⟨ob, g, hc, hd⟩ := key
  exact ⟨⟨ob, g, hc⟩, fun b e => by cases e; exact ⟨ob, g, hd⟩⟩
theorem index_tup (fit : Fit W X) {pins : List (Addr × Obj)} {σ : L2.St} {H F : Hp} {s : Shared} {Q : VK} {ph : List Addr} {hp : Hs} {xs vs : List PV} {x : V} {v : Value} {ys : List V} {us : List Value} {w : PV} (I : Inv X pins σ H s) (rx : RelV x v) (rv : Vals ys us) (hR : RelH W F ph hp H) (qx : Rep W F ph (.tup xs) x) (qs : RepA W F ph vs ys)
    (e : mthP .index (.tup xs) vs = some w) (q : ∀ y, Rep W F ph w y → Q y H) : wpAny (model X.prog X.w) X.A (call (.builtin "tuple.index") (v :: us)) (EP X pins σ Q) X.xe s := by
  cases vs with
  | nil => simp [mthP] at e
  | cons y r =>
    cases r with
    | cons _ _ => simp [mthP] at e
    | nil =>
      simp only [mthP] at e
      split at e
      · rename_i ok
        obtain ⟨j, hj, rfl⟩ := Option.map_eq_some_iff.mp e
        obtain ⟨yv, rfl, ry⟩ := qs.one
        obtain ⟨uy, rfl, ru⟩ := vals1 rv
        obtain ⟨a, ws, rfl, ha, ra⟩ := qx.tupAt hR
        cases (show v = Value.ref a from rx)
        rw [← fit.K] at ha
        obtain ⟨dx, dy, m⟩ := okMem_iff ok
        obtain ⟨⟨bs, r1⟩, l1⟩ := reads2 fit I ru hR ry dx
        have hl := ra.dp hR xs dy
        rw [← fit.K] at hl
        have lx := ra.lay xs dy
        obtain ⟨its, rv2, ht, hlen⟩ := I.tuple ha
        obtain ⟨as, h4⟩ := Dp.readsAll I (toDs xs) _ its hl rv2
        have hmap : its.map (SeqAt.readOf s.heap) = toDs xs := SeqAt.readsAll_map (toDs xs) its as lx h4
        rw [toDs_map] at hmap
        have hn : its.length = xs.length := by have := congrArg List.length hmap; simpa using this
        have hu := fit.un
        have eqs := SeqAt.items_eqAt (vs := its.toArray) (A := X.A) (show ReadsAll s.heap its.toArray.toList (toDs xs) as from h4) r1 lx l1 (by rw [toDs_dep, toD_dep]; exact room61 hu m)
        obtain ⟨f1, f2⟩ := findP_idx hj
        refine SeqAt.call_tuple_index (vs := its) (ks := xs.map fun z => eqP z y) (k := true) (show s.heap.IsTuple a its.toArray from ht) ⟨by rw [List.length_map]; exact hn, fun i h1 h2 => ?_⟩ f2 ?_
        · have hi : i < xs.length := by simpa using h2
          have e1 := eqs its[i] (by simp)
          have e0 : (its.map (SeqAt.readOf s.heap))[i]? = some (toD xs[i]) := by rw [hmap, List.getElem?_map, List.getElem?_eq_getElem hi]; rfl
          rw [List.getElem?_map, List.getElem?_eq_getElem h1] at e0
          have e2 : SeqAt.readOf s.heap its[i] = toD xs[i] := Option.some.inj e0
          rw [e2, toD_eqv _ _ (datAll_iff.mp dy _ (List.getElem_mem hi)) dx] at e1
          have e3 : decide ((xs.map fun z => eqP z y)[i] = true) = eqP xs[i] y := by
            rw [List.getElem_map]
            cases eqP xs[i] y <;> rfl
          rw [e3]
          exact e1
        · rw [f1]
          exact ⟨.int (j : Nat), H, I.tok _, ⟨_, rfl⟩, q _ (.int _)⟩
      · cases e
theorem index_str (fit : Fit W X) {pins : List (Addr × Obj)} {σ : L2.St} {H F : Hp} {s : Shared} {Q : VK} {ph : List Addr} {z : Str} {vs : List PV} {x : V} {v : Value} {ys : List V} {us : List Value} {w : PV} (I : Inv X pins σ H s) (rx : RelV x v) (rv : Vals ys us) (qx : Rep W F ph (.str z) x) (qs : RepA W F ph vs ys)
    (e : mthP .index (.str z) vs = some w) (q : ∀ y, Rep W F ph w y → Q y H) : wpAny (model X.prog X.w) X.A (call (.builtin "str.index") (v :: us)) (EP X pins σ Q) X.xe s := by
  cases vs with
  | nil => simp [mthP] at e
  | cons y r =>
    cases r with
    | cons _ _ => cases y <;> simp [mthP] at e
    | nil =>
      cases y <;> simp only [mthP] at e <;> try cases e
      rename_i b
      obtain ⟨yv, rfl, ry⟩ := qs.one
      obtain ⟨rfl, _⟩ := ry.strV
      obtain ⟨rfl, _⟩ := qx.strV
      obtain ⟨uy, rfl, ru⟩ := vals1 rv
      obtain ⟨t1, z1⟩ := (show ∃ t, v = Value.str z t from rx)
      obtain ⟨t2, z2⟩ := (show ∃ t, uy = Value.str b t from ru)
      subst z1 z2
      obtain ⟨i, hi, rfl⟩ := Option.map_eq_some_iff.mp e
      cases oc : Builtin.Str.occurrences z b 0 z.length 1 with
      | nil => rw [oc] at hi; cases hi
      | cons j rest =>
        rw [oc] at hi
        cases hi
        exact call_gives PySem.F.slot_str_index (typeIs_str _ _ _) PySem.F.entry_str_index (PySem.F.args_str_index_2 _ _) (gives_str_index z b t1 t2 i rest oc) ⟨.int (i : Nat), H, I.tok _, ⟨_, rfl⟩, q _ (.int _)⟩
theorem get_dct (fit : Fit W X) {pins : List (Addr × Obj)} {σ : L2.St} {H F : Hp} {s : Shared} {Q : VK} {ph : List Addr} {hp : Hs} {kvs : List (PV × PV)} {vs : List PV} {x : V} {v : Value} {ys : List V} {us : List Value} {w : PV} (I : Inv X pins σ H s) (rx : RelV x v) (rv : Vals ys us) (hR : RelH W F ph hp H) (qx : Rep W F ph (.dct kvs) x) (qs : RepA W F ph vs ys)
    (e : mthP .get (.dct kvs) vs = some w) (q : ∀ y, Rep W F ph w y → Q y H) : wpAny (model X.prog X.w) X.A (call (.builtin "dict.get") (v :: us)) (EP X pins σ Q) X.xe s := by
  obtain ⟨a, o, rfl, _, ho, r⟩ := qx.dctAt hR
  cases (show v = Value.ref a from rx)
  -- what the rule gives, against what is looked up
  have pick : ∀ {d : PV} {dv : V} {du : Value} {o : Option Value}, Rep W F ph d dv → RelV dv du → (∀ y, getKv (vs.headD .non) kvs = some y → ∃ z w', o = some w' ∧ RelV z w' ∧ Rep W F ph y z) → (getKv (vs.headD .non) kvs = none → o = none) → ∃ z, RelV z (o.getD du) ∧ Rep W F ph ((getKv (vs.headD .non) kvs).getD d) z := by
    intro d dv du o rd rdu i1 i2
    cases g : getKv (vs.headD .non) kvs with
    | none => rw [i2 g]; exact ⟨dv, rdu, rd⟩
    | some y =>
      obtain ⟨z, w', rfl, rz, rep⟩ := i1 y g
      exact ⟨z, rz, rep⟩
  cases vs with
  | nil => simp [mthP] at e
  | cons y r =>
    cases r with
    | nil =>
      simp only [mthP] at e
      split at e <;> cases e
      rename_i okk
      obtain ⟨yv, rfl, ry⟩ := qs.one
      obtain ⟨uy, rfl, ru⟩ := vals1 rv
      obtain ⟨h1, h5, hl', c⟩ := dict_of fit I hR ho r okk
      rcases c with ⟨kk, us2, hk, dd, ek, lu⟩ | ⟨kk, us2, hk, dd, ek, lu⟩
      · have kis : (mixKind X.prog X.w).is kk uy = true := by rw [keyOf_rel hk ry] at ru; exact kV_is ru
        obtain ⟨i1, i2⟩ := ek.look hk
        obtain ⟨z, rz, rep⟩ := pick (d := .non) (dv := .non) (du := .none) (o := valueAt us2 kk) .non rfl (fun y g => let ⟨z, w', e1, e2, e3⟩ := i1 y g; ⟨z, w', e1, e2, e3⟩) i2
        exact call_meetsIn PySem.F.slot_dict_get dd.typeIs PySem.F.entry_dict_get (PySem.F.args_dict_get_2 _ _) (meets_dict_get (mixKind X.prog X.w) a kis h1) ⟨_, dd.mapOf, z, H, I.tok _, rz, q z rep⟩
      · obtain ⟨b, rfl, tb⟩ := tkey_of hk ry
        obtain rfl : uy = Value.ref b := ru
        have kis := TKey.at_ fit I hR tb
        rw [← fit.P, ← fit.w] at kis
        obtain ⟨i1, i2⟩ := ek.look hk
        obtain ⟨z, rz, rep⟩ := pick (d := .non) (dv := .non) (du := .none) (o := (atKey us2 kk).map (·.2)) .non rfl (fun y g => let ⟨z, b', w', e1, e2, e3⟩ := i1 y g; ⟨z, w', by rw [e1]; rfl, e2, e3⟩) (fun g => by rw [i2 g]; rfl)
        exact call_meetsIn PySem.F.slot_dict_get dd.typeIs PySem.F.entry_dict_get (PySem.F.args_dict_get_2 _ _) (meetsH_dict_get (tupleKind (mixKind X.prog X.w)) a b h1) ⟨tupleKind_room_in1 fit.u1, kk, us2, kis, dd, z, H, I.tok _, rz, q z rep⟩
    | cons d r =>
      cases r with
      | cons _ _ => simp [mthP] at e
      | nil =>
        simp only [mthP] at e
        split at e <;> cases e
        rename_i okk
        obtain ⟨yv, dv, rfl, ry, rd⟩ := qs.two
        obtain ⟨uy, du, rfl, ru, rdu⟩ := vals2 rv
        obtain ⟨h1, h5, hl', c⟩ := dict_of fit I hR ho r okk
        rcases c with ⟨kk, us2, hk, dd, ek, lu⟩ | ⟨kk, us2, hk, dd, ek, lu⟩
        · have kis : (mixKind X.prog X.w).is kk uy = true := by rw [keyOf_rel hk ry] at ru; exact kV_is ru
          obtain ⟨i1, i2⟩ := ek.look hk
          obtain ⟨z, rz, rep⟩ := pick (o := valueAt us2 kk) rd rdu (fun y g => let ⟨z, w', e1, e2, e3⟩ := i1 y g; ⟨z, w', e1, e2, e3⟩) i2
          exact call_meetsIn PySem.F.slot_dict_get dd.typeIs PySem.F.entry_dict_get (PySem.F.args_dict_get_3 _ _ _) (meets_dict_get_default (mixKind X.prog X.w) a kis h1 du) ⟨_, dd.mapOf, z, H, I.tok _, rz, q z rep⟩
        · obtain ⟨b, rfl, tb⟩ := tkey_of hk ry
          obtain rfl : uy = Value.ref b := ru
          have kis := TKey.at_ fit I hR tb
          rw [← fit.P, ← fit.w] at kis
          obtain ⟨i1, i2⟩ := ek.look hk
          obtain ⟨z, rz, rep⟩ := pick (o := (atKey us2 kk).map (·.2)) rd rdu (fun y g => let ⟨z, b', w', e1, e2, e3⟩ := i1 y g; ⟨z, w', by rw [e1]; rfl, e2, e3⟩) (fun g => by rw [i2 g]; rfl)
          exact call_meetsIn PySem.F.slot_dict_get dd.typeIs PySem.F.entry_dict_get (PySem.F.args_dict_get_3 _ _ _) (meetsH_dict_get_default (tupleKind (mixKind X.prog X.w)) a b h1 du) ⟨tupleKind_room_in1 fit.u1, kk, us2, kis, dd, z, H, I.tok _, rz, q z rep⟩
theorem se_mth (ok : XOk W G k C X) {m : Mth} {o es : ME} {eo e : Expr} {xs : List Expr} {name : Str} {apos pos : Pos} (hx : name = mname m) (hp : plainO eo = true) (hs : (e :: xs).all notStar = true) (hlen : (e :: xs).length < 30) (hline : (apos.endLine == pos.line) = true)
    (ho : PE X eo (tE W G k o)) (ha : PA X (e :: xs) (tL W G k es)) : PE X (.Call (.Attribute eo name apos) (e :: xs) [] pos) (tE W G k (.mth m o es)) := by
  have hs2 : notStar e = true ∧ xs.all notStar = true := by rw [List.all_cons, Bool.and_eq_true] at hs; exact hs
  refine ⟨fun pins s σ H Q I h => ?_⟩
  obtain ⟨F, ph, hp0, env, r, hp1, hR, hE, e0, q⟩ := h
  simp only [ev] at e0
  obtain ⟨p, e1, e0⟩ := bnd_some e0
  obtain ⟨p2, e2, e0⟩ := bndL_some e0
  obtain ⟨w, e3, e0⟩ := Option.map_eq_some_iff.mp e0
  cases e0
  refine wpAny_Call_method_late (attrBase_of hp _) (star_few hs hlen) hline rfl (thn (ho.run pins s σ H (fun x H1 => ∃ F1 ph1, Ext F ph H F1 ph1 H1 ∧ RelH W F1 ph1 p.2 H1 ∧ RelE W F1 ph1 env σ ∧ Rep W F1 ph1 p.1.2 x) I (tE_val hR hE e1 fun F1 ph1 x H1 x1 hR1 hE1 rx => ⟨F1, ph1, x1, hR1, hE1, rx⟩)) fun v s1 ⟨x, H1, I1, r1, F1, ph1, x1, hR1, hE1, rx⟩ => ?_)
  have hA := ha.run pos pins s1 σ H1 (fun ys H2 => ∃ F2 ph2, Ext F1 ph1 H1 F2 ph2 H2 ∧ RelH W F2 ph2 p2.2 H2 ∧ RepA W F2 ph2 p2.1 ys) I1 (tL_val hR1 hE1 e2 fun F2 ph2 ys H2 x2 hR2 hE2 ry => ⟨F2, ph2, x2, hR2, ry⟩)
  have pl : (false || (backTo pos (starEach xs X.env)).any (·.1)) = false := by rw [star_any hs2.2]; rfl
  rw [starEach_of hs2.1] at hA ⊢
  subst hx
  cases m with
  | index =>
    cases hv : p.1.2 with
    | lst zs =>
      rw [hv] at e3 rx
      obtain ⟨a, ws, rfl, _, ha2, ra⟩ := rx.lstAt hR1
      cases (show v = Value.ref a from r1)
      rw [← ok.fit.K] at ha2
      obtain ⟨its, rv, ⟨ob, n, g1, g2, g3, _⟩, _⟩ := I1.list ha2
      refine ⟨"list", "list.index", PySem.F.plainAttrs_list, PySem.F.slot_list_index, PySem.F.type_list_index, ⟨ob, g1, g2⟩, fun b hb => ?_, ?_⟩
      · cases hb; exact ⟨ob, g1, g3⟩
      refine Calls.callWith_builtin pl (Calls.evalArgs_plain (thn hA fun us s2 ⟨ys, H2, I2, r2, F2, ph2, x2, hR2, ry⟩ => ?_))
      refine index_lst ok.fit I2 (x := .ref a) rfl r2 hR2 (rx.ext x2) ry e3 ?_
      have hw : ∃ i, w = .int i := by
        revert e3
        cases p2.1 with
        | nil => intro e3; simp [mthP] at e3
        | cons y r =>
          cases r with
          | nil =>
            intro e3
            simp only [mthP] at e3
            split at e3
            · obtain ⟨j, _, rfl⟩ := Option.map_eq_some_iff.mp e3; exact ⟨_, rfl⟩
            · cases e3
          | cons _ _ => intro e3; simp [mthP] at e3
      obtain ⟨i, rfl⟩ := hw
      exact q.at_ (x1.trans x2) hR2 (.int i)
    | tup zs =>
      rw [hv] at e3 rx
      obtain ⟨a, ws, rfl, ha2, ra⟩ := rx.tupAt hR1
      cases (show v = Value.ref a from r1)
      have td := tup_dict ok.fit I1 hR1 rx
      refine ⟨"tuple", "tuple.index", PySem.F.plainAttrs_tuple, PySem.F.slot_tuple_index, PySem.F.type_tuple_index, td.1, td.2, ?_⟩
      refine Calls.callWith_builtin pl (Calls.evalArgs_plain (thn hA fun us s2 ⟨ys, H2, I2, r2, F2, ph2, x2, hR2, ry⟩ => ?_))
      exact index_tup ok.fit I2 (x := .ref a) rfl r2 hR2 (rx.ext x2) ry e3 fun y ry => q.at_ (x1.trans x2) hR2 ry
    | str z =>
      rw [hv] at e3 rx
      obtain ⟨rfl, _⟩ := rx.strV
      obtain ⟨t1, z1⟩ := (show ∃ t, v = Value.str z t from r1)
      subst z1
      refine ⟨"str", "str.index", PySem.F.plainAttrs_str, PySem.F.slot_str_index, PySem.F.type_str_index, typeIs_str _ _ _, (fun b hb => by cases hb), ?_⟩
      refine Calls.callWith_builtin pl (Calls.evalArgs_plain (thn hA fun us s2 ⟨ys, H2, I2, r2, F2, ph2, x2, hR2, ry⟩ => ?_))
      exact index_str ok.fit I2 (x := .str z) ⟨t1, rfl⟩ r2 (rx.ext x2) ry e3 fun y ry => q.at_ (x1.trans x2) hR2 ry
    | _ => rw [hv] at e3; simp [mthP] at e3
  | get =>
    cases hv : p.1.2 with
    | dct kvs =>
      rw [hv] at e3 rx
      obtain ⟨a, o', rfl, _, ho2, rr⟩ := rx.dctAt hR1
      cases (show v = Value.ref a from r1)
      cases rr with
      | @dct _ _ ob es ep h1 h2 h3 h4 h5 rr =>
        have g := obj_at I1 ho2
        refine ⟨"dict", "dict.get", PySem.F.plainAttrs_dict, PySem.F.slot_dict_get, PySem.F.type_dict_get, ⟨ob, g, h2.1⟩, fun b hb => ?_, ?_⟩
        · cases hb; exact ⟨ob, g, h2.2.1⟩
        refine Calls.callWith_builtin pl (Calls.evalArgs_plain (thn hA fun us s2 ⟨ys, H2, I2, r2, F2, ph2, x2, hR2, ry⟩ => ?_))
        exact get_dct ok.fit I2 (x := .ref a) rfl r2 hR2 (rx.ext x2) ry e3 fun y ry => q.at_ (x1.trans x2) hR2 ry
    | _ => rw [hv] at e3; simp [mthP] at e3
/-- a new shared object -/
theorem RelH.share {F H : Hp} {ph : List Addr} {hp : Hs} (h : RelH W F ph hp H) {a : Addr} {o : HO} {v : PV} (e : H a = some o) (n : F a = none) (ns : a ∉ ph) (r : ORep W F ph a v o) (cl : clean (true, v) = true) : RelH W F (ph ++ [a]) (hp ++ [v]) H := by
  have pre : ∀ (n : Nat) (b : Addr), ph[n]? = some b → (ph ++ [a])[n]? = some b := fun n b q => by
    rw [List.getElem?_append_left (List.getElem?_eq_some_iff.mp q).1]; exact q
  refine ⟨h.sub, by simp [h.len], List.nodup_append.mpr ⟨h.nd, by simp, fun x hx y hy z => ns (by simp at hy; subst hy; subst z; exact hx)⟩, fun i b u e1 e2 => ?_, fun i u e2 => ?_, h.td⟩
  · by_cases hi : i < ph.length
    · rw [List.getElem?_append_left hi] at e1
      rw [List.getElem?_append_left (by rw [← h.len]; exact hi)] at e2
      obtain ⟨f, q, e3, r3⟩ := h.sh i b u e1 e2
      exact ⟨f, q, e3, r3.mono (fun _ _ z => z) pre⟩
    · have hi2 : i = ph.length := by
        have := (List.getElem?_eq_some_iff.mp e1).1
        simp at this; omega
      subst hi2
      have e4 : b = a := by simpa using e1.symm
      have e5 : u = v := by rw [h.len] at e2; simpa using e2.symm
      subst e4 e5
      exact ⟨n, o, e, r.mono (fun _ _ z => z) pre⟩
  · by_cases hi : i < hp.length
    · rw [List.getElem?_append_left hi] at e2
      exact h.cl i u e2
    · have hi2 : i = hp.length := by
        have := (List.getElem?_eq_some_iff.mp e2).1
        simp at this; omega
      subst hi2
      have e5 : u = v := by simpa using e2.symm
      subst e5
      exact cl
theorem se_hp {m : ME} {e : Expr} (he : PE X e (tE W G k m)) : PE X e (tE W G k (.hp m)) := by
  refine PE_imp he ?_
  rintro σ H Q ⟨F, ph, hp, env, r, hp1, hR, hE, e, q⟩
  simp only [ev] at e
  obtain ⟨p, e1, e⟩ := Option.bind_eq_some_iff.mp e
  split at e
  · rename_i c
    cases e
    rw [Bool.and_eq_true] at c
    refine ⟨F, ph, hp, env, p.1, p.2, hR, hE, e1, fun F1 ph1 x H1 x1 hR1 r1 => ?_⟩
    unfold RRep at r1
    rw [if_pos c.1] at r1
    obtain ⟨a, o, rfl, n, ns, n0, ho, ro⟩ := r1
    have cl : clean (true, p.1.2) = true := by
      have := c.2
      have e2 : p.1 = (true, p.1.2) := by rw [← c.1]
      rw [e2] at this; exact this
    have hR2 := hR1.share ho n ns ro cl
    refine q F1 (ph1 ++ [a]) _ H1 ⟨x1.le, x1.new, fun i b z => ?_, fun b hb => ?_, x1.pres, x1.dom⟩ hR2 (RRep.of (.ref ?_))
    · have z2 := x1.pre i b z
      rw [List.getElem?_append_left (List.getElem?_eq_some_iff.mp z2).1]; exact z2
    · rcases List.mem_append.mp hb with z | z
      · exact x1.pnew b z
      · have : b = a := by simpa using z
        subst this; exact .inr n0
    · rw [← hR1.len]; simp
  · cases e
end
end MP
set_option maxRecDepth 100000
/-! MiniPy: what a for walks. -/
namespace MP
open PySem PySem.Spec PyProof.Rows L2
/-- J yields these, as long as what is frozen stands -/
def JOk (W : Wd) (F : Hp) (ph : List Addr) (xs : List PV) (J : It) : Prop :=
  ∀ (i : Nat) (F' : Hp) (ph' : List Addr) (hp' : Hs) (H' : Hp), (∀ a o, F a = some o → F' a = some o) → RelH W F' ph' hp' H' →
    (∀ x, xs[i]? = some x → J.go i H' ∧ ∀ y H2, J.yld i H' y H2 → H2 = H' ∧ Rep W F ph x y) ∧ (xs.length ≤ i → J.stop i H')
section
variable {W : Wd} {F : Hp} {ph : List Addr}
theorem jok_list {vs : List V} {xs : List PV} {a : Addr} (e : F a = some (.lst vs)) (r : RepA W F ph xs vs) : JOk W F ph xs (Itl W.K a) := by
  intro i F' ph' hp' H' le hR
  have sq : SqL W.K H' a vs := .inl (hR.sub _ _ (le _ _ e))
  refine ⟨fun x hx => ?_, fun hi => ⟨vs, sq, by rw [← r.length]; exact hi⟩⟩
  obtain ⟨v, hv, rv⟩ := r.get hx
  refine ⟨⟨vs, v, sq, hv⟩, fun y H2 hy => ⟨hy.1, ?_⟩⟩
  have := hy.2 vs sq
  rw [hv] at this
  cases this
  exact rv
theorem jok_tup {vs : List V} {xs : List PV} {a : Addr} (e : F a = some (.tup vs) ∨ KTup W.K a vs) (r : RepA W F ph xs vs) : JOk W F ph xs (Itt W.K a) := by
  intro i F' ph' hp' H' le hR
  have sq : SqT W.K H' a vs := e.elim (fun e => .inl (hR.sub _ _ (le _ _ e))) fun e => .inr e
  refine ⟨fun x hx => ?_, fun hi => ⟨vs, sq, by rw [← r.length]; exact hi⟩⟩
  obtain ⟨v, hv, rv⟩ := r.get hx
  refine ⟨⟨vs, v, sq, hv⟩, fun y H2 hy => ⟨hy.1, ?_⟩⟩
  have := hy.2 vs sq
  rw [hv] at this
  cases this
  exact rv
theorem jok_str {z : Str} (ok : PyData.strOk z = true) : JOk W F ph (z.cps.toList.map chr1) (Its z) := by
  intro i F' ph' hp' H' le hR
  refine ⟨fun x hx => ?_, fun hi => show z.cps.size ≤ i by simpa using hi⟩
  rw [List.getElem?_map, Option.map_eq_some_iff] at hx
  obtain ⟨c, hc, rfl⟩ := hx
  have hlt : i < z.cps.size := by have := (List.getElem?_eq_some_iff.mp hc).1; simpa using this
  refine ⟨hlt, fun y H2 hy => ⟨hy.1, ?_⟩⟩
  obtain ⟨d, hd, rfl⟩ := hy.2
  have : c = d := by
    rw [← Array.getElem?_toList, hc] at hd
    exact Option.some.inj hd
  subst this
  exact .str _ (strOk_one ok (List.mem_of_getElem? hc))
theorem jok_rng (lo : Int) (n : Nat) : JOk W F ph (upTo lo n) (Itr lo n) := by
  intro i F' ph' hp' H' le hR
  unfold upTo
  refine ⟨fun x hx => ?_, fun hi => show n ≤ i by simpa using hi⟩
  rw [List.getElem?_map, Option.map_eq_some_iff] at hx
  obtain ⟨c, hc, rfl⟩ := hx
  obtain ⟨hlt, e⟩ := List.getElem?_eq_some_iff.mp hc
  rw [List.getElem_range] at e
  subst e
  refine ⟨show i < n by simpa using hlt, fun y H2 hy => ⟨hy.1, ?_⟩⟩
  rw [hy.2]
  exact .int _
theorem jok_rrng (lo : Int) (n : Nat) : JOk W F ph (upTo lo n).reverse (Itc (lo + (n : Nat) - 1) (-1) n) := by
  intro i F' ph' hp' H' le hR
  refine ⟨fun x hx => ?_, fun hi => show n ≤ i by simpa [upTo] using hi⟩
  have hlt : i < n := by have := (List.getElem?_eq_some_iff.mp hx).1; simpa [upTo] using this
  refine ⟨hlt, fun y H2 hy => ⟨hy.1, ?_⟩⟩
  rw [List.getElem?_reverse (by simpa [upTo] using hlt)] at hx
  unfold upTo at hx
  rw [List.getElem?_map, Option.map_eq_some_iff] at hx
  obtain ⟨c, hc, rfl⟩ := hx
  obtain ⟨hlt2, e⟩ := List.getElem?_eq_some_iff.mp hc
  rw [List.getElem_range] at e
  subst e
  rw [hy.2]
  have e2 : lo + (n : Nat) - 1 + (i : Nat) * (-1) = lo + ((((List.range n).map fun (k : Nat) => PV.int (lo + k)).length - 1 - i : Nat) : Int) := by
    simp; omega
  rw [e2]
  exact .int _
/-- a dict's keys -/
def Itx (d : Addr) (ob : Obj) (es : Array DictEntry) : It :=
  ⟨fun i H => Rd H d (dctO d ob) ∧ i < es.size, fun i H x H' => H' = H ∧ ∃ en, es[i]? = some en ∧ RelV x en.key, fun i H => Rd H d (dctO d ob) ∧ es.size ≤ i⟩
theorem jok_keys {kvs : List (PV × PV)} {ob : Obj} {es : Array DictEntry} {d : Addr} (e : F d = some (dctO d ob)) (r : RepD W F ph kvs es.toList) (ok : (keysP kvs).all intKey = true) : JOk W F ph (keysP kvs) (Itx d ob es) := by
  intro i F' ph' hp' H' le hR
  have rd := hR.sub _ _ (le _ _ e)
  have hl : (keysP kvs).length = es.size := by unfold keysP; rw [List.length_map, r.length]; simp
  refine ⟨fun x hx => ?_, fun hi => ⟨rd, by rw [← hl]; exact hi⟩⟩
  obtain ⟨en, he, kr⟩ := r.get hx
  refine ⟨⟨rd, by rw [← hl]; exact (List.getElem?_eq_some_iff.mp hx).1⟩, fun y H2 hy => ⟨hy.1, ?_⟩⟩
  obtain ⟨en2, he2, ry⟩ := hy.2
  rw [← Array.getElem?_toList, he] at he2
  cases he2
  obtain ⟨y2, ry2, rep⟩ := key_rep (ph := ph) kr (List.all_eq_true.mp ok x (List.mem_of_getElem? hx))
  rw [ry.inj ry2]
  exact rep
theorem turn_keysX {P : Program} {w : World} {K : PySem.W.Frag} {tg : Expr} {d it : Addr} {o : Obj} {es : Array DictEntry} {ep : Nat} (hod : o.data = .dict es ep) (hk : ∀ (i : Nat) en, es[i]? = some en → ∃ y, RelV y en.key) :
    Turn P w K tg (Itx d o es) [it] it (fun i h => h.IsKeyIter it d i es.size ep) where
  mem := by simp
  obj := fun i h st b hb => by
    obtain rfl : b = it := by simpa using hb
    obtain ⟨oi, e, c, dd⟩ := st
    exact ⟨oi, e, fun v z => by rw [dd] at z; cases z⟩
  keep := fun i h h' st k => st.at fun oi e => k it (by simp) oi e
  item := by
    intro X hP hw hK hc i pins s σ H E I hf st hg
    subst hP hw hK
    obtain ⟨hd, hi⟩ := hg
    have hgd := obj_at I hd
    obtain ⟨f0, f1, f2, f3, f4, f5⟩ := hf it (by simp)
    have hen : es[i]? = some es[i] := Array.getElem?_eq_getElem hi
    obtain ⟨y, ry⟩ := hk i _ hen
    refine next_key_item st hgd hod rfl hen fun h' st' sb => ?_
    have I1 : Inv X pins σ H { s with heap := h' } := I.turned (t' := s.toks) (fun b ob hb e => (sb.2 b hb).trans e) f0 f1 f3 f4 f5
    obtain ⟨oi, e, c, dd⟩ := id st'
    exact ⟨es[i].key, rfl, go_of (s := { s with heap := h' }) e c dd (by decide) ⟨y, H, I1, ry, ⟨rfl, _, hen, ry⟩, st', fun b hb => (hf b hb).1⟩⟩
  done := by
    intro X hP hw hK hc i pins s σ H E I hf st hg
    subst hP hw hK
    obtain ⟨hd, hi⟩ := hg
    have hgd := obj_at I hd
    obtain ⟨f0, f1, f2, f3, f4, f5⟩ := hf it (by simp)
    exact next_key_end (I.ok.hd hc) st hgd hod rfl hi fun h' eb => ⟨rfl, I.turned (t' := s.toks) (fun b ob hb e => eb b ob hb e) f0 f1 f3 f4 f5⟩
  self := fun A i s Q E st h => wpAny_pyIter_keyiter st h
end
section
variable {W : Wd} {G : Gl} {k : Nat} {C : Cc} {X : Cx}
/-- what is walked: a reading -/
def iK (W : Wd) (G : Gl) (k : Nat) (ik : Ik) (m : ME) : TI := fun σ H R => ∃ F ph hp env xs hp1, RelH W F ph hp H ∧ RelE W F ph env σ ∧ wK ik (ev G.cst (callF G k) m env hp) (evL G.cst (callF G k) m env hp) = some (xs, hp1) ∧
  ∀ F' ph' H' J, Ext F ph H F' ph' H' → RelH W F' ph' hp1 H' → RelE W F' ph' env σ → JOk W F' ph' xs J → R J H'
/-- a value, walked -/
def iG (W : Wd) (te : TE) : TI := fun σ H R => te σ H fun x H1 => ∃ F ph hp v xs, RelH W F ph hp H1 ∧ Rep W F ph v x ∧ itemsP v = some xs ∧ ∀ J, JOk W F ph xs J → R J H1
theorem pi_valG (fit : Fit W X) {te : TE} {tg e : Expr} (he : PE X e te) : PI X tg e (iG W te) := by
  refine ⟨fun pins s σ H R I h => ?_⟩
  refine thn (he.run pins s σ H _ I h) fun v s1 ⟨x, H1, I1, r1, F1, ph1, hp1, pv, xs, hR1, rx, hy, q⟩ => ?_
  cases pv with
  | tup zs =>
    cases hy
    obtain ⟨a, vs, rfl, ha, ra⟩ := rx.tupAt hR1
    cases (show v = Value.ref a from r1)
    rw [← fit.K] at ha
    obtain ⟨its, rv, ht, hz⟩ := I1.tuple ha
    refine wpAny_pyIter_tuple (show s1.heap.IsTuple a its.toArray from ht) (pi_one (tk := s1.toks) I1 _ (turn_tuple a _) ⟨_, Heap.get?_push_size _ rfl, rfl, rfl⟩ (q _ ?_))
    rw [fit.K]
    cases rx with
    | tup ea qa => exact jok_tup (.inl ea) qa
    | ktup ea qa => exact jok_tup (.inr ea) qa
    | obj ea qa => cases qa
  | lst zs =>
    cases hy
    obtain ⟨a, vs, rfl, fa, ha, ra⟩ := rx.lstAt hR1
    cases (show v = Value.ref a from r1)
    rw [← fit.K] at ha
    obtain ⟨its, rv, ht, hz⟩ := I1.list ha
    refine wpAny_pyIter_list ht.isList (pi_one (tk := s1.toks) I1 _ (turn_list a _) ⟨_, Heap.get?_push_size _ rfl, rfl, rfl⟩ (q _ ?_))
    rw [fit.K]
    exact jok_list fa ra
  | str z =>
    cases hy
    obtain ⟨rfl, so⟩ := rx.strV
    obtain ⟨t, z1⟩ := (show ∃ t, v = Value.str z t from r1)
    subst z1
    cases ha : z.cps.all (· < 128)
    · exact wpAny_pyIter_wide ha (pi_one (tk := s1.toks) I1 _ (turn_str _ z t "str_iterator" (.inr rfl)) ⟨_, Heap.get?_push_size _ rfl, rfl, rfl⟩ (q _ (jok_str so)))
    · exact wpAny_pyIter_ascii ha (pi_one (tk := s1.toks) I1 _ (turn_str _ z t "str_ascii_iterator" (.inl rfl)) ⟨_, Heap.get?_push_size _ rfl, rfl, rfl⟩ (q _ (jok_str so)))
  | dct kvs =>
    simp only [itemsP] at hy
    split at hy
    rotate_left
    · cases hy
    rename_i ik
    cases hy
    obtain ⟨a, o, rfl, fa, ho, rr⟩ := rx.dctAt hR1
    cases (show v = Value.ref a from r1)
    cases rr with
    | @dct _ _ ob es ep h1 h2 h3 h4 h5 rr =>
      have g := obj_at I1 ho
      have J := jok_keys fa rr ik
      refine iter_keys h1 g h2 h3 (pi_one (tk := s1.toks) I1 _ (turn_keysX h3 fun i en he => ?_) ⟨_, Heap.get?_push_size _ rfl, rfl, rfl⟩ (q _ J))
      have hi : i < (keysP kvs).length := by
        unfold keysP
        rw [List.length_map, rr.length]
        have := (Array.getElem?_eq_some_iff.mp he).1
        simpa using this
      obtain ⟨en2, he2, kr⟩ := rr.get (List.getElem?_eq_getElem hi)
      rw [← Array.getElem?_toList, he2] at he
      cases he
      obtain ⟨y, ry, _⟩ := key_rep (ph := ph1) kr (List.all_eq_true.mp ik _ (List.getElem_mem hi))
      exact ⟨y, ry⟩
  | _ => simp [itemsP] at hy
theorem pi_val (ok : XOk W G k C X) {m : ME} {tg e : Expr} (he : PE X e (tE W G k m)) : PI X tg e (iK W G k .val m) := by
  refine PI_imp (pi_valG ok.fit he) ?_
  rintro σ H R ⟨F, ph, hp, env, xs, hp1, hR, hE, e0, q⟩
  simp only [wK] at e0
  obtain ⟨p, e1, e0⟩ := bnd_some e0
  obtain ⟨ys, hy, e0⟩ := Option.map_eq_some_iff.mp e0
  cases e0
  exact tE_val hR hE e1 fun F1 ph1 x H1 x1 hR1 hE1 rx => ⟨F1, ph1, _, _, _, hR1, rx, hy, fun J j => q F1 ph1 H1 J x1 hR1 hE1 j⟩
/-- a range walked: what it yields leans on nothing -/
def iR (W : Wd) (G : Gl) (k : Nat) (rev : Bool) (m : ME) : TI := fun σ H R => ∃ F ph hp env vs xs hp1, RelH W F ph hp H ∧ RelE W F ph env σ ∧ evL G.cst (callF G k) m env hp = some (vs, hp1) ∧ rngP vs = some xs ∧
  ∀ F' ph' H' J, Ext F ph H F' ph' H' → RelH W F' ph' hp1 H' → RelE W F' ph' env σ → (∀ F ph, JOk W F ph (if rev then xs.reverse else xs) J) → R J H'
theorem rng_cases {vs xs : List PV} (h : rngP vs = some xs) : (∃ j, vs = [.int j] ∧ okRng j = true ∧ xs = upTo 0 j.toNat) ∨ ∃ i j, vs = [.int i, .int j] ∧ okRng i = true ∧ okRng j = true ∧ xs = upTo i (j - i).toNat := by
  unfold rngP at h
  split at h
  · split at h <;> cases h
    rename_i j ok
    exact .inl ⟨j, rfl, ok, rfl⟩
  · split at h <;> cases h
    rename_i i j ok
    rw [Bool.and_eq_true] at ok
    exact .inr ⟨i, j, rfl, ok.1, ok.2, rfl⟩
  · cases h
theorem okRng_iff {i : Int} (h : okRng i = true) : -(2 ^ 62) ≤ i ∧ i < 2 ^ 62 := by simpa [okRng] using h
theorem pi_rng (ok : XOk W G k C X) {m : ME} {tg : Expr} {es : List Expr} {x : Str} {p pos : Pos} (hx : x = "range") (hg : isGlB C.sc x = true) (hs : es.all notStar = true) (hl : es.length = 1 ∨ es.length = 2) (hc : m.count = es.length) (ha : PA X es (tL W G k m)) :
    PI X tg (.Call (.Name x p) es [] pos) (iR W G k false m) := by
  obtain ⟨g1, g2⟩ := isGl_of ok hg
  subst hx
  have hm : X.mg "range" = none := ok.bt _ (by decide)
  refine ⟨fun pins s σ H R I h => ?_⟩
  obtain ⟨F, ph, hp, env, vs, xs, hp1, hR, hE, e1, hy, q⟩ := h
  have cnt := evL_count m e1
  rcases hl with hl | hl
  · obtain ⟨a, rfl⟩ : ∃ a, es = [a] := by
      cases es with
      | nil => simp at hl
      | cons a r => cases r with | nil => exact ⟨a, rfl⟩ | cons _ _ => simp at hl
    rcases rng_cases hy with ⟨j, e2, o1, rfl⟩ | ⟨i, j, e2, _⟩
    · refine (pi_range1 (tg := tg) g1 hm ha (star_map _ hs)).run pins s σ H R I (tL_val hR hE e1 fun F1 ph1 xs H1 x1 hR1 hE1 rx => ?_)
      rw [e2] at rx
      obtain ⟨v, rfl, r1⟩ := rx.one
      cases r1.intV
      obtain ⟨b1, b2⟩ := okRng_iff o1
      exact ⟨j, rfl, b1, b2, q F1 ph1 H1 _ x1 hR1 hE1 fun _ _ => jok_rng 0 _⟩
    · rw [e2] at cnt; simp at cnt; simp at hc; omega
  · obtain ⟨a, b, rfl⟩ : ∃ a b, es = [a, b] := by
      cases es with
      | nil => simp at hl
      | cons a r => cases r with
        | nil => simp at hl
        | cons b r => cases r with | nil => exact ⟨a, b, rfl⟩ | cons _ _ => simp at hl
    rcases rng_cases hy with ⟨j, e2, o1, _⟩ | ⟨i, j, e2, o1, o2, rfl⟩
    · rw [e2] at cnt; simp at cnt; simp at hc; omega
    · have hs2 : [b].all notStar = true := by simp at hs; simp [hs.2]
      refine (pi_range2 (tg := tg) g1 hm ha (star_map _ hs) (star_map _ hs2)).run pins s σ H R I (tL_val hR hE e1 fun F1 ph1 xs H1 x1 hR1 hE1 rx => ?_)
      rw [e2] at rx
      obtain ⟨v, u, rfl, r1, r2⟩ := rx.two
      cases r1.intV; cases r2.intV
      obtain ⟨b1, b2⟩ := okRng_iff o1
      obtain ⟨b3, b4⟩ := okRng_iff o2
      exact ⟨i, j, rfl, ⟨b1, b2, b3, b4⟩, q F1 ph1 H1 _ x1 hR1 hE1 fun _ _ => jok_rng i _⟩
/-- a range itself, to be walked from behind -/
theorem prg_any (ok : XOk W G k C X) {m : ME} {es : List Expr} {x : Str} {p pos : Pos} (hx : x = "range") (hg : isGlB C.sc x = true) (hs : es.all notStar = true) (hl : es.length = 1 ∨ es.length = 2) (hc : m.count = es.length) (ha : PA X es (tL W G k m)) :
    PRg X (.Call (.Name x p) es [] pos) fun σ H Q => ∃ F ph hp env vs hp1, RelH W F ph hp H ∧ RelE W F ph env σ ∧ evL G.cst (callF G k) m env hp = some (vs, hp1) ∧ (∃ xs, rngP vs = some xs) ∧
      ∀ F' ph' H' a b, Ext F ph H F' ph' H' → RelH W F' ph' hp1 H' → RelE W F' ph' env σ → okRng a = true → okRng b = true → rngP vs = some (upTo a (b - a).toNat) → Q a b H' := by
  obtain ⟨g1, g2⟩ := isGl_of ok hg
  subst hx
  have hm : X.mg "range" = none := ok.bt _ (by decide)
  intro pins s σ H Q I ⟨F, ph, hp, env, vs, hp1, hR, hE, e1, ⟨xs, hy⟩, q⟩
  have cnt := evL_count m e1
  rcases hl with hl | hl
  · obtain ⟨a, rfl⟩ : ∃ a, es = [a] := by
      cases es with
      | nil => simp at hl
      | cons a r => cases r with | nil => exact ⟨a, rfl⟩ | cons _ _ => simp at hl
    rcases rng_cases hy with ⟨j, e2, o1, rfl⟩ | ⟨i, j, e2, _⟩
    · refine Call_ (ld_blt I g1 hm boot_range (PyProof.Rows.callWith_type1 (thn (ha.run pos pins s σ H (fun ys H1 => ∃ F1 ph1, Ext F ph H F1 ph1 H1 ∧ RelH W F1 ph1 hp1 H1 ∧ RelE W F1 ph1 env σ ∧ RepA W F1 ph1 vs ys) I (tL_val hR hE e1 fun F1 ph1 xs H1 x1 hR1 hE1 rx => ⟨F1, ph1, x1, hR1, hE1, rx⟩)) fun us s1 ⟨ys, H1, I1, r1, F1, ph1, x1, hR1, hE1, rx⟩ => ?_) (star_map _ hs) rfl))
      rw [e2] at rx
      obtain ⟨v, rfl, r2⟩ := rx.one
      cases r2.intV
      obtain ⟨u, rfl, ru⟩ := vals1 r1
      obtain ⟨t, rfl⟩ := ru
      exact call_range_1 ⟨_, 0, j, _, _, _, H1, rfl, IsRange.new _ _ _ _ _ _ _, I1.kept fun b u e => Heap.get?_push_of_some _ e, q F1 ph1 H1 0 j x1 hR1 hE1 (by decide) o1 (by rw [hy]; simp)⟩
    · rw [e2] at cnt; simp at cnt; simp at hc; omega
  · obtain ⟨a, b, rfl⟩ : ∃ a b, es = [a, b] := by
      cases es with
      | nil => simp at hl
      | cons a r => cases r with
        | nil => simp at hl
        | cons b r => cases r with | nil => exact ⟨a, b, rfl⟩ | cons _ _ => simp at hl
    rcases rng_cases hy with ⟨j, e2, o1, _⟩ | ⟨i, j, e2, o1, o2, rfl⟩
    · rw [e2] at cnt; simp at cnt; simp at hc; omega
    · have hs2 : [b].all notStar = true := by simp at hs; simp [hs.2]
      refine Call_ (ld_blt I g1 hm boot_range (PyProof.Rows.callWith_type1 (thn (ha.run pos pins s σ H (fun ys H1 => ∃ F1 ph1, Ext F ph H F1 ph1 H1 ∧ RelH W F1 ph1 hp1 H1 ∧ RelE W F1 ph1 env σ ∧ RepA W F1 ph1 vs ys) I (tL_val hR hE e1 fun F1 ph1 xs H1 x1 hR1 hE1 rx => ⟨F1, ph1, x1, hR1, hE1, rx⟩)) fun us s1 ⟨ys, H1, I1, r1, F1, ph1, x1, hR1, hE1, rx⟩ => ?_) (by rw [star_map _ hs, star_map _ hs2]; rfl) (by rw [star_map _ hs2]; rfl)))
      rw [e2] at rx
      obtain ⟨v, u, rfl, r2, r3⟩ := rx.two
      cases r2.intV; cases r3.intV
      obtain ⟨u1, u2, rfl, ru1, ru2⟩ := vals2 r1
      obtain ⟨t1, rfl⟩ := ru1
      obtain ⟨t2, rfl⟩ := ru2
      exact call_range_2 ⟨_, i, j, _, _, _, H1, rfl, IsRange.new _ _ _ _ _ _ _, I1.kept fun b u e => Heap.get?_push_of_some _ e, q F1 ph1 H1 i j x1 hR1 hE1 o1 o2 hy⟩
theorem pi_rrng (ok : XOk W G k C X) {m : ME} {tg : Expr} {es : List Expr} {x y : Str} {p p2 pos pos2 : Pos} (hx : x = "range") (hy : y = "reversed") (hg : isGlB C.sc x = true) (hg2 : isGlB C.sc y = true) (hs : es.all notStar = true) (hl : es.length = 1 ∨ es.length = 2) (hc : m.count = es.length) (ha : PA X es (tL W G k m)) :
    PI X tg (.Call (.Name y p2) [.Call (.Name x p) es [] pos] [] pos2) (iR W G k true m) := by
  obtain ⟨g1, g2⟩ := isGl_of ok hg2
  subst hy
  refine PI_imp (pi_revR g1 (ok.bt _ (by decide)) (prg_any (p := p) (pos := pos) ok hx hg hs hl hc ha) rfl) ?_
  rintro σ H R ⟨F, ph, hp, env, vs, ys, hp1, hR, hE, e1, hy, q⟩
  refine ⟨F, ph, hp, env, vs, hp1, hR, hE, e1, ⟨ys, hy⟩, fun F1 ph1 H1 a b x1 hR1 hE1 o1 o2 ey => ?_⟩
  obtain ⟨b1, b2⟩ := okRng_iff o1
  obtain ⟨b3, b4⟩ := okRng_iff o2
  refine ⟨b1, b2, b3, b4, q F1 ph1 H1 _ x1 hR1 hE1 fun _ _ => ?_⟩
  rw [hy] at ey
  cases ey
  exact jok_rrng a _
theorem iR_K {m : ME} {σ : L2.St} {H : Hp} {R : It → Hp → Prop} : (iK W G k .rng m σ H R → iR W G k false m σ H R) ∧ (iK W G k .rrng m σ H R → iR W G k true m σ H R) := by
  constructor
  all_goals
    rintro ⟨F, ph, hp, env, xs, hp1, hR, hE, e0, q⟩
    simp only [wK] at e0
    obtain ⟨p, e1, e0⟩ := bndL_some e0
    obtain ⟨ys, hy, e0⟩ := Option.map_eq_some_iff.mp e0
    cases e0
    exact ⟨F, ph, hp, env, _, _, _, hR, hE, e1, hy, fun F1 ph1 H1 J x1 hR1 hE1 j => q F1 ph1 H1 J x1 hR1 hE1 (j F1 ph1)⟩
end
end MP
set_option maxRecDepth 100000
/-! MiniPy: targets; list comprehensions. -/
namespace MP
open PySem PySem.Spec PyProof.Rows L2
mutual
def chkT (C : Cc) : Tg → Expr → Bool
  | .nm i, e => match e with
    | .Name x _ => decide (C.N[i]? = some x) && locB C x
    | _ => false
  | .tp ts, e => match e with
    | .Tuple es _ _ => chkTs C ts es
    | _ => false
  | .nil, _ => false
  | .cons _ _, _ => false
def chkTs (C : Cc) : Tg → List Expr → Bool
  | .nil, es => es.isEmpty
  | .cons t ts, es => match es with
    | e :: es => notStar e && chkT C t e && chkTs C ts es
    | [] => false
  | .nm _, _ => false
  | .tp _, _ => false
end
/-- a store, by values -/
def gT (W : Wd) (t : Tg) : TG := fun x σ H Q => ∃ F ph hp env v env1, RelH W F ph hp H ∧ RelE W F ph env σ ∧ Rep W F ph v x ∧ setTg t v env = some env1 ∧
  ∀ σ1, RelE W F ph env1 σ1 → σ1.length = σ.length → (∀ j, j ∉ t.slots → σ1[j]? = σ[j]?) → Q σ1 H
def gTs (W : Wd) (t : Tg) : TGs := fun xs σ H Q => ∃ F ph hp env vs env1, RelH W F ph hp H ∧ RelE W F ph env σ ∧ RepA W F ph vs xs ∧ setTgs t vs env = some env1 ∧
  ∀ σ1, RelE W F ph env1 σ1 → σ1.length = σ.length → (∀ j, j ∉ t.slots → σ1[j]? = σ[j]?) → Q σ1 H
theorem PG_imp {X : Cx} {tg : Expr} {t t' : TG} (h : PG X tg t) (i : ∀ x σ H Q, t' x σ H Q → t x σ H Q) : PG X tg t' := ⟨fun pins s σ H v u Q I r q => h.run pins s σ H v u Q I r (i v σ H Q q)⟩
theorem PGs_imp {X : Cx} {tg : List Expr} {t t' : TGs} (h : PGs X tg t) (i : ∀ x σ H Q, t' x σ H Q → t x σ H Q) : PGs X tg t' := ⟨fun pins s σ H v u Q I r q => h.run pins s σ H v u Q I r (i v σ H Q q)⟩
theorem RelE.set {W : Wd} {F : Hp} {ph : List Addr} {env : Env} {σ : L2.St} {i : Nat} {v : PV} {x : V} (h : RelE W F ph env σ) (r : Rep W F ph v x) : RelE W F ph (env.set i (some v)) (σ.set i (some x)) := by
  refine ⟨by rw [List.length_set, List.length_set]; exact h.len, fun j u e => ?_⟩
  by_cases hj : i = j
  · subst hj
    by_cases hl : i < env.length
    · rw [List.getElem?_set_self hl] at e
      cases e
      exact ⟨x, by rw [List.getElem?_set_self (by rw [← h.len]; exact hl)], r⟩
    · rw [List.getElem?_eq_none (by rw [List.length_set]; omega)] at e; cases e
  · rw [List.getElem?_set_ne hj] at e ⊢
    exact h.at_ j u e
theorem assignEach_of {e : Expr} (h : notStar e = true) (es : List Expr) (env : PySem.Env) : assignEach (e :: es) env = (false, assign e env) :: assignEach es env := by
  cases e <;> first | rfl | (simp [notStar] at h)
theorem assignEach_len (env : PySem.Env) : ∀ {es : List Expr}, es.all notStar = true → (assignEach es env).length = es.length ∧ (assignEach es env).findIdx? (·.1) = none
  | [], _ => ⟨rfl, rfl⟩
  | e :: es, h => by
    rw [List.all_cons, Bool.and_eq_true] at h
    obtain ⟨h1, h2⟩ := assignEach_len env h.2
    rw [assignEach_of h.1]
    refine ⟨by rw [List.length_cons, List.length_cons, h1], ?_⟩
    rw [List.findIdx?_cons, if_neg (by simp), h2]; rfl
theorem chkTs_star {C : Cc} : ∀ {t : Tg} {es : List Expr}, chkTs C t es = true → es.all notStar = true
  | .nil, es, h => by
    simp only [chkTs, List.isEmpty_iff] at h
    subst h; rfl
  | .cons t ts, es, h => by
    cases es with
    | nil => simp [chkTs] at h
    | cons e es =>
      simp only [chkTs, Bool.and_eq_true] at h
      rw [List.all_cons, h.1.1, chkTs_star h.2]; rfl
  | .nm _, _, h => by simp [chkTs] at h
  | .tp _, _, h => by simp [chkTs] at h
theorem setTgs_len : ∀ {t : Tg} {vs : List PV} {env env1 : Env}, setTgs t vs env = some env1 → vs.length = t.len
  | .nil, vs, env, env1, h => by
    cases vs with
    | nil => rfl
    | cons _ _ => simp [setTgs] at h
  | .cons t ts, vs, env, env1, h => by
    cases vs with
    | nil => simp [setTgs] at h
    | cons v vs =>
      simp only [setTgs, Option.bind_eq_some_iff] at h
      obtain ⟨e, _, h⟩ := h
      rw [List.length_cons, setTgs_len h]; rfl
  | .nm _, _, _, _, h => by simp [setTgs] at h
  | .tp _, _, _, _, h => by simp [setTgs] at h
theorem chkTs_len {C : Cc} : ∀ {t : Tg} {es : List Expr}, chkTs C t es = true → es.length = t.len
  | .nil, es, h => by
    simp only [chkTs, List.isEmpty_iff] at h
    subst h; rfl
  | .cons t ts, es, h => by
    cases es with
    | nil => simp [chkTs] at h
    | cons e es =>
      simp only [chkTs, Bool.and_eq_true] at h
      rw [List.length_cons, chkTs_len h.2]; rfl
  | .nm _, _, h => by simp [chkTs] at h
  | .tp _, _, h => by simp [chkTs] at h
section
variable {W : Wd} {G : Gl} {k : Nat} {C : Cc} {X : Cx}
theorem sg_any (ok : XOk W G k C X) : ∀ (t : Tg), (∀ e, chkT C t e = true → PG X e (gT W t)) ∧ (∀ es, chkTs C t es = true → PGs X es (gTs W t)) := by
  intro t
  induction t with
  | nm i =>
    refine ⟨fun e h => ?_, fun es h => by simp [chkTs] at h⟩
    cases e <;> simp [chkT] at h
    rename_i x pos
    obtain ⟨l1, l2⟩ := loc_of ok h.2
    refine PG_imp (pg_name (i := i) (by rw [ok.N]; exact ok.nd) (by rw [ok.N]; exact h.1) l1 l2) ?_
    rintro y σ H Q ⟨F, ph, hp, env, v, env1, hR, hE, r, e, q⟩
    simp only [setTg] at e
    cases e
    refine q _ (hE.set r) (by simp) fun j hj => ?_
    rw [List.getElem?_set_ne]
    intro z
    exact hj (by simp [Tg.slots, z])
  | tp ts ih =>
    refine ⟨fun e h => ?_, fun es h => by simp [chkTs] at h⟩
    cases e <;> simp [chkT] at h
    rename_i es n pos
    obtain ⟨a1, a2⟩ := assignEach_len X.env (chkTs_star h)
    refine PG_imp (pg_tup (n := es.length) ok.fit.calm (ih.2 es h) a1 a2) ?_
    rintro y σ H Q ⟨F, ph, hp, env, v, env1, hR, hE, r, e, q⟩
    simp only [setTg, Option.bind_eq_some_iff] at e
    obtain ⟨xs, hx, e⟩ := e
    cases v <;> simp [seqP] at hx
    subst hx
    obtain ⟨a, vs, rfl, ha, ra⟩ := r.tupAt hR
    rw [← ok.fit.K] at ha
    exact ⟨a, vs, rfl, ha, by rw [← ra.length, setTgs_len e, chkTs_len h], F, ph, hp, env, _, env1, hR, hE, ra, e, q⟩
  | nil =>
    refine ⟨fun e h => by simp [chkT] at h, fun es h => ?_⟩
    simp only [chkTs, List.isEmpty_iff] at h
    subst h
    refine PGs_imp pgs_nil ?_
    rintro xs σ H Q ⟨F, ph, hp, env, vs, env1, hR, hE, r, e, q⟩
    cases vs with
    | nil =>
      simp only [setTgs] at e
      cases e
      cases r
      exact ⟨rfl, q σ hE rfl fun _ _ => rfl⟩
    | cons _ _ => simp [setTgs] at e
  | cons t ts iht ihs =>
    refine ⟨fun e h => by simp [chkT] at h, fun es h => ?_⟩
    cases es with
    | nil => simp [chkTs] at h
    | cons e es =>
      simp only [chkTs, Bool.and_eq_true] at h
      refine PGs_imp (pgs_cons (iht.1 e h.1.2) (ihs.2 es h.2) (by rw [assignEach_of h.1.1]; rfl)) ?_
      rintro xs σ H Q ⟨F, ph, hp, env, vs, env1, hR, hE, r, e, q⟩
      cases vs with
      | nil => simp [setTgs] at e
      | cons v vs =>
        simp only [setTgs, Option.bind_eq_some_iff] at e
        obtain ⟨env2, e1, e2⟩ := e
        cases r with
        | cons r rs =>
          refine ⟨_, _, rfl, F, ph, hp, env, v, env2, hR, hE, r, e1, fun σ1 hE1 l1 j1 => ?_⟩
          refine ⟨F, ph, hp, env2, vs, env1, hR, hE1, rs, e2, fun σ2 hE2 l2 j2 => ?_⟩
          refine q σ2 hE2 (l2.trans l1) fun j hj => ?_
          simp only [Tg.slots, List.mem_append, not_or] at hj
          rw [j2 j hj.2, j1 j hj.1]
/-! ### blocks -/
def Cc.blk (C : Cc) (scope : Scope) : Cc := { C with sc := relS scope C.sc, cell := fun x => decide (scope.names.lookup x = some .cell) }
theorem XOk.blk (ok : XOk W G k C X) {scope : Scope} (hk : scope.kind = .function) (s : Shared) (H : Hp) (c : Addr) (cl : List (Str × Addr)) (fp : List Addr) : XOk W G k (C.blk scope) (X.blk s H scope (compEnvC scope cl c X.env) fp) where
  fit := ⟨ok.fit.P, ok.fit.w, ok.fit.K, ok.fit.un, ok.fit.calm, ok.fit.kd⟩
  room := ok.room
  N := ok.N
  nd := ok.nd
  sc := by
    show relS scope X.env.scope = relS scope C.sc
    rw [ok.sc]
  cell := fun x h => by
    have h : decide (scope.names.lookup x = some .cell) = true := h
    show (scope.names.lookup x == some .cell) = true
    rw [of_decide_eq_true h]; rfl
  kind := hk
  cst := ok.cst
  fnv := ok.fnv
  bt := ok.bt
  call := ok.call
theorem wipe_get {σ : L2.St} {j : Nat} : ∀ {vs : List Nat}, j ∈ vs → j < σ.length → (wipe σ vs)[j]? = some none
  | [], h, _ => by simp at h
  | v :: vs, h, hl => by
    unfold wipe
    by_cases hv : v = j
    · subst hv
      rw [List.getElem?_set_self (by rw [wipe_length]; exact hl)]
    · rw [List.getElem?_set_ne hv]
      exact wipe_get ((List.mem_cons.mp h).elim (fun z => absurd z.symm hv) id) hl
theorem wipe_out {σ : L2.St} {j : Nat} : ∀ {vs : List Nat}, j ∉ vs → (wipe σ vs)[j]? = σ[j]?
  | [], _ => rfl
  | v :: vs, h => by
    unfold wipe
    have hv : v ≠ j := fun z => h (by simp [z])
    rw [List.getElem?_set_ne hv]
    exact wipe_out fun z => h (List.mem_cons_of_mem _ z)
theorem wipe_congr {a b : L2.St} {vs : List Nat} (hl : a.length = b.length) (h : ∀ j, j ∉ vs → a[j]? = b[j]?) : wipe a vs = wipe b vs := by
  apply List.ext_getElem?
  intro j
  by_cases hj : j ∈ vs
  · by_cases hb : j < a.length
    · rw [wipe_get hj hb, wipe_get hj (by rw [← hl]; exact hb)]
    · rw [List.getElem?_eq_none (by rw [wipe_length]; omega), List.getElem?_eq_none (by rw [wipe_length]; omega)]
  · rw [wipe_out hj, wipe_out hj, h j hj]
theorem wipeE_len (env : Env) : ∀ vs : List Nat, (wipeE env vs).length = env.length
  | [] => rfl
  | v :: vs => by unfold wipeE; rw [List.length_set, wipeE_len env vs]
theorem wipeE_some {env : Env} {i : Nat} {x : PV} : ∀ {vs : List Nat}, (wipeE env vs)[i]? = some (some x) → env[i]? = some (some x) ∧ i ∉ vs
  | [], h => ⟨h, by simp⟩
  | v :: vs, h => by
    unfold wipeE at h
    by_cases hi : v = i
    · subst hi
      by_cases hv : v < (wipeE env vs).length
      · rw [List.getElem?_set_self hv] at h; cases h
      · rw [List.getElem?_eq_none (by simpa using hv)] at h; cases h
    · rw [List.getElem?_set_ne hi] at h
      obtain ⟨h1, h2⟩ := wipeE_some h
      exact ⟨h1, by simp only [List.mem_cons, not_or]; exact ⟨fun e => hi e.symm, h2⟩⟩
theorem RelE.wipe {F : Hp} {ph : List Addr} {env : Env} {σ : L2.St} (h : RelE W F ph env σ) (vs : List Nat) : RelE W F ph (wipeE env vs) (L2.wipe σ vs) := by
  refine ⟨by rw [wipeE_len, wipe_length]; exact h.len, fun i v e => ?_⟩
  obtain ⟨e1, e2⟩ := wipeE_some e
  rw [wipe_out e2]
  exact h.at_ i v e1
/-! ### an own object is changed -/
theorem RelH.put {F H : Hp} {ph : List Addr} {hp : Hs} (h : RelH W F ph hp H) {D : Addr} {o : HO} (n : F D = none) (ns : D ∉ ph) : RelH W F ph hp (upd H D o) := by
  refine ⟨fun a q e => ?_, h.len, h.nd, fun i a v e1 e2 => ?_, h.cl, fun a vs e => ?_⟩
  rotate_left 2
  · have ne : a ≠ D := fun z => by rw [z, n] at e; cases e
    rw [upd_ne ne]; exact h.td a vs e
  · have ne : a ≠ D := fun z => by rw [z, n] at e; cases e
    rcases h.sub a q e with e | ⟨b, e⟩
    · exact .inl (by rw [upd_ne ne]; exact e)
    · exact .inr ⟨b, by rw [upd_ne ne]; exact e⟩
  · obtain ⟨f, q, e3, r⟩ := h.sh i a v e1 e2
    have ne : a ≠ D := fun z => ns (z ▸ List.mem_of_getElem? e1)
    exact ⟨f, q, by rw [upd_ne ne]; exact e3, r⟩
theorem Ext.put {F H F' H' : Hp} {ph ph' : List Addr} (e : Ext F ph H F' ph' H') {D : Addr} {o : HO} (n : H D = none) : Ext F ph H F' ph' (upd H' D o) := by
  refine ⟨e.le, e.new, e.pre, e.pnew, fun a q h hn => ?_, fun a h => ?_⟩
  · have ne : a ≠ D := fun z => by rw [z, n] at h; cases h
    rw [upd_ne ne]; exact e.pres a q h hn
  · by_cases z : a = D
    · subst z; rw [upd_same]; simp
    · rw [upd_ne z]; exact e.dom a h
/-- an own object stays own -/
theorem own_stays {F H F' H' : Hp} {ph ph' : List Addr} (e : Ext F ph H F' ph' H') {D : Addr} {o : HO} (h : H D = some o) (n : F D = none) (ns : D ∉ ph) : H' D = some o ∧ F' D = none ∧ D ∉ ph' := by
  refine ⟨e.pres D o h ns, Classical.byContradiction fun z => ?_, fun z => ?_⟩
  · rcases e.new D z with z | z
    · exact z n
    · rw [h] at z; cases z
  · rcases e.pnew D z with z | z
    · exact ns z
    · rw [h] at z; cases z
end
end MP
set_option maxRecDepth 100000
/-! MiniPy: list comprehensions. -/
namespace MP
open PySem PySem.Spec PyProof.Rows L2
section
variable {W : Wd} {G : Gl} {k : Nat} {C : Cc} {X : Cx}
abbrev gE (G : Gl) (k : Nat) := ev G.cst (callF G k)
abbrev gL (G : Gl) (k : Nat) := evL G.cst (callF G k)
/-- what one item adds -/
def lcF (G : Gl) (k : Nat) (elt c : ME) (t : Tg) (env : Env) (x : PV) (hp : Hs) : Option (List PV × Hs) :=
  (setTg t x (wipeE env t.slots)).bind fun env1 => bndB (gE G k c env1 hp) fun b hp1 => if b = true then one (gE G k elt env1 hp1) else some ([], hp1)
theorem lcE_cons {f : PV → Hs → Option (List PV × Hs)} {x : PV} {xs : List PV} {hp hp1 : Hs} {tot : List PV} (h : lcE f (x :: xs) hp = some (tot, hp1)) : ∃ ys hp2 zs, f x hp = some (ys, hp2) ∧ lcE f xs hp2 = some (zs, hp1) ∧ tot = ys ++ zs := by
  simp only [lcE] at h
  obtain ⟨p, e1, h⟩ := bndL_some h
  obtain ⟨p2, e2, h⟩ := bndL_some h
  cases h
  exact ⟨p.1, p.2, p2.1, e1, e2, rfl⟩
theorem one_some {r : Option (Rv × Hs)} {y : List PV × Hs} (h : one r = some y) : ∃ p, r = some p ∧ y = ([p.1.2], p.2) := by
  obtain ⟨p, e, h⟩ := bnd_some h
  cases h
  exact ⟨p, e, rfl⟩
theorem mk_some {own : Bool} {c : List PV → PV} {r : Option (List PV × Hs)} {y : Rv × Hs} (h : mk own c r = some y) : ∃ p, r = some p ∧ p.1.length ≤ LINE ∧ y = ((own, c p.1), p.2) := by
  obtain ⟨p, e, h⟩ := bndL_some h
  split at h <;> cases h
  exact ⟨p, e, by assumption, rfl⟩
theorem lc_step {elt c it : ME} {t : Tg} {ik : Ik} {σ : L2.St} {H : Hp} {Q : VK} (h : tE W G k (.lc elt t ik it c) σ H Q) : tLc (iK W G k ik it) (gT W t) (tB (tE W G k c)) (tE W G k elt) t.slots σ H Q := by
  obtain ⟨F, ph, hp, env, r, hp1, hR, hE, e, q⟩ := h
  simp only [ev] at e
  obtain ⟨px, e1, e⟩ := bndL_some e
  obtain ⟨pt, e2, hlen, e⟩ := mk_some e
  cases e
  refine ⟨F, ph, hp, env, px.1, px.2, hR, hE, e1, fun F1 ph1 H1 J x1 hR1 hE1 jok => ?_⟩
  intro D hD
  obtain ⟨nD, fD⟩ := shared_not_new hR1 hD
  have hDH : H D = none := Classical.byContradiction fun z => x1.dom D z hD
  refine ⟨fun i m H' => m = px.1.length - i ∧ i ≤ px.1.length ∧ ∃ F' ph' hp' acc accV rest, Ext F1 ph1 H1 F' ph' H' ∧ RelH W F' ph' hp' H' ∧ H' D = some (.lst accV) ∧ F' D = none ∧ D ∉ ph' ∧ RepA W F' ph' acc accV ∧
    lcE (lcF G k elt c t env) (px.1.drop i) hp' = some (rest, pt.2) ∧ acc ++ rest = pt.1, ⟨px.1.length, by simp, Nat.zero_le _, F1, ph1, px.2, [], [], pt.1, ?_, ?_, upd_same, fD, nD, .nil, by rw [List.drop_zero]; exact e2, rfl⟩, ?_⟩
  · exact (hR1.laid (o := .lst []) hD).2
  · exact (hR1.laid (o := .lst []) hD).1
  rintro i m H' ⟨rfl, hi, F', ph', hp', acc, accV, rest, x2, hR2, hDl, fD2, nD2, racc, erest, etot⟩
  obtain ⟨jk1, jk2⟩ := jok i F' ph' hp' H' x2.le hR2
  by_cases hlt : i < px.1.length
  · refine .inr ?_
    have hx : px.1[i]? = some px.1[i] := List.getElem?_eq_getElem hlt
    obtain ⟨go, yl⟩ := jk1 _ hx
    rw [List.drop_eq_getElem_cons hlt] at erest
    obtain ⟨ys, hp2, zs, f1, f2, rfl⟩ := lcE_cons erest
    refine ⟨go, fun H'' => ∃ m', m' < px.1.length - i ∧ m' = px.1.length - (i + 1) ∧ i + 1 ≤ px.1.length ∧ ∃ F' ph' hp' acc accV rest, Ext F1 ph1 H1 F' ph' H'' ∧ RelH W F' ph' hp' H'' ∧ H'' D = some (.lst accV) ∧ F' D = none ∧ D ∉ ph' ∧ RepA W F' ph' acc accV ∧
      lcE (lcF G k elt c t env) (px.1.drop (i + 1)) hp' = some (rest, pt.2) ∧ acc ++ rest = pt.1, fun H'' h => ?_, fun y H'' hy => ?_⟩
    · obtain ⟨m', a, b⟩ := h
      exact ⟨m', a, b⟩
    obtain ⟨rfl, ry⟩ := yl y H'' hy
    unfold lcF at f1
    obtain ⟨env1, s1, f1⟩ := Option.bind_eq_some_iff.mp f1
    obtain ⟨pc, b, ec, eb, f1⟩ := bndB_some f1
    refine ⟨F', ph', hp', wipeE env t.slots, px.1[i], env1, hR2, (hE1.ext x2).wipe _, ry.ext x2, s1, fun σ2 hE2 hl hj => ⟨?_, ?_⟩⟩
    · rw [wipe_congr hl fun j hn => hj j hn]
      exact wipe_congr (wipe_length _ _) fun j hn => wipe_out hn
    refine tE_val hR2 hE2 ec fun F3 ph3 x3 H3 e3 hR3 hE3 rx3 => ?_
    rw [eb] at rx3
    cases rx3.blV
    refine ⟨b, rfl, ?_⟩
    obtain ⟨d3, f3, n3⟩ := own_stays e3 hDl fD2 nD2
    cases b with
    | false =>
      rw [if_neg (by simp)] at f1 ⊢
      cases f1
      exact ⟨_, by omega, rfl, hlt, F3, ph3, _, acc, accV, zs, x2.trans e3, hR3, d3, f3, n3, racc.ext e3, f2, etot⟩
    | true =>
      rw [if_pos rfl] at f1 ⊢
      obtain ⟨pe, ee, f1⟩ := one_some f1
      cases f1
      refine tE_val hR3 hE3 ee fun F4 ph4 y4 H4 e4 hR4 hE4 ry4 => ?_
      obtain ⟨d4, f4, n4⟩ := own_stays e4 d3 f3 n3
      have hal : accV.length < sizeLine := by
        have h1 := racc.length
        have h2 := congrArg List.length etot
        simp only [List.length_append, List.length_cons] at h2
        have h3 : pt.1.length ≤ sizeLine := hlen
        omega
      refine ⟨accV, d4, hal, _, by omega, rfl, hlt, F4, ph4, _, acc ++ [pe.1.2], accV ++ [y4], zs, ((x2.trans e3).trans e4).put hD, hR4.put f4 n4, upd_same, f4, n4, ((racc.ext e3).ext e4).append (.cons ry4 .nil), f2, ?_⟩
      rw [← etot]; simp
  · refine .inl ⟨jk2 (by omega), ?_⟩
    have hi2 : i = px.1.length := by omega
    subst hi2
    rw [List.drop_length] at erest
    cases erest
    rw [List.append_nil] at etot
    subst etot
    exact q F' ph' _ H' (x1.trans x2) hR2 (RRep.own fD2 nD2 hDH hDl (.lst racc))
/-- what one item of the outer walk adds -/
def lcF2 (G : Gl) (k : Nat) (elt c : ME) (t : Tg) (k1 : Ik) (it1 : ME) (t1 : Tg) (c1 : ME) (env : Env) (x : PV) (hp : Hs) : Option (List PV × Hs) :=
  (setTg t x (wipeE env (t.slots ++ t1.slots))).bind fun env1 => bndB (gE G k c env1 hp) fun b hp1 => if b = true then bndL (wK k1 (gE G k it1 env1 hp1) (gL G k it1 env1 hp1)) fun xs1 hp2 => lcE (lcF G k elt c1 t1 env1) xs1 hp2 else some ([], hp1)
theorem lc2_step {elt c it c1 it1 : ME} {t t1 : Tg} {ik k1 : Ik} {σ : L2.St} {H : Hp} {Q : VK} (h : tE W G k (.lc2 elt t ik it c t1 k1 it1 c1) σ H Q) :
    tLc2 (iK W G k ik it) (gT W t) (tB (tE W G k c)) (iK W G k k1 it1) (gT W t1) (tB (tE W G k c1)) (tE W G k elt) (t.slots ++ t1.slots) t1.slots σ H Q := by
  obtain ⟨F, ph, hp, env, r, hp1, hR, hE, e, q⟩ := h
  simp only [ev] at e
  obtain ⟨px, e1, e⟩ := bndL_some e
  obtain ⟨pt, e2, hlen, e⟩ := mk_some e
  cases e
  refine ⟨F, ph, hp, env, px.1, px.2, hR, hE, e1, fun F1 ph1 H1 J x1 hR1 hE1 jok => ?_⟩
  intro D hD
  obtain ⟨nD, fD⟩ := shared_not_new hR1 hD
  have hDH : H D = none := Classical.byContradiction fun z => x1.dom D z hD
  refine ⟨fun i m H' => m = px.1.length - i ∧ i ≤ px.1.length ∧ ∃ F' ph' hp' acc accV rest, Ext F1 ph1 H1 F' ph' H' ∧ RelH W F' ph' hp' H' ∧ H' D = some (.lst accV) ∧ F' D = none ∧ D ∉ ph' ∧ RepA W F' ph' acc accV ∧
    lcE (lcF2 G k elt c t k1 it1 t1 c1 env) (px.1.drop i) hp' = some (rest, pt.2) ∧ acc ++ rest = pt.1, ⟨px.1.length, by simp, Nat.zero_le _, F1, ph1, px.2, [], [], pt.1, ?_, ?_, upd_same, fD, nD, .nil, by rw [List.drop_zero]; exact e2, rfl⟩, ?_⟩
  · exact (hR1.laid (o := .lst []) hD).2
  · exact (hR1.laid (o := .lst []) hD).1
  rintro i m H' ⟨rfl, hi, F', ph', hp', acc, accV, rest, x2, hR2, hDl, fD2, nD2, racc, erest, etot⟩
  obtain ⟨jk1, jk2⟩ := jok i F' ph' hp' H' x2.le hR2
  by_cases hlt : i < px.1.length
  · refine .inr ?_
    have hx : px.1[i]? = some px.1[i] := List.getElem?_eq_getElem hlt
    obtain ⟨go, yl⟩ := jk1 _ hx
    rw [List.drop_eq_getElem_cons hlt] at erest
    obtain ⟨ys, hp2, zs, f1, f2, rfl⟩ := lcE_cons erest
    refine ⟨go, fun H'' => ∃ m', m' < px.1.length - i ∧ m' = px.1.length - (i + 1) ∧ i + 1 ≤ px.1.length ∧ ∃ F' ph' hp' acc accV rest, Ext F1 ph1 H1 F' ph' H'' ∧ RelH W F' ph' hp' H'' ∧ H'' D = some (.lst accV) ∧ F' D = none ∧ D ∉ ph' ∧ RepA W F' ph' acc accV ∧
      lcE (lcF2 G k elt c t k1 it1 t1 c1 env) (px.1.drop (i + 1)) hp' = some (rest, pt.2) ∧ acc ++ rest = pt.1, fun H'' h => ?_, fun y H'' hy => ?_⟩
    · obtain ⟨m', a, b⟩ := h
      exact ⟨m', a, b⟩
    obtain ⟨rfl, ry⟩ := yl y H'' hy
    unfold lcF2 at f1
    obtain ⟨env1, s1, f1⟩ := Option.bind_eq_some_iff.mp f1
    obtain ⟨pc, b, ec, eb, f1⟩ := bndB_some f1
    refine ⟨F', ph', hp', wipeE env (t.slots ++ t1.slots), px.1[i], env1, hR2, (hE1.ext x2).wipe _, ry.ext x2, s1, fun σ2 hE2 hl hj => ⟨?_, ?_⟩⟩
    · rw [wipe_congr hl fun j hn => hj j fun z => hn (List.mem_append_left _ z)]
      exact wipe_congr (wipe_length _ _) fun j hn => wipe_out hn
    refine tE_val hR2 hE2 ec fun F3 ph3 x3 H3 e3 hR3 hE3 rx3 => ?_
    rw [eb] at rx3
    cases rx3.blV
    refine ⟨b, rfl, ?_⟩
    obtain ⟨d3, f3, n3⟩ := own_stays e3 hDl fD2 nD2
    cases b with
    | false =>
      rw [if_neg (by simp)] at f1 ⊢
      cases f1
      exact ⟨_, by omega, rfl, hlt, F3, ph3, _, acc, accV, zs, x2.trans e3, hR3, d3, f3, n3, racc.ext e3, f2, etot⟩
    | true =>
      rw [if_pos rfl] at f1 ⊢
      obtain ⟨pi, ei, f1⟩ := bndL_some f1
      refine ⟨F3, ph3, _, env1, pi.1, pi.2, hR3, hE3, ei, fun F4 ph4 H4 J1 e4 hR4 hE4 jok1 => ?_⟩
      obtain ⟨d4, f4, n4⟩ := own_stays e4 d3 f3 n3
      refine ⟨fun j m H' => m = pi.1.length - j ∧ j ≤ pi.1.length ∧ ∃ F' ph' hp' acc2 accV2 rest2, Ext F1 ph1 H1 F' ph' H' ∧ (∀ a o, F4 a = some o → F' a = some o) ∧ (∀ (n : Nat) (a : Addr), ph4[n]? = some a → ph'[n]? = some a) ∧ RelH W F' ph' hp' H' ∧ H' D = some (.lst accV2) ∧ F' D = none ∧ D ∉ ph' ∧ RepA W F' ph' acc2 accV2 ∧
        lcE (lcF G k elt c1 t1 env1) (pi.1.drop j) hp' = some (rest2, hp2) ∧ acc2 ++ (rest2 ++ zs) = pt.1, ⟨pi.1.length, by simp, Nat.zero_le _, F4, ph4, pi.2, acc, accV, ys, (x2.trans e3).trans e4, fun _ _ z => z, fun _ _ z => z, hR4, d4, f4, n4, (racc.ext e3).ext e4, by rw [List.drop_zero]; exact f1, etot⟩, ?_⟩
      rintro j m H5 ⟨rfl, hj, F5, ph5, hp5, acc2, accV2, rest2, x5, le5, pre5, hR5, d5, f5, n5, racc2, erest2, etot2⟩
      obtain ⟨kk1, kk2⟩ := jok1 j F5 ph5 hp5 H5 le5 hR5
      by_cases hlt2 : j < pi.1.length
      · refine .inr ?_
        have hx2 : pi.1[j]? = some pi.1[j] := List.getElem?_eq_getElem hlt2
        obtain ⟨go2, yl2⟩ := kk1 _ hx2
        rw [List.drop_eq_getElem_cons hlt2] at erest2
        obtain ⟨ys2, hp6, zs2, g1, g2, rfl⟩ := lcE_cons erest2
        refine ⟨go2, fun H'' => ∃ m', m' < pi.1.length - j ∧ m' = pi.1.length - (j + 1) ∧ j + 1 ≤ pi.1.length ∧ ∃ F' ph' hp' acc2 accV2 rest2, Ext F1 ph1 H1 F' ph' H'' ∧ (∀ a o, F4 a = some o → F' a = some o) ∧ (∀ (n : Nat) (a : Addr), ph4[n]? = some a → ph'[n]? = some a) ∧ RelH W F' ph' hp' H'' ∧ H'' D = some (.lst accV2) ∧ F' D = none ∧ D ∉ ph' ∧ RepA W F' ph' acc2 accV2 ∧
          lcE (lcF G k elt c1 t1 env1) (pi.1.drop (j + 1)) hp' = some (rest2, hp2) ∧ acc2 ++ (rest2 ++ zs) = pt.1, fun H'' h => ?_, fun y2 H'' hy2 => ?_⟩
        · obtain ⟨m', a, b⟩ := h
          exact ⟨m', a, b⟩
        obtain ⟨rfl, ry2⟩ := yl2 y2 H'' hy2
        unfold lcF at g1
        obtain ⟨env2, s2, g1⟩ := Option.bind_eq_some_iff.mp g1
        obtain ⟨pc2, b2, ec2, eb2, g1⟩ := bndB_some g1
        have hE5 : RelE W F5 ph5 env1 σ2 := ⟨hE4.len, fun i v h => let ⟨x, h1, h2⟩ := hE4.at_ i v h; ⟨x, h1, h2.mono le5 pre5⟩⟩
        refine ⟨F5, ph5, hp5, wipeE env1 t1.slots, pi.1[j], env2, hR5, hE5.wipe _, ry2.mono le5 pre5, s2, fun σ3 hE6 hl6 hj6 => ⟨?_, ?_⟩⟩
        · rw [wipe_congr hl6 fun j hn => hj6 j hn]
          exact wipe_congr (wipe_length _ _) fun j hn => wipe_out hn
        refine tE_val hR5 hE6 ec2 fun F7 ph7 x7 H7 e7 hR7 hE7 rx7 => ?_
        rw [eb2] at rx7
        cases rx7.blV
        refine ⟨b2, rfl, ?_⟩
        obtain ⟨d7, f7, n7⟩ := own_stays e7 d5 f5 n5
        cases b2 with
        | false =>
          rw [if_neg (by simp)] at g1 ⊢
          cases g1
          exact ⟨_, by omega, rfl, hlt2, F7, ph7, _, acc2, accV2, zs2, x5.trans e7, fun a o z => e7.le a o (le5 a o z), fun n a z => e7.pre n a (pre5 n a z), hR7, d7, f7, n7, racc2.ext e7, g2, etot2⟩
        | true =>
          rw [if_pos rfl] at g1 ⊢
          obtain ⟨pe, ee, g1⟩ := one_some g1
          cases g1
          refine tE_val hR7 hE7 ee fun F8 ph8 y8 H8 e8 hR8 hE8 ry8 => ?_
          obtain ⟨d8, f8, n8⟩ := own_stays e8 d7 f7 n7
          have hal : accV2.length < sizeLine := by
            have h1 := racc2.length
            have h2 := congrArg List.length etot2
            simp only [List.length_append, List.length_cons] at h2
            have h3 : pt.1.length ≤ sizeLine := hlen
            omega
          refine ⟨accV2, d8, hal, _, by omega, rfl, hlt2, F8, ph8, _, acc2 ++ [pe.1.2], accV2 ++ [y8], zs2, ((x5.trans e7).trans e8).put hD, fun a o z => e8.le a o (e7.le a o (le5 a o z)), fun n a z => e8.pre n a (e7.pre n a (pre5 n a z)), hR8.put f8 n8, upd_same, f8, n8, ((racc2.ext e7).ext e8).append (.cons ry8 .nil), g2, ?_⟩
          rw [← etot2]; simp
      · refine .inl ⟨kk2 (by omega), ?_⟩
        have hj2 : j = pi.1.length := by omega
        subst hj2
        rw [List.drop_length] at erest2
        cases erest2
        exact ⟨_, by omega, rfl, hlt, F5, ph5, _, acc2, accV2, zs, x5, hR5, d5, f5, n5, racc2, f2, by simpa using etot2⟩
  · refine .inl ⟨jk2 (by omega), ?_⟩
    have hi2 : i = px.1.length := by omega
    subst hi2
    rw [List.drop_length] at erest
    cases erest
    rw [List.append_nil] at etot
    subst etot
    exact q F' ph' _ H' (x1.trans x2) hR2 (RRep.own fD2 nD2 hDH hDl (.lst racc))
end
end MP
set_option maxRecDepth 100000
/-! MiniPy: the check of an expression, and its soundness. -/
namespace MP
open PySem PySem.Spec PyProof.Rows L2
def ownOf (C : Cc) (vs : List Nat) : List (Str × Nat) := vs.map fun i => (C.N.getD i "", i)
/-- what is walked: f checks a value's expression, g a list of arguments -/
def itB (C : Cc) (ik : Ik) (n : Nat) (f : Expr → Bool) (g : List Expr → Bool) (e : Expr) : Bool := !isSet e && (match ik with
  | .val => f e
  | .rng => (match e with
    | .Call (.Name x _) es [] _ => decide (x = "range") && isGlB C.sc x && es.all notStar && decide (es.length = 1 ∨ es.length = 2) && decide (n = es.length) && g es
    | _ => false)
  | .rrng => (match e with
    | .Call (.Name y _) [.Call (.Name x _) es [] _] [] _ => decide (x = "range") && decide (y = "reversed") && isGlB C.sc x && isGlB C.sc y && es.all notStar && decide (es.length = 1 ∨ es.length = 2) && decide (n = es.length) && g es
    | _ => false))
def ME.isTrue : ME → Bool
  | .bl true => true
  | _ => false
mutual
def chk (G : Gl) : ME → Cc → Expr → Bool
  | .var i, C, e => match e with
    | .Name x _ => decide (C.N[i]? = some x) && visB C.sc x && !(x == ("__debug__" : Str)) && !(x == ("__classdict__" : Str))
    | _ => false
  | .glb g, C, e => match e with
    | .Name x _ => decide (C.gl g = some x) && isGlB C.sc x
    | _ => false
  | .fnv f, C, e => match e with
    | .Name x _ => decide (C.fn f = some x) && isGlB C.sc x
    | _ => false
  | .non, _, e => match e with
    | .Constant .none _ _ => true
    | _ => false
  | .bl b, _, e => match e with
    | .Constant (.bool c) _ _ => decide (b = c)
    | _ => false
  | .int i, _, e => match e with
    | .Constant (.int j) _ _ => decide (i = j)
    | _ => false
  | .str s, _, e => match e with
    | .Constant (.str t) _ _ => decide (s = t) && PyData.strOk t
    | _ => false
  | .nil, _, _ => false
  | .cons _ _, _, _ => false
  | .tup es, C, e => match e with
    | .Tuple xs _ _ => chkL G es C xs
    | _ => false
  | .lst es, C, e => match e with
    | .List xs _ => chkL G es C xs
    | _ => false
  | .edct, _, e => match e with
    | .Dict [] [] _ => true
    | _ => false
  | .dsp a b, C, e => match e with
    | .Dict [some x] [y] _ => chk G a C x && chk G b C y
    | _ => false
  | .bin op a b, C, e => match e with
    | .BinOp x o y _ => decide (o = opOf op) && chk G a C x && chk G b C y
    | _ => false
  | .neg a, C, e => match e with
    | .UnaryOp .USub x _ => chk G a C x
    | _ => false
  | .not a, C, e => match e with
    | .UnaryOp .Not x _ => chk G a C x
    | _ => false
  | .and a b, C, e => match e with
    | .BoolOp .And (x :: y :: r) pos => chk G a C x && (if r.isEmpty then chk G b C y else chk G b C (.BoolOp .And (y :: r) pos))
    | _ => false
  | .or a b, C, e => match e with
    | .BoolOp .Or (x :: y :: r) pos => chk G a C x && (if r.isEmpty then chk G b C y else chk G b C (.BoolOp .Or (y :: r) pos))
    | _ => false
  | .cmp op a b, C, e => match e with
    | .Compare x [o] [y] _ => decide (o = cmpOf op) && !behindInMarks (cmpOf op) y && chk G a C x && chk G b C y
    | _ => false
  | .chn op op' a b c, C, e => match e with
    | .Compare x [o, o'] [y, z] _ => decide (o = cmpOf op) && decide (o' = cmpOf op') && !lastMarks [cmpOf op, cmpOf op'] [y, z] && chk G a C x && chk G b C y && chk G c C z
    | _ => false
  | .ife c a b, C, e => match e with
    | .IfExp x y z _ => chk G c C x && chk G a C y && chk G b C z
    | _ => false
  | .call f es, C, e => match e with
    | .Call (.Name x _) xs [] _ => decide (C.fn f = some x) && isGlB C.sc x && xs.all notStar && chkL G es C xs && (match G.fns f with
      | some fd => decide (es.count + (fd.dfl.length - (fd.dfl.length - (fd.np - es.count))) = fd.np)
      | none => false)
    | _ => false
  | .bcl f es, C, e => match e with
    | .Call (.Name x _) (y :: xs) [] _ => decide (x = bname f) && isGlB C.sc x && (y :: xs).all notStar && chkL G es C (y :: xs)
    | _ => false
  | .isi a t, C, e => match e with
    | .Call (.Name x _) [y, .Name z _] [] _ => decide (x = "isinstance") && decide (z = tyname t) && isGlB C.sc x && isGlB C.sc z && notStar y && chk G a C y
    | _ => false
  | .mth m o es, C, e => match e with
    | .Call (.Attribute y name apos) (x :: xs) [] pos => decide (name = mname m) && plainO y && (x :: xs).all notStar && decide ((x :: xs).length < 30) && (apos.endLine == pos.line) && chk G o C y && chkL G es C (x :: xs)
    | _ => false
  | .idx a i, C, e => match e with
    | .Subscript x y _ => noSl y && chk G a C x && chk G i C y
    | _ => false
  | .slc a lo hi, C, e => match e with
    | .Subscript x (.Slice l h none _) _ => chk G a C x && (match l with | none => lo.isNil | some y => !lo.isNil && chk G lo C y) && (match h with | none => hi.isNil | some y => !hi.isNil && chk G hi C y)
    | _ => false
  | .rev a, C, e => match e with
    | .Subscript x (.Slice none none (some (.UnaryOp .USub (.Constant (.int 1) _ _) _)) _) _ => chk G a C x
    | _ => false
  | .lc elt t k it c, C, e => match e with
    | .ListComp x [⟨tg, i, ifs, 0⟩] scope _ => chkT (C.blk scope) t tg && blkC C.N C.sc scope (ownOf C t.slots) && itB C k it.count (chk G it C) (chkL G it C) i &&
        (match ifs with | [] => c.isTrue | [y] => chk G c (C.blk scope) y | _ => false) && chk G elt (C.blk scope) x
    | _ => false
  | .lc2 elt t k it c t1 k1 it1 c1, C, e => match e with
    | .ListComp x [⟨tg, i, ifs, 0⟩, ⟨tg1, i1, ifs1, 0⟩] scope _ => chkT (C.blk scope) t tg && blkC C.N C.sc scope (ownOf C (t.slots ++ t1.slots)) && itB C k it.count (chk G it C) (chkL G it C) i &&
        (match ifs with | [] => c.isTrue | [y] => chk G c (C.blk scope) y | _ => false) && chkT (C.blk scope) t1 tg1 && itB (C.blk scope) k1 it1.count (chk G it1 (C.blk scope)) (chkL G it1 (C.blk scope)) i1 &&
        (match ifs1 with | [] => c1.isTrue | [y] => chk G c1 (C.blk scope) y | _ => false) && chk G elt (C.blk scope) x
    | _ => false
  | .hp a, C, e => chk G a C e && plainT e
def chkL (G : Gl) : ME → Cc → List Expr → Bool
  | .nil, _, es => es.isEmpty
  | .cons a b, C, es => match es with
    | e :: es => notStar e && chk G a C e && chkL G b C es
    | [] => false
  | _, _, _ => false
end
end MP
set_option maxRecDepth 100000
namespace MP
open PySem PySem.Spec PyProof.Rows L2
section
variable {W : Wd} {G : Gl} {k : Nat} {C : Cc} {X : Cx}
theorem foldS_of {e : Expr} (h : isSet e = false) (env : PySem.Env) (x : Value) : foldedSetIterable e env x = pure x := by
  cases e <;> first | rfl | (simp [isSet] at h)
/-- the display of one pair, its dict by its entries -/
theorem dict_one {K : Type} [DecidableEq K] {prog : Program} {w : World} {knd : HeapKind prog w K} {A : Around} {E : Value → Shared → Prop} {s : Shared} {env : PySem.Env} {ea eb : Expr} {pos : Pos} {Q : Value → Shared → Prop} (hu : knd.room A)
    (h : wpAny (model prog w) A (evalPairs (pairTrees [some ea] [eb] env pos)) (fun vs s₁ => ∃ ps, CarriesH knd s₁.heap vs ps ∧ s₁.heap.DictOfH knd s.heap.objs.size [] ∧
      ∀ h' tk, h'.DictOfH knd s.heap.objs.size (storedAllH [] ps) → Heap.SameBut s.heap.objs.size s₁.heap h' → Q (.ref s.heap.objs.size) { s₁ with heap := h', toks := tk }) E
      { s with heap := s.heap.push { cls := .type "dict", data := .dict #[] } }) :
    wpAny (model prog w) A (eval (.Dict [some ea] [eb] pos) env) Q E s := by
  rw [arm_eval_Dict, zip_pairTrees [some ea] [eb] env pos rfl rfl, dictDisplay_pairs (pairTrees [some ea] [eb] env pos) (by simp [pairTrees]) (by simp [pairTrees])]
  exact wpAny_bind (wpAny_standAt (wpAny_bind (wpAny_subDictH (knd := knd) (Q := fun d s' => wpAny (model prog w) A (pure (Value.ref d)) Q E s') hu (by simp [pairTrees])
    (wpAny_mono h (fun vs s₁ h₁ => by obtain ⟨ps, hc, hm, hq⟩ := h₁; exact ⟨ps, hc, hm, fun h' tk a b => wpAny_pure (hq h' tk a b)⟩) fun _ _ e => e))))
/-- {k: v} -/
theorem se_dsp (ok : XOk W G k C X) {a b : ME} {ea eb : Expr} {pos : Pos} (ha : PE X ea (tE W G k a)) (hb : PE X eb (tE W G k b)) : PE X (.Dict [some ea] [eb] pos) (tE W G k (.dsp a b)) := by
  refine ⟨fun pins s σ H Q I h => ?_⟩
  obtain ⟨F, ph, hp, env, r, hp1, hR, hE, e, q⟩ := h
  simp only [ev] at e
  obtain ⟨p, e1, e⟩ := bnd_some e
  obtain ⟨p2, e2, e⟩ := bnd_some e
  split at e
  rotate_left
  · cases e
  rename_i ky0
  cases e
  have hD : H s.heap.objs.size = none := I.fresh
  have big : (s.heap.objs.size == sysModules) = false := beq_eq_false_iff_ne.mpr (Ne.symm (Nat.ne_of_lt I.big))
  have g0 : (s.heap.push { cls := .type "dict", data := .dict #[] }).get? s.heap.objs.size = some { cls := .type "dict", data := .dict #[] } := Heap.get?_push_size _ rfl
  generalize hDn : s.heap.objs.size = D at hD big g0
  generalize hob : ({ cls := .type "dict", data := .dict #[] } : Obj) = ob at g0
  have exob : ob.ExactDict := by subst hob; exact ⟨rfl, rfl, rfl⟩
  have dtob : ob.data = .dict #[] 0 := by subst hob; rfl
  have I0 : Inv X pins σ (upd H D (dctO D ob)) { s with heap := s.heap.push ob } := by
    refine I.laid (t' := s.toks) (fun _ _ q => Heap.get?_push_of_some _ q) (Nat.le_of_eq hDn) (ext_ok ?_)
    exact g0
  obtain ⟨nD, fD⟩ := shared_not_new hR hD
  obtain ⟨hR0, x0⟩ := hR.laid (o := dctO D ob) hD
  rcases Bool.or_eq_true_iff.mp ky0 with ky | ky
  · obtain ⟨kk, hk⟩ := isKey_some ky
    refine wpAny_Dict_walk (knd := mixKind X.prog X.w) rfl rfl (by simp) (by simp) ?_
    rw [hDn, hob]
    refine pairTrees_cons_walk (thn (ha.run pins _ σ _ (fun x H1 => ∃ F1 ph1, Ext F ph (upd H D (dctO D ob)) F1 ph1 H1 ∧ RelH W F1 ph1 p.2 H1 ∧ RelE W F1 ph1 env σ ∧ Rep W F1 ph1 p.1.2 x) I0
      (tE_val hR0 (hE.ext x0) e1 fun F1 ph1 x H1 x1 hR1 hE1 rx => ⟨F1, ph1, x1, hR1, hE1, rx⟩)) fun u s1 ⟨x, H1, I1, ru, F1, ph1, x1, hR1, hE1, rx⟩ => ?_)
    refine thn (hb.run pins s1 σ H1 (fun y H2 => ∃ F2 ph2, Ext F1 ph1 H1 F2 ph2 H2 ∧ RelH W F2 ph2 p2.2 H2 ∧ Rep W F2 ph2 p2.1.2 y) I1 (tE_val hR1 hE1 e2 fun F2 ph2 y H2 x2 hR2 hE2 ry => ⟨F2, ph2, x2, hR2, ry⟩)) fun v s2 ⟨y, H2, I2, rv, F2, ph2, x2, hR2, ry⟩ => ?_
    obtain ⟨d1, f1, n1⟩ := own_stays x1 upd_same fD nD
    obtain ⟨d2, f2, n2⟩ := own_stays x2 d1 f1 n1
    have g2 := obj_at I2 (Rd.of d2)
    have rx2 := rx.ext x2
    have kis : (mixKind X.prog X.w).is kk u = true := by rw [keyOf_rel hk rx2] at ru; exact kV_is ru
    refine pairTrees_nil_walk ⟨[(kk, v)], ⟨kis, rfl, trivial⟩, ⟨ob, #[], 0, g2, exob, dtob, fun en hm => by simp at hm, .nil, List.nodup_nil⟩, fun h' dd sb => ?_⟩
    have dd : h'.DictOf (mixKind X.prog X.w) D [(kk, v)] := dd
    obtain ⟨o', es', ep', g', x', dt', ko', pr', nd'⟩ := dd
    rw [ok.fit.P, ok.fit.w] at ko' pr'
    have ek : EK W F2 ph2 [(p.1.2, p2.1.2)] [(kk, v)] := by
      have := EK.put (kvs := []) (us := []) hk ry rv .nil List.nodup_nil
      exact this
    have back := ek.back pr' fun en hm => ko' en (by simpa using hm)
    have hb2 : ((ph2 : List Addr), F2) = (ph2, F2) := rfl
    refine ⟨.ref D, upd H2 D (dctO D o'), d_write I2 (by rw [d2]; trivial) sb ⟨o', g'⟩ (ext_ok g'), rfl, ?_⟩
    have x12 : Ext F ph H F2 ph2 H2 := (x0.trans x1).trans x2
    refine q F2 ph2 _ _ (x12.put hD) (hR2.put f2 n2) (RRep.own f2 n2 hD upd_same (.dct big x' dt' ?_ (by simp) back))
    have l2 := back.length
    have : es'.size = 1 := by rw [← Array.length_toList, ← l2]; rfl
    rw [this, sizeLine_eq]; decide
  · obtain ⟨kk, hk⟩ := isTKey_some ky
    refine dict_one (knd := tupleKind (mixKind X.prog X.w)) (show X.A.units < cLine by have := ok.fit.un; omega) ?_
    rw [hDn, hob]
    refine pairTrees_cons_walk (thn (ha.run pins _ σ _ (fun x H1 => ∃ F1 ph1, Ext F ph (upd H D (dctO D ob)) F1 ph1 H1 ∧ RelH W F1 ph1 p.2 H1 ∧ RelE W F1 ph1 env σ ∧ Rep W F1 ph1 p.1.2 x) I0
      (tE_val hR0 (hE.ext x0) e1 fun F1 ph1 x H1 x1 hR1 hE1 rx => ⟨F1, ph1, x1, hR1, hE1, rx⟩)) fun u s1 ⟨x, H1, I1, ru, F1, ph1, x1, hR1, hE1, rx⟩ => ?_)
    refine thn (hb.run pins s1 σ H1 (fun y H2 => ∃ F2 ph2, Ext F1 ph1 H1 F2 ph2 H2 ∧ RelH W F2 ph2 p2.2 H2 ∧ Rep W F2 ph2 p2.1.2 y) I1 (tE_val hR1 hE1 e2 fun F2 ph2 y H2 x2 hR2 hE2 ry => ⟨F2, ph2, x2, hR2, ry⟩)) fun v s2 ⟨y, H2, I2, rv, F2, ph2, x2, hR2, ry⟩ => ?_
    obtain ⟨d1, f1, n1⟩ := own_stays x1 upd_same fD nD
    obtain ⟨d2, f2, n2⟩ := own_stays x2 d1 f1 n1
    have g2 := obj_at I2 (Rd.of d2)
    have rx2 := rx.ext x2
    obtain ⟨b, rfl, tb⟩ := tkey_of hk rx2
    obtain rfl : u = Value.ref b := ru
    have kis := TKey.at_ ok.fit I2 hR2 tb
    rw [← ok.fit.P, ← ok.fit.w] at kis
    refine pairTrees_nil_walk ⟨[(kk, b, v)], ⟨rfl, rfl, kis, trivial⟩, ⟨ob, #[], 0, g2, exob, dtob, rfl, fun x hm => by simp at hm, List.nodup_nil⟩, fun h' tk dd sb => ?_⟩
    obtain ⟨o', es', ep', g', x', dt', pr', _, nd'⟩ := dd
    rw [ok.fit.P, ok.fit.w] at pr'
    have ek : ET W F2 ph2 [(p.1.2, p2.1.2)] [(kk, b, v)] := .cons hk tb ry rv .nil
    have back := ek.back
    have e0 : storedAllH [] [(kk, b, v)] = [(kk, b, v)] := rfl
    rw [e0] at pr'
    rw [← pr'] at back
    refine ⟨.ref D, upd H2 D (dctO D o'), d_write (t' := tk) I2 (by rw [d2]; trivial) sb ⟨o', g'⟩ (ext_ok g'), rfl, ?_⟩
    have x12 : Ext F ph H F2 ph2 H2 := (x0.trans x1).trans x2
    refine q F2 ph2 _ _ (x12.put hD) (hR2.put f2 n2) (RRep.own f2 n2 hD upd_same (.dct big x' dt' ?_ (by simp) back))
    have l2 := back.length
    have : es'.size = 1 := by rw [← Array.length_toList, ← l2]; rfl
    rw [this, sizeLine_eq]; decide
theorem okK {N : List Str} {sc scope : Scope} {own : List (Str × Nat)} (h : blkC N sc scope own = true) : scope.kind = .function := (blkOk_by h).kind
theorem own_slots (C : Cc) (vs : List Nat) : (ownOf C vs).map (·.2) = vs := by
  unfold ownOf
  rw [List.map_map]
  exact List.map_id' vs
theorem it_any (ok : XOk W G k C X) {m : ME} {ik : Ik} {tg e : Expr} (h : itB C ik m.count (chk G m C) (chkL G m C) e = true) (h1 : chk G m C e = true → PE X e (tE W G k m)) (h2 : ∀ es, chkL G m C es = true → PA X es (tL W G k m)) :
    PI X tg e (iK W G k ik m) ∧ isSet e = false := by
  unfold itB at h
  rw [Bool.and_eq_true, Bool.not_eq_true'] at h
  refine ⟨?_, h.1⟩
  have h := h.2
  cases ik with
  | val => exact pi_val ok (h1 h)
  | rng =>
    simp only at h
    split at h
    · simp only [Bool.and_eq_true, decide_eq_true_eq] at h
      obtain ⟨⟨⟨⟨⟨a, b⟩, c⟩, d⟩, e⟩, f⟩ := h
      exact PI_imp (pi_rng ok a b c d e (h2 _ f)) fun σ H R z => iR_K.1 z
    · cases h
  | rrng =>
    simp only at h
    split at h
    · simp only [Bool.and_eq_true, decide_eq_true_eq] at h
      obtain ⟨⟨⟨⟨⟨⟨⟨a, a2⟩, b⟩, b2⟩, c⟩, d⟩, e⟩, f⟩ := h
      exact PI_imp (pi_rrng ok a a2 b b2 c d e (h2 _ f)) fun σ H R z => iR_K.2 z
    · cases h
/-- a clause's tests -/
theorem ifs_any {X : Cx} {c : ME} {ifs : List Expr} (h : (match ifs with | [] => c.isTrue | [y] => chk G c C y | _ => false) = true) (h1 : ∀ e, chk G c C e = true → PT X e (tB (tE W G k c))) : PTs X ifs (tB (tE W G k c)) := by
  cases ifs with
  | nil =>
    simp only at h
    have : c = .bl true := by
      unfold ME.isTrue at h
      split at h
      · rfl
      · cases h
    subst this
    refine ⟨fun pins s σ H Q I q => pts_nil.run pins s σ H Q I ?_⟩
    obtain ⟨F, ph, hp, env, r, hp1, hR, hE, e, q⟩ := q
    simp only [ev] at e
    cases e
    obtain ⟨b, eb, q⟩ := q.at_ Ext.refl hR (.bl true)
    cases eb
    exact q
  | cons y r =>
    cases r with
    | nil => exact pts_one (h1 y h)
    | cons _ _ => cases h
theorem se_ifeT {c a b : ME} {ec ea eb : Expr} {pos : Pos} (hc : PB W G k X ec c) (ha : PB W G k X ea a) (hb : PB W G k X eb b) : PT X (.IfExp ec ea eb pos) (tB (tE W G k (.ife c a b))) := by
  refine ⟨fun pins s σ H Q I h => ?_⟩
  have h := ife_step h
  show wpAny (model X.prog X.w) X.A (do if ← isTrue ec X.env (eval ec X.env) then isTrue ea X.env (eval ea X.env) else isTrue eb X.env (eval eb X.env)) (TP X pins σ Q) X.xe s
  refine wpAny_bind (thn (hc.2.run pins s σ H _ I h) fun d s1 ⟨H1, I1, q1⟩ => ?_)
  cases d with
  | true => exact ha.2.run pins s1 σ H1 Q I1 q1
  | false => exact hb.2.run pins s1 σ H1 Q I1 q1
theorem PB_of {m : ME} {e : Expr} (h : PE X e (tE W G k m)) (p : plainT e = true) : PB W G k X e m := PB_plain h p
end
end MP
set_option maxRecDepth 100000
set_option maxHeartbeats 1000000
namespace MP
open PySem PySem.Spec PyProof.Rows L2
section
variable {W : Wd} {G : Gl} {k : Nat}
theorem s_any : ∀ m : ME, (∀ (C : Cc) (X : Cx) (e : Expr), XOk W G k C X → chk G m C e = true → PB W G k X e m) ∧ (∀ (C : Cc) (X : Cx) (es : List Expr), XOk W G k C X → chkL G m C es = true → PA X es (tL W G k m)) := by
  intro m
  induction m with
  | var i =>
    refine ⟨fun C X e ok h => ?_, fun C X es ok h => by simp [chkL] at h⟩
    unfold chk at h
    split at h <;> simp at h
    obtain ⟨⟨⟨a, b⟩, c⟩, d⟩ := h
    exact PB_of (se_var ok a b (by simpa using c) (by simpa using d)) rfl
  | glb g =>
    refine ⟨fun C X e ok h => ?_, fun C X es ok h => by simp [chkL] at h⟩
    unfold chk at h
    split at h <;> simp at h
    exact PB_of (se_glb ok h.1 h.2) rfl
  | fnv f =>
    refine ⟨fun C X e ok h => ?_, fun C X es ok h => by simp [chkL] at h⟩
    unfold chk at h
    split at h <;> simp at h
    exact PB_of (se_fnv ok h.1 h.2) rfl
  | non =>
    refine ⟨fun C X e ok h => ?_, fun C X es ok h => by simp [chkL] at h⟩
    unfold chk at h
    split at h
    · exact PB_of (se_const pe_non (fun _ _ => rfl) fun _ _ => .non) rfl
    · cases h
  | bl b =>
    refine ⟨fun C X e ok h => ?_, fun C X es ok h => by simp [chkL] at h⟩
    unfold chk at h
    split at h <;> simp at h
    subst h
    exact PB_of (se_const pe_bl (fun _ _ => rfl) fun _ _ => .bl _) rfl
  | int b =>
    refine ⟨fun C X e ok h => ?_, fun C X es ok h => by simp [chkL] at h⟩
    unfold chk at h
    split at h <;> simp at h
    subst h
    exact PB_of (se_const pe_int (fun _ _ => rfl) fun _ _ => .int _) rfl
  | str b =>
    refine ⟨fun C X e ok h => ?_, fun C X es ok h => by simp [chkL] at h⟩
    unfold chk at h
    split at h <;> simp at h
    obtain ⟨rfl, so⟩ := h
    exact PB_of (se_const pe_str (fun _ _ => rfl) fun _ _ => .str _ so) rfl
  | nil =>
    refine ⟨fun C X e ok h => by simp [chk] at h, fun C X es ok h => ?_⟩
    simp [chkL] at h
    subst h
    exact sl_nil
  | cons a b iha ihb =>
    refine ⟨fun C X e ok h => by simp [chk] at h, fun C X es ok h => ?_⟩
    unfold chkL at h
    split at h
    · simp at h
      exact sl_cons h.1.1 (iha.1 C X _ ok h.1.2).1 (ihb.2 C X _ ok h.2)
    · cases h
  | tup es ih =>
    refine ⟨fun C X e ok h => ?_, fun C X es ok h => by simp [chkL] at h⟩
    unfold chk at h
    split at h
    · exact PB_of (se_tup (ih.2 C X _ ok h)) rfl
    · cases h
  | lst es ih =>
    refine ⟨fun C X e ok h => ?_, fun C X es ok h => by simp [chkL] at h⟩
    unfold chk at h
    split at h
    · exact PB_of (se_lst (ih.2 C X _ ok h)) rfl
    · cases h
  | edct =>
    refine ⟨fun C X e ok h => ?_, fun C X es ok h => by simp [chkL] at h⟩
    unfold chk at h
    split at h
    · exact PB_of (se_edct ok) rfl
    · cases h
  | dsp a b iha ihb =>
    refine ⟨fun C X e ok h => ?_, fun C X es ok h => by simp [chkL] at h⟩
    unfold chk at h
    split at h <;> simp at h
    exact PB_of (se_dsp ok (iha.1 C X _ ok h.1).1 (ihb.1 C X _ ok h.2).1) rfl
  | bin op a b iha ihb =>
    refine ⟨fun C X e ok h => ?_, fun C X es ok h => by simp [chkL] at h⟩
    unfold chk at h
    split at h <;> simp at h
    obtain ⟨⟨rfl, h1⟩, h2⟩ := h
    exact PB_of (se_bin ok (iha.1 C X _ ok h1).1 (ihb.1 C X _ ok h2).1) rfl
  | neg a iha =>
    refine ⟨fun C X e ok h => ?_, fun C X es ok h => by simp [chkL] at h⟩
    unfold chk at h
    split at h
    · exact PB_of (se_neg ok (iha.1 C X _ ok h).1) rfl
    · cases h
  | not a iha =>
    refine ⟨fun C X e ok h => ?_, fun C X es ok h => by simp [chkL] at h⟩
    unfold chk at h
    split at h
    · exact se_not (iha.1 C X _ ok h)
    · cases h
  | and a b iha ihb =>
    refine ⟨fun C X e ok h => ?_, fun C X es ok h => by simp [chkL] at h⟩
    unfold chk at h
    split at h
    · rename_i x y r pos
      rw [Bool.and_eq_true] at h
      obtain ⟨h1, h2⟩ := h
      cases r with
      | nil =>
        have hb := ihb.1 C X _ ok (by simpa using h2)
        exact se_and (iha.1 C X _ ok h1) (pe_one hb.1) (pw_and1 hb.2)
      | cons z r =>
        have hb := ihb.1 C X _ ok (by simpa using h2)
        exact se_and (iha.1 C X _ ok h1) hb.1 (pw_of hb.2)
    · cases h
  | or a b iha ihb =>
    refine ⟨fun C X e ok h => ?_, fun C X es ok h => by simp [chkL] at h⟩
    unfold chk at h
    split at h
    · rename_i x y r pos
      rw [Bool.and_eq_true] at h
      obtain ⟨h1, h2⟩ := h
      cases r with
      | nil =>
        have hb := ihb.1 C X _ ok (by simpa using h2)
        exact se_or (iha.1 C X _ ok h1) (pe_one hb.1) (pw_or1 hb.2)
      | cons z r =>
        have hb := ihb.1 C X _ ok (by simpa using h2)
        exact se_or (iha.1 C X _ ok h1) hb.1 (pw_of hb.2)
    · cases h
  | cmp op a b iha ihb =>
    refine ⟨fun C X e ok h => ?_, fun C X es ok h => by simp [chkL] at h⟩
    unfold chk at h
    split at h <;> simp at h
    obtain ⟨⟨⟨rfl, h0⟩, h1⟩, h2⟩ := h
    exact se_cmp ok h0 (iha.1 C X _ ok h1).1 (ihb.1 C X _ ok h2).1
  | chn op op' a b c iha ihb ihc =>
    refine ⟨fun C X e ok h => ?_, fun C X es ok h => by simp [chkL] at h⟩
    unfold chk at h
    split at h
    · simp only [Bool.and_eq_true, decide_eq_true_eq, Bool.not_eq_true'] at h
      obtain ⟨⟨⟨⟨⟨rfl, rfl⟩, h0⟩, h1⟩, h2⟩, h3⟩ := h
      exact se_chn ok h0 (iha.1 C X _ ok h1).1 (ihb.1 C X _ ok h2).1 (ihc.1 C X _ ok h3).1
    · cases h
  | ife c a b ihc iha ihb =>
    refine ⟨fun C X e ok h => ?_, fun C X es ok h => by simp [chkL] at h⟩
    unfold chk at h
    split at h <;> simp at h
    obtain ⟨⟨h1, h2⟩, h3⟩ := h
    exact ⟨se_ife (ihc.1 C X _ ok h1) (iha.1 C X _ ok h2) (ihb.1 C X _ ok h3), se_ifeT (ihc.1 C X _ ok h1) (iha.1 C X _ ok h2) (ihb.1 C X _ ok h3)⟩
  | call f es ih =>
    refine ⟨fun C X e ok h => ?_, fun C X es ok h => by simp [chkL] at h⟩
    unfold chk at h
    split at h
    · rename_i x p xs pos
      simp only [Bool.and_eq_true, decide_eq_true_eq] at h
      obtain ⟨⟨⟨⟨h1, h2⟩, h3⟩, h4⟩, h5⟩ := h
      split at h5
      · rename_i fd hf
        have h5 := of_decide_eq_true h5
        cases xs with
        | nil =>
          cases es with
          | nil => exact PB_of (se_call0 ok h1 hf h5 h2) rfl
          | cons _ _ => simp [chkL] at h4
          | _ => simp [chkL] at h4
        | cons y ys =>
          rw [List.all_cons, Bool.and_eq_true] at h3
          exact PB_of (se_call ok h1 hf h5 h2 h3.1 (star_any h3.2) (ih.2 C X _ ok h4)) rfl
      · cases h5
    · cases h
  | bcl f es ih =>
    refine ⟨fun C X e ok h => ?_, fun C X es ok h => by simp [chkL] at h⟩
    unfold chk at h
    split at h
    · simp only [Bool.and_eq_true, decide_eq_true_eq, List.all_cons] at h
      obtain ⟨⟨⟨h1, h2⟩, h3⟩, h4⟩ := h
      exact PB_of (se_bcl ok h1 h2 h3.1 (star_any h3.2) (ih.2 C X _ ok h4)) rfl
    · cases h
  | isi a t iha =>
    refine ⟨fun C X e ok h => ?_, fun C X es ok h => by simp [chkL] at h⟩
    unfold chk at h
    split at h
    · simp only [Bool.and_eq_true, decide_eq_true_eq] at h
      obtain ⟨⟨⟨⟨⟨h1, h2⟩, h3⟩, h4⟩, h5⟩, h6⟩ := h
      exact PB_of (se_isi ok h1 h2 h3 h4 h5 (iha.1 C X _ ok h6).1) rfl
    · cases h
  | mth m o es iho ih =>
    refine ⟨fun C X e ok h => ?_, fun C X es ok h => by simp [chkL] at h⟩
    unfold chk at h
    split at h
    · simp only [Bool.and_eq_true, decide_eq_true_eq] at h
      obtain ⟨⟨⟨⟨⟨⟨h1, h2⟩, h3⟩, h4⟩, h5⟩, h6⟩, h7⟩ := h
      exact PB_of (se_mth ok h1 h2 h3 h4 h5 (iho.1 C X _ ok h6).1 (ih.2 C X _ ok h7)) rfl
    · cases h
  | idx a b iha ihb =>
    refine ⟨fun C X e ok h => ?_, fun C X es ok h => by simp [chkL] at h⟩
    unfold chk at h
    split at h
    · simp only [Bool.and_eq_true] at h
      obtain ⟨⟨h0, h1⟩, h2⟩ := h
      exact PB_of (se_idx ok h0 (iha.1 C X _ ok h1).1 (ihb.1 C X _ ok h2).1) rfl
    · cases h
  | slc a lo hi iha ihl ihh =>
    refine ⟨fun C X e ok h => ?_, fun C X es ok h => by simp [chkL] at h⟩
    unfold chk at h
    split at h
    · rename_i x l h' p2 pos
      simp only [Bool.and_eq_true] at h
      obtain ⟨⟨h1, h2⟩, h3⟩ := h
      have part : ∀ (m : ME) (o : Option Expr), (∀ (C : Cc) (X : Cx) (e : Expr), XOk W G k C X → chk G m C e = true → PB W G k X e m) → (match o with | none => m.isNil | some y => !m.isNil && chk G m C y) = true → PO X o (tO W G k m) := by
        intro m o ih hm
        unfold tO
        cases o with
        | none =>
          simp only at hm
          rw [if_pos hm]
          exact po_none
        | some y =>
          simp only [Bool.and_eq_true, Bool.not_eq_true'] at hm
          rw [if_neg (by simp [hm.1])]
          exact po_some (ih C X y ok hm.2).1
      exact PB_of (se_slc ok (iha.1 C X _ ok h1).1 (part lo l ihl.1 h2) (part hi h' ihh.1 h3)) rfl
    · cases h
  | rev a iha =>
    refine ⟨fun C X e ok h => ?_, fun C X es ok h => by simp [chkL] at h⟩
    unfold chk at h
    split at h
    · exact PB_of (se_rev ok (iha.1 C X _ ok h).1) rfl
    · cases h
  | lc elt t ik it c ihe ihi ihc =>
    refine ⟨fun C X e ok h => ?_, fun C X es ok h => by simp [chkL] at h⟩
    unfold chk at h
    split at h
    · rename_i x tg i ifs scope pos
      simp only [Bool.and_eq_true] at h
      obtain ⟨⟨⟨⟨h1, h2⟩, h3⟩, h4⟩, h5⟩ := h
      have hk := okK h2
      obtain ⟨p1, p2⟩ := it_any (tg := tg) ok h3 (fun z => (ihi.1 C X _ ok z).1) fun es z => ihi.2 C X es ok z
      have hb := blkOk_by h2
      rw [← ok.N, ← ok.sc] at hb
      have pe := pe_lc (pos := pos) ok.fit.calm (by rw [ok.N]; exact ok.nd) p1 hb (fun s H c' cl fp => (sg_any (ok.blk hk s H c' cl fp) t).1 tg h1) (fun s H c' cl fp => ifs_any (C := C.blk scope) h4 fun e z => (ihc.1 _ _ e (ok.blk hk s H c' cl fp) z).2)
        (fun s H c' cl fp => (ihe.1 _ _ x (ok.blk hk s H c' cl fp) h5).1) fun x => foldS_of p2 _ x
      rw [own_slots] at pe
      exact PB_of (PE_imp pe fun σ H Q q => lc_step q) rfl
    · cases h
  | lc2 elt t ik it c t1 k1 it1 c1 ihe ihi ihc ihi1 ihc1 =>
    refine ⟨fun C X e ok h => ?_, fun C X es ok h => by simp [chkL] at h⟩
    unfold chk at h
    split at h
    · rename_i x tg i ifs tg1 i1 ifs1 scope pos
      simp only [Bool.and_eq_true] at h
      obtain ⟨⟨⟨⟨⟨⟨⟨h1, h2⟩, h3⟩, h4⟩, h5⟩, h6⟩, h7⟩, h8⟩ := h
      have hk := okK h2
      obtain ⟨p1, p2⟩ := it_any (tg := tg) ok h3 (fun z => (ihi.1 C X _ ok z).1) fun es z => ihi.2 C X es ok z
      have hb := blkOk_by h2
      rw [← ok.N, ← ok.sc] at hb
      have q1 : ∀ (s : Shared) (H : Hp) (c' : Addr) (cl : List (Str × Addr)) (fp : List Addr), PI (X.blk s H scope (compEnvC scope cl c' X.env) fp) tg1 i1 (iK W G k k1 it1) ∧ isSet i1 = false := fun s H c' cl fp =>
        it_any (tg := tg1) (ok.blk hk s H c' cl fp) h6 (fun z => (ihi1.1 _ _ _ (ok.blk hk s H c' cl fp) z).1) fun es z => ihi1.2 _ _ es (ok.blk hk s H c' cl fp) z
      have s1 : isSet i1 = false := by unfold itB at h6; rw [Bool.and_eq_true, Bool.not_eq_true'] at h6; exact h6.1
      have pe := pe_lc2 (pos := pos) (vs1 := t1.slots) ok.fit.calm (by rw [ok.N]; exact ok.nd) p1 hb (by rw [own_slots]; exact fun i hi => List.mem_append_right _ hi) (fun s H c' cl fp => (sg_any (ok.blk hk s H c' cl fp) t).1 tg h1) (fun s H c' cl fp => ifs_any (C := C.blk scope) h4 fun e z => (ihc.1 _ _ e (ok.blk hk s H c' cl fp) z).2)
        (fun s H c' cl fp => (q1 s H c' cl fp).1) (fun s H c' cl fp => (sg_any (ok.blk hk s H c' cl fp) t1).1 tg1 h5) (fun s H c' cl fp => ifs_any (C := C.blk scope) h7 fun e z => (ihc1.1 _ _ e (ok.blk hk s H c' cl fp) z).2)
        (fun s H c' cl fp => (ihe.1 _ _ x (ok.blk hk s H c' cl fp) h8).1) (fun x => foldS_of p2 _ x) fun env x => foldS_of s1 env x
      rw [own_slots] at pe
      exact PB_of (PE_imp pe fun σ H Q q => lc2_step q) rfl
    · cases h
  | hp a iha =>
    refine ⟨fun C X e ok h => ?_, fun C X es ok h => by simp [chkL] at h⟩
    unfold chk at h
    rw [Bool.and_eq_true] at h
    exact PB_of (se_hp (iha.1 C X _ ok h.1).1) h.2
end
end MP
set_option maxRecDepth 100000
/-! MiniPy: the state of a body: slots, own objects. -/
namespace MP
open PySem PySem.Spec PyProof.Rows L2
structure SR (W : Wd) (F : Hp) (ph : List Addr) (H0 : Hp) (env : FEnv) (σ : L2.St) (H : Hp) : Prop where
  len : env.length = σ.length
  val : ∀ (i : Nat) (v : PV), env[i]? = some (some (false, v)) → ∃ x, σ[i]? = some (some x) ∧ Rep W F ph v x
  own : ∀ (i : Nat) (v : PV), env[i]? = some (some (true, v)) → ∃ a o, σ[i]? = some (some (V.ref a)) ∧ F a = none ∧ a ∉ ph ∧ H0 a = none ∧ H a = some o ∧ ORep W F ph a v o
  dis : ∀ (i j : Nat) (v w : PV) (a : Addr), env[i]? = some (some (true, v)) → env[j]? = some (some (true, w)) → i ≠ j → σ[i]? = some (some (V.ref a)) → ¬ σ[j]? = some (some (V.ref a))
structure StOk (W : Wd) (F0 : Hp) (ph0 : List Addr) (H0 : Hp) (F : Hp) (ph : List Addr) (hp : Hs) (env : FEnv) (σ : L2.St) (H : Hp) : Prop where
  ext : Ext F0 ph0 H0 F ph H
  rel : RelH W F ph hp H
  s : SR W F ph H0 env σ H
def ownA (env : FEnv) (σ : L2.St) (a : Addr) : Prop := ∃ (i : Nat) (v : PV), env[i]? = some (some (true, v)) ∧ σ[i]? = some (some (V.ref a))
open Classical in
/-- the own objects frozen -/
noncomputable def frzF (F : Hp) (env : FEnv) (σ : L2.St) (H : Hp) : Hp := fun a => if ownA env σ a then H a else F a
open Classical in
noncomputable def thawF (F : Hp) (env : FEnv) (σ : L2.St) : Hp := fun a => if ownA env σ a then none else F a
section
variable {W : Wd} {F0 F H0 H F' H' : Hp} {ph0 ph ph' : List Addr} {hp hp' : Hs} {env : FEnv} {σ : L2.St}
theorem SR.ownI (s : SR W F ph H0 env σ H) {a : Addr} (h : ownA env σ a) : F a = none ∧ a ∉ ph ∧ H0 a = none ∧ ∃ o, H a = some o := by
  obtain ⟨i, v, h1, h2⟩ := h
  obtain ⟨b, o, h3, h4, h5, h6, h7, _⟩ := s.own i v h1
  rw [h2] at h3
  cases h3
  exact ⟨h4, h5, h6, o, h7⟩
theorem frzF_le (s : SR W F ph H0 env σ H) : ∀ a o, F a = some o → frzF F env σ H a = some o := by
  intro a o e
  unfold frzF
  rw [if_neg]
  · exact e
  · intro z
    rw [(s.ownI z).1] at e; cases e
theorem unf_get {i : Nat} {v : PV} (h : (unf env)[i]? = some (some v)) : ∃ b, env[i]? = some (some (b, v)) := by
  unfold unf at h
  rw [List.getElem?_map] at h
  cases e : env[i]? with
  | none => rw [e] at h; cases h
  | some o =>
    rw [e] at h
    cases o with
    | none => cases h
    | some p => obtain ⟨b, u⟩ := p; cases h; exact ⟨b, rfl⟩
/-- everything frozen -/
theorem StOk.frz (t : StOk W F0 ph0 H0 F ph hp env σ H) : Ext F0 ph0 H0 (frzF F env σ H) ph H ∧ RelH W (frzF F env σ H) ph hp H ∧ RelE W (frzF F env σ H) ph (unf env) σ := by
  have le := frzF_le t.s
  refine ⟨⟨fun a o e => le a o (t.ext.le a o e), fun a h => ?_, t.ext.pre, t.ext.pnew, t.ext.pres, t.ext.dom⟩, ⟨fun a o e => ?_, t.rel.len, t.rel.nd, fun n a v e1 e2 => ?_, t.rel.cl, fun a vs e => ?_⟩, ⟨?_, fun i v h => ?_⟩⟩
  · by_cases z : ownA env σ a
    · exact .inr (t.s.ownI z).2.2.1
    · unfold frzF at h
      rw [if_neg z] at h
      exact t.ext.new a h
  · unfold frzF at e
    split at e
    · exact .inl e
    · exact t.rel.sub a o e
  · obtain ⟨f, o, e3, r⟩ := t.rel.sh n a v e1 e2
    refine ⟨?_, o, e3, r.mono le fun _ _ z => z⟩
    unfold frzF
    rw [if_neg]
    · exact f
    · exact fun z => (t.s.ownI z).2.1 (List.mem_of_getElem? e1)
  · unfold frzF at e
    split at e
    · rename_i z
      obtain ⟨i, v, h1, h2⟩ := z
      obtain ⟨b, o, h3, _, _, _, h7, h8⟩ := t.s.own i v h1
      rw [h2] at h3
      cases h3
      rw [h7] at e
      exact absurd (Option.some.inj e) (h8.no_tup vs)
    · exact t.rel.td a vs e
  · unfold unf; rw [List.length_map]; exact t.s.len
  · obtain ⟨b, e⟩ := unf_get h
    cases b with
    | false =>
      obtain ⟨x, h1, h2⟩ := t.s.val i v e
      exact ⟨x, h1, h2.mono le fun _ _ z => z⟩
    | true =>
      obtain ⟨a, o, h1, h2, h3, h4, h5, h6⟩ := t.s.own i v e
      refine ⟨_, h1, .obj (o := o) ?_ (h6.mono le fun _ _ z => z)⟩
      unfold frzF
      rw [if_pos ⟨i, v, e, h1⟩]
      exact h5
theorem frz_get {i : Nat} {b : Bool} {v : PV} (h : (MP.frz env)[i]? = some (some (b, v))) : b = false ∧ ∃ c, env[i]? = some (some (c, v)) := by
  unfold MP.frz at h
  rw [List.getElem?_map] at h
  cases e : env[i]? with
  | none => rw [e] at h; cases h
  | some o =>
    rw [e] at h
    cases o with
    | none => cases h
    | some p =>
      obtain ⟨c, u⟩ := p
      simp only [Option.map_some, frz1, Option.some.injEq, Prod.mk.injEq] at h
      obtain ⟨rfl, rfl⟩ := h
      exact ⟨rfl, c, rfl⟩
theorem SR.of (h : RelE W F ph (unf env) σ) : SR W F ph H0 (MP.frz env) σ H := by
  refine ⟨?_, fun i v e => ?_, fun i v e => ?_, fun i j v w a e => ?_⟩
  · have := h.len
    unfold unf at this
    unfold MP.frz
    rw [List.length_map] at this ⊢
    exact this
  · obtain ⟨_, c, e2⟩ := frz_get e
    refine h.at_ i v ?_
    unfold unf
    rw [List.getElem?_map, e2]; rfl
  · have := (frz_get e).1; cases this
  · have := (frz_get e).1; cases this
theorem KeyR.tups (hF : ∀ a vs, F a = some (.tup vs) → F' a = some (.tup vs)) {x : PV} {i : Int} {u : Value} (h : KeyR W F x i u) : KeyR W F' x i u := by
  cases h with
  | scal h1 h2 => exact .scal h1 h2
  | tup h1 h2 => exact .tup h1 (h2.imp (hF _ _) id)
theorem kv_tups (hF : ∀ a vs, F a = some (.tup vs) → F' a = some (.tup vs)) : ∀ {kvs : List (PV × PV)} {es : List DictEntry}, (kvs.all fun p => p.1.lf && p.2.lf) = true → RepD W F ph kvs es → RepD W F' ph kvs es
  | _, _, _, .nil => .nil
  | _, _, hc, .cons k r v t => by
    rw [List.all_cons, Bool.and_eq_true, Bool.and_eq_true] at hc
    exact .cons (k.tups hF) (r.tups hF hc.1.2) v (kv_tups hF hc.2 t)
/-- a content without lists leans on tuples alone -/
theorem lf_tups {v : PV} {a : Addr} {o : HO} (hc : clean (true, v) = true) (hF : ∀ a vs, F a = some (.tup vs) → F' a = some (.tup vs)) (r : ORep W F ph a v o) : ORep W F' ph a v o := by
  cases r with
  | lst r => exact .lst (r.tups hF hc)
  | dct h1 h2 h3 h4 h5 r =>
    rename_i kvs ob es ep
    exact .dct h1 h2 h3 h4 h5 (kv_tups hF hc r)
  | psI h1 h2 h3 => exact .psI h1 h2 h3
  | psT h1 h2 h3 => exact .psT h1 h2 fun p hm => (h3 p hm).imp (hF _ _) id
theorem thaw_tup (t : StOk W F0 ph0 H0 F ph hp env σ H) (e : Ext (frzF F env σ H) ph H F' ph' H') : ∀ a vs, F' a = some (.tup vs) → thawF F' env σ a = some (.tup vs) := by
  intro a vs h
  unfold thawF
  rw [if_neg]
  · exact h
  · intro z
    obtain ⟨i, v, h1, h2⟩ := z
    obtain ⟨b, o, h3, h4, h5, h6, h7, h8⟩ := t.s.own i v h1
    rw [h2] at h3
    cases h3
    have : frzF F env σ H a = some o := by
      unfold frzF
      rw [if_pos ⟨i, v, h1, h2⟩]; exact h7
    rw [e.le a o this] at h
    cases h
    cases h8
/-- what an expression that left a clean value leaves of the state -/
theorem StOk.thaw (t : StOk W F0 ph0 H0 F ph hp env σ H) (e : Ext (frzF F env σ H) ph H F' ph' H') (h : RelH W F' ph' hp' H') : StOk W F0 ph0 H0 (thawF F' env σ) ph' hp' env σ H' ∧ (∀ a o, F a = some o → thawF F' env σ a = some o) := by
  have le : ∀ a o, F a = some o → thawF F' env σ a = some o := by
    intro a o q
    unfold thawF
    rw [if_neg]
    · exact e.le a o (frzF_le t.s a o q)
    · intro z
      rw [(t.s.ownI z).1] at q; cases q
  have tu := thaw_tup t e
  have out : ∀ a, thawF F' env σ a ≠ none → ¬ ownA env σ a ∧ F' a ≠ none := by
    intro a q
    unfold thawF at q
    split at q
    · exact absurd rfl q
    · rename_i z; exact ⟨z, q⟩
  refine ⟨⟨⟨fun a o q => le a o (t.ext.le a o q), fun a q => ?_, fun n a q => e.pre n a (t.ext.pre n a q), fun a q => ?_, fun a o q n => ?_, fun a q => e.dom a (t.ext.dom a q)⟩,
    ⟨fun a o q => ?_, h.len, h.nd, fun n a v e1 e2 => ?_, h.cl, fun a vs q => h.td a vs (by
      unfold thawF at q
      split at q
      · cases q
      · exact q)⟩, ⟨t.s.len, fun i v q => ?_, fun i v q => ?_, t.s.dis⟩⟩, le⟩
  · obtain ⟨z, q⟩ := out a q
    rcases e.new a q with w | w
    · unfold frzF at w
      rw [if_neg z] at w
      exact t.ext.new a w
    · exact .inr (Classical.byContradiction fun y => t.ext.dom a y w)
  · rcases e.pnew a q with w | w
    · exact t.ext.pnew a w
    · exact .inr (Classical.byContradiction fun y => t.ext.dom a y w)
  · refine e.pres a o (t.ext.pres a o q n) fun w => ?_
    rcases t.ext.pnew a w with z | z
    · exact n z
    · rw [q] at z; cases z
  · obtain ⟨_, w⟩ := out a (by rw [q]; simp)
    unfold thawF at q
    split at q
    · cases q
    · exact h.sub a o q
  · obtain ⟨f, o, e3, r⟩ := h.sh n a v e1 e2
    refine ⟨?_, o, e3, lf_tups (h.cl n v e2) tu r⟩
    unfold thawF
    split
    · rfl
    · exact f
  · obtain ⟨x, h1, h2⟩ := t.s.val i v q
    exact ⟨x, h1, h2.mono le e.pre⟩
  · obtain ⟨a, o, h1, h2, h3, h4, h5, h6⟩ := t.s.own i v q
    refine ⟨a, o, h1, ?_, fun w => ?_, h4, e.pres a o h5 h3, h6.mono le e.pre⟩
    · unfold thawF
      rw [if_pos ⟨i, v, q, h1⟩]
    · rcases e.pnew a w with z | z
      · exact h3 z
      · rw [h5] at z; cases z
/-- .. a value with lists: nothing is own any more -/
theorem StOk.drop (t : StOk W F0 ph0 H0 F ph hp env σ H) (e : Ext (frzF F env σ H) ph H F' ph' H') (h : RelH W F' ph' hp' H') : StOk W F0 ph0 H0 F' ph' hp' (MP.frz env) σ H' := by
  obtain ⟨x1, r1, r2⟩ := t.frz
  exact ⟨x1.trans e, h, .of (r2.ext e)⟩
end
end MP
set_option maxRecDepth 100000
/-! MiniPy: steps of a body. -/
namespace MP
open PySem PySem.Spec PyProof.Rows L2
/-- behind an expression -/
structure Aft (W : Wd) (F0 : Hp) (ph0 : List Addr) (H0 F : Hp) (ph : List Addr) (H : Hp) (hp1 : Hs) (env' : FEnv) (σ : L2.St) (F' : Hp) (ph' : List Addr) (H' : Hp) : Prop where
  st : StOk W F0 ph0 H0 F' ph' hp1 env' σ H'
  le : ∀ a o, F a = some o → F' a = some o
  pre : ∀ (n : Nat) (a : Addr), ph[n]? = some a → ph'[n]? = some a
  dom : ∀ a, H a ≠ none → H' a ≠ none
  own : ∀ a, ownA env' σ a → H a ≠ none
section
variable {W : Wd} {G : Gl} {k : Nat} {C : Cc} {X : Cx} {F0 F H0 H F' H' : Hp} {ph0 ph ph' : List Addr} {hp hp1 hp' : Hs} {env : FEnv} {σ : L2.St}
theorem own_frz {a : Addr} (h : ownA (MP.frz env) σ a) : False := by
  obtain ⟨i, v, e, _⟩ := h
  have := (frz_get e).1
  cases this
theorem StOk.ownN (t : StOk W F0 ph0 H0 F ph hp env σ H) {a : Addr} (h : ownA env σ a) : H a ≠ none := by
  obtain ⟨_, _, _, o, e⟩ := t.s.ownI h
  rw [e]; simp
theorem thaw_RRep (t : StOk W F0 ph0 H0 F ph hp env σ H) (e : Ext (frzF F env σ H) ph H F' ph' H') {r : Rv} {x : V} (c : clean r = true) (rr : RRep W F' ph' H H' r x) : RRep W (thawF F' env σ) ph' H H' r x := by
  obtain ⟨b, v⟩ := r
  unfold RRep at rr ⊢
  cases b with
  | true =>
    simp only [if_true] at rr ⊢
    obtain ⟨a, o, h1, h2, h3, h4, h5, h6⟩ := rr
    refine ⟨a, o, h1, ?_, h3, h4, h5, lf_tups c (thaw_tup t e) h6⟩
    unfold thawF
    split
    · rfl
    · exact h2
  | false =>
    simp only [Bool.false_eq_true, if_false] at rr ⊢
    exact rr.tups (thaw_tup t e) c
theorem ex_step {m : ME} {r : Rv} {Q : VK} (t : StOk W F0 ph0 H0 F ph hp env σ H) (e : ev G.cst (callF G k) m (unf env) hp = some (r, hp1))
    (q : ∀ F' ph' x H', Aft W F0 ph0 H0 F ph H hp1 (keep r env) σ F' ph' H' → RRep W F' ph' H H' r x → Q x H') : tE W G k m σ H Q := by
  obtain ⟨x1, r1, r2⟩ := t.frz
  refine ⟨frzF F env σ H, ph, hp, unf env, r, hp1, r1, r2, e, fun F' ph' x H' e' h' rr => ?_⟩
  by_cases c : clean r = true
  · obtain ⟨t', le⟩ := t.thaw e' h'
    have kp : keep r env = env := by unfold keep; rw [if_pos c]
    rw [kp] at q
    exact q _ ph' x H' ⟨t', le, e'.pre, e'.dom, fun a z => t.ownN z⟩ (thaw_RRep t e' c rr)
  · have kp : keep r env = MP.frz env := by unfold keep; rw [if_neg c]
    rw [kp] at q
    exact q F' ph' x H' ⟨t.drop e' h', fun a o z => e'.le a o (frzF_le t.s a o z), e'.pre, e'.dom, fun a z => (own_frz z).elim⟩ rr
/-- arguments that are ints -/
theorem exL_step {m : ME} {vs : List PV} {Q : List V → Hp → Prop} (t : StOk W F0 ph0 H0 F ph hp env σ H) (e : evL G.cst (callF G k) m (unf env) hp = some (vs, hp1)) (hl : lfAll vs = true)
    (q : ∀ F' ph' xs H', Aft W F0 ph0 H0 F ph H hp1 env σ F' ph' H' → RepA W F' ph' vs xs → Q xs H') : tL W G k m σ H Q := by
  obtain ⟨x1, r1, r2⟩ := t.frz
  refine ⟨frzF F env σ H, ph, hp, unf env, vs, hp1, r1, r2, e, fun F' ph' xs H' e' h' rr => ?_⟩
  obtain ⟨t', le⟩ := t.thaw e' h'
  exact q _ ph' xs H' ⟨t', le, e'.pre, e'.dom, fun a z => t.ownN z⟩ (rr.tups (thaw_tup t e') hl)
/-- a slot's own object frozen -/
theorem StOk.frzAt (t : StOk W F0 ph0 H0 F ph hp env σ H) {i : Nat} {r : Rv} (h : env[i]? = some (some r)) : ∃ F' x, σ[i]? = some (some x) ∧ Rep W F' ph r.2 x ∧ Aft W F0 ph0 H0 F ph H hp (MP.frzAt i env) σ F' ph H := by
  obtain ⟨b, v⟩ := r
  have hil : i < env.length := (List.getElem?_eq_some_iff.mp h).1
  have fz : MP.frzAt i env = env.set i (some (false, v)) := by unfold MP.frzAt; rw [h]; rfl
  rw [fz]
  have get : ∀ (j : Nat) (c : Bool) (u : PV), (env.set i (some (false, v)))[j]? = some (some (c, u)) → (j = i ∧ c = false ∧ u = v) ∨ (j ≠ i ∧ env[j]? = some (some (c, u))) := by
    intro j c u e
    by_cases hj : i = j
    · subst hj
      rw [List.getElem?_set_self hil] at e
      cases e
      exact .inl ⟨rfl, rfl, rfl⟩
    · rw [List.getElem?_set_ne hj] at e
      exact .inr ⟨fun z => hj z.symm, e⟩
  have ow : ∀ a, ownA (env.set i (some (false, v))) σ a → ownA env σ a := by
    rintro a ⟨j, u, e1, e2⟩
    rcases get j true u e1 with ⟨_, z, _⟩ | ⟨_, e⟩
    · cases z
    · exact ⟨j, u, e, e2⟩
  cases b with
  | false =>
    obtain ⟨x, h1, h2⟩ := t.s.val i v h
    refine ⟨F, x, h1, h2, ⟨⟨t.ext, t.rel, ⟨by rw [List.length_set]; exact t.s.len, fun j u e => ?_, fun j u e => ?_, fun j l u w a e1 e2 hn => ?_⟩⟩, fun _ _ z => z, fun _ _ z => z, fun _ z => z, fun a z => t.ownN (ow a z)⟩⟩
    · rcases get j false u e with ⟨rfl, _, rfl⟩ | ⟨_, e⟩
      · exact ⟨x, h1, h2⟩
      · exact t.s.val j u e
    · rcases get j true u e with ⟨_, z, _⟩ | ⟨_, e⟩
      · cases z
      · exact t.s.own j u e
    · rcases get j true u e1 with ⟨_, z, _⟩ | ⟨_, e1⟩
      · cases z
      rcases get l true w e2 with ⟨_, z, _⟩ | ⟨_, e2⟩
      · cases z
      exact t.s.dis j l u w a e1 e2 hn
  | true =>
    obtain ⟨a, o, h1, h2, h3, h4, h5, h6⟩ := t.s.own i v h
    have le := le_upd (o := o) h2
    have rep : Rep W (upd F a o) ph v (.ref a) := .obj upd_same (h6.mono le fun _ _ z => z)
    refine ⟨upd F a o, .ref a, h1, rep, ⟨⟨⟨fun b q z => le b q (t.ext.le b q z), fun b z => ?_, t.ext.pre, t.ext.pnew, t.ext.pres, t.ext.dom⟩, t.rel.freeze (.inl h5) h2 h3 (fun vs z => absurd z (h6.no_tup vs)), ⟨by rw [List.length_set]; exact t.s.len, fun j u e => ?_, fun j u e => ?_, fun j l u w b e1 e2 hn => ?_⟩⟩, le, fun _ _ z => z, fun _ z => z, fun a z => t.ownN (ow a z)⟩⟩
    · by_cases hb : b = a
      · subst hb; exact .inr h4
      · rw [upd_ne hb] at z; exact t.ext.new b z
    · rcases get j false u e with ⟨rfl, _, rfl⟩ | ⟨_, e⟩
      · exact ⟨_, h1, rep⟩
      · obtain ⟨x, e1, e2⟩ := t.s.val j u e
        exact ⟨x, e1, e2.mono le fun _ _ z => z⟩
    · rcases get j true u e with ⟨_, z, _⟩ | ⟨hj, e⟩
      · cases z
      obtain ⟨b, p, g1, g2, g3, g4, g5, g6⟩ := t.s.own j u e
      refine ⟨b, p, g1, ?_, g3, g4, g5, g6.mono le fun _ _ z => z⟩
      rw [upd_ne]
      · exact g2
      · rintro rfl
        exact t.s.dis i j v u b h e (fun z => hj z.symm) h1 g1
    · rcases get j true u e1 with ⟨_, z, _⟩ | ⟨_, e1⟩
      · cases z
      rcases get l true w e2 with ⟨_, z, _⟩ | ⟨_, e2⟩
      · cases z
      exact t.s.dis j l u w b e1 e2 hn
/-- a name, or an expression -/
def tK (W : Wd) (G : Gl) (k : Nat) (m : ME) : TE := match m.varOf with
  | some i => tVar i
  | none => tE W G k m
theorem exK_step {m : ME} {r : Rv} {env' : FEnv} {Q : VK} (t : StOk W F0 ph0 H0 F ph hp env σ H) (e : evK G.cst (callF G k) m env hp = some (r, env', hp1))
    (q : ∀ F' ph' x H', Aft W F0 ph0 H0 F ph H hp1 env' σ F' ph' H' → RRep W F' ph' H H' r x → Q x H') : tK W G k m σ H Q := by
  unfold evK at e
  unfold tK
  split at e
  · rename_i i hi
    rw [hi]
    obtain ⟨p, h1, h2⟩ := Option.map_eq_some_iff.mp e
    cases h2
    have h3 : env[i]? = some (some p) := by
      cases z : env[i]? with
      | none => rw [z] at h1; cases h1
      | some o => rw [z] at h1; exact congrArg some h1
    obtain ⟨F2, x, e1, e2, af⟩ := t.frzAt h3
    exact ⟨x, e1, q F2 ph x H af (RRep.of e2)⟩
  · rename_i hi
    rw [hi]
    obtain ⟨p, h1, h2⟩ := Option.map_eq_some_iff.mp e
    cases h2
    exact ex_step t h1 q
theorem varOf_some {m : ME} {i : Nat} (h : m.varOf = some i) : m = .var i := by
  unfold ME.varOf at h
  split at h <;> cases h
  rfl
theorem pe_K (ok : XOk W G k C X) {m : ME} {e : Expr} (h : chk G m C e = true) : PE X e (tK W G k m) := by
  unfold tK
  split
  · rename_i i hi
    rw [varOf_some hi] at h
    unfold chk at h
    split at h <;> simp at h
    obtain ⟨⟨⟨a, b⟩, c⟩, d⟩ := h
    exact pe_var (by rw [ok.N]; exact a) (vis_of ok b) (by simpa using c) (by simpa using d)
  · exact ((s_any m).1 C X e ok h).1
/-- a slot stored -/
theorem StOk.set (t : StOk W F0 ph0 H0 F ph hp env σ H) {i : Nat} {r : Rv} {x : V} {Hs : Hp} (hd : ∀ a, H0 a ≠ none → Hs a ≠ none) (ho : ∀ a, ownA env σ a → Hs a ≠ none) (rr : RRep W F ph Hs H r x) : StOk W F0 ph0 H0 F ph hp (env.set i (some r)) (σ.set i (some x)) H := by
  obtain ⟨b, v⟩ := r
  have len := t.s.len
  have get : ∀ (j : Nat) (c : Bool) (u : PV), (env.set i (some (b, v)))[j]? = some (some (c, u)) → (j = i ∧ c = b ∧ u = v ∧ (σ.set i (some x))[j]? = some (some x)) ∨ (j ≠ i ∧ env[j]? = some (some (c, u)) ∧ (σ.set i (some x))[j]? = σ[j]?) := by
    intro j c u e
    by_cases hj : i = j
    · subst hj
      by_cases hl : i < env.length
      · rw [List.getElem?_set_self hl] at e
        cases e
        exact .inl ⟨rfl, rfl, rfl, by rw [List.getElem?_set_self (by rw [← len]; exact hl)]⟩
      · rw [List.getElem?_eq_none (by rw [List.length_set]; omega)] at e; cases e
    · rw [List.getElem?_set_ne hj] at e
      exact .inr ⟨fun z => hj z.symm, e, by rw [List.getElem?_set_ne hj]⟩
  refine ⟨t.ext, t.rel, ⟨by rw [List.length_set, List.length_set]; exact len, fun j u e => ?_, fun j u e => ?_, fun j l u w a e1 e2 hn e3 e4 => ?_⟩⟩
  · rcases get j false u e with ⟨rfl, rfl, rfl, z⟩ | ⟨_, e, z⟩
    · unfold RRep at rr
      simp only [Bool.false_eq_true, if_false] at rr
      exact ⟨x, z, rr⟩
    · rw [z]; exact t.s.val j u e
  · rcases get j true u e with ⟨rfl, rfl, rfl, z⟩ | ⟨_, e, z⟩
    · unfold RRep at rr
      simp only [if_true] at rr
      obtain ⟨a, o, rfl, h2, h3, h4, h5, h6⟩ := rr
      exact ⟨a, o, z, h2, h3, Classical.byContradiction fun y => hd a y h4, h5, h6⟩
    · rw [z]; exact t.s.own j u e
  · have key : ∀ (l : Nat) (w : PV), b = true → x = .ref a → env[l]? = some (some (true, w)) → σ[l]? = some (some (V.ref a)) → False := by
      intro l w hb hx hw hs
      subst hb
      unfold RRep at rr
      simp only [if_true] at rr
      obtain ⟨a', o, h1, h2, h3, h4, h5, h6⟩ := rr
      rw [hx] at h1
      cases h1
      exact ho a ⟨l, w, hw, hs⟩ h4
    rcases get j true u e1 with ⟨rfl, hb, rfl, z⟩ | ⟨hj, e1', z⟩
    · rcases get l true w e2 with ⟨rfl, _, _, _⟩ | ⟨_, e2', z2⟩
      · exact hn rfl
      · rw [z] at e3; rw [z2] at e4
        cases e3
        exact key l w hb.symm rfl e2' e4
    · rcases get l true w e2 with ⟨rfl, hb, _, z2⟩ | ⟨_, e2', z2⟩
      · rw [z] at e3; rw [z2] at e4
        cases e4
        exact key j u hb.symm rfl e1' e3
      · rw [z] at e3; rw [z2] at e4
        exact t.s.dis j l u w a e1' e2' hn e3 e4
theorem Aft.set (t0 : StOk W F0 ph0 H0 F ph hp env σ H) {env' : FEnv} (a : Aft W F0 ph0 H0 F ph H hp1 env' σ F' ph' H') {i : Nat} {r : Rv} {x : V} (rr : RRep W F' ph' H H' r x) : StOk W F0 ph0 H0 F' ph' hp1 (env'.set i (some r)) (σ.set i (some x)) H' :=
  a.st.set (fun a z => t0.ext.dom a z) a.own rr
/-- a value without lists: the state is kept, the value is no object of one's own -/
theorem lf_keep {r : Rv} {x : V} {Hs : Hp} (rr : RRep W F ph Hs H r x) (h : r.2.lf = true) : keep r env = env ∧ Rep W F ph r.2 x := by
  obtain ⟨b, v⟩ := r
  unfold RRep at rr
  cases b with
  | true =>
    simp only [if_true] at rr
    obtain ⟨a, o, _, _, _, _, _, r⟩ := rr
    cases r <;> simp [PV.lf] at h
  | false =>
    simp only [Bool.false_eq_true, if_false] at rr
    refine ⟨?_, rr⟩
    unfold keep
    rw [if_pos]
    exact h
theorem ref_at {n : Nat} {x : V} (r : Rep W F ph (.ref n) x) : ∃ a, x = .ref a ∧ ph[n]? = some a := by
  cases r with
  | ref h => exact ⟨_, rfl, h⟩
  | obj e q => cases q
/-- a shared object changed -/
theorem StOk.mutR (t : StOk W F0 ph0 H0 F ph hp env σ H) {m : Nat} {a : Addr} {c c' : PV} (ha : ph[m]? = some a) (hc : hp[m]? = some c) (hcl : clean (true, c) = true → clean (true, c') = true) :
    ∃ o, H a = some o ∧ ORep W F ph a c o ∧ ∀ o', ORep W F ph a c' o' → StOk W F0 ph0 H0 F ph (hp.set m c') env σ (upd H a o') := by
  obtain ⟨f1, o, e3, r⟩ := t.rel.sh m a c ha hc
  refine ⟨o, e3, r, fun o' r' => ⟨⟨t.ext.le, t.ext.new, t.ext.pre, t.ext.pnew, fun b q h hn => ?_, fun b h => ?_⟩, ⟨fun b q e => ?_, by rw [List.length_set]; exact t.rel.len, t.rel.nd, fun i b v e1 e2 => ?_, fun i v e2 => ?_, fun b vs e => ?_⟩, ⟨t.s.len, t.s.val, fun j u e => ?_, t.s.dis⟩⟩⟩
  · have ne : b ≠ a := by
      rintro rfl
      rcases t.ext.pnew b (List.mem_of_getElem? ha) with z | z
      · exact hn z
      · rw [h] at z; cases z
    rw [upd_ne ne]; exact t.ext.pres b q h hn
  · by_cases z : b = a
    · subst z; rw [upd_same]; simp
    · rw [upd_ne z]; exact t.ext.dom b h
  · have ne : b ≠ a := fun z => by rw [z, f1] at e; cases e
    rcases t.rel.sub b q e with e | ⟨y, e⟩
    · exact .inl (by rw [upd_ne ne]; exact e)
    · exact .inr ⟨y, by rw [upd_ne ne]; exact e⟩
  · by_cases hi : m = i
    · subst hi
      rw [ha] at e1
      cases e1
      rw [List.getElem?_set_self (List.getElem?_eq_some_iff.mp hc).1] at e2
      cases e2
      exact ⟨f1, o', upd_same, r'⟩
    · rw [List.getElem?_set_ne hi] at e2
      obtain ⟨k1, q, k2, k3⟩ := t.rel.sh i b v e1 e2
      have ne : b ≠ a := by
        rintro rfl
        have hm : m < ph.length := (List.getElem?_eq_some_iff.mp ha).1
        have hi2 : i < ph.length := (List.getElem?_eq_some_iff.mp e1).1
        exact hi ((List.getElem_inj t.rel.nd).mp ((List.getElem?_eq_some_iff.mp ha).2.trans (List.getElem?_eq_some_iff.mp e1).2.symm))
      exact ⟨k1, q, by rw [upd_ne ne]; exact k2, k3⟩
  · by_cases hi : m = i
    · subst hi
      rw [List.getElem?_set_self (List.getElem?_eq_some_iff.mp hc).1] at e2
      cases e2
      exact hcl (t.rel.cl m c hc)
    · rw [List.getElem?_set_ne hi] at e2
      exact t.rel.cl i v e2
  · have ne : b ≠ a := fun z => by rw [z, f1] at e; cases e
    obtain ⟨ob, e1, e2⟩ := t.rel.td b vs e
    exact ⟨ob, by rw [upd_ne ne]; exact e1, e2⟩
  · obtain ⟨b, p, k1, k2, k3, k4, k5, k6⟩ := t.s.own j u e
    refine ⟨b, p, k1, k2, k3, k4, ?_, k6⟩
    rw [upd_ne]
    · exact k5
    · rintro rfl
      exact k3 (List.mem_of_getElem? ha)
/-- a slot's own object changed -/
theorem StOk.mutO (t : StOk W F0 ph0 H0 F ph hp env σ H) {n : Nat} {v : PV} (hv : env[n]? = some (some (true, v))) :
    ∃ a o, σ[n]? = some (some (V.ref a)) ∧ H a = some o ∧ ORep W F ph a v o ∧ ∀ c' o', ORep W F ph a c' o' → StOk W F0 ph0 H0 F ph hp (env.set n (some (true, c'))) σ (upd H a o') := by
  obtain ⟨a, o, g1, g2, g3, g4, g5, g6⟩ := t.s.own n v hv
  refine ⟨a, o, g1, g5, g6, fun c' o' r' => ⟨t.ext.put g4, t.rel.put g2 g3, ⟨by rw [List.length_set]; exact t.s.len, fun j u e => ?_, fun j u e => ?_, fun j l u w b e1 e2 => ?_⟩⟩⟩
  all_goals have hnl : n < env.length := (List.getElem?_eq_some_iff.mp hv).1
  · by_cases hj : n = j
    · subst hj; rw [List.getElem?_set_self hnl] at e; cases e
    · rw [List.getElem?_set_ne hj] at e; exact t.s.val j u e
  · by_cases hj : n = j
    · subst hj
      rw [List.getElem?_set_self hnl] at e
      cases e
      exact ⟨a, o', g1, g2, g3, g4, upd_same, r'⟩
    · rw [List.getElem?_set_ne hj] at e
      obtain ⟨b, p, k1, k2, k3, k4, k5, k6⟩ := t.s.own j u e
      refine ⟨b, p, k1, k2, k3, k4, ?_, k6⟩
      rw [upd_ne]
      · exact k5
      · rintro rfl
        exact t.s.dis n j v u b hv e hj g1 k1
  · have tr : ∀ (j : Nat) (u : PV), (env.set n (some (true, c')))[j]? = some (some (true, u)) → ∃ u', env[j]? = some (some (true, u')) := by
      intro j u e
      by_cases hj : n = j
      · subst hj; exact ⟨v, hv⟩
      · rw [List.getElem?_set_ne hj] at e; exact ⟨u, e⟩
    obtain ⟨u', e1⟩ := tr j u e1
    obtain ⟨w', e2⟩ := tr l w e2
    exact t.s.dis j l u' w' b e1 e2
/-- the object of a slot changed -/
theorem StOk.mut (t : StOk W F0 ph0 H0 F ph hp env σ H) {n : Nat} {f : PV → Option PV} {res : Flow × FEnv × Hs} (e : mutF n f env hp = some res) (hcl : ∀ c c', clean (true, c) = true → f c = some c' → clean (true, c') = true) :
    ∃ a c c' o, σ[n]? = some (some (V.ref a)) ∧ H a = some o ∧ ORep W F ph a c o ∧ f c = some c' ∧ res.1 = .nx ∧ ∀ o', ORep W F ph a c' o' → StOk W F0 ph0 H0 F ph res.2.2 res.2.1 σ (upd H a o') := by
  unfold mutF at e
  split at e
  · rename_i v hv
    obtain ⟨c', h1, rfl⟩ := Option.map_eq_some_iff.mp e
    obtain ⟨a, o, g1, g5, g6, z⟩ := t.mutO hv
    exact ⟨a, v, c', o, g1, g5, g6, h1, rfl, fun o' r' => z c' o' r'⟩
  · rename_i m hv
    obtain ⟨c', h1, rfl⟩ := Option.map_eq_some_iff.mp e
    obtain ⟨c, hc, h1⟩ := Option.bind_eq_some_iff.mp h1
    obtain ⟨x, g1, g2⟩ := t.s.val n _ hv
    obtain ⟨a, rfl, ha⟩ := ref_at g2
    obtain ⟨o, e3, r, z⟩ := t.mutR ha hc fun w => hcl c c' w h1
    exact ⟨a, c, c', o, g1, e3, r, h1, rfl, z⟩
  · cases e
end
end MP
set_option maxRecDepth 100000
/-! MiniPy: statements over the machine. -/
namespace MP
open PySem PySem.Spec PyProof.Rows L2
structure LeF (F : Hp) (ph : List Addr) (F' : Hp) (ph' : List Addr) : Prop where
  le : ∀ a o, F a = some o → F' a = some o
  pre : ∀ (n : Nat) (a : Addr), ph[n]? = some a → ph'[n]? = some a
theorem LeF.refl {F : Hp} {ph : List Addr} : LeF F ph F ph := ⟨fun _ _ z => z, fun _ _ z => z⟩
theorem LeF.trans {F F1 F2 : Hp} {ph ph1 ph2 : List Addr} (a : LeF F ph F1 ph1) (b : LeF F1 ph1 F2 ph2) : LeF F ph F2 ph2 := ⟨fun x o z => b.le x o (a.le x o z), fun n x z => b.pre n x (a.pre n x z)⟩
def Fin (W : Wd) (F0 : Hp) (ph0 : List Addr) (H0 F : Hp) (ph : List Addr) (D : Ends) (res : Flow × FEnv × Hs) : Prop := match res.1 with
  | .nx => ∀ F' ph' σ H, StOk W F0 ph0 H0 F' ph' res.2.2 res.2.1 σ H → LeF F ph F' ph' → D.nx σ H
  | .bk => ∀ F' ph' σ H, StOk W F0 ph0 H0 F' ph' res.2.2 res.2.1 σ H → LeF F ph F' ph' → D.bk σ H
  | .ct => ∀ F' ph' σ H, StOk W F0 ph0 H0 F' ph' res.2.2 res.2.1 σ H → LeF F ph F' ph' → D.ct σ H
  | .rt r => ∀ F' ph' x H, Ext F0 ph0 H0 F' ph' H → RelH W F' ph' res.2.2 H → RRep W F' ph' H0 H r x → D.rt x H
def tX (W : Wd) (G : Gl) (k : Nat) (m : MS) : TS := fun D σ H => ∃ F0 ph0 H0 F ph hp env res, StOk W F0 ph0 H0 F ph hp env σ H ∧ exec G.cst (callF G k) WF m env hp = some res ∧ Fin W F0 ph0 H0 F ph D res
theorem PS_imp {X : Cx} {st : Stmt} {t t' : TS} (h : PS X st t) (i : ∀ D σ H, t' D σ H → t D σ H) : PS X st t' := ⟨fun pins s σ H D I q => h.run pins s σ H D I (i D σ H q)⟩
theorem PSs_imp {X : Cx} {st : List Stmt} {t t' : TS} (h : PSs X st t) (i : ∀ D σ H, t' D σ H → t D σ H) : PSs X st t' := ⟨fun pins s σ H D I q => h.run pins s σ H D I (i D σ H q)⟩
section
variable {W : Wd} {G : Gl} {k : Nat} {C : Cc} {X : Cx}
theorem Fin.le {F0 F F' H0 : Hp} {ph0 ph ph' : List Addr} {D : Ends} {res : Flow × FEnv × Hs} (f : Fin W F0 ph0 H0 F ph D res) (l : LeF F ph F' ph') : Fin W F0 ph0 H0 F' ph' D res := by
  obtain ⟨fl, env, hp⟩ := res
  cases fl with
  | nx => exact fun F2 ph2 σ H t l2 => f F2 ph2 σ H t (l.trans l2)
  | bk => exact fun F2 ph2 σ H t l2 => f F2 ph2 σ H t (l.trans l2)
  | ct => exact fun F2 ph2 σ H t l2 => f F2 ph2 σ H t (l.trans l2)
  | rt r => exact f
theorem Aft.lf {F0 F F' H0 H H' : Hp} {ph0 ph ph' : List Addr} {hp1 : Hs} {env' : FEnv} {σ : L2.St} (a : Aft W F0 ph0 H0 F ph H hp1 env' σ F' ph' H') : LeF F ph F' ph' := ⟨a.le, a.pre⟩
theorem x_nil : PSs X [] (tX W G k .nil) := by
  refine PSs_imp pss_nil ?_
  rintro D σ H ⟨F0, ph0, H0, F, ph, hp, env, res, t, e, f⟩
  simp only [exec] at e
  cases e
  exact f F ph σ H t .refl
theorem x_cons {s r : MS} {st : Stmt} {sts : List Stmt} (h1 : PS X st (tX W G k s)) (h2 : PSs X sts (tX W G k r)) : PSs X (st :: sts) (tX W G k (.cons s r)) := by
  refine PSs_imp (pss_cons h1 h2) ?_
  rintro D σ H ⟨F0, ph0, H0, F, ph, hp, env, res, t, e, f⟩
  simp only [exec] at e
  obtain ⟨r1, e1, e2⟩ := Option.bind_eq_some_iff.mp e
  refine ⟨F0, ph0, H0, F, ph, hp, env, r1, t, e1, ?_⟩
  obtain ⟨fl, env1, hp1⟩ := r1
  cases fl with
  | nx => exact fun F' ph' σ' H' t' l => ⟨F0, ph0, H0, F', ph', hp1, env1, res, t', e2, f.le l⟩
  | bk => cases e2; exact f
  | ct => cases e2; exact f
  | rt v => cases e2; exact f
/-! ### stores -/
theorem x_set {i : Nat} {m : ME} {st : Stmt} {te : TE} (h : PS X st (tAsg te (gName i))) (hi : ∀ σ H Q, tK W G k m σ H Q → te σ H Q) : PS X st (tX W G k (.asg (.nm i) m)) := by
  refine PS_imp h ?_
  rintro D σ H ⟨F0, ph0, H0, F, ph, hp, env, res, t, e, f⟩
  simp only [exec] at e
  obtain ⟨p, e1, e2⟩ := Option.bind_eq_some_iff.mp e
  cases e2
  refine hi σ H _ (exK_step t e1 fun F' ph' x H' a rr => ?_)
  exact f F' ph' _ H' (a.set t rr) a.lf
theorem vis_get {env : FEnv} {i : Nat} {v : PV} : (vis env)[i]? = some (some v) ↔ env[i]? = some (some (false, v)) := by
  unfold vis
  rw [List.getElem?_map]
  cases e : env[i]? with
  | none => simp
  | some o =>
    cases o with
    | none => simp [vis1]
    | some p => obtain ⟨b, u⟩ := p; cases b <;> simp [vis1]
theorem vis_set {env : FEnv} {i : Nat} {v : PV} : vis (env.set i (some (false, v))) = (vis env).set i (some v) := by
  unfold vis
  rw [List.map_set]; rfl
mutual
theorem setF_vis : ∀ (t : Tg) (v : PV) (env env2 : FEnv), setF t v env = some env2 → setTg t v (vis env) = some (vis env2) ∧ env2.length = env.length ∧ ∀ (j : Nat) (u : PV), env2[j]? = some (some (true, u)) → env[j]? = some (some (true, u)) ∧ j ∉ t.slots
  | .nm i, v, env, env2, h => by
    simp only [setF] at h
    cases h
    refine ⟨by rw [vis_set]; rfl, List.length_set, fun j u e => ?_⟩
    by_cases hj : i = j
    · subst hj
      by_cases hl : i < env.length
      · rw [List.getElem?_set_self hl] at e; cases e
      · rw [List.getElem?_eq_none (by rw [List.length_set]; omega)] at e; cases e
    · rw [List.getElem?_set_ne hj] at e
      exact ⟨e, by simp [Tg.slots]; exact fun z => hj z.symm⟩
  | .tp ts, v, env, env2, h => by
    simp only [setF, Option.bind_eq_some_iff] at h
    obtain ⟨xs, hx, h⟩ := h
    obtain ⟨a, b, c⟩ := setFs_vis ts xs env env2 h
    exact ⟨by simp only [setTg, hx, Option.bind_some]; exact a, b, fun j u e => ⟨(c j u e).1, by simpa [Tg.slots] using (c j u e).2⟩⟩
  | .nil, _, _, _, h => by simp [setF] at h
  | .cons _ _, _, _, _, h => by simp [setF] at h
theorem setFs_vis : ∀ (t : Tg) (v : List PV) (env env2 : FEnv), setFs t v env = some env2 → setTgs t v (vis env) = some (vis env2) ∧ env2.length = env.length ∧ ∀ (j : Nat) (u : PV), env2[j]? = some (some (true, u)) → env[j]? = some (some (true, u)) ∧ j ∉ t.slots
  | .nil, v, env, env2, h => by
    cases v with
    | nil => simp only [setFs] at h; cases h; exact ⟨rfl, rfl, fun j u e => ⟨e, by simp [Tg.slots]⟩⟩
    | cons _ _ => simp [setFs] at h
  | .cons t ts, v, env, env2, h => by
    cases v with
    | nil => simp [setFs] at h
    | cons x xs =>
      simp only [setFs, Option.bind_eq_some_iff] at h
      obtain ⟨env1, h1, h2⟩ := h
      obtain ⟨a1, b1, c1⟩ := setF_vis t x env env1 h1
      obtain ⟨a2, b2, c2⟩ := setFs_vis ts xs env1 env2 h2
      refine ⟨by simp only [setTgs, a1, Option.bind_some]; exact a2, b2.trans b1, fun j u e => ?_⟩
      obtain ⟨d1, d2⟩ := c2 j u e
      obtain ⟨d3, d4⟩ := c1 j u d1
      exact ⟨d3, by simp only [Tg.slots, List.mem_append, not_or]; exact ⟨d4, d2⟩⟩
  | .nm _, _, _, _, h => by simp [setFs] at h
  | .tp _, _, _, _, h => by simp [setFs] at h
end
theorem StOk.setT {F0 F H0 H : Hp} {ph0 ph : List Addr} {hp : Hs} {env env2 : FEnv} {σ : L2.St} {tg : Tg} {v : PV} (t : StOk W F0 ph0 H0 F ph hp env σ H) (e : setF tg v env = some env2) :
    RelE W F ph (vis env) σ ∧ setTg tg v (vis env) = some (vis env2) ∧ ∀ σ1, RelE W F ph (vis env2) σ1 → σ1.length = σ.length → (∀ j, j ∉ tg.slots → σ1[j]? = σ[j]?) → StOk W F0 ph0 H0 F ph hp env2 σ1 H := by
  obtain ⟨a, b, c⟩ := setF_vis tg v env env2 e
  refine ⟨⟨by unfold vis; rw [List.length_map]; exact t.s.len, fun i u h => t.s.val i u (vis_get.mp h)⟩, a, fun σ1 hE hl hj => ⟨t.ext, t.rel, ⟨?_, fun i u h => ?_, fun i u h => ?_, fun i j u w x h1 h2 hn e1 e2 => ?_⟩⟩⟩
  · rw [b, hl]; exact t.s.len
  · exact hE.at_ i u (vis_get.mpr h)
  · obtain ⟨h1, h2⟩ := c i u h
    rw [hj i h2]
    exact t.s.own i u h1
  · obtain ⟨g1, g2⟩ := c i u h1
    obtain ⟨g3, g4⟩ := c j w h2
    rw [hj i g2] at e1
    rw [hj j g4] at e2
    exact t.s.dis i j u w x g1 g3 hn e1 e2
theorem tup_RRep {F H Hs : Hp} {ph : List Addr} {r : Rv} {x : V} {xs : List PV} (rr : RRep W F ph Hs H r x) (h : seqP r.2 = some xs) : Rep W F ph r.2 x := by
  obtain ⟨b, v⟩ := r
  unfold RRep at rr
  cases b with
  | true =>
    simp only [if_true] at rr
    obtain ⟨a, o, _, _, _, _, _, r⟩ := rr
    cases r <;> simp [seqP] at h
  | false =>
    simpa using rr
theorem x_asgT {ts : Tg} {m : ME} {st : Stmt} (h : PS X st (tAsg (tK W G k m) (gT W (.tp ts)))) : PS X st (tX W G k (.asg (.tp ts) m)) := by
  refine PS_imp h ?_
  rintro D σ H ⟨F0, ph0, H0, F, ph, hp, env, res, t, e, f⟩
  simp only [exec] at e
  obtain ⟨p, e1, e2⟩ := Option.bind_eq_some_iff.mp e
  obtain ⟨env2, e3, e4⟩ := Option.map_eq_some_iff.mp e2
  cases e4
  refine exK_step t e1 fun F' ph' x H' a rr => ?_
  obtain ⟨g1, g2, g3⟩ := a.st.setT e3
  have hs : ∃ xs, seqP p.1.2 = some xs := by
    simp only [setF, Option.bind_eq_some_iff] at e3
    obtain ⟨xs, hx, _⟩ := e3
    exact ⟨xs, hx⟩
  obtain ⟨xs, hx⟩ := hs
  exact ⟨F', ph', _, _, _, _, a.st.rel, g1, tup_RRep rr hx, g2, fun σ1 hE hl hj => f F' ph' σ1 H' (g3 σ1 hE hl hj) a.lf⟩
theorem exL2_step {F0 F H0 H : Hp} {ph0 ph : List Addr} {hp hp1 : Hs} {env : FEnv} {σ : L2.St} {m : ME} {vs : List PV} {Q : List V → Hp → Prop} (t : StOk W F0 ph0 H0 F ph hp env σ H) (e : evL G.cst (callF G k) m (unf env) hp = some (vs, hp1))
    (q : ∀ F' ph' xs H', Aft W F0 ph0 H0 F ph H hp1 (keep (false, .tup vs) env) σ F' ph' H' → RepA W F' ph' vs xs → Q xs H') : tL W G k m σ H Q := by
  by_cases c : lfAll vs = true
  · have kp : keep (false, .tup vs) env = env := by unfold keep; rw [if_pos]; exact c
    rw [kp] at q
    exact exL_step t e c q
  · have kp : keep (false, .tup vs) env = MP.frz env := by unfold keep; rw [if_neg]; exact c
    rw [kp] at q
    obtain ⟨x1, r1, r2⟩ := t.frz
    refine ⟨frzF F env σ H, ph, hp, unf env, vs, hp1, r1, r2, e, fun F' ph' xs H' e' h' rr => ?_⟩
    exact q F' ph' xs H' ⟨t.drop e' h', fun a o z => e'.le a o (frzF_le t.s a o z), e'.pre, e'.dom, fun a z => (own_frz z).elim⟩ rr
/-- a, b = x, y -/
theorem x_par {i j : Nat} {a b : ME} {st : Stmt} (h : PS X st (tPar i j (tL W G k (.cons a (.cons b .nil))))) : PS X st (tX W G k (.asg (.tp (.cons (.nm i) (.cons (.nm j) .nil))) (.tup (.cons a (.cons b .nil))))) := by
  refine PS_imp h ?_
  rintro D σ H ⟨F0, ph0, H0, F, ph, hp, env, res, t, e, f⟩
  simp only [exec, evK, ME.varOf] at e
  obtain ⟨p, e1, e2⟩ := Option.bind_eq_some_iff.mp e
  obtain ⟨env2, e3, e4⟩ := Option.map_eq_some_iff.mp e2
  cases e4
  obtain ⟨p', e5, e6⟩ := Option.map_eq_some_iff.mp e1
  cases e6
  simp only [ev] at e5
  obtain ⟨q, e7, hl, e8⟩ := mk_some e5
  cases e8
  refine exL2_step t e7 fun F' ph' xs H' af rs => ?_
  have cnt := evL_count _ e7
  simp only [ME.count] at cnt
  obtain ⟨vs, hpq⟩ := q
  match vs, cnt, e3, af, rs, e7 with
  | [v, w], _, e3, af, rs, e7 =>
    obtain ⟨x, y, rfl, rx, ry⟩ := rs.two
    simp only [setF, seqP, Option.bind_some, setFs] at e3
    cases e3
    refine ⟨x, y, rfl, ?_⟩
    have s1 := af.set t (i := i) (RRep.of rx)
    have s2 := s1.set (i := j) (r := (false, w)) (x := y) (Hs := H') (fun a z => s1.ext.dom a z) (fun a z => s1.ownN z) (RRep.of ry)
    exact f F' ph' _ H' s2 af.lf
  | [], cnt, _, _, _, _ => simp at cnt
  | [_], cnt, _, _, _, _ => simp at cnt
  | _ :: _ :: _ :: _, cnt, _, _, _, _ => simp at cnt
theorem x_par3 {i j l : Nat} {a b c : ME} {st : Stmt} (h : PS X st (tPar3 i j l (tL W G k (.cons a (.cons b (.cons c .nil)))))) : PS X st (tX W G k (.asg (.tp (.cons (.nm i) (.cons (.nm j) (.cons (.nm l) .nil)))) (.tup (.cons a (.cons b (.cons c .nil)))))) := by
  refine PS_imp h ?_
  rintro D σ H ⟨F0, ph0, H0, F, ph, hp, env, res, t, e, f⟩
  simp only [exec, evK, ME.varOf] at e
  obtain ⟨p, e1, e2⟩ := Option.bind_eq_some_iff.mp e
  obtain ⟨env2, e3, e4⟩ := Option.map_eq_some_iff.mp e2
  cases e4
  obtain ⟨p', e5, e6⟩ := Option.map_eq_some_iff.mp e1
  cases e6
  simp only [ev] at e5
  obtain ⟨q, e7, hl, e8⟩ := mk_some e5
  cases e8
  refine exL2_step t e7 fun F' ph' xs H' af rs => ?_
  have cnt := evL_count _ e7
  simp only [ME.count] at cnt
  obtain ⟨vs, hpq⟩ := q
  match vs, cnt, e3, af, rs, e7 with
  | [v, w, u], _, e3, af, rs, e7 =>
    cases rs with
    | cons rx rt =>
      obtain ⟨y, z, rfl, ry, rz⟩ := rt.two
      simp only [setF, seqP, Option.bind_some, setFs] at e3
      cases e3
      refine ⟨_, y, z, rfl, ?_⟩
      have s1 := af.set t (i := i) (RRep.of rx)
      have s2 := s1.set (i := j) (r := (false, w)) (x := y) (Hs := H') (fun a z => s1.ext.dom a z) (fun a z => s1.ownN z) (RRep.of ry)
      have s3 := s2.set (i := l) (r := (false, u)) (x := z) (Hs := H') (fun a z => s2.ext.dom a z) (fun a z => s2.ownN z) (RRep.of rz)
      exact f F' ph' _ H' s3 af.lf
  | [], cnt, _, _, _, _ => simp at cnt
  | [_], cnt, _, _, _, _ => simp at cnt
  | [_, _], cnt, _, _, _, _ => simp at cnt
  | _ :: _ :: _ :: _ :: _, cnt, _, _, _, _ => simp at cnt
/-- what an expression that sees no own object leaves of the state -/
theorem StOk.plain {F0 F H0 H F' H' : Hp} {ph0 ph ph' : List Addr} {hp hp' : Hs} {env : FEnv} {σ : L2.St} (t : StOk W F0 ph0 H0 F ph hp env σ H) (e : Ext F ph H F' ph' H') (h : RelH W F' ph' hp' H') : StOk W F0 ph0 H0 F' ph' hp' env σ H' := by
  refine ⟨t.ext.trans e, h, ⟨t.s.len, fun i v q => ?_, fun i v q => ?_, t.s.dis⟩⟩
  · obtain ⟨x, h1, h2⟩ := t.s.val i v q
    exact ⟨x, h1, h2.mono e.le e.pre⟩
  · obtain ⟨a, o, h1, h2, h3, h4, h5, h6⟩ := t.s.own i v q
    refine ⟨a, o, h1, Classical.byContradiction fun z => ?_, fun w => ?_, h4, e.pres a o h5 h3, h6.mono e.le e.pre⟩
    · rcases e.new a z with w | w
      · exact w h2
      · rw [h5] at w; cases w
    · rcases e.pnew a w with z | z
      · exact h3 z
      · rw [h5] at z; cases z
theorem StOk.frzV {F0 H0 H : Hp} {ph0 ph : List Addr} {hp : Hs} {σ : L2.St} : ∀ (is : List Nat) {F : Hp} {env : FEnv}, StOk W F0 ph0 H0 F ph hp env σ H → ∃ F', StOk W F0 ph0 H0 F' ph hp (MP.frzV is env) σ H ∧ ∀ a o, F a = some o → F' a = some o
  | [], F, env, t => ⟨F, t, fun _ _ z => z⟩
  | i :: is, F, env, t => by
    unfold MP.frzV
    split
    · rename_i r hr
      obtain ⟨F1, x, _, _, af⟩ := t.frzAt hr
      obtain ⟨F2, t2, l2⟩ := StOk.frzV is af.st
      exact ⟨F2, t2, fun a o z => l2 a o (af.le a o z)⟩
    · exact StOk.frzV is t
/-- a new own object, no slot's, becomes a value -/
theorem StOk.adopt {F0 F H0 H Hq : Hp} {ph0 ph : List Addr} {hp : Hs} {env : FEnv} {σ : L2.St} {r : Rv} {x : V} (t : StOk W F0 ph0 H0 F ph hp env σ H) (rr : RRep W F ph Hq H r x) (hd : ∀ a, H0 a ≠ none → Hq a ≠ none) (ho : ∀ a, ownA env σ a → Hq a ≠ none) :
    ∃ F', StOk W F0 ph0 H0 F' ph hp env σ H ∧ Rep W F' ph r.2 x ∧ ∀ a o, F a = some o → F' a = some o := by
  obtain ⟨b, v⟩ := r
  unfold RRep at rr
  cases b with
  | false => exact ⟨F, t, by simpa using rr, fun _ _ z => z⟩
  | true =>
    simp only [if_true] at rr
    obtain ⟨a, o, rfl, h2, h3, h4, h5, h6⟩ := rr
    have le := le_upd (o := o) h2
    have h0 : H0 a = none := Classical.byContradiction fun y => hd a y h4
    refine ⟨upd F a o, ⟨⟨fun b q z => le b q (t.ext.le b q z), fun b z => ?_, t.ext.pre, t.ext.pnew, t.ext.pres, t.ext.dom⟩, t.rel.freeze (.inl h5) h2 h3 (fun vs z => absurd z (h6.no_tup vs)), ⟨t.s.len, fun j u e => ?_, fun j u e => ?_, t.s.dis⟩⟩, .obj upd_same (h6.mono le fun _ _ z => z), le⟩
    · by_cases hb : b = a
      · subst hb; exact .inr h0
      · rw [upd_ne hb] at z; exact t.ext.new b z
    · obtain ⟨x, e1, e2⟩ := t.s.val j u e
      exact ⟨x, e1, e2.mono le fun _ _ z => z⟩
    · obtain ⟨b, p, g1, g2, g3, g4, g5, g6⟩ := t.s.own j u e
      refine ⟨b, p, g1, ?_, g3, g4, g5, g6.mono le fun _ _ z => z⟩
      rw [upd_ne]
      · exact g2
      · rintro rfl
        exact ho b ⟨j, u, e, g1⟩ h4
end
end MP
set_option maxRecDepth 100000
/-! MiniPy: statements over the machine, more. -/
namespace MP
open PySem PySem.Spec PyProof.Rows L2
/-! ### what is changed stays without lists -/
theorem lfAll_append : ∀ {xs ys : List PV}, lfAll xs = true → lfAll ys = true → lfAll (xs ++ ys) = true
  | [], _, _, h => h
  | x :: xs, ys, h, h' => by
    simp only [lfAll, Bool.and_eq_true] at h
    simp only [List.cons_append, lfAll, Bool.and_eq_true]
    exact ⟨h.1, lfAll_append h.2 h'⟩
theorem lfAll_set {v : PV} (hv : v.lf = true) : ∀ {xs : List PV} {i : Nat}, lfAll xs = true → lfAll (xs.set i v) = true
  | [], _, _ => rfl
  | x :: xs, 0, h => by
    simp only [lfAll, Bool.and_eq_true] at h
    simp only [List.set, lfAll, Bool.and_eq_true]
    exact ⟨hv, h.2⟩
  | x :: xs, i + 1, h => by
    simp only [lfAll, Bool.and_eq_true] at h
    simp only [List.set, lfAll, Bool.and_eq_true]
    exact ⟨h.1, lfAll_set hv h.2⟩
theorem lfKv_set {k v : PV} (hk : k.lf = true) (hv : v.lf = true) : ∀ {kvs : List (PV × PV)}, (kvs.all fun p => p.1.lf && p.2.lf) = true → ((setKv k v kvs).all fun p => p.1.lf && p.2.lf) = true
  | [], _ => by simp [setKv, hk, hv]
  | (a, b) :: r, h => by
    rw [List.all_cons, Bool.and_eq_true] at h
    rw [setKv]
    split
    · rw [List.all_cons, Bool.and_eq_true]
      refine ⟨?_, h.2⟩
      have := h.1
      simp only [Bool.and_eq_true] at this ⊢
      exact ⟨this.1, hv⟩
    · rw [List.all_cons, Bool.and_eq_true]
      exact ⟨h.1, lfKv_set hk hv h.2⟩
theorem app_clean {v : PV} (hv : v.lf = true) (c c' : PV) (h : clean (true, c) = true) (e : appP v c = some c') : clean (true, c') = true := by
  cases c <;> simp [appP] at e
  obtain ⟨_, rfl⟩ := e
  exact lfAll_append h (by simp [lfAll, hv])
theorem put_clean {i v : PV} (hi : i.lf = true) (hv : v.lf = true) (c c' : PV) (h : clean (true, c) = true) (e : putP c i v = some c') : clean (true, c') = true := by
  unfold putP at e
  split at e
  · split at e <;> cases e
    exact lfKv_set hi hv h
  · split at e
    · split at e
      · split at e <;> cases e
        exact lfAll_set hv h
      · cases e
    · cases e
  · cases e
theorem own_mut {n : Nat} {f : PV → Option PV} {env : FEnv} {hp : Hs} {res : Flow × FEnv × Hs} (h : ownF n f env hp = some res) : mutF n f env hp = some res := by
  unfold ownF at h
  unfold mutF
  split at h
  · rename_i v hv
    rw [hv]; exact h
  · cases h
section
variable {W : Wd} {G : Gl} {k : Nat} {C : Cc} {X : Cx}
theorem own_slot {F0 F H0 H : Hp} {ph0 ph : List Addr} {hp hp1 : Hs} {env : FEnv} {σ : L2.St} {n : Nat} {v : PV} {res : Flow × FEnv × Hs} (t : StOk W F0 ph0 H0 F ph hp env σ H) (hX : X.K = W.K) (e2 : ownF n (appP v) env hp1 = some res) : ∃ a, σ[n]? = some (some (V.ref a)) ∧ tyV X.K "list" (V.ref a) H := by
  unfold ownF at e2
  split at e2
  · rename_i v hv
    obtain ⟨c', h1, _⟩ := Option.map_eq_some_iff.mp e2
    obtain ⟨a, o, g1, _, _, _, g5, g6⟩ := t.s.own n v hv
    cases g6 with
    | lst r => exact ⟨a, g1, .inl ⟨rfl, _, .inl (.inl g5)⟩⟩
    | _ => simp [appP] at h1
  · cases e2
/-- x.append(e) -/
theorem x_app {n : Nat} {m : ME} {st : Stmt} (h : PS X st (tDrop (tBM X.K "list" rAppend (tVar n) (tCons (tE W G k m) tNil)))) (hX : X.K = W.K) : PS X st (tX W G k (.app n m)) := by
  refine PS_imp h ?_
  rintro D σ H ⟨F0, ph0, H0, F, ph, hp, env, res, t, e, f⟩
  simp only [exec] at e
  obtain ⟨p, e1, e2⟩ := bnd_some e
  split at e2
  · rename_i lf
    obtain ⟨a, ga, gt⟩ := own_slot (X := X) t hX e2
    refine ⟨.ref a, ga, gt, ex_step t e1 fun F' ph' x H' af rr => ?_⟩
    obtain ⟨kp, rx⟩ := lf_keep rr lf
    rw [kp] at af
    obtain ⟨a', c, c', o, g1, g2, g3, g4, g5, g6⟩ := af.st.mut (own_mut e2) fun c c' => app_clean lf c c'
    rw [ga] at g1
    cases g1
    cases c <;> simp [appP] at g4
    obtain ⟨hl, rfl⟩ := g4
    cases g3 with
    | lst r =>
      refine ⟨a, _, x, rfl, rfl, g2, by rw [← r.length]; exact hl, ?_⟩
      have st := g6 _ (.lst (r.append (.cons rx .nil)))
      obtain ⟨fl, env2, hp2⟩ := res
      cases g5
      exact f F' ph' σ _ st af.lf
  · obtain ⟨F1, t1, l1⟩ := t.frzV m.vars
    obtain ⟨p2, e3, e4⟩ := bnd_some e2
    obtain ⟨a, ga, gt⟩ := own_slot (X := X) t1 hX e4
    refine ⟨.ref a, ga, gt, F1, ph, hp, vis (frzV m.vars env), _, _, t1.rel, ⟨by unfold vis; rw [List.length_map]; exact t1.s.len, fun i u h => t1.s.val i u (vis_get.mp h)⟩, e3, fun F2 ph2 x H2 x2 h2 rr => ?_⟩
    have t2 := t1.plain x2 h2
    obtain ⟨F3, t3, rx, l3⟩ := t2.adopt rr (fun a z => t1.ext.dom a z) (fun a z => t1.ownN z)
    unfold ownF at e4
    split at e4
    rotate_left
    · cases e4
    rename_i v hv
    obtain ⟨c', h1, hres⟩ := Option.map_eq_some_iff.mp e4
    cases hres
    obtain ⟨a', o, g1, g2, g3, g6⟩ := t3.mutO hv
    rw [ga] at g1
    cases g1
    cases v <;> simp [appP] at h1
    obtain ⟨hl, rfl⟩ := h1
    cases g3 with
    | lst r =>
      refine ⟨a, _, x, rfl, rfl, g2, by rw [← r.length]; exact hl, ?_⟩
      have st := g6 _ _ (.lst (r.append (.cons rx .nil)))
      exact f F3 ph2 σ _ st ⟨fun b q z => l3 b q (x2.le b q (l1 b q z)), x2.pre⟩
theorem popP_some {j c : PV} {q : PV × PV} (h : popP j c = some q) : ∃ xs i, c = .lst xs ∧ j = .int i ∧ 0 ≤ i ∧ i < 2 ^ 63 ∧ xs[i.toNat]? = some q.1 ∧ q.2 = .lst (xs.eraseIdx i.toNat) := by
  unfold popP at h
  split at h
  · split at h
    · split at h
      · rename_i hb
        obtain ⟨v, h1, rfl⟩ := Option.map_eq_some_iff.mp h
        exact ⟨_, _, rfl, rfl, hb.1, hb.2, h1, rfl⟩
      · cases h
    · cases h
  · cases h
theorem seqIx {i : Int} {n : Nat} (h0 : 0 ≤ i) (h : i.toNat < n) : seqIndex? i n = some i.toNat := seqIndex_of h0 (by omega)
/-- y = x.pop(e) -/
theorem x_pop {y n : Nat} {m : ME} {st : Stmt} (h : PS X st (tAsg (tBM X.K "list" rPopAt (tVar n) (tCons (tE W G k m) tNil)) (gName y))) : PS X st (tX W G k (.pop y n m)) := by
  refine PS_imp h ?_
  rintro D σ H ⟨F0, ph0, H0, F, ph, hp, env, res, t, e, f⟩
  simp only [exec] at e
  obtain ⟨p, e1, e2⟩ := bnd_some e
  split at e2
  rotate_left
  · cases e2
  rename_i c hv
  obtain ⟨q, e3, e4⟩ := Option.map_eq_some_iff.mp e2
  cases e4
  obtain ⟨xs, i, rfl, hj, b1, b2, hx, hq⟩ := popP_some e3
  obtain ⟨a, o, g1, g2, g3, g4, g5, g6⟩ := t.s.own n _ hv
  cases g6 with
  | @lst _ _ vs r =>
    refine ⟨.ref a, g1, .inl ⟨rfl, _, .inl (.inl g5)⟩, ex_step t e1 fun F' ph' x H' af rr => ?_⟩
    obtain ⟨kp, rx⟩ := lf_keep rr (by rw [hj]; rfl)
    rw [kp] at af
    rw [hj] at rx
    cases rx.intV
    obtain ⟨a', o', k1, k2, k3, k6⟩ := af.st.mutO hv
    rw [g1] at k1
    cases k1
    cases k3 with
    | @lst _ _ ws r2 =>
      obtain ⟨z, hz, rz⟩ := r2.get hx
      have hlt : i.toNat < ws.length := (List.getElem?_eq_some_iff.mp hz).1
      refine ⟨a, ws, i, i.toNat, z, rfl, rfl, k2, by omega, b2, seqIx b1 hlt, hz, ?_⟩
      have st := k6 q.2 (.lst (ws.eraseIdx i.toNat)) (by rw [hq]; exact .lst (r2.eraseIdx _))
      have st2 := st.set (i := y) (r := (false, q.1)) (x := z) (Hs := upd H' a (.lst (ws.eraseIdx i.toNat))) (fun b w => st.ext.dom b w) (fun b w => st.ownN w) (RRep.of rz)
      exact f F' ph' _ _ st2 af.lf
/-- o[i] = v, by values -/
def tPut (W : Wd) : TSet := fun o i v H Q => ∃ F ph hp a c j w c' ob, o = .ref a ∧ H a = some ob ∧ RelH W F ph hp H ∧ ORep W F ph a c ob ∧ Rep W F ph j i ∧ Rep W F ph w v ∧ putP c j w = some c' ∧ ∀ o', ORep W F ph a c' o' → Q (upd H a o')
theorem put_any (fit : Fit W X) : PSet X (tPut W) := by
  intro pins s σ H o i v ov iv u Q I ro ri rv ⟨F, ph, hp, a, c, j, w, c', ob, eo, hob, hR, rc, rj, rw', hput, q⟩
  subst eo
  cases (show ov = Value.ref a from ro)
  unfold putP at hput
  split at hput
  · split at hput <;> cases hput
    rename_i kvs ok
    rw [Bool.and_eq_true, decide_eq_true_eq] at ok
    exact dict_put fit I hR ok.1 ok.2 hob rc ri rv rj rw' fun o' s' I' r' => ⟨_, I', q o' r'⟩
  · split at hput
    · split at hput
      · split at hput <;> cases hput
        rename_i xs i' h0 hlt
        cases rj.intV
        cases rc with
        | @lst _ _ vs r =>
          have hl := r.length
          refine set_list pins s σ H _ _ _ _ _ _ _ I ro ri rv ⟨a, vs, _, _, rfl, rfl, hob, ?_, q _ (.lst (r.set rw' _))⟩
          unfold ixN
          rw [if_pos h0, if_pos (by omega)]
      · cases hput
    · cases hput
  · cases hput
theorem x_seti {n : Nat} {mi me : ME} {st : Stmt} (h : PS X st (tAsg (tE W G k me) (gSub (tVar n) (tE W G k mi) (tPut W)))) : PS X st (tX W G k (.seti (.var n) mi me)) := by
  refine PS_imp h ?_
  rintro D σ H ⟨F0, ph0, H0, F, ph, hp, env, res, t, e, f⟩
  simp only [exec, ME.varOf] at e
  obtain ⟨p, e1, e2⟩ := bnd_some e
  obtain ⟨p2, e3, e4⟩ := bnd_some e2
  split at e4
  rotate_left
  · cases e4
  rename_i lf
  rw [Bool.and_eq_true] at lf
  refine ex_step t e1 fun F1 ph1 v H1 af rr => ?_
  obtain ⟨kp, rv⟩ := lf_keep rr lf.1
  rw [kp] at af
  have slot : ∃ a, σ[n]? = some (some (V.ref a)) := by
    unfold mutF at e4
    split at e4
    · rename_i w hv
      obtain ⟨a, o, g, _⟩ := af.st.s.own n w hv
      exact ⟨a, g⟩
    · rename_i q hv
      obtain ⟨x, g, r⟩ := af.st.s.val n _ hv
      obtain ⟨a, rfl, _⟩ := ref_at r
      exact ⟨a, g⟩
    · cases e4
  obtain ⟨a, ga⟩ := slot
  refine ⟨.ref a, ga, ex_step af.st e3 fun F2 ph2 j H2 af2 rr2 => ?_⟩
  obtain ⟨kp2, rj⟩ := lf_keep rr2 lf.2
  rw [kp2] at af2
  obtain ⟨a', c, c', o, g1, g2, g3, g4, g5, g6⟩ := af2.st.mut e4 fun c c' => put_clean lf.2 lf.1 c c'
  rw [ga] at g1
  cases g1
  refine ⟨F2, ph2, _, a, c, _, _, c', o, rfl, g2, af2.st.rel, g3, rj, rv.mono af2.le af2.pre, g4, fun o' r' => ?_⟩
  have st := g6 o' r'
  obtain ⟨fl, env2, hp2⟩ := res
  cases g5
  exact f F2 ph2 σ _ st (af.lf.trans af2.lf)
theorem x_setiR {mo mi me : ME} {st : Stmt} (hv : mo.varOf = none) (h : PS X st (tAsg (tE W G k me) (gSub (tE W G k mo) (tE W G k mi) (tPut W)))) : PS X st (tX W G k (.seti mo mi me)) := by
  refine PS_imp h ?_
  rintro D σ H ⟨F0, ph0, H0, F, ph, hp, env, res, t, e, f⟩
  simp only [exec, hv] at e
  obtain ⟨p, e1, e2⟩ := bnd_some e
  obtain ⟨p0, e0, e2⟩ := bnd_some e2
  obtain ⟨p2, e3, e4⟩ := bnd_some e2
  split at e4
  rotate_left
  · cases e4
  rename_i lf
  rw [Bool.and_eq_true] at lf
  unfold refF at e4
  split at e4
  rotate_left
  · cases e4
  rename_i n hn
  obtain ⟨c', h1, h2⟩ := Option.map_eq_some_iff.mp e4
  cases h2
  obtain ⟨c, hc, h1⟩ := Option.bind_eq_some_iff.mp h1
  refine ex_step t e1 fun F1 ph1 v H1 af rr => ?_
  obtain ⟨kp, rv⟩ := lf_keep rr lf.1
  rw [kp] at af
  refine ex_step af.st e0 fun F2 ph2 x H2 af2 rr2 => ?_
  obtain ⟨kp2, rx⟩ := lf_keep rr2 (by rw [hn]; rfl)
  rw [kp2] at af2
  rw [hn] at rx
  obtain ⟨a, rfl, ha⟩ := ref_at rx
  refine ex_step af2.st e3 fun F3 ph3 j H3 af3 rr3 => ?_
  obtain ⟨kp3, rj⟩ := lf_keep rr3 lf.2
  rw [kp3] at af3
  have ha3 := af3.pre n a ha
  obtain ⟨o, g2, g3, g6⟩ := af3.st.mutR ha3 hc fun w => put_clean lf.2 lf.1 c c' w h1
  refine ⟨F3, ph3, _, a, c, _, _, c', o, rfl, g2, af3.st.rel, g3, rj, (rv.mono af2.le af2.pre).mono af3.le af3.pre, h1, fun o' r' => ?_⟩
  exact f F3 ph3 σ _ (g6 o' r') ((af.lf.trans af2.lf).trans af3.lf)
/-- x op= e, ints -/
theorem x_aug {i : Nat} {op : Bop} {m : ME} {st : Stmt} {g : Int → Int → Int} (hg : (op = .add ∧ g = fun a b => a + b) ∨ (op = .sub ∧ g = fun a b => a - b)) (h : PS X st (tAug i (tE W G k m) (ipI g))) : PS X st (tX W G k (.aug i op m)) := by
  refine PS_imp h ?_
  rintro D σ H ⟨F0, ph0, H0, F, ph, hp, env, res, t, e, f⟩
  simp only [exec] at e
  obtain ⟨x, hx, e⟩ := Option.bind_eq_some_iff.mp e
  obtain ⟨p, e1, e⟩ := bnd_some e
  obtain ⟨v, hv, e⟩ := Option.map_eq_some_iff.mp e
  cases e
  have h3 : env[i]? = some (some x) := by
    cases z : env[i]? with
    | none => rw [z] at hx; cases hx
    | some o => rw [z] at hx; exact congrArg some hx
  have bothI : ∃ a b, x.2 = .int a ∧ p.1.2 = .int b ∧ v = .int (g a b) := by
    rcases hg with ⟨rfl, rfl⟩ | ⟨rfl, rfl⟩
    · cases ha : x.2 <;> rw [ha] at hv <;> simp [augP] at hv
      cases hb : p.1.2 <;> rw [hb] at hv <;> simp at hv
      exact ⟨_, _, rfl, rfl, hv.symm⟩
    · cases ha : x.2 <;> rw [ha] at hv <;> simp [augP] at hv
      cases hb : p.1.2 <;> rw [hb] at hv <;> simp at hv
      exact ⟨_, _, rfl, rfl, hv.symm⟩
  obtain ⟨a, b, ea, eb, rfl⟩ := bothI
  have hs : ∃ y, σ[i]? = some (some y) ∧ y = .int a := by
    obtain ⟨bb, xv⟩ := x
    simp only at ea
    subst ea
    cases bb with
    | false =>
      obtain ⟨y, h1, h2⟩ := t.s.val i _ h3
      exact ⟨y, h1, h2.intV⟩
    | true =>
      obtain ⟨_, _, _, _, _, _, _, r⟩ := t.s.own i _ h3
      cases r
  obtain ⟨y, h1, rfl⟩ := hs
  refine ⟨_, h1, ex_step t e1 fun F' ph' z H' af rr => ?_⟩
  obtain ⟨kp, rz⟩ := lf_keep rr (by rw [eb]; rfl)
  rw [kp] at af
  rw [eb] at rz
  cases rz.intV
  refine ⟨a, b, rfl, rfl, ?_⟩
  exact f F' ph' _ H' (af.st.set (i := i) (r := (false, .int (g a b))) (x := .int (g a b)) (Hs := H') (fun b w => af.st.ext.dom b w) (fun b w => af.st.ownN w) (RRep.of (.int _))) af.lf
end
end MP
set_option maxRecDepth 100000
/-! MiniPy: tests, loops, returns over the machine. -/
namespace MP
open PySem PySem.Spec PyProof.Rows L2
section
variable {W : Wd} {G : Gl} {k : Nat} {C : Cc} {X : Cx}
theorem bl_keep {F H Hs : Hp} {ph : List Addr} {env : FEnv} {r : Rv} {x : V} {b : Bool} (rr : RRep W F ph Hs H r x) (h : r.2 = .bl b) : keep r env = env ∧ x = .bl b := by
  obtain ⟨k, rx⟩ := lf_keep (env := env) rr (by rw [h]; rfl)
  rw [h] at rx
  exact ⟨k, rx.blV⟩
theorem x_ife {c : ME} {a b : MS} {ec : Expr} {sa sb : List Stmt} {pos : Pos} (hc : PT X ec (tB (tE W G k c))) (ha : PSs X sa (tX W G k a)) (hb : PSs X sb (tX W G k b)) : PS X (.If ec sa sb pos) (tX W G k (.ife c a b)) := by
  refine PS_imp (ps_if hc ha hb) ?_
  rintro D σ H ⟨F0, ph0, H0, F, ph, hp, env, res, t, e, f⟩
  simp only [exec] at e
  obtain ⟨p, d, e1, eb, e2⟩ := bndB_some e
  refine ex_step t e1 fun F' ph' x H' af rr => ?_
  obtain ⟨kp, rfl⟩ := bl_keep rr eb
  rw [kp] at af
  refine ⟨d, rfl, ?_⟩
  cases d with
  | true =>
    rw [if_pos rfl] at e2 ⊢
    exact ⟨F0, ph0, H0, F', ph', _, env, res, af.st, e2, f.le af.lf⟩
  | false =>
    rw [if_neg (by simp)] at e2 ⊢
    exact ⟨F0, ph0, H0, F', ph', _, env, res, af.st, e2, f.le af.lf⟩
theorem x_whl {c : ME} {b : MS} {ec : Expr} {sb : List Stmt} {pos : Pos} (hp : PassesOwn (model X.prog X.w) X.A X.env X.xe) (hc : PT X ec (tB (tE W G k c))) (hb : PSs X sb (tX W G k b)) : PS X (.While ec sb [] pos) (tX W G k (.whl c b)) := by
  refine PS_imp (ps_while hp hc hb) ?_
  rintro D σ H ⟨F0, ph0, H0, F, ph, hp0, env, res, t, e, f⟩
  simp only [exec] at e
  refine ⟨fun m σ H => ∃ F' ph' hp env, StOk W F0 ph0 H0 F' ph' hp env σ H ∧ LeF F ph F' ph' ∧ whlE (fun env hp => ev G.cst (callF G k) c (unf env) hp) (exec G.cst (callF G k) WF b) m env hp = some res, ⟨WF, F, ph, hp0, env, t, .refl, e⟩, ?_⟩
  rintro m σ1 H1 ⟨F1, ph1, hp1, env1, t1, l1, e1⟩
  cases m with
  | zero => cases e1
  | succ m =>
    simp only [whlE] at e1
    obtain ⟨p, d, e2, eb, e3⟩ := bndB_some e1
    refine ex_step t1 e2 fun F' ph' x H' af rr => ?_
    obtain ⟨kp, rfl⟩ := bl_keep rr eb
    rw [kp] at af
    refine ⟨d, rfl, ?_⟩
    cases d with
    | false =>
      rw [if_neg (by simp)] at e3 ⊢
      cases e3
      exact f F' ph' σ1 H' af.st (l1.trans af.lf)
    | true =>
      rw [if_pos rfl] at e3 ⊢
      obtain ⟨rb, e4, e5⟩ := Option.bind_eq_some_iff.mp e3
      refine ⟨fun σ H => ∃ m', m' < m + 1 ∧ ∃ F' ph' hp env, StOk W F0 ph0 H0 F' ph' hp env σ H ∧ LeF F ph F' ph' ∧ whlE (fun env hp => ev G.cst (callF G k) c (unf env) hp) (exec G.cst (callF G k) WF b) m' env hp = some res, fun σ' H' h => h, ?_⟩
      refine ⟨F0, ph0, H0, F', ph', _, env1, rb, af.st, e4, ?_⟩
      obtain ⟨fl, env2, hp2⟩ := rb
      cases fl with
      | nx => exact fun F2 ph2 σ2 H2 t2 l2 => ⟨m, Nat.lt_succ_self _, F2, ph2, hp2, env2, t2, (l1.trans af.lf).trans l2, e5⟩
      | ct => exact fun F2 ph2 σ2 H2 t2 l2 => ⟨m, Nat.lt_succ_self _, F2, ph2, hp2, env2, t2, (l1.trans af.lf).trans l2, e5⟩
      | bk =>
        cases e5
        exact fun F2 ph2 σ2 H2 t2 l2 => f F2 ph2 σ2 H2 t2 ((l1.trans af.lf).trans l2)
      | rt v =>
        cases e5
        exact f
/-- a result that is walked: it stands from here on -/
theorem StOk.hold {F0 F' H0 H H' : Hp} {ph0 ph' : List Addr} {hp1 : Hs} {env : FEnv} {σ : L2.St} {r : Rv} {x : V} (t : StOk W F0 ph0 H0 F' ph' hp1 env σ H') (hd : ∀ a, H0 a ≠ none → H a ≠ none) (ho : ∀ a, ownA env σ a → H a ≠ none) (rr : RRep W F' ph' H H' r x) :
    ∃ F2, StOk W F0 ph0 H0 F2 ph' hp1 env σ H' ∧ LeF F' ph' F2 ph' ∧ Rep W F2 ph' r.2 x := by
  obtain ⟨b, v⟩ := r
  unfold RRep at rr
  cases b with
  | false =>
    simp only [Bool.false_eq_true, if_false] at rr
    exact ⟨F', t, .refl, rr⟩
  | true =>
    simp only [if_true] at rr
    obtain ⟨a, o, rfl, h2, h3, h4, h5, h6⟩ := rr
    have le := le_upd (o := o) h2
    have h0 : H0 a = none := Classical.byContradiction fun y => hd a y h4
    refine ⟨upd F' a o, ⟨⟨fun b q z => le b q (t.ext.le b q z), fun b z => ?_, t.ext.pre, t.ext.pnew, t.ext.pres, t.ext.dom⟩, t.rel.freeze (.inl h5) h2 h3 (fun vs z => absurd z (h6.no_tup vs)), ⟨t.s.len, fun j u e => ?_, fun j u e => ?_, t.s.dis⟩⟩, ⟨le, fun _ _ z => z⟩, .obj upd_same (h6.mono le fun _ _ z => z)⟩
    · by_cases hb : b = a
      · subst hb; exact .inr h0
      · rw [upd_ne hb] at z; exact t.ext.new b z
    · obtain ⟨y, e1, e2⟩ := t.s.val j u e
      exact ⟨y, e1, e2.mono le fun _ _ z => z⟩
    · obtain ⟨b, p, g1, g2, g3, g4, g5, g6⟩ := t.s.own j u e
      refine ⟨b, p, g1, ?_, g3, g4, g5, g6.mono le fun _ _ z => z⟩
      rw [upd_ne]
      · exact g2
      · rintro rfl
        exact ho b ⟨j, u, e, g1⟩ h4
theorem lf_upTo (lo : Int) (n : Nat) : lfAll (upTo lo n) = true := by
  unfold upTo
  generalize List.range n = l
  induction l with
  | nil => rfl
  | cons a l ih => simp only [List.map_cons, lfAll, ih, PV.lf, Bool.and_self]
theorem lf_rng {vs xs : List PV} (h : rngP vs = some xs) : lfAll vs = true := by
  rcases rng_cases h with ⟨j, rfl, _⟩ | ⟨i, j, rfl, _⟩ <;> rfl
/-- what a for walks, behind it the state -/
def iS (W : Wd) (G : Gl) (k : Nat) (ik : Ik) (m : ME) : TI := fun σ H R => ∃ F0 ph0 H0 F ph hp env p, StOk W F0 ph0 H0 F ph hp env σ H ∧ evIK G.cst (callF G k) ik m env hp = some p ∧
  ∀ F' ph' H' J, StOk W F0 ph0 H0 F' ph' p.2.2 p.2.1 σ H' → LeF F ph F' ph' → JOk W F' ph' p.1 J → R J H'
theorem iS_val {m : ME} {σ : L2.St} {H : Hp} {R : It → Hp → Prop} (h : iS W G k .val m σ H R) : iG W (tK W G k m) σ H R := by
  obtain ⟨F0, ph0, H0, F, ph, hp, env, p, t, e, q⟩ := h
  simp only [evIK] at e
  obtain ⟨p1, e1, e2⟩ := Option.bind_eq_some_iff.mp e
  obtain ⟨xs, e3, e4⟩ := Option.map_eq_some_iff.mp e2
  cases e4
  refine exK_step t e1 fun F' ph' x H' af rr => ?_
  obtain ⟨F2, t2, l2, rx⟩ := af.st.hold (fun a z => t.ext.dom a z) af.own rr
  exact ⟨F2, ph', _, _, _, t2.rel, rx, e3, fun J j => q F2 ph' H' J t2 (af.lf.trans l2) j⟩
theorem iS_rng {m : ME} {σ : L2.St} {H : Hp} {R : It → Hp → Prop} : (iS W G k .rng m σ H R → iR W G k false m σ H R) ∧ (iS W G k .rrng m σ H R → iR W G k true m σ H R) := by
  constructor
  all_goals
    rintro ⟨F0, ph0, H0, F, ph, hp, env, p, t, e, q⟩
    simp only [evIK] at e
    obtain ⟨p1, e1, e2⟩ := bndL_some e
    obtain ⟨xs, e3, e4⟩ := Option.map_eq_some_iff.mp e2
    cases e4
    obtain ⟨x1, r1, r2⟩ := t.frz
    refine ⟨frzF F env σ H, ph, hp, unf env, _, _, _, r1, r2, e1, e3, fun F' ph' H' J e' h' hE' j => ?_⟩
    obtain ⟨t', le⟩ := t.thaw e' h'
    exact q _ ph' H' J t' ⟨le, e'.pre⟩ (j _ _)
theorem x_for {tg : Tg} {ik : Ik} {m : ME} {b : MS} {et ei : Expr} {sb : List Stmt} {pos : Pos} (hp : PassesOwn (model X.prog X.w) X.A X.env X.xe) (hc : X.calm = true) (hi : PI X et ei (iS W G k ik m)) (hg : PG X et (gT W tg)) (hb : PSs X sb (tX W G k b))
    (hs : ∀ x, foldedSetIterable ei X.env x = pure x) : PS X (.For et ei sb [] pos) (tX W G k (.for_ tg ik m b)) := by
  refine PS_imp (ps_for hp hc hi hg hb hs) ?_
  rintro D σ H ⟨F0, ph0, H0, F, ph, hp0, env, res, t, e, f⟩
  simp only [exec] at e
  obtain ⟨p, e1, e2⟩ := Option.bind_eq_some_iff.mp e
  refine ⟨F0, ph0, H0, F, ph, hp0, env, p, t, e1, fun F1 ph1 H1 J t1 l1 jok => ?_⟩
  refine ⟨fun i m σ H => m = p.1.length - i ∧ i ≤ p.1.length ∧ ∃ F' ph' hp env, StOk W F0 ph0 H0 F' ph' hp env σ H ∧ LeF F1 ph1 F' ph' ∧ forE tg (exec G.cst (callF G k) WF b) (p.1.drop i) env hp = some res, ⟨p.1.length, by simp, Nat.zero_le _, F1, ph1, p.2.2, p.2.1, t1, .refl, by rw [List.drop_zero]; exact e2⟩, ?_⟩
  rintro i m σ2 H2 ⟨rfl, hi2, F2, ph2, hp2, env2, t2, l2, e3⟩
  obtain ⟨jk1, jk2⟩ := jok i F2 ph2 hp2 H2 l2.le t2.rel
  by_cases hlt : i < p.1.length
  · refine .inr ?_
    have hx : p.1[i]? = some p.1[i] := List.getElem?_eq_getElem hlt
    obtain ⟨go, yl⟩ := jk1 _ hx
    rw [List.drop_eq_getElem_cons hlt] at e3
    simp only [forE] at e3
    obtain ⟨env3, e4, e5⟩ := Option.bind_eq_some_iff.mp e3
    obtain ⟨rb, e6, e7⟩ := Option.bind_eq_some_iff.mp e5
    refine ⟨go, fun σ H => ∃ m', m' < p.1.length - i ∧ m' = p.1.length - (i + 1) ∧ i + 1 ≤ p.1.length ∧ ∃ F' ph' hp env, StOk W F0 ph0 H0 F' ph' hp env σ H ∧ LeF F1 ph1 F' ph' ∧ forE tg (exec G.cst (callF G k) WF b) (p.1.drop (i + 1)) env hp = some res, fun σ' H' h => ?_, fun y H3 hy => ?_⟩
    · obtain ⟨m', a, b⟩ := h
      exact ⟨m', a, b⟩
    obtain ⟨rfl, ry⟩ := yl y H3 hy
    obtain ⟨g1, g2, g3⟩ := t2.setT e4
    refine ⟨F2, ph2, _, _, _, _, t2.rel, g1, ry.mono l2.le l2.pre, g2, fun σ3 hE hl hj => ?_⟩
    have t3 := g3 σ3 hE hl hj
    refine ⟨F0, ph0, H0, F2, ph2, hp2, env3, rb, t3, e6, ?_⟩
    obtain ⟨fl, env4, hp4⟩ := rb
    cases fl with
    | nx => exact fun F4 ph4 σ4 H4 t4 l4 => ⟨_, by omega, rfl, hlt, F4, ph4, hp4, env4, t4, l2.trans l4, e7⟩
    | ct => exact fun F4 ph4 σ4 H4 t4 l4 => ⟨_, by omega, rfl, hlt, F4, ph4, hp4, env4, t4, l2.trans l4, e7⟩
    | bk =>
      cases e7
      exact fun F4 ph4 σ4 H4 t4 l4 => f F4 ph4 σ4 H4 t4 ((l1.trans l2).trans l4)
    | rt v =>
      cases e7
      exact f
  · refine .inl ⟨jk2 (by omega), ?_⟩
    have : p.1.drop i = [] := List.drop_eq_nil_of_le (by omega)
    rw [this] at e3
    simp only [forE] at e3
    cases e3
    exact f F2 ph2 σ2 H2 t2 (l1.trans l2)
theorem x_ret {m : ME} {e : Expr} {pos : Pos} (he : PE X e (tK W G k m)) : PS X (.Return (some e) pos) (tX W G k (.ret m)) := by
  refine PS_imp (ps_ret he) ?_
  rintro D σ H ⟨F0, ph0, H0, F, ph, hp, env, res, t, e, f⟩
  simp only [exec] at e
  show tK W G k m σ H D.rt
  unfold tK
  split at e
  · rename_i i hi
    rw [hi]
    obtain ⟨r, h1, h2⟩ := Option.map_eq_some_iff.mp e
    cases h2
    have h3 : env[i]? = some (some r) := by
      cases z : env[i]? with
      | none => rw [z] at h1; cases h1
      | some o => rw [z] at h1; exact congrArg some h1
    obtain ⟨b, v⟩ := r
    cases b with
    | false =>
      obtain ⟨x, g1, g2⟩ := t.s.val i v h3
      exact ⟨x, g1, f F ph x H t.ext t.rel (RRep.of g2)⟩
    | true =>
      obtain ⟨a, o, g1, g2, g3, g4, g5, g6⟩ := t.s.own i v h3
      exact ⟨_, g1, f F ph _ H t.ext t.rel (RRep.own g2 g3 g4 g5 g6)⟩
  · rename_i hi
    rw [hi]
    obtain ⟨p, h1, h2⟩ := Option.map_eq_some_iff.mp e
    cases h2
    obtain ⟨x1, r1, r2⟩ := t.frz
    exact ⟨frzF F env σ H, ph, hp, unf env, p.1, p.2, r1, r2, h1, fun F' ph' x H' e' h' rr => f F' ph' x H' (x1.trans e') h' (rr.back t.ext)⟩
theorem x_retn {pos : Pos} : PS X (.Return none pos) (tX W G k .retn) := by
  refine PS_imp ps_retN ?_
  rintro D σ H ⟨F0, ph0, H0, F, ph, hp, env, res, t, e, f⟩
  simp only [exec] at e
  cases e
  exact f F ph .non H t.ext t.rel (RRep.of .non)
theorem x_brk {pos : Pos} : PS X (.Break pos) (tX W G k .brk) := by
  refine PS_imp ps_break ?_
  rintro D σ H ⟨F0, ph0, H0, F, ph, hp, env, res, t, e, f⟩
  simp only [exec] at e
  cases e
  exact f F ph σ H t .refl
theorem x_cnt {pos : Pos} : PS X (.Continue pos) (tX W G k .cnt) := by
  refine PS_imp ps_continue ?_
  rintro D σ H ⟨F0, ph0, H0, F, ph, hp, env, res, t, e, f⟩
  simp only [exec] at e
  cases e
  exact f F ph σ H t .refl
theorem x_pas {pos : Pos} : PS X (.Pass pos) (tX W G k .pas) := by
  refine PS_imp ps_pass ?_
  rintro D σ H ⟨F0, ph0, H0, F, ph, hp, env, res, t, e, f⟩
  simp only [exec] at e
  cases e
  exact f F ph σ H t .refl
theorem x_exp {m : ME} {st : Stmt} (h : PS X st (tDrop (tK W G k m))) : PS X st (tX W G k (.exp m)) := by
  refine PS_imp h ?_
  rintro D σ H ⟨F0, ph0, H0, F, ph, hp, env, res, t, e, f⟩
  simp only [exec] at e
  obtain ⟨p, e1, e2⟩ := Option.map_eq_some_iff.mp e
  cases e2
  exact exK_step t e1 fun F' ph' x H' af rr => f F' ph' σ H' af.st af.lf
end
end MP
set_option maxRecDepth 100000
/-! MiniPy: the check of a statement, and its soundness. -/
namespace MP
open PySem PySem.Spec PyProof.Rows L2
/-- a comprehension whose value is stored at once -/
def swL (C : Cc) (x : Str) (p : Pos) : Expr → Bool
  | .ListComp _ _ scope pos => decide (C.sc.names.lookup x = some .local) && (p.line == pos.line) && !(scope.names.any fun (n, k) => n == x && (k == .local || k == .cell))
  | _ => false
def noComp : Expr → Bool
  | .ListComp _ _ _ _ => false | .SetComp _ _ _ _ => false | .DictComp _ _ _ _ _ => false
  | _ => true
def starB : Expr → Bool
  | .Starred _ _ => true | _ => false
def swNames (C : Cc) (ts : List Expr) : List Str := ts.filterMap fun
  | .Name id pos => if C.sc.names.lookup id == some .local && pos.line == (ts.head?.map (·.pos.line)).getD 0 then some id else none
  | _ => none
def swNone (C : Cc) (tg e : Expr) : Bool := match tg, e with
  | .Tuple ts _ _, .Tuple vs _ _ => (!(ts.length == 2 || ts.length == 3) || vs.length != ts.length) || (vs.any starB || ((swNames C ts).length != ts.length || (swNames C ts).eraseDups.length != (swNames C ts).length))
  | .Tuple _ _ _, _ => true
  | _, _ => false
def isLc : ME → Bool
  | .lc _ _ _ _ _ => true
  | .lc2 _ _ _ _ _ _ _ _ _ => true
  | _ => false
mutual
def chkS (G : Gl) : MS → Cc → Stmt → Bool
  | .nil, _, _ => false
  | .cons _ _, _, _ => false
  | .asg t m, C, st => match st with
    | .Assign [tg] e pos => chk G m C e && (match t, tg with
      | .nm i, .Name x p => decide (C.N[i]? = some x) && locB C x && (if swL C x p e then isLc m && decide (C.sc.names.lookup x = some .local) else true)
      | .tp ts, tg => if swNone C tg e then chkT C (.tp ts) tg && noComp e else (match ts, tg, m, e with
        | .cons (.nm i) (.cons (.nm j) .nil), .Tuple [.Name x px, .Name y py] _ _, .tup (.cons _ (.cons _ .nil)), .Tuple [a, b] _ _ => decide (C.N[i]? = some x) && decide (C.N[j]? = some y) && decide (i ≠ j) && decide (C.sc.names.lookup x = some .local) && decide (C.sc.names.lookup y = some .local) && (py.line == px.line) && decide (x ≠ y) &&
            !starB a && !starB b && !([a, b].all (foldedForSure 8)) && !([a, b].all (constantsAlone 8))
        | _, _, _, _ => false)
      | _, _ => false)
    | _ => false
  | .aug i op m, C, st => match st with
    | .AugAssign (.Name x _) o e _ => decide (C.N[i]? = some x) && locB C x && decide (o = opOf op) && decide (op = .add ∨ op = .sub) && chk G m C e
    | _ => false
  | .seti o mi me, C, st => match st with
    | .Assign [.Subscript eo ei _] e _ => chk G o C eo && chk G mi C ei && chk G me C e && noSl ei
    | _ => false
  | .app n m, C, st => match st with
    | .Expr (.Call (.Attribute (.Name x p) nm apos) [e] [] cpos) _ => decide (nm = "append") && chk G (.var n) C (.Name x p) && notStar e && (apos.endLine == cpos.line) && chk G m C e
    | _ => false
  | .ext _ _, _, _ => false
  | .pop t n m, C, st => match st with
    | .Assign [.Name z _] (.Call (.Attribute (.Name x p) nm apos) [e] [] cpos) _ => decide (C.N[t]? = some z) && locB C z && decide (nm = "pop") && chk G (.var n) C (.Name x p) && notStar e && (apos.endLine == cpos.line) && chk G m C e
    | _ => false
  | .ife c a b, C, st => match st with
    | .If ec sa sb _ => chk G c C ec && chkSs G a C sa && chkSs G b C sb
    | _ => false
  | .whl c b, C, st => match st with
    | .While ec sb [] _ => chk G c C ec && chkSs G b C sb
    | _ => false
  | .for_ t ik m b, C, st => match st with
    | .For et ei sb [] _ => chkT C t et && itB C ik m.count (chk G m C) (chkL G m C) ei && chkSs G b C sb
    | _ => false
  | .ret m, C, st => match st with
    | .Return (some e) _ => chk G m C e
    | _ => false
  | .retn, _, st => match st with
    | .Return none _ => true
    | _ => false
  | .brk, _, st => match st with
    | .Break _ => true
    | _ => false
  | .cnt, _, st => match st with
    | .Continue _ => true
    | _ => false
  | .pas, _, st => match st with
    | .Pass _ => true
    | _ => false
  | .exp m, C, st => match st with
    | .Expr e _ => chk G m C e && noComp e
    | _ => false
def chkSs (G : Gl) : MS → Cc → List Stmt → Bool
  | .nil, _, sts => sts.isEmpty
  | .cons s r, C, sts => match sts with
    | st :: sts => chkS G s C st && chkSs G r C sts
    | [] => false
  | _, _, _ => false
end
structure SOk (W : Wd) (G : Gl) (k : Nat) (C : Cc) (X : Cx) : Prop where
  x : XOk W G k C X
  pass : PassesOwn (model X.prog X.w) X.A X.env X.xe
section
variable {W : Wd} {G : Gl} {k : Nat} {C : Cc} {X : Cx}
theorem bk_of (ok : XOk W G k C X) : X.env.blockKind = .function := by
  unfold PySem.Env.blockKind
  rw [ok.sc, ok.kind]; rfl
theorem sw_name {x : Str} {p : Pos} {l : Nat} {e : Expr} (ok : XOk W G k C X) (h : swL C x p e = false) (hc : noComp e = true ∨ ∃ a b s q, e = .ListComp a b s q) : swapsWith e (some (.Name x p)) l X.env = pure false := by
  rcases hc with hc | ⟨a, b, s, q, rfl⟩
  · cases e <;> first | rfl | (simp [noComp] at hc)
  · unfold swapsWith
    have kx : X.env.kindOf x = C.sc.names.lookup x := by show X.env.scope.names.lookup x = _; rw [ok.sc]
    simp only [bk_of ok, kx, Expr.pos]
    unfold swL at h
    have : ((ScopeKind.function == ScopeKind.function) && C.sc.names.lookup x == some .local && p.line == q.line && !(s.names.any fun (n, k) => n == x && (k == .local || k == .cell))) = false := by
      rw [show (ScopeKind.function == ScopeKind.function) = true from rfl, Bool.true_and]
      by_cases hl : C.sc.names.lookup x = some .local
      · rw [hl] at h ⊢
        simpa using h
      · have : (C.sc.names.lookup x == some .local) = false := by simpa using hl
        rw [this]; rfl
    rw [this]
theorem sw_none {t e : Expr} {l : Nat} (h : noComp e = true) (env : PySem.Env) : swapsWith e (some t) l env = pure false := by
  cases e <;> first | rfl | (simp [noComp] at h)
theorem sw_drop {e : Expr} {l : Nat} (h : noComp e = true) (env : PySem.Env) : swapsWith e none l env = pure false := by
  cases e <;> first | rfl | (simp [noComp] at h)
theorem sw_sub {a b e : Expr} {q : Pos} {l : Nat} (env : PySem.Env) : swapsWith e (some (.Subscript a b q)) l env = pure false := by
  cases e <;> rfl
theorem comp_or {m : ME} {e : Expr} (h : chk G m C e = true) : noComp e = true ∨ ∃ a b s q, e = .ListComp a b s q := by
  cases e with
  | ListComp a b s q => exact .inr ⟨a, b, s, q, rfl⟩
  | SetComp a b s q =>
    exfalso
    induction m with
    | hp a ih =>
      unfold chk at h
      rw [Bool.and_eq_true] at h
      exact ih h.1
    | _ => simp [chk] at h
  | DictComp a b c s q =>
    exfalso
    induction m with
    | hp a ih =>
      unfold chk at h
      rw [Bool.and_eq_true] at h
      exact ih h.1
    | _ => simp [chk] at h
  | _ => exact .inl rfl
theorem names_eq (ok : XOk W G k C X) (ts : List Expr) (l : Nat) : (ts.filterMap fun
    | .Name id pos => if X.env.kindOf id == some .local && pos.line == l then some id else none
    | _ => none) = ts.filterMap fun
    | .Name id pos => if C.sc.names.lookup id == some .local && pos.line == l then some id else none
    | _ => none := by
  have kx : ∀ x, X.env.kindOf x = C.sc.names.lookup x := fun x => by show X.env.scope.names.lookup x = _; rw [ok.sc]
  simp only [kx]
theorem sw_no (ok : XOk W G k C X) {tg e : Expr} (h : swNone C tg e = true) : swappedStores [tg] e X.env = pure none := by
  unfold swNone at h
  split at h
  · rename_i ts n p vs n2 p2
    unfold swappedStores
    simp only [pure_bind]
    have kx : ∀ x, X.env.kindOf x = C.sc.names.lookup x := fun x => by show X.env.scope.names.lookup x = _; rw [ok.sc]
    simp only [kx]
    split
    · rfl
    · rename_i h1
      split
      · rfl
      · rename_i h2
        split
        · rfl
        · rename_i h3
          exfalso
          rw [Bool.or_eq_true] at h
          rcases h with h | h
          · apply h1; rw [h]; rfl
          · rw [Bool.or_eq_true] at h
            rcases h with h | h
            · apply h2
              refine Eq.trans ?_ h
              congr 1
            · apply h3
              exact h
  · rename_i h0
    unfold swappedStores
    cases e <;> first | rfl | skip
    exact absurd rfl (h0 _ _ _ )
  · cases h
end
end MP
set_option maxRecDepth 100000
set_option maxHeartbeats 1000000
namespace MP
open PySem PySem.Spec PyProof.Rows L2
section
variable {W : Wd} {G : Gl} {k : Nat} {C : Cc} {X : Cx}
/-- a, b = x, y with plain local names -/
theorem sw_two (ok : XOk W G k C X) {x y : Str} {px py pt pt2 : Pos} {kt k2 : Nat} {a b : Expr} (hx : C.sc.names.lookup x = some .local) (hy : C.sc.names.lookup y = some .local) (hl : (py.line == px.line) = true) (ne : x ≠ y) (sa : starB a = false) (sb : starB b = false)
    (f1 : ([a, b].all (foldedForSure 8)) = false) (f2 : ([a, b].all (constantsAlone 8)) = false) : swappedStores [.Tuple [.Name x px, .Name y py] kt pt] (.Tuple [a, b] k2 pt2) X.env = pure (some [x, y]) := by
  have kx : ∀ x, X.env.kindOf x = C.sc.names.lookup x := fun x => by show X.env.scope.names.lookup x = _; rw [ok.sc]
  unfold swappedStores
  simp only [pure_bind, bk_of ok]
  have h1 : (!(([Expr.Name x px, Expr.Name y py].length == 2) || ([Expr.Name x px, Expr.Name y py].length == 3)) || [a, b].length != [Expr.Name x px, Expr.Name y py].length || ScopeKind.function != ScopeKind.function) = false := by rfl
  rw [if_neg (by rw [h1]; simp)]
  have h2 : [a, b].any starB = false := by simp [sa, sb]
  split
  · rename_i z
    exact absurd (show [a, b].any starB = true from z) (by rw [h2]; simp)
  have names : ([Expr.Name x px, Expr.Name y py].filterMap fun
      | .Name id pos => if X.env.kindOf id == some .local && pos.line == (([Expr.Name x px, Expr.Name y py].head?.map (·.pos.line)).getD 0) then some id else none
      | _ => none) = [x, y] := by
    show List.filterMap _ _ = _
    have hl' : py.line = px.line := by simpa using hl
    simp [List.filterMap, kx, hx, hy, Expr.pos, hl']
  split
  · rename_i z
    exfalso
    have z2 : ([x, y].length != 2 || [x, y].eraseDups.length != [x, y].length) = true := by
      rw [← names]; exact z
    have ed : [x, y].eraseDups = [x, y] := by
      have yx : (y == x) = false := by simpa using ne.symm
      simp [List.eraseDups_cons, yx]
    rw [ed] at z2
    simp at z2
  split
  · rename_i z; rw [f1] at z; cases z
  split
  · rename_i z; rw [f2] at z; cases z
  show pure (some _) = _
  congr 1
  exact congrArg some names
end
end MP
set_option maxRecDepth 100000
set_option maxHeartbeats 1000000
/-! MiniPy: statements are sound. -/
namespace MP
open PySem PySem.Spec PyProof.Rows L2
section
variable {W : Wd} {G : Gl} {k : Nat} {C : Cc} {X : Cx}
theorem tK_lc {m : ME} (h : isLc m = true) : tK W G k m = tE W G k m := by
  cases m <;> simp [isLc] at h <;> rfl
/-- name = [..], stored at once -/
theorem set_lc (ok : XOk W G k C X) {i : Nat} {m : ME} {x : Str} {p pos : Pos} {e : Expr} (hl : isLc m = true) (h : chk G m C e = true) (hN : C.N[i]? = some x) (hx : C.sc.names.lookup x = some .local) (sw : swL C x p e = true) : PS X (.Assign [.Name x p] e pos) (tX W G k (.asg (.nm i) m)) := by
  have hxl : X.env.scope.names.lookup x = some .local := by rw [ok.sc]; exact hx
  have hk0 : X.env.scope.kind = .function := by rw [ok.sc]; exact ok.kind
  cases m <;> simp [isLc] at hl
  · rename_i elt t ik it c
    unfold chk at h
    split at h
    · rename_i ee tg i' ifs scope pos'
      simp only [Bool.and_eq_true] at h
      obtain ⟨⟨⟨⟨h1, h2⟩, h3⟩, h4⟩, h5⟩ := h
      have hk := okK h2
      obtain ⟨p1, p2⟩ := it_any (tg := tg) ok h3 (fun z => ((s_any it).1 C X _ ok z).1) fun es z => (s_any it).2 C X es ok z
      have hb := blkOk_by h2
      rw [← ok.N, ← ok.sc] at hb
      simp only [swL, Bool.and_eq_true, Bool.not_eq_true'] at sw
      have pe := ps_setLc (pos := pos') (spos := pos) (py := p) (i := i) ok.fit.calm (by rw [ok.N]; exact ok.nd) (by rw [ok.N]; exact hN) hxl (sw_true hk0 hxl sw.1.2 sw.2) p1 hb (fun s H c' cl fp => (sg_any (ok.blk hk s H c' cl fp) t).1 tg h1) (fun s H c' cl fp => ifs_any (C := C.blk scope) h4 fun e z => ((s_any c).1 _ _ e (ok.blk hk s H c' cl fp) z).2)
        (fun s H c' cl fp => ((s_any elt).1 _ _ ee (ok.blk hk s H c' cl fp) h5).1) fun x => foldS_of p2 _ x
      rw [own_slots] at pe
      exact x_set pe fun σ H Q q => lc_step q
    · cases h
  · rename_i elt t ik it c t1 k1 it1 c1
    unfold chk at h
    split at h
    · rename_i ee tg i' ifs tg1 i1 ifs1 scope pos'
      simp only [Bool.and_eq_true] at h
      obtain ⟨⟨⟨⟨⟨⟨⟨h1, h2⟩, h3⟩, h4⟩, h5⟩, h6⟩, h7⟩, h8⟩ := h
      have hk := okK h2
      obtain ⟨p1, p2⟩ := it_any (tg := tg) ok h3 (fun z => ((s_any it).1 C X _ ok z).1) fun es z => (s_any it).2 C X es ok z
      have hb := blkOk_by h2
      rw [← ok.N, ← ok.sc] at hb
      have q1 : ∀ (s : Shared) (H : Hp) (c' : Addr) (cl : List (Str × Addr)) (fp : List Addr), PI (X.blk s H scope (compEnvC scope cl c' X.env) fp) tg1 i1 (iK W G k k1 it1) ∧ isSet i1 = false := fun s H c' cl fp =>
        it_any (tg := tg1) (ok.blk hk s H c' cl fp) h6 (fun z => ((s_any it1).1 _ _ _ (ok.blk hk s H c' cl fp) z).1) fun es z => (s_any it1).2 _ _ es (ok.blk hk s H c' cl fp) z
      have s1 : isSet i1 = false := by unfold itB at h6; rw [Bool.and_eq_true, Bool.not_eq_true'] at h6; exact h6.1
      simp only [swL, Bool.and_eq_true, Bool.not_eq_true'] at sw
      have pe := ps_setLc2 (pos := pos') (spos := pos) (py := p) (i := i) (vs1 := t1.slots) ok.fit.calm (by rw [ok.N]; exact ok.nd) (by rw [ok.N]; exact hN) hxl (sw_true hk0 hxl sw.1.2 sw.2) p1 hb (by rw [own_slots]; exact fun i hi => List.mem_append_right _ hi) (fun s H c' cl fp => (sg_any (ok.blk hk s H c' cl fp) t).1 tg h1) (fun s H c' cl fp => ifs_any (C := C.blk scope) h4 fun e z => ((s_any c).1 _ _ e (ok.blk hk s H c' cl fp) z).2)
        (fun s H c' cl fp => (q1 s H c' cl fp).1) (fun s H c' cl fp => (sg_any (ok.blk hk s H c' cl fp) t1).1 tg1 h5) (fun s H c' cl fp => ifs_any (C := C.blk scope) h7 fun e z => ((s_any c1).1 _ _ e (ok.blk hk s H c' cl fp) z).2)
        (fun s H c' cl fp => ((s_any elt).1 _ _ ee (ok.blk hk s H c' cl fp) h8).1) (fun x => foldS_of p2 _ x) fun env x => foldS_of s1 env x
      rw [own_slots] at pe
      exact x_set pe fun σ H Q q => lc2_step q
    · cases h
theorem pe_V (ok : XOk W G k C X) {n : Nat} {e : Expr} (h : chk G (.var n) C e = true) : PE X e (tVar n) := pe_K (m := .var n) ok h
theorem itS (ok : XOk W G k C X) {m : ME} {ik : Ik} {tg e : Expr} (h : itB C ik m.count (chk G m C) (chkL G m C) e = true) : PI X tg e (iS W G k ik m) ∧ isSet e = false := by
  unfold itB at h
  rw [Bool.and_eq_true, Bool.not_eq_true'] at h
  refine ⟨?_, h.1⟩
  have h := h.2
  cases ik with
  | val => exact PI_imp (pi_valG ok.fit (pe_K ok h)) fun σ H R q => iS_val q
  | rng =>
    simp only at h
    split at h
    · simp only [Bool.and_eq_true, decide_eq_true_eq] at h
      obtain ⟨⟨⟨⟨⟨a, b⟩, c⟩, d⟩, e⟩, f⟩ := h
      exact PI_imp (pi_rng ok a b c d e ((s_any m).2 C X _ ok f)) fun σ H R z => iS_rng.1 z
    · cases h
  | rrng =>
    simp only at h
    split at h
    · simp only [Bool.and_eq_true, decide_eq_true_eq] at h
      obtain ⟨⟨⟨⟨⟨⟨⟨a, a2⟩, b⟩, b2⟩, c⟩, d⟩, e⟩, f⟩ := h
      exact PI_imp (pi_rrng ok a a2 b b2 c d e ((s_any m).2 C X _ ok f)) fun σ H R z => iS_rng.2 z
    · cases h
theorem assign_sub {o i : Expr} {pos : Pos} (h : noSl i = true) (env : PySem.Env) (v : Value) : assign (.Subscript o i pos) env v = (do
      let ov ← holding [v] (eval o env)
      let iv ← holding [v, ov] (eval i env)
      standAt pos
      holding [v, ov, iv] (setItem ov iv v)
      release [v, ov, iv] []) := by
  cases i <;> first | rfl | (simp [noSl] at h)
theorem st_any : ∀ m : MS, (∀ (C : Cc) (X : Cx) (st : Stmt), SOk W G k C X → chkS G m C st = true → PS X st (tX W G k m)) ∧ (∀ (C : Cc) (X : Cx) (sts : List Stmt), SOk W G k C X → chkSs G m C sts = true → PSs X sts (tX W G k m)) := by
  intro m
  induction m with
  | nil =>
    refine ⟨fun C X st ok h => by simp [chkS] at h, fun C X sts ok h => ?_⟩
    unfold chkSs at h
    have : sts = [] := by simpa using h
    subst this
    exact x_nil
  | cons s r ihs ihr =>
    refine ⟨fun C X st ok h => by simp [chkS] at h, fun C X sts ok h => ?_⟩
    unfold chkSs at h
    split at h
    · rw [Bool.and_eq_true] at h
      exact x_cons (ihs.1 C X _ ok h.1) (ihr.2 C X _ ok h.2)
    · cases h
  | asg t m =>
    refine ⟨fun C X st ok h => ?_, fun C X sts ok h => by simp [chkSs] at h⟩
    unfold chkS at h
    split at h
    rotate_left
    · cases h
    rename_i tg e pos
    rw [Bool.and_eq_true] at h
    obtain ⟨hm, h⟩ := h
    split at h
    · rename_i i x p
      simp only [Bool.and_eq_true, decide_eq_true_eq] at h
      obtain ⟨⟨h1, h2⟩, h3⟩ := h
      obtain ⟨l1, l2⟩ := loc_of ok.x h2
      by_cases sw : swL C x p e = true
      · rw [if_pos sw, Bool.and_eq_true, decide_eq_true_eq] at h3
        exact set_lc ok.x h3.1 hm h1 h3.2 sw
      · exact x_set (ps_set (i := i) (by rw [ok.x.N]; exact ok.x.nd) (by rw [ok.x.N]; exact h1) l1 (pe_K ok.x hm) (sw_name ok.x (by simpa using sw) (comp_or hm)) l2) fun σ H Q q => q
    · rename_i ts
      split at h
      · rename_i sn
        rw [Bool.and_eq_true] at h
        refine x_asgT (ps_asg (pe_K ok.x hm) ((sg_any ok.x (.tp ts)).1 _ h.1) (sw_none h.2 _) (sw_no ok.x sn) ?_)
        obtain ⟨n, q⟩ : ∃ n, True := ⟨0, trivial⟩
        cases tg <;> first | rfl | (simp [chkT] at h; done) | skip
      · split at h
        · rename_i i j x px y py kt pt a b ea eb k2 pt2 _
          simp only [Bool.and_eq_true, decide_eq_true_eq, Bool.not_eq_true'] at h
          obtain ⟨⟨⟨⟨⟨⟨⟨⟨⟨⟨h1, h2⟩, h3⟩, h4⟩, h5⟩, h6⟩, h7⟩, h8⟩, h9⟩, h10⟩, h11⟩ := h
          unfold chk at hm
          have ha := (s_any (.cons a (.cons b .nil))).2 C X _ ok.x hm
          exact x_par (ps_par ok.x.fit.calm (by rw [ok.x.N]; exact ok.x.nd) (by rw [ok.x.N]; exact h1) (by rw [ok.x.N]; exact h2) h3 (by rw [ok.x.sc]; exact h4) (by rw [ok.x.sc]; exact h5) ha (sw_two ok.x h4 h5 h6 h7 h8 h9 h10 h11))
        · cases h
    · cases h
  | aug i op m =>
    refine ⟨fun C X st ok h => ?_, fun C X sts ok h => by simp [chkSs] at h⟩
    unfold chkS at h
    split at h
    · simp only [Bool.and_eq_true, decide_eq_true_eq] at h
      obtain ⟨⟨⟨⟨h1, h2⟩, h3⟩, h4⟩, h5⟩ := h
      obtain ⟨l1, l2⟩ := loc_of ok.x h2
      subst h3
      have he := ((s_any m).1 C X _ ok.x h5).1
      rcases h4 with rfl | rfl
      · exact x_aug (.inl ⟨rfl, rfl⟩) (ps_aug (by rw [ok.x.N]; exact ok.x.nd) (by rw [ok.x.N]; exact h1) l1 he ip_add l2)
      · exact x_aug (.inr ⟨rfl, rfl⟩) (ps_aug (by rw [ok.x.N]; exact ok.x.nd) (by rw [ok.x.N]; exact h1) l1 he ip_sub l2)
    · cases h
  | seti o mi me =>
    refine ⟨fun C X st ok h => ?_, fun C X sts ok h => by simp [chkSs] at h⟩
    unfold chkS at h
    split at h
    · rename_i eo ei p e pos
      simp only [Bool.and_eq_true] at h
      obtain ⟨⟨⟨h1, h2⟩, h3⟩, h4⟩ := h
      have base : ∀ {te : TE}, PE X eo te → PS X (.Assign [.Subscript eo ei p] e pos) (tAsg (tE W G k me) (gSub te (tE W G k mi) (tPut W))) := fun {te} ho =>
        ps_asg (((s_any me).1 C X _ ok.x h3).1) (pg_sub ho (((s_any mi).1 C X _ ok.x h2).1) (put_any ok.x.fit) (fun v => assign_sub h4 _ v)) (show swapsWith e (some (.Subscript eo ei p)) pos.line X.env = pure false from sw_sub (a := eo) (b := ei) (q := p) (l := pos.line) X.env) rfl rfl
      cases hv : o.varOf with
      | some n =>
        have := varOf_some hv
        subst this
        exact x_seti (base (pe_V ok.x h1))
      | none => exact x_setiR hv (base ((s_any o).1 C X _ ok.x h1).1)
    · cases h
  | app n m =>
    refine ⟨fun C X st ok h => ?_, fun C X sts ok h => by simp [chkSs] at h⟩
    unfold chkS at h
    split at h
    · simp only [Bool.and_eq_true, decide_eq_true_eq] at h
      obtain ⟨⟨⟨⟨h1, h2⟩, h3⟩, h4⟩, h5⟩ := h
      subst h1
      refine x_app (ps_expr (pe_bm PySem.F.plainAttrs_list PySem.F.slot_list_append PySem.F.type_list_append mt_append (pe_V ok.x h2) (pa_cons ((s_any m).1 C X _ ok.x h5).1 pa_nil (starEach_of h3 _ _)) rfl ?_ h4 (starEach_of h3 _ _) rfl) rfl) ok.x.fit.K
      exact star_few (by simp [h3]) (by simp)
    · cases h
  | ext n m => exact ⟨fun C X st ok h => by simp [chkS] at h, fun C X sts ok h => by simp [chkSs] at h⟩
  | pop t n m =>
    refine ⟨fun C X st ok h => ?_, fun C X sts ok h => by simp [chkSs] at h⟩
    unfold chkS at h
    split at h
    · simp only [Bool.and_eq_true, decide_eq_true_eq] at h
      obtain ⟨⟨⟨⟨⟨⟨h1, h2⟩, h3⟩, h4⟩, h5⟩, h6⟩, h7⟩ := h
      obtain ⟨l1, l2⟩ := loc_of ok.x h2
      subst h3
      refine x_pop (ps_set (by rw [ok.x.N]; exact ok.x.nd) (by rw [ok.x.N]; exact h1) l1 (pe_bm PySem.F.plainAttrs_list PySem.F.slot_list_pop PySem.F.type_list_pop mt_popAt (pe_V ok.x h4) (pa_cons ((s_any m).1 C X _ ok.x h7).1 pa_nil (starEach_of h5 _ _)) rfl ?_ h6 (starEach_of h5 _ _) rfl) rfl l2)
      exact star_few (by simp [h5]) (by simp)
    · cases h
  | ife c a b iha ihb =>
    refine ⟨fun C X st ok h => ?_, fun C X sts ok h => by simp [chkSs] at h⟩
    unfold chkS at h
    split at h
    · simp only [Bool.and_eq_true] at h
      exact x_ife ((s_any c).1 C X _ ok.x h.1.1).2 (iha.2 C X _ ok h.1.2) (ihb.2 C X _ ok h.2)
    · cases h
  | whl c b ihb =>
    refine ⟨fun C X st ok h => ?_, fun C X sts ok h => by simp [chkSs] at h⟩
    unfold chkS at h
    split at h
    · rw [Bool.and_eq_true] at h
      exact x_whl ok.pass ((s_any c).1 C X _ ok.x h.1).2 (ihb.2 C X _ ok h.2)
    · cases h
  | for_ t ik m b ihb =>
    refine ⟨fun C X st ok h => ?_, fun C X sts ok h => by simp [chkSs] at h⟩
    unfold chkS at h
    split at h
    · simp only [Bool.and_eq_true] at h
      obtain ⟨⟨h1, h2⟩, h3⟩ := h
      obtain ⟨p1, p2⟩ := itS ok.x h2
      exact x_for ok.pass ok.x.fit.calm p1 ((sg_any ok.x t).1 _ h1) (ihb.2 C X _ ok h3) fun x => foldS_of p2 _ x
    · cases h
  | ret m =>
    refine ⟨fun C X st ok h => ?_, fun C X sts ok h => by simp [chkSs] at h⟩
    unfold chkS at h
    split at h
    · exact x_ret (pe_K ok.x h)
    · cases h
  | retn =>
    refine ⟨fun C X st ok h => ?_, fun C X sts ok h => by simp [chkSs] at h⟩
    unfold chkS at h
    split at h
    · exact x_retn
    · cases h
  | brk =>
    refine ⟨fun C X st ok h => ?_, fun C X sts ok h => by simp [chkSs] at h⟩
    unfold chkS at h
    split at h
    · exact x_brk
    · cases h
  | cnt =>
    refine ⟨fun C X st ok h => ?_, fun C X sts ok h => by simp [chkSs] at h⟩
    unfold chkS at h
    split at h
    · exact x_cnt
    · cases h
  | pas =>
    refine ⟨fun C X st ok h => ?_, fun C X sts ok h => by simp [chkSs] at h⟩
    unfold chkS at h
    split at h
    · exact x_pas
    · cases h
  | exp m =>
    refine ⟨fun C X st ok h => ?_, fun C X sts ok h => by simp [chkSs] at h⟩
    unfold chkS at h
    split at h
    · rw [Bool.and_eq_true] at h
      exact x_exp (ps_expr (pe_K ok.x h.1) (sw_drop h.2 _))
    · cases h
end
end MP
set_option maxRecDepth 100000
/-! MiniPy: defs keep what the evaluator says. -/
namespace MP
open PySem PySem.Spec PyProof.Rows L2
section
variable {W : Wd} {F : Hp} {ph : List Addr}
mutual
theorem Rep.cut (n : Nat) : ∀ {v : PV} {x : V}, v.rb n = true → Rep W F ph v x → Rep W F (ph.take n) v x
  | _, _, _, .non => .non
  | _, _, _, .bl b => .bl b
  | _, _, _, .int i => .int i
  | _, _, _, .str s h => .str s h
  | _, _, l, .tup h r => .tup h (RepA.cut n (by simpa [PV.rb] using l) r)
  | _, _, l, .ktup h r => .ktup h (RepA.cut n (by simpa [PV.rb] using l) r)
  | _, _, l, .obj h r => .obj h (ORep.cut n l r)
  | _, _, l, .ref h => .ref (by
    have l : decide (_ < n) = true := l
    rw [List.getElem?_take_of_lt (of_decide_eq_true l)]; exact h)
  | _, _, _, .fn h => .fn h
theorem RepA.cut (n : Nat) : ∀ {v : List PV} {x : List V}, rbAll n v = true → RepA W F ph v x → RepA W F (ph.take n) v x
  | _, _, _, .nil => .nil
  | _, _, l, .cons h r => by
    simp only [rbAll, Bool.and_eq_true] at l
    exact .cons (Rep.cut n l.1 h) (RepA.cut n l.2 r)
theorem RepD.cut (n : Nat) : ∀ {v : List (PV × PV)} {x : List DictEntry}, rbKv n v = true → RepD W F ph v x → RepD W F (ph.take n) v x
  | _, _, _, .nil => .nil
  | _, _, l, .cons k h r t => by
    simp only [rbKv, Bool.and_eq_true] at l
    exact .cons k (Rep.cut n l.1.2 h) r (RepD.cut n l.2 t)
theorem ORep.cut (n : Nat) : ∀ {a : Addr} {v : PV} {o : HO}, v.rb n = true → ORep W F ph a v o → ORep W F (ph.take n) a v o
  | _, _, _, l, .lst r => .lst (RepA.cut n (by simpa [PV.rb] using l) r)
  | _, _, _, l, .dct h1 h2 h3 h4 h5 r => .dct h1 h2 h3 h4 h5 (RepD.cut n (by simpa [PV.rb] using l) r)
  | _, _, _, _, .psI h1 h2 h3 => .psI h1 h2 h3
  | _, _, _, _, .psT h1 h2 h3 => .psT h1 h2 h3
end
theorem rb_at {n : Nat} : ∀ {xs : List PV} {i : Nat} {x : PV}, rbAll n xs = true → xs[i]? = some x → x.rb n = true
  | [], _, _, _, h => by simp at h
  | y :: ys, 0, x, l, h => by
    simp only [rbAll, Bool.and_eq_true] at l
    simp at h; subst h; exact l.1
  | y :: ys, i + 1, x, l, h => by
    simp only [rbAll, Bool.and_eq_true] at l
    exact rb_at l.2 (by simpa using h)
/-- the end of a call -/
theorem trim_end {F0 H0 H' : Hp} {ph0 : List Addr} {hp0 hpR hp1 : Hs} {v r : Rv} {x : V} {Q : VK} (hR0 : RelH W F0 ph0 hp0 H0) (e : trim hp0.length v hpR = (r, hp1)) (x1 : Ext F0 ph0 H0 F ph H') (hR : RelH W F ph hpR H') (rr : RRep W F ph H0 H' v x)
    (q : Post W F0 ph0 H0 hp1 r Q) : Q x H' := by
  unfold trim at e
  split at e
  · cases e; exact q F ph x H' x1 hR rr
  · split at e
    · rename_i c
      cases e
      rw [Bool.and_eq_true] at c
      refine q F (ph.take hp0.length) x H' ⟨x1.le, x1.new, fun i a h => ?_, fun a h => x1.pnew a (List.mem_of_mem_take h), x1.pres, x1.dom⟩ ⟨hR.sub, by rw [List.length_take, List.length_take, hR.len], hR.nd.sublist (List.take_sublist _ _), fun i a u e1 e2 => ?_, fun i u e2 => ?_, hR.td⟩ ?_
      · have hi : i < hp0.length := by rw [← hR0.len]; exact (List.getElem?_eq_some_iff.mp h).1
        rw [List.getElem?_take_of_lt hi]; exact x1.pre i a h
      · have hi : i < hp0.length := by
          have := (List.getElem?_eq_some_iff.mp e1).1
          rw [List.length_take] at this; omega
        have e2' := e2
        rw [List.getElem?_take_of_lt hi] at e1 e2
        obtain ⟨f, o, e3, rr⟩ := hR.sh i a u e1 e2
        exact ⟨f, o, e3, rr.cut _ (rb_at c.2 e2')⟩
      · have hi : i < hp0.length := by
          have := (List.getElem?_eq_some_iff.mp e2).1
          rw [List.length_take] at this; omega
        rw [List.getElem?_take_of_lt hi] at e2
        exact hR.cl i u e2
      · obtain ⟨b, v⟩ := v
        unfold RRep at rr ⊢
        cases b with
        | true =>
          simp only [if_true] at rr ⊢
          obtain ⟨a, o, h1, h2, h3, h4, h5, h6⟩ := rr
          exact ⟨a, o, h1, h2, fun z => h3 (List.mem_of_mem_take z), h4, h5, h6.cut _ c.1⟩
        | false =>
          simp only [Bool.false_eq_true, if_false] at rr ⊢
          exact rr.cut _ c.1
    · cases e; exact q F ph x H' x1 hR rr
end
/-- a def of the text -/
structure PDef where
  nm : Str
  params : Arguments
  stmts : List Stmt
  scope : Scope
  N : List Str
  ps : List Str
  fd : Fd
def glOf (ds : List PDef) (cs : List (Str × PV)) : Gl := ⟨fun f => (ds[f]?).map (·.fd), fun g => (cs[g]?).map (·.2)⟩
def ccOf (ds : List PDef) (cs : List (Str × PV)) (p : PDef) : Cc := ⟨p.N, p.scope, fun _ => true, fun g => (cs[g]?).map (·.1), fun f => (ds[f]?).map (·.nm)⟩
def scB (N P : List Str) (sc : Scope) : Bool := decide (sc.kind = .function) && decide (sc.isCoroutine = false) && decide (sc.isGenerator = false) && decide N.Nodup && decide (N.take P.length = P) &&
  (P.all fun x => decide (sc.names.lookup x = some .local ∨ sc.names.lookup x = some .cell)) && (sc.names.all fun y => decide (y.2 ≠ .free))
theorem sc_of {N P : List Str} {sc : Scope} (h : scB N P sc = true) : FnScope N P sc := by
  simp only [scB, Bool.and_eq_true, decide_eq_true_eq, List.all_eq_true] at h
  obtain ⟨⟨⟨⟨⟨⟨h1, h2⟩, h3⟩, h4⟩, h5⟩, h6⟩, h7⟩ := h
  exact ⟨h1, h2, h3, h4, h5, h6, h7⟩
def pchk (ds : List PDef) (cs : List (Str × PV)) (p : PDef) : Bool := scB p.N p.ps p.scope && decide (p.fd.np = p.ps.length) && decide (p.fd.ns = p.N.length) && chkSs (glOf ds cs) p.fd.body (ccOf ds cs p) p.stmts
/-- what is known of a def's object -/
structure DefAt (W : Wd) (mg : Str → Option Value) (p : PDef) (i : Nat) (a : Addr) (fd : FuncData) : Prop where
  fun_ : ∃ dvs, FunD W.K p.nm p.nm p.params p.stmts p.scope dvs [] a fd
  mg : mg p.nm = some (.ref a)
  fa : W.fa i = some a
  bind : ∀ n, n + (p.fd.dfl.length - (p.fd.dfl.length - (p.fd.np - n))) = p.fd.np → ∃ ds dvs, Binds W.K fd p.ps ds ∧ Vals dvs ds ∧ ∀ F ph, RepA W F ph (p.fd.dfl.drop (p.fd.dfl.length - (p.fd.np - n))) dvs
structure Prog (W : Wd) (mg : Str → Option Value) (ds : List PDef) (cs : List (Str × PV)) : Prop where
  at_ : ∀ (i : Nat) (p : PDef), ds[i]? = some p → ∃ a fd, DefAt W mg p i a fd
  bt : ∀ x ∈ bnames, mg x = none
  cst : ∀ (g : Nat) (x : Str) (v : PV), cs[g]? = some (x, v) → ∃ u y, mg x = some u ∧ RelV y u ∧ ∀ F ph, Rep W F ph v y
  kd : ∀ (a : Addr) (o : Obj), W.K.lookup a = some o → o.cls = .type "tuple" → o.dict = none
theorem start_len {N : List Str} {vs : List V} : (start N vs).length = vs.length + (N.length - vs.length) := by
  unfold L2.start
  rw [List.length_append, List.length_map, List.length_replicate]
section
variable {W : Wd} {mg : Str → Option Value} {ds : List PDef} {cs : List (Str × PV)} {base : Heap}
theorem fn_zero {f : Nat} {p : PDef} (hp : p.fd.np = p.ps.length) {a : Addr} {fd : FuncData} : FnOk W.P W.w W.K mg base CX0 0 a fd p.ps (spF W (glOf ds cs) 0 f p.fd.np) := by
  refine ⟨fun vs H Q E h => ?_, fun A outer s H args us vs Q E hr e0 hb r h => ?_⟩
  · obtain ⟨F, ph, hp, vs, r, hp1, hR, rs, hl, e, q⟩ := h
    cases e
  · obtain ⟨F, ph, hp, vs, r, hp1, hR, rs, hl, e, q⟩ := h
    cases e
theorem fn_any (P : Prog W mg ds cs) (ck : ∀ p ∈ ds, pchk ds cs p = true) : ∀ (k f : Nat) (p : PDef) (a : Addr) (fd : FuncData), ds[f]? = some p → DefAt W mg p f a fd → FnOk W.P W.w W.K mg base CX0 k a fd p.ps (spF W (glOf ds cs) k f p.fd.np) := by
  intro k
  induction k with
  | zero =>
    intro f p a fd hf D
    have c := ck p (List.mem_of_getElem? hf)
    simp only [pchk, Bool.and_eq_true, decide_eq_true_eq] at c
    exact fn_zero c.1.1.2
  | succ k ih =>
    intro f p a fd hf D
    have c := ck p (List.mem_of_getElem? hf)
    simp only [pchk, Bool.and_eq_true, decide_eq_true_eq] at c
    obtain ⟨⟨⟨c1, c2⟩, c3⟩, c4⟩ := c
    have S := sc_of c1
    obtain ⟨dvs, FD⟩ := D.fun_
    refine FD.ok S (fun vs H Q E h => ?_) (fun cdv A outer s H xs Q E hr h => ⟨tX W (glOf ds cs) k p.fd.body, ?_, ?_⟩)
    · obtain ⟨F, ph, hp, vs, r, hp1, hR, rs, hl, e, q⟩ := h
      rw [← rs.length, hl, c2]
    · have ok : XOk W (glOf ds cs) k (ccOf ds cs p) (cxOf CX0 W.P W.w W.K mg base p.N p.nm p.scope a cdv A outer s H E) := {
        fit := ⟨rfl, rfl, rfl, hr.units, rfl, P.kd⟩
        room := hr
        N := rfl
        nd := S.nd
        sc := rfl
        cell := fun _ _ => rfl
        kind := S.kind
        cst := fun g x v h1 h2 => by
          have h1 : (cs[g]?).map (·.1) = some x := h1
          have h2 : (cs[g]?).map (·.2) = some v := h2
          cases z : cs[g]? with
          | none => rw [z] at h1; cases h1
          | some q =>
            obtain ⟨x', v'⟩ := q
            rw [z] at h1 h2
            cases h1; cases h2
            exact P.cst g _ _ z
        fnv := fun f x h => by
          have h : (ds[f]?).map (·.nm) = some x := h
          obtain ⟨q, hq, rfl⟩ := Option.map_eq_some_iff.mp h
          obtain ⟨b, fd', D'⟩ := P.at_ f q hq
          exact ⟨b, D'.mg, D'.fa⟩
        bt := P.bt
        call := fun f x fdm h1 h2 => by
          have h1 : (ds[f]?).map (·.nm) = some x := h1
          have h2 : (ds[f]?).map (·.fd) = some fdm := h2
          obtain ⟨q, hq, rfl⟩ := Option.map_eq_some_iff.mp h1
          rw [hq] at h2
          cases h2
          obtain ⟨b, fd', D'⟩ := P.at_ f q hq
          have c' := ck q (List.mem_of_getElem? hq)
          simp only [pchk, Bool.and_eq_true, decide_eq_true_eq] at c'
          obtain ⟨dv, FD'⟩ := D'.fun_
          exact ⟨b, fd', q.ps, D'.mg, FD'.kp, ih f q b fd' hq D', c'.1.1.2.symm, D'.bind⟩ }
      exact (st_any p.fd.body).2 (ccOf ds cs p) _ p.stmts ⟨ok, passes_of rfl⟩ c4
    · obtain ⟨F, ph, hp, vs, r, hp1, hR, rs, hl, e, q⟩ := h
      have hf2 : (glOf ds cs).fns f = some p.fd := by show (ds[f]?).map (·.fd) = _; rw [hf]; rfl
      simp only [callF, hf2, Option.bind_some] at e
      have fl : fillA p.fd vs = vs := by
        unfold fillA
        rw [hl, Nat.sub_self, Nat.sub_zero, List.drop_length, List.append_nil]
      rw [fl, if_pos hl] at e
      obtain ⟨res, e1, e2⟩ := Option.bind_eq_some_iff.mp e
      have hlen : (startE p.fd vs).length = (start p.N xs).length := by
        rw [start_len]
        unfold startE
        rw [List.length_append, List.length_map, List.length_replicate, ← rs.length, hl, c3]
      have get : ∀ (i : Nat) (b : Bool) (v : PV), (startE p.fd vs)[i]? = some (some (b, v)) → b = false ∧ vs[i]? = some v := by
        intro i b v h
        unfold startE at h
        by_cases hi : i < vs.length
        · rw [List.getElem?_append_left (by simpa using hi), List.getElem?_map] at h
          obtain ⟨w, hw, h2⟩ := Option.map_eq_some_iff.mp h
          cases h2
          exact ⟨rfl, hw⟩
        · rw [List.getElem?_append_right (by simpa using hi), List.getElem?_replicate] at h
          split at h <;> cases h
      have st : StOk W F ph H F ph hp (startE p.fd vs) (start p.N xs) H := by
        refine ⟨Ext.refl, hR, ⟨hlen, fun i v h => ?_, fun i v h => ?_, fun i j v w b h => ?_⟩⟩
        · obtain ⟨_, hv⟩ := get i false v h
          obtain ⟨x, hx, rx⟩ := rs.get hv
          refine ⟨x, ?_, rx⟩
          unfold L2.start
          have hi : i < xs.length := (List.getElem?_eq_some_iff.mp hx).1
          rw [List.getElem?_append_left (by simpa using hi), List.getElem?_map, hx]; rfl
        · have := (get i true v h).1; cases this
        · have := (get i true v h).1; cases this
      refine ⟨F, ph, H, F, ph, hp, startE p.fd vs, res, st, e1, ?_⟩
      obtain ⟨fl, env, hpR⟩ := res
      cases fl with
      | nx =>
        have e2 : trim hp.length (false, .non) hpR = (r, hp1) := Option.some.inj e2
        exact fun F' ph' σ H' t l => trim_end hR e2 t.ext t.rel (RRep.of .non) q
      | rt v =>
        have e2 : trim hp.length v hpR = (r, hp1) := Option.some.inj e2
        exact fun F' ph' x H' x1 hR' rr => trim_end hR e2 x1 hR' rr q
      | bk => cases e2
      | ct => cases e2
end
end MP
set_option maxRecDepth 100000
/-! MiniPy: from the evaluator's word to the law. -/
namespace MP
open PySem PySem.Spec PyProof.Rows L2
/-- the written part holds no list, and no tuple with a dict of its own -/
def noL (K : PySem.W.Frag) : Bool := K.all fun p => !(p.2.cls == Value.type "list") && (!(p.2.cls == Value.type "tuple") || p.2.dict.isNone)
theorem frag_mem {a : Addr} {o : Obj} : ∀ {K : PySem.W.Frag}, K.lookup a = some o → (a, o) ∈ K
  | [], h => nomatch (show (none : Option Obj) = some o from h)
  | (b, u) :: r, h => by
    by_cases hb : a = b
    · subst hb
      have h : some u = some o := by
        rw [← h]
        show some u = List.lookup a ((a, u) :: r)
        rw [List.lookup_cons]; simp
      cases h
      exact List.mem_cons_self
    · have h2 : List.lookup a r = some o := by
        rw [← h]
        show List.lookup a r = List.lookup a ((b, u) :: r)
        rw [List.lookup_cons]
        have : (a == b) = false := by simpa using hb
        rw [this]
      exact List.mem_cons_of_mem _ (frag_mem h2)
theorem noL_sq {K : PySem.W.Frag} {H : Hp} {a : Addr} {xs : List V} (h : noL K = true) (s : SqL K H a xs) : Rd H a (.lst xs) := by
  rcases s with s | ⟨o, its, n, lk, hc, _⟩
  · exact s
  · exfalso
    have hm : (a, o) ∈ K := frag_mem lk
    have := List.all_eq_true.mp h _ hm
    rw [hc] at this
    simp at this
theorem noL_kd {K : PySem.W.Frag} (h : noL K = true) : ∀ (a : Addr) (o : Obj), K.lookup a = some o → o.cls = .type "tuple" → o.dict = none := by
  intro a o lk hc
  have := List.all_eq_true.mp h _ (frag_mem lk)
  rw [hc] at this
  simp only [Bool.and_eq_true, Bool.or_eq_true] at this
  rcases this.2 with z | z
  · simp at z
  · simpa using z
def obsM (fa : List He.Fa) (fn : List He.DefD) (ex : PySem.W.Frag → Bool) (K : PySem.W.Frag) : He.AlD × Bool := (He.obsD fa fn K, noL K && ex K)
def hookM (n : Nat) (fa : List He.Fa) (fn : List He.DefD) (ex : PySem.W.Frag → Bool) : PySem.W.Hook where
  α := He.AlD × Bool
  obs := fun s => obsM fa fn ex (He.frG s.heap.get? (He.asD s.heap.get? n))
  val := fun _ => (He.valD fn, true)
  says := fun _ h => ∃ K : PySem.W.Frag, K.In h ∧ He.SaysD fa fn K ∧ noL K = true ∧ ex K = true
  of := fun _ _ e => by
    have e1 := congrArg (fun z : He.AlD × Bool => z.1) e
    have e2 := congrArg (fun z : He.AlD × Bool => z.2) e
    have e2 : (noL _ && ex _) = true := e2
    rw [Bool.and_eq_true] at e2
    exact ⟨_, He.frG_in, e1, e2.1, e2.2⟩
  keeps := fun _ _ _ ⟨K, hK, c⟩ k => ⟨K, PySem.W.Frag.In.keeps hK k, c⟩
def obsMG (n : Nat) (fa : List He.Fa) (fn : List He.DefD) (ex : PySem.W.Frag → Bool) (g : Addr → Option Obj) : He.AlD × Bool := obsM fa fn ex (He.frG g (He.asD g n))
theorem obsMG_eq {n : Nat} {fa : List He.Fa} {fn : List He.DefD} {ex : PySem.W.Frag → Bool} {g : Addr → Option Obj} {s : Shared} (h : ∀ a, g a = s.heap.get? a) : obsMG n fa fn ex g = (hookM n fa fn ex).obs s := by
  have e : g = s.heap.get? := funext h
  rw [e] <;> rfl
theorem walk_ofM {l : PySem.W.OpenLaw} {n k : Nat} {q : Program} {loose : List Str} {XP : (Str → Option Value) → Heap → Prop} {YP : World → Heap → Prop} {d : DefRec} {x : Str}
    (hn : l.most = some n) (hn2 : n ≤ sizeLine) (hdf : d.params.defaults = []) (hr : Room k callerA)
    (F : ∀ (w : World) (mg : Str → Option Value) (fa : Addr) (h : Heap), YP w h → h.Ns mainGlobals mg → mg d.name = some (.ref fa) →
      ∃ (K : PySem.W.Frag) (fd : FuncData) (sp : Sp), K.In h ∧ (∀ (s : Shared) (u : Value), BindsTo s fd ⟨[u], []⟩ [(x, u)]) ∧
        (∀ (H : Hp) (a : Addr) (ns : List Int), ns.length ≤ n → (∀ z ∈ ns, Builtin.Int.intBits z ≤ 1048576) → Only H → SqL K H a (ns.map V.int) → sp [.ref a] H (fun v _ => v = .bl true) fun _ _ _ => False) ∧
        ∀ base : Heap, K.In base → base.Ns mainGlobals mg → FnOk l.prog w K mg base CX0 k fa fd [x] sp) :
    PySem.W.WalkO q loose XP YP l.row.toRowW d [] (fun f vs => PySem.call f vs) := by
  refine Att.attach_callB hn hdf fun w s₀ s₁ mg mb fa o pm cd doc a vs ns Gr Y ho hd hcd hmg hobj hints hlen hbits hg => ?_
  obtain ⟨K, fd, sp, KX, hb, hsp, hF⟩ := F w mg fa _ Y Gr.T.g hmg
  exact law_call KX Gr.T.g Gr.T.b Gr.T.builtins Gr.T.nolimit hg hobj hints (Nat.le_trans hlen hn2) hr hF hb (fun H hO hS => hsp H a ns hlen hbits hO hS) fun H e s' => id
/-- the law's own promise, from what the evaluator says -/
theorem sp_law {W : Wd} {G : Gl} {k f : Nat} {H : Hp} {a : Addr} {ns : List Int} (hR : Rd H a (.lst (ns.map V.int))) {hp1 : Hs} (e : callF G k f [.lst (ns.map PV.int)] [] = some ((false, .bl true), hp1)) :
    spF W G k f 1 [.ref a] H (fun v _ => v = .bl true) fun _ _ _ => False := by
  have rep : Rep W (fun b => if b = a then some (.lst (ns.map V.int)) else none) [] (.lst (ns.map PV.int)) (.ref a) := .obj (o := .lst (ns.map V.int)) (if_pos rfl) (.lst (RepA.of_ints ns))
  refine ⟨fun b => if b = a then some (.lst (ns.map V.int)) else none, [], [], [.lst (ns.map PV.int)], (false, .bl true), hp1, ⟨fun b o h => ?_, rfl, List.nodup_nil, fun n b v h => by simp at h, fun n v h => by simp at h, fun b vs h => by
    split at h
    · cases h
    · cases h⟩, .cons rep .nil, rfl, e, fun F' ph' x H' _ _ rr => ?_⟩
  · split at h
    · rename_i hb
      subst hb
      cases h
      exact hR
    · cases h
  · unfold RRep at rr
    simp only [Bool.false_eq_true, if_false] at rr
    exact rr.blV
end MP
set_option maxRecDepth 100000
/-! MiniPy: a program's facts. -/
namespace MP
open PySem PySem.Spec PyProof.Rows L2
def PDef.toD (p : PDef) : He.DefD := ⟨(p.nm, none), p.nm, p.nm, p.params, p.stmts, p.scope, [], []⟩
def factsOf (ds : List PDef) (cf : List He.Fa) : List He.Fa := ds.map (fun p => He.Fa.glo p.nm) ++ (bnames.map He.Fa.free ++ cf)
def wdOf (ds : List PDef) (P : Program) (w : World) (K : PySem.W.Frag) : Wd := ⟨P, w, K, fun i => (ds[i]?).map fun p => He.fAd K (p.nm, none)⟩
/-- the parameters are bound one by one -/
def BindP (p : PDef) : Prop := ∀ (kV doc pm : Value) (an : Option Addr) (cdv ct : Value) (us : List Value), us.length = p.ps.length → bindArgs (PySem.W.fnOf p.nm p.nm p.params p.stmts p.scope .none kV doc pm an cdv ct) ⟨us, []⟩ = pure (p.ps.zip us)
theorem prog_of {ds : List PDef} {cs : List (Str × PV)} {cf : List He.Fa} {P : Program} {w : World} {K : PySem.W.Frag} {h : Heap} {mg : Str → Option Value} (X : K.In h) (Gh : h.Ns mainGlobals mg) (c : He.SaysD (factsOf ds cf) (ds.map PDef.toD) K) (nl : noL K = true)
    (hb : ∀ p ∈ ds, BindP p) (hd : ∀ p ∈ ds, p.fd.dfl = [] ∧ p.fd.np = p.ps.length) (hc : ∀ (g : Nat) (x : Str) (v : PV), cs[g]? = some (x, v) → ∃ u y, mg x = some u ∧ RelV y u ∧ ∀ F ph, Rep (wdOf ds P w K) F ph v y) : Prog (wdOf ds P w K) mg ds cs := by
  refine ⟨fun i p hp => ?_, fun x hx => ?_, hc, noL_kd nl⟩
  · have hm := List.mem_of_getElem? hp
    obtain ⟨fd, FD⟩ := c.def_ i (d := p.toD) (by rw [List.getElem?_map, hp]; rfl)
    have hi : i < ds.length := (List.getElem?_eq_some_iff.mp hp).1
    have g := He.glo_ok X Gh (c.fact i (f := .glo p.nm) (by unfold factsOf; rw [List.getElem?_append_left (by simpa using hi), List.getElem?_map, hp]; rfl))
    obtain ⟨d1, d2⟩ := hd p hm
    refine ⟨He.fAd K (p.nm, none), fd, ⟨⟨_, FD⟩, g, by show (ds[i]?).map _ = _; rw [hp]; rfl, fun n hn => ?_⟩⟩
    rw [d1] at hn ⊢
    refine ⟨[], [], ?_, .nil, fun F ph => ?_⟩
    · have FD : FunD K p.nm p.nm p.params p.stmts p.scope [] [] (He.fAd K (p.nm, none)) fd := FD
      exact FD.bindsN (hb p hm)
    · rw [List.drop_nil]; exact .nil
  · obtain ⟨j, hj⟩ := List.getElem?_of_mem hx
    refine He.free_ok X Gh (c.fact (ds.length + j) (f := .free x) ?_)
    have hjl : j < bnames.length := (List.getElem?_eq_some_iff.mp hj).1
    unfold factsOf
    rw [List.getElem?_append_right (by simp), List.length_map, Nat.add_sub_cancel_left, List.getElem?_append_left (by simpa using hjl), List.getElem?_map, hj]; rfl
/-- the law's def, told by the evaluator -/
theorem law_fact {l : PySem.W.OpenLaw} {ds : List PDef} {cs : List (Str × PV)} {cf : List He.Fa} {w : World} {K : PySem.W.Frag} {h : Heap} {mg : Str → Option Value} {fa : Addr} {k f : Nat} {p : PDef} {x : Str} (X : K.In h) (Gh : h.Ns mainGlobals mg) (c : He.SaysD (factsOf ds cf) (ds.map PDef.toD) K) (nl : noL K = true)
    (hb : ∀ p ∈ ds, BindP p) (hd : ∀ p ∈ ds, p.fd.dfl = [] ∧ p.fd.np = p.ps.length) (ck : ∀ p ∈ ds, pchk ds cs p = true) (hc : ∀ (base : Heap), K.In base → base.Ns mainGlobals mg → ∀ (g : Nat) (x : Str) (v : PV), cs[g]? = some (x, v) → ∃ u y, mg x = some u ∧ RelV y u ∧ ∀ F ph, Rep (wdOf ds l.prog w K) F ph v y)
    (hp : ds[f]? = some p) (hps : p.ps = [x]) (hfa : mg p.nm = some (.ref fa))
    (pure_ : ∀ ns : List Int, ns.length ≤ 63 → (∀ z ∈ ns, Builtin.Int.intBits z ≤ 1048576) → ∃ hp1, callF (glOf ds cs) k f [.lst (ns.map PV.int)] [] = some ((false, .bl true), hp1)) :
    ∃ (K : PySem.W.Frag) (fd : FuncData) (sp : Sp), K.In h ∧ (∀ (s : Shared) (u : Value), BindsTo s fd ⟨[u], []⟩ [(x, u)]) ∧
        (∀ (H : Hp) (a : Addr) (ns : List Int), ns.length ≤ 63 → (∀ z ∈ ns, Builtin.Int.intBits z ≤ 1048576) → Only H → SqL K H a (ns.map V.int) → sp [.ref a] H (fun v _ => v = .bl true) fun _ _ _ => False) ∧
        ∀ base : Heap, K.In base → base.Ns mainGlobals mg → FnOk l.prog w K mg base CX0 k fa fd [x] sp := by
  have PG := prog_of (P := l.prog) (w := w) X Gh c nl hb hd (hc h X Gh)
  obtain ⟨a, fd, D⟩ := PG.at_ f p hp
  have ea : a = fa := by
    have := D.mg.symm.trans hfa
    cases this; rfl
  subst ea
  obtain ⟨d1, d2⟩ := hd p (List.mem_of_getElem? hp)
  refine ⟨K, fd, spF (wdOf ds l.prog w K) (glOf ds cs) k f p.fd.np, X, fun s u => ?_, fun H a ns hl hbits _ hS => ?_, fun base _ _ => ?_⟩
  · obtain ⟨fd2, FD⟩ := c.def_ f (d := p.toD) (by rw [List.getElem?_map, hp]; rfl)
    obtain ⟨dvs, FD3⟩ := D.fun_
    have e1 : a = He.fAd K (p.nm, none) := by
      have := D.fa
      have h2 : (ds[f]?).map (fun p => He.fAd K (p.nm, none)) = some a := this
      rw [hp] at h2
      exact (Option.some.inj h2).symm
    have FD : FunD K p.nm p.nm p.params p.stmts p.scope [] [] (He.fAd K (p.nm, none)) fd2 := FD
    have e2 : fd2 = fd := by
      obtain ⟨oc, od, dV, kV, doc, pm, an, cdv, ct, osl, h1, lk, _⟩ := FD.ex
      obtain ⟨oc', od', dV', kV', doc', pm', an', cdv', ct', osl', h1', lk', _⟩ := FD3.ex
      rw [e1] at lk'
      have lk' : K.lookup (He.fAd K (p.nm, none)) = some ⟨oc', od', .func fd, osl'⟩ := lk'
      rw [lk] at lk'
      cases lk'
      rfl
    subst e2
    have bb := FD.bindsA (ps := p.ps) (hb p (List.mem_of_getElem? hp)) s [u] (by rw [hps]; rfl)
    rw [hps] at bb
    exact bb
  · obtain ⟨hp1, e⟩ := pure_ ns hl hbits
    rw [d2, hps]
    exact sp_law (noL_sq nl hS) e
  · have := fn_any (base := base) PG ck k f p a fd hp D
    rw [hps] at this
    exact this
def AllPD {α : Type} (Q : α → Prop) : List α → Prop
  | [] => True
  | p :: l => Q p ∧ AllPD Q l
theorem AllPD.mem {α : Type} {Q : α → Prop} : ∀ {l : List α}, AllPD Q l → ∀ p ∈ l, Q p
  | [], _, p, h => by simp at h
  | q :: l, a, p, h => (List.mem_cons.mp h).elim (fun e => e ▸ a.1) (AllPD.mem a.2 p)
theorem AllPD.append {α : Type} {Q : α → Prop} : ∀ {l m : List α}, AllPD Q l → AllPD Q m → AllPD Q (l ++ m)
  | [], _, _, h => h
  | _ :: l, _, a, h => ⟨a.1, AllPD.append a.2 h⟩
end MP
/-! Pure runs: rules for the evaluator's loops, and values that stand for typed data. -/
namespace MX
open MP
open PySem (Str)
/-- the run ends, and Q holds of what it gives -/
def Wp {α : Type} (x : Option α) (Q : α → Prop) : Prop := ∃ a, x = some a ∧ Q a
theorem Wp_some {α : Type} (a : α) (Q : α → Prop) : Wp (some a) Q = Q a := by simp [Wp]
theorem Wp_none {α : Type} (Q : α → Prop) : Wp none Q = False := by simp [Wp]
theorem Wp_bind {α β : Type} (x : Option α) (f : α → Option β) (Q : β → Prop) : Wp (x.bind f) Q = Wp x fun a => Wp (f a) Q := by
  cases x <;> simp [Wp]
theorem Wp_map {α β : Type} (x : Option α) (f : α → β) (Q : β → Prop) : Wp (x.map f) Q = Wp x fun a => Q (f a) := by
  cases x <;> simp [Wp]
theorem Wp.mono {α : Type} {x : Option α} {P Q : α → Prop} (h : Wp x P) (i : ∀ a, P a → Q a) : Wp x Q := by
  obtain ⟨a, e, p⟩ := h
  exact ⟨a, e, i a p⟩
theorem Wp_eq {α : Type} {x : Option α} {a : α} (h : Wp x fun b => b = a) : x = some a := by
  obtain ⟨b, e, p⟩ := h
  rw [e, p]
theorem Wp_of {α : Type} {x : Option α} {a : α} {Q : α → Prop} (e : x = some a) (h : Q a) : Wp x Q := ⟨a, e, h⟩
theorem bnd_some {β : Type} (p : Rv × Hs) (f : PV → Hs → Option β) : bnd (some p) f = f p.1.2 p.2 := rfl
theorem bndL_some {β : Type} (p : List PV × Hs) (f : List PV → Hs → Option β) : bndL (some p) f = f p.1 p.2 := rfl
theorem bndB_some {β : Type} (o b : Bool) (hp : Hs) (f : Bool → Hs → Option β) : bndB (some ((o, .bl b), hp)) f = f b hp := rfl
theorem Wp_bnd {β : Type} (r : Option (Rv × Hs)) (f : PV → Hs → Option β) (Q : β → Prop) : Wp (bnd r f) Q = Wp r fun p => Wp (f p.1.2 p.2) Q := Wp_bind _ _ _
theorem Wp_bndL {β : Type} (r : Option (List PV × Hs)) (f : List PV → Hs → Option β) (Q : β → Prop) : Wp (bndL r f) Q = Wp r fun p => Wp (f p.1 p.2) Q := Wp_bind _ _ _
theorem Wp_ite {α : Type} {c : Prop} [Decidable c] {x y : Option α} {Q : α → Prop} (h1 : c → Wp x Q) (h2 : ¬ c → Wp y Q) : Wp (if c then x else y) Q := by
  split
  · exact h1 ‹_›
  · exact h2 ‹_›

/-! ### loops -/
theorem Wp_for {α : Type} {enc : α → PV} {tg : Tg} {body : FEnv → Hs → XR} {Q : Flow × FEnv × Hs → Prop} (I : List α → List α → FEnv → Hs → Prop)
    (step : ∀ done x rest env hp, I done (x :: rest) env hp → Wp ((setF tg (enc x) env).bind fun env1 => body env1 hp) fun r => match r.1 with
      | .nx => I (done ++ [x]) rest r.2.1 r.2.2 | .ct => I (done ++ [x]) rest r.2.1 r.2.2 | .bk => Q (.nx, r.2.1, r.2.2) | .rt v => Q (.rt v, r.2.1, r.2.2)) :
    ∀ (rest done : List α) (env : FEnv) (hp : Hs), I done rest env hp → (∀ env hp, I (done ++ rest) [] env hp → Q (.nx, env, hp)) → Wp (forE tg body (rest.map enc) env hp) Q
  | [], done, env, hp, h, fin => by
    refine ⟨_, rfl, fin _ _ ?_⟩
    rw [List.append_nil]
    exact h
  | x :: rest, done, env, hp, h, fin => by
    have st := step done x rest env hp h
    show Wp ((setF tg (enc x) env).bind fun env1 => (body env1 hp).bind (turnE (forE tg body (rest.map enc)))) Q
    rw [Wp_bind] at st ⊢
    refine st.mono fun env1 h1 => ?_
    rw [Wp_bind]
    refine Wp.mono h1 fun r hr => ?_
    obtain ⟨f, e2, h2⟩ := r
    cases f with
    | nx => exact Wp_for I step rest (done ++ [x]) e2 h2 hr (by simpa using fin)
    | ct => exact Wp_for I step rest (done ++ [x]) e2 h2 hr (by simpa using fin)
    | bk => exact ⟨_, rfl, hr⟩
    | rt v => exact ⟨_, rfl, hr⟩
theorem Wp_rng {tg : Tg} {body : FEnv → Hs → XR} {Q : Flow × FEnv × Hs → Prop} (n : Nat) (I : Nat → FEnv → Hs → Prop) {env : FEnv} {hp : Hs} (h0 : I 0 env hp)
    (step : ∀ k env hp, k < n → I k env hp → Wp ((setF tg (.int (k : Int)) env).bind fun env1 => body env1 hp) fun r => match r.1 with
      | .nx => I (k + 1) r.2.1 r.2.2 | .ct => I (k + 1) r.2.1 r.2.2 | .bk => Q (.nx, r.2.1, r.2.2) | .rt v => Q (.rt v, r.2.1, r.2.2))
    (fin : ∀ env hp, I n env hp → Q (.nx, env, hp)) : Wp (forE tg body (upTo 0 n) env hp) Q := by
  have e : upTo 0 n = (List.range n).map fun (k : Nat) => PV.int (k : Int) := by simp [upTo]
  rw [e]
  refine Wp_for (fun done rest env hp => done ++ rest = List.range n ∧ I done.length env hp) ?_ (List.range n) [] env hp ⟨rfl, h0⟩ (fun env hp h => fin env hp ?_)
  · intro done x rest env hp ⟨hd, hI⟩
    have hx : x = done.length := by
      have : (List.range n)[done.length]? = some x := by rw [← hd]; simp
      rw [List.getElem?_range] at this
      · exact (Option.some.inj this).symm
      · have := congrArg List.length hd
        simp at this
        omega
    have hl : done.length < n := by
      have := congrArg List.length hd
      simp at this
      omega
    subst hx
    refine (step done.length env hp hl hI).mono fun r hr => ?_
    obtain ⟨f, e2, h2⟩ := r
    cases f with
    | nx => exact ⟨by simpa using hd, by simpa using hr⟩
    | ct => exact ⟨by simpa using hd, by simpa using hr⟩
    | bk => exact hr
    | rt v => exact hr
  · simpa using h.2
theorem Wp_whl {c : FEnv → Hs → Option (Rv × Hs)} {body : FEnv → Hs → XR} {Q : Flow × FEnv × Hs → Prop} (I : Nat → FEnv → Hs → Prop)
    (step : ∀ m env hp, I m env hp → Wp (c env hp) fun r => ∃ b, r.1.2 = .bl b ∧ (b = false → Q (.nx, env, r.2)) ∧ (b = true → Wp (body env r.2) fun r => match r.1 with
      | .nx => ∃ m', m' < m ∧ I m' r.2.1 r.2.2 | .ct => ∃ m', m' < m ∧ I m' r.2.1 r.2.2 | .bk => Q (.nx, r.2.1, r.2.2) | .rt v => Q (.rt v, r.2.1, r.2.2))) :
    ∀ (wf m : Nat) (env : FEnv) (hp : Hs), m < wf → I m env hp → Wp (whlE c body wf env hp) Q
  | 0, m, env, hp, hm, _ => absurd hm (Nat.not_lt_zero _)
  | wf + 1, m, env, hp, hm, h => by
    have st := step m env hp h
    show Wp (bndB (c env hp) fun b hp1 => if b = true then (body env hp1).bind (turnE (whlE c body wf)) else some (.nx, env, hp1)) Q
    obtain ⟨⟨⟨o, v⟩, h1⟩, e, b, hb, hf, ht⟩ := st
    simp only at hb
    subst hb
    rw [e, bndB_some]
    cases b with
    | false => exact ⟨_, rfl, hf rfl⟩
    | true =>
      rw [if_pos rfl, Wp_bind]
      refine (ht rfl).mono fun r hr => ?_
      obtain ⟨f, e2, h2⟩ := r
      cases f with
      | nx =>
        obtain ⟨m', hm', hI⟩ := hr
        exact Wp_whl I step wf m' e2 h2 (by omega) hI
      | ct =>
        obtain ⟨m', hm', hI⟩ := hr
        exact Wp_whl I step wf m' e2 h2 (by omega) hI
      | bk => exact ⟨_, rfl, hr⟩
      | rt v => exact ⟨_, rfl, hr⟩

/-! ### comprehensions -/
/-- the items have a type -/
theorem lcE_map {α : Type} {f : PV → Hs → Option (List PV × Hs)} {enc : α → PV} {g : α → List PV} {hp : Hs} : ∀ {xs : List α}, (∀ x, x ∈ xs → f (enc x) hp = some (g x, hp)) → lcE f (xs.map enc) hp = some (xs.flatMap g, hp)
  | [], _ => rfl
  | x :: xs, h => by
    show bndL (f (enc x) hp) (fun ys hp1 => bndL (lcE f (xs.map enc) hp1) fun zs hp2 => some (ys ++ zs, hp2)) = _
    rw [h x (by simp)]
    show bndL (lcE f (xs.map enc) hp) (fun zs hp2 => some (g x ++ zs, hp2)) = _
    rw [lcE_map (fun y hy => h y (by simp [hy]))]
    rfl
theorem lcE_map1 {α : Type} {f : PV → Hs → Option (List PV × Hs)} {enc : α → PV} {g : α → PV} {hp : Hs} {xs : List α} (h : ∀ x, x ∈ xs → f (enc x) hp = some ([g x], hp)) : lcE f (xs.map enc) hp = some (xs.map g, hp) := by
  rw [lcE_map h]
  congr 2
  clear h
  induction xs with
  | nil => rfl
  | cons x xs ih => rw [List.flatMap_cons, ih]; rfl
theorem lcE_filter {α : Type} {f : PV → Hs → Option (List PV × Hs)} {enc : α → PV} {p : α → Bool} {g : α → PV} {hp : Hs} {xs : List α} (h : ∀ x, x ∈ xs → f (enc x) hp = some (if p x = true then [g x] else [], hp)) : lcE f (xs.map enc) hp = some ((xs.filter p).map g, hp) := by
  rw [lcE_map h]
  congr 2
  clear h
  induction xs with
  | nil => rfl
  | cons x xs ih =>
    rw [List.flatMap_cons, ih, List.filter_cons]
    split <;> simp
theorem Wp_lc {α : Type} {f : PV → Hs → Option (List PV × Hs)} {enc : α → PV} {Q : List PV × Hs → Prop} (I : List α → List α → List PV → Hs → Prop)
    (step : ∀ done x rest acc hp, I done (x :: rest) acc hp → Wp (f (enc x) hp) fun r => I (done ++ [x]) rest (acc ++ r.1) r.2) :
    ∀ (rest done : List α) (acc : List PV) (hp : Hs), I done rest acc hp → (∀ acc' hp, I (done ++ rest) [] (acc ++ acc') hp → Q (acc', hp)) → Wp (lcE f (rest.map enc) hp) Q
  | [], done, acc, hp, h, fin => ⟨_, rfl, fin _ _ (by simpa using h)⟩
  | x :: rest, done, acc, hp, h, fin => by
    show Wp (bndL (f (enc x) hp) fun ys hp1 => bndL (lcE f (rest.map enc) hp1) fun zs hp2 => some (ys ++ zs, hp2)) Q
    rw [Wp_bndL]
    refine (step done x rest acc hp h).mono fun r hr => ?_
    rw [Wp_bndL]
    refine Wp_lc (Q := fun p => Wp (some (r.1 ++ p.1, p.2)) Q) I step rest (done ++ [x]) (acc ++ r.1) r.2 hr fun acc' hp' h' => ⟨_, rfl, fin _ _ ?_⟩
    simpa using h'
theorem upTo_map (n : Nat) : upTo 0 n = (List.range n).map fun (k : Nat) => PV.int (k : Int) := by simp [upTo]
end MX
/-! Pure runs: the evaluator's rows as rules, operations on values that stand for typed data. -/
namespace MX
open MP
open PySem (Str)
def nt (n : Nat) : PV := .int (n : Int)
@[simp] theorem nt_eq (n : Nat) : nt n = .int (n : Int) := rfl

/-! ### rows of the evaluator -/
section
variable (gl : Nat → Option PV) (call : CallT) (wf : Nat)
@[simp] theorem ev_var (i : Nat) (env : Env) (hp : Hs) : ev gl call (.var i) env hp = (env[i]?.bind id).map fun v => ((false, v), hp) := rfl
@[simp] theorem ev_glb (i : Nat) (env : Env) (hp : Hs) : ev gl call (.glb i) env hp = (gl i).map fun v => ((false, v), hp) := rfl
@[simp] theorem ev_fnv (i : Nat) (env : Env) (hp : Hs) : ev gl call (.fnv i) env hp = some ((false, .fn i), hp) := rfl
@[simp] theorem ev_non (env : Env) (hp : Hs) : ev gl call .non env hp = some ((false, .non), hp) := rfl
@[simp] theorem ev_bl (b : Bool) (env : Env) (hp : Hs) : ev gl call (.bl b) env hp = some ((false, .bl b), hp) := rfl
@[simp] theorem ev_int (i : Int) (env : Env) (hp : Hs) : ev gl call (.int i) env hp = some ((false, .int i), hp) := rfl
@[simp] theorem ev_str (s : Str) (env : Env) (hp : Hs) : ev gl call (.str s) env hp = some ((false, .str s), hp) := rfl
@[simp] theorem ev_tup (es : ME) (env : Env) (hp : Hs) : ev gl call (.tup es) env hp = mk false .tup (evL gl call es env hp) := rfl
@[simp] theorem ev_lst (es : ME) (env : Env) (hp : Hs) : ev gl call (.lst es) env hp = mk true .lst (evL gl call es env hp) := rfl
@[simp] theorem ev_edct (env : Env) (hp : Hs) : ev gl call .edct env hp = some ((true, .dct []), hp) := rfl
@[simp] theorem ev_dsp (k v : ME) (env : Env) (hp : Hs) : ev gl call (.dsp k v) env hp = bnd (ev gl call k env hp) fun x hp1 => bnd (ev gl call v env hp1) fun y hp2 => if (isKey x || isTKey x) = true then some ((true, .dct [(x, y)]), hp2) else none := rfl
@[simp] theorem ev_bin (op : Bop) (a b : ME) (env : Env) (hp : Hs) : ev gl call (.bin op a b) env hp = bnd (ev gl call a env hp) fun x hp1 => bnd (ev gl call b env hp1) fun y hp2 => (binP op x y).map fun r => (r, hp2) := rfl
@[simp] theorem ev_neg (a : ME) (env : Env) (hp : Hs) : ev gl call (.neg a) env hp = bnd (ev gl call a env hp) fun x hp1 => (asI x).map fun i => ((false, .int (-i)), hp1) := rfl
@[simp] theorem ev_not (a : ME) (env : Env) (hp : Hs) : ev gl call (.not a) env hp = bndB (ev gl call a env hp) fun b hp1 => some ((false, .bl !b), hp1) := rfl
@[simp] theorem ev_and (a b : ME) (env : Env) (hp : Hs) : ev gl call (.and a b) env hp = bndB (ev gl call a env hp) fun c hp1 => if c = true then bndB (ev gl call b env hp1) fun d hp2 => some ((false, .bl d), hp2) else some ((false, .bl false), hp1) := rfl
@[simp] theorem ev_or (a b : ME) (env : Env) (hp : Hs) : ev gl call (.or a b) env hp = bndB (ev gl call a env hp) fun c hp1 => if c = true then some ((false, .bl true), hp1) else bndB (ev gl call b env hp1) fun d hp2 => some ((false, .bl d), hp2) := rfl
@[simp] theorem ev_cmp (op : Cop) (a b : ME) (env : Env) (hp : Hs) : ev gl call (.cmp op a b) env hp = bnd (ev gl call a env hp) fun x hp1 => bnd (ev gl call b env hp1) fun y hp2 => (cmpP op x y).map fun c => ((false, .bl c), hp2) := rfl
@[simp] theorem ev_chn (op op' : Cop) (a b c : ME) (env : Env) (hp : Hs) : ev gl call (.chn op op' a b c) env hp = bnd (ev gl call a env hp) fun x hp1 => bnd (ev gl call b env hp1) fun y hp2 => (cmpP op x y).bind fun k =>
      if k = true then bnd (ev gl call c env hp2) fun z hp3 => (cmpP op' y z).map fun k' => ((false, .bl k'), hp3) else some ((false, .bl false), hp2) := rfl
@[simp] theorem ev_ife (c a b : ME) (env : Env) (hp : Hs) : ev gl call (.ife c a b) env hp = bndB (ev gl call c env hp) fun k hp1 => if k = true then ev gl call a env hp1 else ev gl call b env hp1 := rfl
@[simp] theorem ev_call (f : Nat) (es : ME) (env : Env) (hp : Hs) : ev gl call (.call f es) env hp = bndL (evL gl call es env hp) fun vs hp1 => call f vs hp1 := rfl
@[simp] theorem ev_bcl (f : Bfn) (es : ME) (env : Env) (hp : Hs) : ev gl call (.bcl f es) env hp = bndL (evL gl call es env hp) fun vs hp1 => (bclP f vs).map fun r => (r, hp1) := rfl
@[simp] theorem ev_isi (a : ME) (t : Ty) (env : Env) (hp : Hs) : ev gl call (.isi a t) env hp = bnd (ev gl call a env hp) fun x hp1 => (isiP x t).map fun b => ((false, .bl b), hp1) := rfl
@[simp] theorem ev_mth (m : Mth) (o es : ME) (env : Env) (hp : Hs) : ev gl call (.mth m o es) env hp = bnd (ev gl call o env hp) fun x hp1 => bndL (evL gl call es env hp1) fun vs hp2 => (mthP m x vs).map fun v => ((false, v), hp2) := rfl
@[simp] theorem ev_idx (a i : ME) (env : Env) (hp : Hs) : ev gl call (.idx a i) env hp = bnd (ev gl call a env hp) fun x hp1 => bnd (ev gl call i env hp1) fun y hp2 => (idxP (drf x hp2) y).map fun v => ((false, v), hp2) := rfl
@[simp] theorem ev_slc (a lo hi : ME) (env : Env) (hp : Hs) : ev gl call (.slc a lo hi) env hp = bnd (ev gl call a env hp) fun x hp1 =>
      (if lo.isNil then some (none, hp1) else bnd (ev gl call lo env hp1) fun l hp2 => (asI l).map fun i => (some i, hp2)).bind fun p =>
      (if hi.isNil then some (none, p.2) else bnd (ev gl call hi env p.2) fun h hp3 => (asI h).map fun i => (some i, hp3)).bind fun q =>
      (slcP x p.1 q.1).map fun r => (r, q.2) := rfl
@[simp] theorem ev_rev (a : ME) (env : Env) (hp : Hs) : ev gl call (.rev a) env hp = bnd (ev gl call a env hp) fun x hp1 => (revP x).map fun r => (r, hp1) := rfl
/-- the turn of a comprehension -/
def lcB (elt : ME) (t : Tg) (c : ME) (env : Env) (x : PV) (hp : Hs) : Option (List PV × Hs) := (setTg t x (wipeE env t.slots)).bind fun env1 => bndB (ev gl call c env1 hp) fun b hp1 =>
        if b = true then one (ev gl call elt env1 hp1) else some ([], hp1)
@[simp] theorem ev_lc (elt : ME) (t : Tg) (k : Ik) (it c : ME) (env : Env) (hp : Hs) : ev gl call (.lc elt t k it c) env hp = bndL (wK k (ev gl call it env hp) (evL gl call it env hp)) fun xs hp1 =>
      mk true .lst (lcE (lcB gl call elt t c env) xs hp1) := rfl
def lcB2 (elt : ME) (t : Tg) (c : ME) (t1 : Tg) (k1 : Ik) (it1 c1 : ME) (env : Env) (x : PV) (hp : Hs) : Option (List PV × Hs) := (setTg t x (wipeE env (t.slots ++ t1.slots))).bind fun env1 => bndB (ev gl call c env1 hp) fun b hp1 =>
        if b = true then bndL (wK k1 (ev gl call it1 env1 hp1) (evL gl call it1 env1 hp1)) fun xs1 hp2 =>
          lcE (lcB gl call elt t1 c1 env1) xs1 hp2
        else some ([], hp1)
@[simp] theorem ev_lc2 (elt : ME) (t : Tg) (k : Ik) (it c : ME) (t1 : Tg) (k1 : Ik) (it1 c1 : ME) (env : Env) (hp : Hs) : ev gl call (.lc2 elt t k it c t1 k1 it1 c1) env hp = bndL (wK k (ev gl call it env hp) (evL gl call it env hp)) fun xs hp1 =>
      mk true .lst (lcE (lcB2 gl call elt t c t1 k1 it1 c1 env) xs hp1) := rfl
@[simp] theorem ev_hp (e : ME) (env : Env) (hp : Hs) : ev gl call (.hp e) env hp = (ev gl call e env hp).bind fun p => if (p.1.1 && clean p.1) = true then some ((false, .ref p.2.length), p.2 ++ [p.1.2]) else none := rfl
@[simp] theorem evL_nil (env : Env) (hp : Hs) : evL gl call .nil env hp = some ([], hp) := rfl
@[simp] theorem evL_cons (e es : ME) (env : Env) (hp : Hs) : evL gl call (.cons e es) env hp = bnd (ev gl call e env hp) fun x hp1 => bndL (evL gl call es env hp1) fun vs hp2 => some (x :: vs, hp2) := rfl
@[simp] theorem exec_nil (env : FEnv) (hp : Hs) : exec gl call wf .nil env hp = some (.nx, env, hp) := rfl
@[simp] theorem exec_cons (s r : MS) (env : FEnv) (hp : Hs) : exec gl call wf (.cons s r) env hp = (exec gl call wf s env hp).bind (seqE (exec gl call wf r)) := rfl
@[simp] theorem exec_asg_nm (i : Nat) (e : ME) (env : FEnv) (hp : Hs) : exec gl call wf (.asg (.nm i) e) env hp = (evK gl call e env hp).bind fun p => some (.nx, p.2.1.set i (some p.1), p.2.2) := rfl
@[simp] theorem exec_asg_tp (ts : Tg) (e : ME) (env : FEnv) (hp : Hs) : exec gl call wf (.asg (.tp ts) e) env hp = (evK gl call e env hp).bind fun p => (setF (.tp ts) p.1.2 p.2.1).map fun env2 => (.nx, env2, p.2.2) := rfl
@[simp] theorem exec_aug (i : Nat) (op : Bop) (e : ME) (env : FEnv) (hp : Hs) : exec gl call wf (.aug i op e) env hp = (env[i]?.bind id).bind fun x => bnd (ev gl call e (unf env) hp) fun y hp1 => (augP op x.2 y).map fun v => (.nx, env.set i (some (false, v)), hp1) := rfl
@[simp] theorem exec_seti_var (n : Nat) (i e : ME) (env : FEnv) (hp : Hs) : exec gl call wf (.seti (.var n) i e) env hp = bnd (ev gl call e (unf env) hp) fun v hp1 =>
    bnd (ev gl call i (unf env) hp1) fun j hp2 => if (v.lf && j.lf) = true then mutF n (fun c => putP c j v) env hp2 else none := rfl
theorem exec_seti (o i e : ME) (env : FEnv) (hp : Hs) : exec gl call wf (.seti o i e) env hp = bnd (ev gl call e (unf env) hp) fun v hp1 => (match o.varOf with
    | some n => bnd (ev gl call i (unf env) hp1) fun j hp2 => if (v.lf && j.lf) = true then mutF n (fun c => putP c j v) env hp2 else none
    | none => bnd (ev gl call o (unf env) hp1) fun x hp2 => bnd (ev gl call i (unf env) hp2) fun j hp3 => if (v.lf && j.lf) = true then refF x (fun c => putP c j v) env hp3 else none) := rfl
@[simp] theorem exec_app (n : Nat) (e : ME) (env : FEnv) (hp : Hs) : exec gl call wf (.app n e) env hp = bnd (ev gl call e (unf env) hp) fun v hp1 => if v.lf = true then ownF n (appP v) env hp1
      else bnd (ev gl call e (vis (frzV e.vars env)) hp) fun v hp1 => ownF n (appP v) (frzV e.vars env) hp1 := rfl
@[simp] theorem exec_ext (n : Nat) (e : ME) (env : FEnv) (hp : Hs) : exec gl call wf (.ext n e) env hp = bnd (ev gl call e (unf env) hp) fun v hp1 => if clean (true, v) = true then mutF n (extP v) env hp1 else none := rfl
@[simp] theorem exec_pop (t n : Nat) (e : ME) (env : FEnv) (hp : Hs) : exec gl call wf (.pop t n e) env hp = bnd (ev gl call e (unf env) hp) fun j hp1 => (match env[n]? with
    | some (some (true, c)) => (popP j c).map fun q => (.nx, (env.set n (some (true, q.2))).set t (some (false, q.1)), hp1)
    | _ => none) := rfl
@[simp] theorem exec_ife (c : ME) (a b : MS) (env : FEnv) (hp : Hs) : exec gl call wf (.ife c a b) env hp = bndB (ev gl call c (unf env) hp) fun k hp1 => if k = true then exec gl call wf a env hp1 else exec gl call wf b env hp1 := rfl
@[simp] theorem exec_whl (c : ME) (b : MS) (env : FEnv) (hp : Hs) : exec gl call wf (.whl c b) env hp = whlE (fun env hp => ev gl call c (unf env) hp) (exec gl call wf b) wf env hp := rfl
@[simp] theorem exec_for (t : Tg) (k : Ik) (it : ME) (b : MS) (env : FEnv) (hp : Hs) : exec gl call wf (.for_ t k it b) env hp = (evIK gl call k it env hp).bind fun p => forE t (exec gl call wf b) p.1 p.2.1 p.2.2 := rfl
theorem exec_ret (e : ME) (env : FEnv) (hp : Hs) : exec gl call wf (.ret e) env hp = (match e.varOf with
    | some i => (env[i]?.bind id).map fun r => (.rt r, env, hp)
    | none => (ev gl call e (unf env) hp).map fun p => (.rt p.1, env, p.2)) := rfl
@[simp] theorem exec_retn (env : FEnv) (hp : Hs) : exec gl call wf .retn env hp = some (.rt (false, .non), env, hp) := rfl
@[simp] theorem exec_brk (env : FEnv) (hp : Hs) : exec gl call wf .brk env hp = some (.bk, env, hp) := rfl
@[simp] theorem exec_cnt (env : FEnv) (hp : Hs) : exec gl call wf .cnt env hp = some (.ct, env, hp) := rfl
@[simp] theorem exec_pas (env : FEnv) (hp : Hs) : exec gl call wf .pas env hp = some (.nx, env, hp) := rfl
@[simp] theorem exec_exp (e : ME) (env : FEnv) (hp : Hs) : exec gl call wf (.exp e) env hp = (evK gl call e env hp).map fun p => (.nx, p.2.1, p.2.2) := rfl
@[simp] theorem evIK_val (it : ME) (env : FEnv) (hp : Hs) : evIK gl call .val it env hp = (evK gl call it env hp).bind fun p => (itemsP p.1.2).map fun xs => (xs, p.2.1, p.2.2) := rfl
@[simp] theorem evIK_rng (it : ME) (env : FEnv) (hp : Hs) : evIK gl call .rng it env hp = bndL (evL gl call it (unf env) hp) fun vs hp1 => (rngP vs).map fun xs => (xs, env, hp1) := rfl
@[simp] theorem evIK_rrng (it : ME) (env : FEnv) (hp : Hs) : evIK gl call .rrng it env hp = bndL (evL gl call it (unf env) hp) fun vs hp1 => (rngP vs).map fun xs => (xs.reverse, env, hp1) := rfl
end
@[simp] theorem bnd_some' {β : Type} (p : Rv × Hs) (f : PV → Hs → Option β) : bnd (some p) f = f p.1.2 p.2 := rfl
@[simp] theorem bndL_some' {β : Type} (p : List PV × Hs) (f : List PV → Hs → Option β) : bndL (some p) f = f p.1 p.2 := rfl
@[simp] theorem bndB_some' {β : Type} (o b : Bool) (hp : Hs) (f : Bool → Hs → Option β) : bndB (some ((o, .bl b), hp)) f = f b hp := rfl
@[simp] theorem one_some (p : Rv × Hs) : one (some p) = some ([p.1.2], p.2) := rfl
@[simp] theorem wK_val (p : Rv × Hs) (rl : Option (List PV × Hs)) : wK .val (some p) rl = (itemsP p.1.2).map fun xs => (xs, p.2) := rfl
@[simp] theorem wK_rng (p : List PV × Hs) (rv : Option (Rv × Hs)) : wK .rng rv (some p) = (rngP p.1).map fun xs => (xs, p.2) := rfl
@[simp] theorem wK_rrng (p : List PV × Hs) (rv : Option (Rv × Hs)) : wK .rrng rv (some p) = (rngP p.1).map fun xs => (xs.reverse, p.2) := rfl
@[simp] theorem seqE_nx (rest : FEnv → Hs → XR) (env : FEnv) (hp : Hs) : seqE rest (.nx, env, hp) = rest env hp := rfl
@[simp] theorem seqE_rt (rest : FEnv → Hs → XR) (v : Rv) (env : FEnv) (hp : Hs) : seqE rest (.rt v, env, hp) = some (.rt v, env, hp) := rfl
@[simp] theorem seqE_bk (rest : FEnv → Hs → XR) (env : FEnv) (hp : Hs) : seqE rest (.bk, env, hp) = some (.bk, env, hp) := rfl
@[simp] theorem seqE_ct (rest : FEnv → Hs → XR) (env : FEnv) (hp : Hs) : seqE rest (.ct, env, hp) = some (.ct, env, hp) := rfl
@[simp] theorem unf_nil : unf [] = [] := rfl
@[simp] theorem unf_some (r : Rv) (l : FEnv) : unf (some r :: l) = some r.2 :: unf l := rfl
@[simp] theorem unf_none (l : FEnv) : unf (none :: l) = none :: unf l := rfl
@[simp] theorem unf_cons (o : Option Rv) (l : FEnv) : unf (o :: l) = o.map (·.2) :: unf l := rfl
@[simp] theorem asI_int (i : Int) : asI (.int i) = some i := rfl
@[simp] theorem asB_bl (b : Bool) : asB (.bl b) = some b := rfl
@[simp] theorem setTg_nm (i : Nat) (v : PV) (env : Env) : setTg (.nm i) v env = some (env.set i (some v)) := rfl
@[simp] theorem setTg_tp (ts : Tg) (xs : List PV) (env : Env) : setTg (.tp ts) (.tup xs) env = setTgs ts xs env := rfl
@[simp] theorem setTgs_nil (env : Env) : setTgs .nil [] env = some env := rfl
@[simp] theorem setTgs_cons (t ts : Tg) (x : PV) (xs : List PV) (env : Env) : setTgs (.cons t ts) (x :: xs) env = (setTg t x env).bind fun env1 => setTgs ts xs env1 := rfl
@[simp] theorem setF_nm (i : Nat) (v : PV) (env : FEnv) : setF (.nm i) v env = some (env.set i (some (false, v))) := rfl
@[simp] theorem setF_tp (ts : Tg) (xs : List PV) (env : FEnv) : setF (.tp ts) (.tup xs) env = setFs ts xs env := rfl
@[simp] theorem setFs_nil (env : FEnv) : setFs .nil [] env = some env := rfl
@[simp] theorem setFs_cons (t ts : Tg) (x : PV) (xs : List PV) (env : FEnv) : setFs (.cons t ts) (x :: xs) env = (setF t x env).bind fun env1 => setFs ts xs env1 := rfl
@[simp] theorem slots_nm (i : Nat) : (Tg.nm i).slots = [i] := rfl
@[simp] theorem slots_tp (ts : Tg) : (Tg.tp ts).slots = ts.slots := rfl
@[simp] theorem slots_nil : Tg.nil.slots = [] := rfl
@[simp] theorem slots_cons (t ts : Tg) : (Tg.cons t ts).slots = t.slots ++ ts.slots := rfl
@[simp] theorem wipeE_nil (env : Env) : wipeE env [] = env := rfl
@[simp] theorem wipeE_cons (env : Env) (v : Nat) (vs : List Nat) : wipeE env (v :: vs) = (wipeE env vs).set v none := rfl
/-- a value that is no variable -/
@[simp] theorem evK_var (gl : Nat → Option PV) (call : CallT) (i : Nat) (env : FEnv) (hp : Hs) : evK gl call (.var i) env hp = (env[i]?.bind id).map fun r => ((false, r.2), frzAt i env, hp) := rfl
theorem evK_ev (gl : Nat → Option PV) (call : CallT) (e : ME) (env : FEnv) (hp : Hs) (h : e.varOf = none) : evK gl call e env hp = (ev gl call e (unf env) hp).map fun p => (p.1, keep p.1 env, p.2) := by
  unfold evK
  rw [h]
theorem keep_clean {r : Rv} (env : FEnv) (h : clean r = true) : keep r env = env := if_pos h
@[simp] theorem mk_some (own : Bool) (c : List PV → PV) (p : List PV × Hs) : mk own c (some p) = if p.1.length ≤ LINE then some ((own, c p.1), p.2) else none := rfl
end MX
/-! Pure runs: operations on values that stand for typed data. -/
namespace MX
open MP
open PySem (Str)
/-- a kind of data, written as values -/
structure EncOk {α : Type} [BEq α] [LawfulBEq α] (enc : α → PV) (d : Nat) : Prop where
  dat : ∀ a, (enc a).dat = true
  dep : ∀ a, (enc a).dep ≤ d
  eqv : ∀ a b, eqP (enc a) (enc b) = (a == b)
  lf : ∀ a, (enc a).lf = true
theorem datAll_iff (xs : List PV) : datAll xs = true ↔ ∀ x ∈ xs, x.dat = true := by
  induction xs with
  | nil => simp [datAll]
  | cons x xs ih => simp [datAll, ih]
theorem lfAll_iff (xs : List PV) : lfAll xs = true ↔ ∀ x ∈ xs, x.lf = true := by
  induction xs with
  | nil => simp [lfAll]
  | cons x xs ih => simp [lfAll, ih]
theorem depAll_le (xs : List PV) (d : Nat) : depAll xs ≤ d ↔ ∀ x ∈ xs, x.dep ≤ d := by
  induction xs with
  | nil => simp [depAll]
  | cons x xs ih => simp [depAll, ih, Nat.max_le]
section
variable {α : Type} [BEq α] [LawfulBEq α] {enc : α → PV} {d : Nat} (E : EncOk enc d)
include E
theorem EncOk.datAll (xs : List α) : datAll (xs.map enc) = true := by
  rw [datAll_iff]; intro x hx
  obtain ⟨a, _, rfl⟩ := List.mem_map.mp hx
  exact E.dat a
theorem EncOk.lfAll (xs : List α) : lfAll (xs.map enc) = true := by
  rw [lfAll_iff]; intro x hx
  obtain ⟨a, _, rfl⟩ := List.mem_map.mp hx
  exact E.lf a
theorem EncOk.depAll (xs : List α) : depAll (xs.map enc) ≤ d := by
  rw [depAll_le]; intro x hx
  obtain ⟨a, _, rfl⟩ := List.mem_map.mp hx
  exact E.dep a
theorem EncOk.eqAll : ∀ (xs ys : List α), eqAll (xs.map enc) (ys.map enc) = (xs == ys)
  | [], [] => rfl
  | [], _ :: _ => rfl
  | _ :: _, [] => rfl
  | x :: xs, y :: ys => by
    show (eqP (enc x) (enc y) && MP.eqAll (xs.map enc) (ys.map enc)) = _
    rw [E.eqv, EncOk.eqAll xs ys]
    rfl
theorem EncOk.tup : EncOk (fun xs : List α => PV.tup (xs.map enc)) (d + 1) where
  dat xs := E.datAll xs
  dep xs := Nat.add_le_add_right (E.depAll xs) 1
  eqv xs ys := E.eqAll xs ys
  lf xs := E.lfAll xs
theorem EncOk.memP (a : α) (xs : List α) : memP (enc a) (xs.map enc) = decide (a ∈ xs) := by
  unfold MP.memP
  rw [List.any_map]
  induction xs with
  | nil => simp
  | cons x xs ih =>
    rw [List.any_cons, ih]
    simp only [Function.comp, E.eqv]
    by_cases h : x = a
    · simp [h]
    · simp [h, Ne.symm h]
theorem EncOk.okMem (a : α) (xs : List α) (h : d ≤ 60) : okMem (enc a) (xs.map enc) = true := by
  unfold MP.okMem
  rw [E.dat, E.datAll]
  simp only [Bool.true_and, decide_eq_true_eq]
  exact Nat.le_trans (Nat.min_le_left _ _) (Nat.le_trans (E.dep a) h)
theorem EncOk.findP (a : α) (xs : List α) : findP (enc a) (xs.map enc) = if a ∈ xs then some (xs.idxOf a) else none := by
  induction xs with
  | nil => simp [MP.findP]
  | cons x xs ih =>
    show (if eqP (enc x) (enc a) = true then some 0 else (MP.findP (enc a) (xs.map enc)).map (· + 1)) = _
    rw [E.eqv, ih, List.idxOf_cons]
    by_cases h : x = a
    · simp [h]
    · have h' : ¬ a = x := fun e => h e.symm
      have h2 : (x == a) = false := by simp [h]
      simp [h, h', h2]
theorem EncOk.isin_lst (a : α) (xs : List α) (h : d ≤ 60) : cmpP .isin (enc a) (.lst (xs.map enc)) = some (decide (a ∈ xs)) := by
  simp [cmpP, inP, E.okMem a xs h, E.memP]
theorem EncOk.isin_tup (a : α) (xs : List α) (h : d ≤ 60) : cmpP .isin (enc a) (.tup (xs.map enc)) = some (decide (a ∈ xs)) := by
  simp [cmpP, inP, E.okMem a xs h, E.memP]
theorem EncOk.nin_lst (a : α) (xs : List α) (h : d ≤ 60) : cmpP .nin (enc a) (.lst (xs.map enc)) = some (decide (a ∉ xs)) := by
  simp [cmpP, inP, E.okMem a xs h, E.memP]
theorem EncOk.nin_tup (a : α) (xs : List α) (h : d ≤ 60) : cmpP .nin (enc a) (.tup (xs.map enc)) = some (decide (a ∉ xs)) := by
  simp [cmpP, inP, E.okMem a xs h, E.memP]
theorem EncOk.eq_ (a b : α) (h : d ≤ 60) : cmpP .eq (enc a) (enc b) = some (a == b) := by
  have : min (enc a).dep (enc b).dep ≤ 60 := Nat.le_trans (Nat.min_le_left _ _) (Nat.le_trans (E.dep a) h)
  simp [cmpP, okEq, E.dat, E.eqv, this]
theorem EncOk.ne_ (a b : α) (h : d ≤ 60) : cmpP .ne (enc a) (enc b) = some (!(a == b)) := by
  have : min (enc a).dep (enc b).dep ≤ 60 := Nat.le_trans (Nat.min_le_left _ _) (Nat.le_trans (E.dep a) h)
  simp [cmpP, okEq, E.dat, E.eqv, this]
theorem EncOk.index_lst (a : α) (xs : List α) (h : d ≤ 60) (m : a ∈ xs) : mthP .index (.lst (xs.map enc)) [enc a] = some (.int (xs.idxOf a : Nat)) := by
  simp [mthP, E.okMem a xs h, E.findP, m]
theorem EncOk.index_tup (a : α) (xs : List α) (h : d ≤ 60) (m : a ∈ xs) : mthP .index (.tup (xs.map enc)) [enc a] = some (.int (xs.idxOf a : Nat)) := by
  simp [mthP, E.okMem a xs h, E.findP, m]
theorem EncOk.memE (a : α) (xs : List α) : MP.memP (enc a) (xs.map enc) = true ↔ a ∈ xs := by rw [E.memP]; simp
theorem EncOk.dedup (acc xs : List α) : dedup (acc.map enc) (xs.map enc) = (xs.foldl (fun l x => if x ∈ l then l else l ++ [x]) acc).map enc := by
  induction xs generalizing acc with
  | nil => rfl
  | cons x xs ih =>
    show (if MP.memP (enc x) (acc.map enc) = true then MP.dedup (acc.map enc) (xs.map enc) else MP.dedup (acc.map enc ++ [enc x]) (xs.map enc)) = _
    rw [E.memP, List.foldl_cons]
    by_cases h : x ∈ acc
    · simp [h, ih]
    · simp only [h, decide_false, Bool.false_eq_true, if_false]
      rw [← ih, List.map_append]; rfl
end
theorem ntOk : EncOk nt 0 where
  dat _ := rfl
  dep _ := Nat.le_refl _
  eqv a b := by
    show (((a : Int)) == (b : Int)) = _
    rw [Bool.eq_iff_iff, beq_iff_eq, beq_iff_eq]; omega
  lf _ := rfl
theorem intOk : EncOk PV.int 0 where
  dat _ := rfl
  dep _ := Nat.le_refl _
  eqv a b := by
    show (a == b) = _
    rfl
  lf _ := rfl
theorem strOk : EncOk PV.str 0 where
  dat _ := rfl
  dep _ := Nat.le_refl _
  eqv a b := by
    show (a == b) = _
    rfl
  lf _ := rfl
/-- a tuple of numbers -/
def mv (l : List Nat) : PV := .tup (l.map nt)
@[simp] theorem mv_eq (l : List Nat) : mv l = .tup (l.map nt) := rfl
theorem mvOk : EncOk mv 1 := ntOk.tup
/-- a text of signs -/
def tx (w : List Nat) : PV := .str ⟨w.toArray⟩
@[simp] theorem tx_eq (w : List Nat) : tx w = .str ⟨w.toArray⟩ := rfl
theorem txOk : EncOk tx 0 where
  dat _ := rfl
  dep _ := Nat.le_refl _
  eqv a b := by
    show ((⟨a.toArray⟩ : Str) == ⟨b.toArray⟩) = _
    rw [Bool.eq_iff_iff]; simp
  lf _ := rfl

/-! ### numbers -/
@[simp] theorem cmp_eq_int (a b : Int) : cmpP .eq (.int a) (.int b) = some (decide (a = b)) := by rw [intOk.eq_ a b (by decide)]; rfl
@[simp] theorem cmp_ne_int (a b : Int) : cmpP .ne (.int a) (.int b) = some (decide (a ≠ b)) := by rw [intOk.ne_ a b (by decide)]; congr 1; rw [Bool.eq_iff_iff]; simp
theorem okLt_int (a b : Int) : okLt (.int a) (.int b) = true := by simp [okLt, alk, PV.dat, PV.dep, eqP]
@[simp] theorem cmp_lt_int (a b : Int) : cmpP .lt (.int a) (.int b) = some (decide (a < b)) := by simp [cmpP, okLt_int, ltP]
@[simp] theorem cmp_gt_int (a b : Int) : cmpP .gt (.int a) (.int b) = some (decide (b < a)) := by simp [cmpP, okLt_int, ltP]
@[simp] theorem cmp_le_int (a b : Int) : cmpP .le (.int a) (.int b) = some (decide (a ≤ b)) := by
  simp [cmpP, okLt_int, ltP]
  rw [Bool.eq_iff_iff]; simp
@[simp] theorem cmp_ge_int (a b : Int) : cmpP .ge (.int a) (.int b) = some (decide (b ≤ a)) := by
  simp [cmpP, okLt_int, ltP]
  rw [Bool.eq_iff_iff]; simp
@[simp] theorem cmp_eq_str (a b : Str) : cmpP .eq (.str a) (.str b) = some (decide (a = b)) := by rw [strOk.eq_ a b (by decide)]; rfl
@[simp] theorem cmp_ne_str (a b : Str) : cmpP .ne (.str a) (.str b) = some (decide (a ≠ b)) := by rw [strOk.ne_ a b (by decide)]; congr 1; rw [Bool.eq_iff_iff]; simp
@[simp] theorem cmp_eq_bl (a b : Bool) : cmpP .eq (.bl a) (.bl b) = some (a == b) := by simp [cmpP, okEq, PV.dat, PV.dep, eqP]
@[simp] theorem cmp_ne_bl (a b : Bool) : cmpP .ne (.bl a) (.bl b) = some (a != b) := rfl
@[simp] theorem bin_add_int (a b : Int) : binP .add (.int a) (.int b) = some (false, .int (a + b)) := rfl
@[simp] theorem bin_sub_int (a b : Int) : binP .sub (.int a) (.int b) = some (false, .int (a - b)) := rfl
theorem bin_mul_int (a b : Int) (h : (big a || big b) = true) : binP .mul (.int a) (.int b) = some (false, .int (a * b)) := if_pos h
theorem bin_mod_int (a b : Int) (h : b ≠ 0) : binP .mod (.int a) (.int b) = some (false, .int (a.fmod b)) := if_pos h
theorem bin_fdiv_int (a b : Int) (h : b ≠ 0) (h2 : b.natAbs < 1073741824) : binP .fdiv (.int a) (.int b) = some (false, .int (a.fdiv b)) := if_pos ⟨h, h2⟩
@[simp] theorem bin_add_str (a b : Str) : binP .add (.str a) (.str b) = if a.length + b.length ≤ LINE then some (false, .str (a ++ b)) else none := rfl
@[simp] theorem bin_add_tup (a b : List PV) : binP .add (.tup a) (.tup b) = if a.length + b.length ≤ LINE then some (false, .tup (a ++ b)) else none := rfl
@[simp] theorem bin_add_lst (a b : List PV) : binP .add (.lst a) (.lst b) = if a.length + b.length ≤ LINE then some (true, .lst (a ++ b)) else none := rfl
@[simp] theorem isin_lst_nt (a : Nat) (xs : List Nat) : cmpP .isin (.int (a : Int)) (.lst (xs.map nt)) = some (decide (a ∈ xs)) := ntOk.isin_lst a xs (by decide)
@[simp] theorem isin_tup_nt (a : Nat) (xs : List Nat) : cmpP .isin (.int (a : Int)) (.tup (xs.map nt)) = some (decide (a ∈ xs)) := ntOk.isin_tup a xs (by decide)
@[simp] theorem nin_lst_nt (a : Nat) (xs : List Nat) : cmpP .nin (.int (a : Int)) (.lst (xs.map nt)) = some (decide (a ∉ xs)) := ntOk.nin_lst a xs (by decide)
@[simp] theorem nin_tup_nt (a : Nat) (xs : List Nat) : cmpP .nin (.int (a : Int)) (.tup (xs.map nt)) = some (decide (a ∉ xs)) := ntOk.nin_tup a xs (by decide)
@[simp] theorem isin_lst_mv (a : List Nat) (xs : List (List Nat)) : cmpP .isin (.tup (a.map nt)) (.lst (xs.map mv)) = some (decide (a ∈ xs)) := mvOk.isin_lst a xs (by decide)
@[simp] theorem nin_lst_mv (a : List Nat) (xs : List (List Nat)) : cmpP .nin (.tup (a.map nt)) (.lst (xs.map mv)) = some (decide (a ∉ xs)) := mvOk.nin_lst a xs (by decide)
@[simp] theorem lfAll_nt (xs : List Nat) : lfAll (xs.map nt) = true := ntOk.lfAll xs
@[simp] theorem lfAll_mv (xs : List (List Nat)) : lfAll (xs.map mv) = true := mvOk.lfAll xs
@[simp] theorem lfAll_tx (xs : List (List Nat)) : lfAll (xs.map tx) = true := txOk.lfAll xs
@[simp] theorem lfAll_int (xs : List Int) : lfAll (xs.map PV.int) = true := intOk.lfAll xs
@[simp] theorem lfAll_nil : lfAll [] = true := rfl
@[simp] theorem lfAll_cons (x : PV) (xs : List PV) : lfAll (x :: xs) = (x.lf && lfAll xs) := rfl
@[simp] theorem lf_tup (xs : List PV) : (PV.tup xs).lf = lfAll xs := rfl
@[simp] theorem lf_int (i : Int) : (PV.int i).lf = true := rfl
@[simp] theorem lf_bl (i : Bool) : (PV.bl i).lf = true := rfl
@[simp] theorem lf_str (i : Str) : (PV.str i).lf = true := rfl
@[simp] theorem lf_non : PV.non.lf = true := rfl
@[simp] theorem lf_lst (xs : List PV) : (PV.lst xs).lf = false := rfl
@[simp] theorem lf_dct (xs : List (PV × PV)) : (PV.dct xs).lf = false := rfl
@[simp] theorem lf_ref (n : Nat) : (PV.ref n).lf = true := rfl
@[simp] theorem clean_false (v : PV) : clean (false, v) = v.lf := rfl
@[simp] theorem clean_lst (xs : List PV) : clean (true, .lst xs) = lfAll xs := rfl
@[simp] theorem clean_dct (kvs : List (PV × PV)) : clean (true, .dct kvs) = kvs.all fun p => p.1.lf && p.2.lf := rfl
@[simp] theorem keep_true {r : Rv} (env : FEnv) : keep r env = if clean r = true then env else frz env := rfl
@[simp] theorem atP_nat {α : Type} (xs : List α) (i : Nat) : atP xs (i : Int) = xs[i]? := by simp [atP]
@[simp] theorem atP_zero {α : Type} (xs : List α) : atP xs 0 = xs[0]? := by simp [atP]
@[simp] theorem atP_one {α : Type} (xs : List α) : atP xs 1 = xs[1]? := by simp [atP]
@[simp] theorem atP_two {α : Type} (xs : List α) : atP xs 2 = xs[2]? := by simp [atP]
@[simp] theorem atP_neg1 {α : Type} (xs : List α) : atP xs (-1) = xs.getLast? := by
  unfold atP
  rw [if_neg (by decide), List.getLast?_eq_getElem?]
  split
  · congr 1; omega
  · have : xs.length = 0 := by omega
    simp [List.length_eq_zero_iff.mp this]
@[simp] theorem idx_tup (xs : List PV) (i : Int) : idxP (.tup xs) (.int i) = atP xs i := rfl
@[simp] theorem idx_lst (xs : List PV) (i : Int) : idxP (.lst xs) (.int i) = atP xs i := rfl
@[simp] theorem idx_str (z : Str) (i : Int) : idxP (.str z) (.int i) = if z.length ≤ LINE then (atP z.cps.toList i).map chr1 else none := rfl
theorem idx_dct (kvs : List (PV × PV)) (i : PV) : idxP (.dct kvs) i = if okKey i kvs then getKv i kvs else none := rfl
@[simp] theorem drf_tup (xs : List PV) (hp : Hs) : drf (.tup xs) hp = .tup xs := rfl
@[simp] theorem drf_lst (xs : List PV) (hp : Hs) : drf (.lst xs) hp = .lst xs := rfl
@[simp] theorem drf_dct (xs : List (PV × PV)) (hp : Hs) : drf (.dct xs) hp = .dct xs := rfl
@[simp] theorem drf_str (z : Str) (hp : Hs) : drf (.str z) hp = .str z := rfl
@[simp] theorem drf_ref (n : Nat) (hp : Hs) : drf (.ref n) hp = (hp[n]?).getD (.ref n) := rfl
@[simp] theorem len_tup (xs : List PV) : bclP .len [.tup xs] = some (false, .int xs.length) := rfl
@[simp] theorem len_lst (xs : List PV) : bclP .len [.lst xs] = some (false, .int xs.length) := rfl
@[simp] theorem len_dct (xs : List (PV × PV)) : bclP .len [.dct xs] = some (false, .int xs.length) := rfl
@[simp] theorem len_str (z : Str) : bclP .len [.str z] = if z.length ≤ LINE then some (false, .int z.length) else none := rfl
@[simp] theorem int_int (i : Int) : bclP .int [.int i] = some (false, .int i) := rfl
@[simp] theorem int_bl (i : Bool) : bclP .int [.bl i] = some (false, .int (b2i i)) := rfl
@[simp] theorem tuple_tup (xs : List PV) : bclP .tuple [.tup xs] = some (false, .tup xs) := rfl
@[simp] theorem tuple_lst (xs : List PV) : bclP .tuple [.lst xs] = some (false, .tup xs) := rfl
@[simp] theorem list_tup (xs : List PV) : bclP .list [.tup xs] = some (true, .lst xs) := rfl
@[simp] theorem list_lst (xs : List PV) : bclP .list [.lst xs] = some (true, .lst xs) := rfl
@[simp] theorem max_ii (i j : Int) : bclP .max [.int i, .int j] = some (false, .int (if j > i then j else i)) := rfl
@[simp] theorem min_ii (i j : Int) : bclP .min [.int i, .int j] = some (false, .int (if j < i then j else i)) := rfl
theorem all_lst {xs : List PV} {bs : List Bool} (h : boolsP xs = some bs) : bclP .all [.lst xs] = some (false, .bl (bs.all id)) := by simp [bclP, h]
theorem any_lst {xs : List PV} {bs : List Bool} (h : boolsP xs = some bs) : bclP .any [.lst xs] = some (false, .bl (bs.any id)) := by simp [bclP, h]
theorem boolsP_map {α : Type} (f : α → Bool) (xs : List α) : boolsP (xs.map fun a => PV.bl (f a)) = some (xs.map f) := by
  induction xs with
  | nil => rfl
  | cons x xs ih => simp [boolsP, ih]
@[simp] theorem all_map {α : Type} (f : α → Bool) (xs : List α) : bclP .all [.lst (xs.map fun a => PV.bl (f a))] = some (false, .bl (xs.all f)) := by
  rw [all_lst (boolsP_map f xs), List.all_map]; rfl
@[simp] theorem any_map {α : Type} (f : α → Bool) (xs : List α) : bclP .any [.lst (xs.map fun a => PV.bl (f a))] = some (false, .bl (xs.any f)) := by
  rw [any_lst (boolsP_map f xs), List.any_map]; rfl
@[simp] theorem items_tup (xs : List PV) : itemsP (.tup xs) = some xs := rfl
@[simp] theorem items_lst (xs : List PV) : itemsP (.lst xs) = some xs := rfl
@[simp] theorem items_str (z : Str) : itemsP (.str z) = some (z.cps.toList.map chr1) := rfl
theorem rng_nat (n : Nat) (h : n < 2 ^ 62) : rngP [.int (n : Int)] = some (upTo 0 n) := by
  have : okRng (n : Int) = true := by
    simp only [okRng, decide_eq_true_eq]
    constructor
    · exact Int.le_trans (by decide) (Int.natCast_nonneg n)
    · exact_mod_cast h
  simp [rngP, this]
@[simp] theorem rng_two : rngP [.int 2] = some [.int 0, .int 1] := rfl
@[simp] theorem isi_non (t : Ty) : isiP .non t = some false := rfl
@[simp] theorem isi_bl (b : Bool) (t : Ty) : isiP (.bl b) t = some (match t with | .int => true | .bool => true | _ => false) := rfl
@[simp] theorem isi_int (b : Int) (t : Ty) : isiP (.int b) t = some (match t with | .int => true | _ => false) := rfl
@[simp] theorem isi_str (b : Str) (t : Ty) : isiP (.str b) t = some (match t with | .str => true | _ => false) := rfl
@[simp] theorem isi_tup (b : List PV) (t : Ty) : isiP (.tup b) t = some (match t with | .tuple => true | _ => false) := rfl
@[simp] theorem isi_lst (b : List PV) (t : Ty) : isiP (.lst b) t = some (match t with | .list => true | _ => false) := rfl
@[simp] theorem frzAt_def (i : Nat) (env : FEnv) : frzAt i env = match env[i]? with | some o => env.set i (frz1 o) | none => env := rfl
@[simp] theorem frz1_some (r : Rv) : frz1 (some r) = some (false, r.2) := rfl
@[simp] theorem frz1_none : frz1 none = none := rfl
@[simp] theorem frz_nil : frz [] = [] := rfl
@[simp] theorem frz_cons (o : Option Rv) (l : FEnv) : frz (o :: l) = frz1 o :: frz l := rfl
@[simp] theorem vis_nil : vis [] = [] := rfl
@[simp] theorem vis_cons (o : Option Rv) (l : FEnv) : vis (o :: l) = vis1 o :: vis l := rfl
@[simp] theorem vis1_f (v : PV) : vis1 (some (false, v)) = some v := rfl
@[simp] theorem vis1_t (v : PV) : vis1 (some (true, v)) = none := rfl
@[simp] theorem vis1_n : vis1 none = none := rfl
theorem trim_same (r : Rv) (hp : Hs) : trim hp.length r hp = (r, hp) := if_pos rfl
@[simp] theorem endF_rt (n : Nat) (v : Rv) (env : FEnv) (hp : Hs) : endF n (.rt v, env, hp) = some (trim n v hp) := rfl
@[simp] theorem endF_nx (n : Nat) (env : FEnv) (hp : Hs) : endF n (.nx, env, hp) = some (trim n (false, .non) hp) := rfl
/-- a call of a def -/
theorem callF_def {G : Gl} {k f : Nat} {args : List PV} {hp : Hs} {fd : Fd} (h : G.fns f = some fd) (hd : fd.dfl = []) (hn : args.length = fd.np) :
    callF G (k + 1) f args hp = (exec G.cst (callF G k) WF fd.body ((args.map fun v => some (false, v)) ++ List.replicate (fd.ns - fd.np) none) hp).bind (endF hp.length) := by
  have e : fillA fd args = args := by simp [fillA, hd]
  show (G.fns f).bind _ = _
  rw [h]
  show (if (fillA fd args).length = fd.np then _ else none) = _
  rw [e, if_pos hn]; rfl
/-- .. that leaves the heap's length as it was -/
theorem call_eq {G : Gl} {k f : Nat} {args : List PV} {hp : Hs} {fd : Fd} {v : Rv} (h : G.fns f = some fd) (hd : fd.dfl = []) (hn : args.length = fd.np)
    (w : Wp (exec G.cst (callF G k) WF fd.body ((args.map fun v => some (false, v)) ++ List.replicate (fd.ns - fd.np) none) hp) fun r => r.1 = .rt v ∧ r.2.2 = hp) :
    callF G (k + 1) f args hp = some (v, hp) := by
  obtain ⟨⟨f1, e1, h1⟩, e, rfl, rfl⟩ := w
  rw [callF_def h hd hn, e]
  show some (trim _ _ _) = _
  rw [trim_same]
theorem Wp_call {G : Gl} {k f : Nat} {args : List PV} {hp : Hs} {fd : Fd} {Q : Rv × Hs → Prop} (h : G.fns f = some fd) (hd : fd.dfl = []) (hn : args.length = fd.np)
    (w : Wp (exec G.cst (callF G k) WF fd.body ((args.map fun v => some (false, v)) ++ List.replicate (fd.ns - fd.np) none) hp) fun r => ∃ v, r.1 = .rt v ∧ r.2.2.length = hp.length ∧ Q (v, r.2.2)) :
    Wp (callF G (k + 1) f args hp) Q := by
  obtain ⟨⟨f1, e1, h1⟩, e, v, rfl, hl, q⟩ := w
  refine ⟨(v, h1), ?_, q⟩
  rw [callF_def h hd hn, e]
  show some (trim _ _ _) = _
  simp only at hl
  rw [← hl, trim_same]
end MX
/-! Lists without repetition, and breadth first search. -/
namespace AU
section
variable {α : Type} [BEq α] [LawfulBEq α]
def add (l : List α) (x : α) : List α := if x ∈ l then l else l ++ [x]
def uqA (acc xs : List α) : List α := xs.foldl add acc
def uq (xs : List α) : List α := uqA [] xs
theorem mem_add {l : List α} {x y : α} : y ∈ add l x ↔ y ∈ l ∨ y = x := by
  unfold add
  split
  · constructor
    · exact Or.inl
    · rintro (h | rfl) <;> assumption
  · simp
theorem nodup_add {l : List α} {x : α} (h : l.Nodup) : (add l x).Nodup := by
  unfold add
  split
  · exact h
  · rw [List.nodup_append]
    refine ⟨h, by simp, ?_⟩
    intro a ha b hb
    simp at hb
    subst hb
    intro e
    subst e
    contradiction
theorem add_pre (l : List α) (x : α) : l <+: add l x := by
  unfold add
  split
  · exact List.prefix_refl _
  · exact List.prefix_append _ _
theorem add_of_mem {l : List α} {x : α} (h : x ∈ l) : add l x = l := if_pos h
theorem uqA_snoc (acc xs : List α) (x : α) : uqA acc (xs ++ [x]) = add (uqA acc xs) x := by simp [uqA]
theorem uq_snoc (xs : List α) (x : α) : uq (xs ++ [x]) = add (uq xs) x := uqA_snoc _ _ _
theorem mem_uqA {acc xs : List α} {y : α} : y ∈ uqA acc xs ↔ y ∈ acc ∨ y ∈ xs := by
  induction xs generalizing acc with
  | nil => simp [uqA]
  | cons x xs ih =>
    show y ∈ uqA (add acc x) xs ↔ _
    rw [ih, mem_add, List.mem_cons, or_assoc]
theorem mem_uq {xs : List α} {y : α} : y ∈ uq xs ↔ y ∈ xs := by simp [uq, mem_uqA]
theorem nodup_uqA {acc xs : List α} (h : acc.Nodup) : (uqA acc xs).Nodup := by
  induction xs generalizing acc with
  | nil => exact h
  | cons x xs ih => exact ih (nodup_add h)
theorem nodup_uq (xs : List α) : (uq xs).Nodup := nodup_uqA (by simp)
theorem uqA_pre (acc xs : List α) : acc <+: uqA acc xs := by
  induction xs generalizing acc with
  | nil => exact List.prefix_refl _
  | cons x xs ih => exact (add_pre acc x).trans (ih _)
theorem uqA_append (acc xs ys : List α) : uqA acc (xs ++ ys) = uqA (uqA acc xs) ys := by simp [uqA]
theorem uq_append (xs ys : List α) : uq (xs ++ ys) = uqA (uq xs) ys := uqA_append _ _ _
theorem uq_pre_append (xs ys : List α) : uq xs <+: uq (xs ++ ys) := by rw [uq_append]; exact uqA_pre _ _
theorem nodup_sub_length {l m : List α} (h : l.Nodup) (s : ∀ x ∈ l, x ∈ m) : l.length ≤ m.length := by
  induction l generalizing m with
  | nil => simp
  | cons x l ih =>
    have hx : x ∈ m := s x (by simp)
    rw [List.nodup_cons] at h
    have := ih (m := m.erase x) h.2 (fun y hy => by
      have hne : y ≠ x := fun e => h.1 (e ▸ hy)
      exact (List.mem_erase_of_ne hne).mpr (s y (by simp [hy])))
    rw [List.length_erase_of_mem hx] at this
    have := List.length_pos_of_mem hx
    simp
    omega
theorem idxOf_inj {l : List α} {x y : α} (hx : x ∈ l) (hy : y ∈ l) : l.idxOf x = l.idxOf y ↔ x = y := by
  constructor
  · intro e
    have h1 := List.getElem_idxOf (List.idxOf_lt_length_iff.mpr hx)
    have h2 := List.getElem_idxOf (List.idxOf_lt_length_iff.mpr hy)
    rw [← h1, ← h2]
    congr 1
  · rintro rfl; rfl
end
/-- two lists in order without repetition, of the same members -/
theorem sorted_ext {α : Type} {le : α → α → Bool} (anti : ∀ a b, le a b = true → le b a = true → a = b) {l m : List α}
    (nl : l.Nodup) (nm : m.Nodup) (pl : l.Pairwise fun a b => le a b = true) (pm : m.Pairwise fun a b => le a b = true) (h : ∀ x, x ∈ l ↔ x ∈ m) : l = m :=
  ((List.perm_ext_iff_of_nodup nl nm).mpr h).eq_of_pairwise (fun a b _ _ => anti a b) pl pm
theorem uq_sublist {α : Type} [BEq α] [LawfulBEq α] (xs : List α) : (uq xs).Sublist xs := by
  suffices h : ∀ (xs acc : List α), ∃ ys, uqA acc xs = acc ++ ys ∧ ys.Sublist xs by
    obtain ⟨ys, e, s⟩ := h xs []
    show (uqA [] xs).Sublist xs
    rw [e]; exact s
  intro xs
  induction xs with
  | nil => intro acc; exact ⟨[], by simp [uqA], List.Sublist.refl _⟩
  | cons x xs ih =>
    intro acc
    show ∃ ys, uqA (add acc x) xs = acc ++ ys ∧ _
    obtain ⟨ys, e, s⟩ := ih (add acc x)
    unfold add at e
    by_cases h : x ∈ acc
    · rw [if_pos h] at e
      exact ⟨ys, by rw [← e]; simp [add, h], s.cons _⟩
    · rw [if_neg h] at e
      exact ⟨x :: ys, by rw [show add acc x = acc ++ [x] from if_neg h, e]; simp, s.cons₂ _⟩
theorem sort_uq {α : Type} [BEq α] [LawfulBEq α] {le : α → α → Bool} (anti : ∀ a b, le a b = true → le b a = true → a = b) (trans : ∀ a b c, le a b = true → le b c = true → le a c = true)
    (total : ∀ a b, (le a b || le b a) = true) (xs : List α) : (uq xs).mergeSort le = uq (xs.mergeSort le) := by
  refine sorted_ext anti ?_ (nodup_uq _) (List.pairwise_mergeSort trans total _) ?_ ?_
  · exact (List.mergeSort_perm _ _).nodup_iff.mpr (nodup_uq _)
  · exact (List.pairwise_mergeSort trans total _).sublist (uq_sublist _)
  · intro x
    rw [List.mem_mergeSort, mem_uq, mem_uq, List.mem_mergeSort]
/-- tuples of k numbers below m -/
def allT (m : Nat) : Nat → List (List Nat)
  | 0 => [[]]
  | k + 1 => (allT m k).flatMap fun l => (List.range m).map (· :: l)
theorem allT_length (m k : Nat) : (allT m k).length = m ^ k := by
  induction k with
  | zero => rfl
  | succ k ih =>
    show ((allT m k).flatMap fun l => (List.range m).map (· :: l)).length = _
    rw [List.length_flatMap]
    have e : ∀ l : List (List Nat), (l.map fun _ => m).sum = l.length * m := by
      intro l
      induction l with
      | nil => simp
      | cons x l ih => rw [List.map_cons, List.sum_cons, ih, List.length_cons, Nat.succ_mul, Nat.add_comm]
    simp [ih, Nat.pow_succ, e]
theorem mem_allT {m : Nat} {l : List Nat} (h : ∀ x ∈ l, x < m) : l ∈ allT m l.length := by
  induction l with
  | nil => simp [allT]
  | cons x l ih =>
    show x :: l ∈ (allT m l.length).flatMap fun l => (List.range m).map (· :: l)
    rw [List.mem_flatMap]
    exact ⟨l, ih (fun y hy => h y (by simp [hy])), by simp [h x (by simp)]⟩
theorem countP_lt {α : Type} {p q : α → Bool} {l : List α} (h : ∀ x ∈ l, p x = true → q x = true) {x : α} (hx : x ∈ l) (hq : q x = true) (hp : p x = false) : l.countP p < l.countP q := by
  induction l with
  | nil => simp at hx
  | cons y l ih =>
    rw [List.countP_cons, List.countP_cons]
    rcases List.mem_cons.mp hx with rfl | hx
    · have := List.countP_mono_left (l := l) (p := p) (q := q) (fun y hy => h y (by simp [hy]))
      simp [hq, hp]; omega
    · have := ih (fun y hy => h y (by simp [hy])) hx
      have hy := h y (by simp)
      by_cases hpy : p y = true
      · simp [hpy, hy hpy]; exact this
      · simp [hpy]; omega
end AU
/-! Automata of two signs: classes of states, and the least automaton. -/
namespace AU
structure Au where
  s : Nat
  good : List Nat
  st : List (Nat × Nat)
namespace Au
variable (A : Au)
def n : Nat := A.st.length
def go (q k : Nat) : Nat := if k = 0 then (A.st.getD q (0, 0)).1 else (A.st.getD q (0, 0)).2
structure Ok : Prop where
  s : A.s < A.n
  st : ∀ p ∈ A.st, p.1 < A.n ∧ p.2 < A.n
variable {A}
theorem Ok.go (h : A.Ok) {q : Nat} (hq : q < A.n) (k : Nat) : A.go q k < A.n := by
  have e : A.st.getD q (0, 0) = A.st[q]'hq := by simp [List.getD, show A.st[q]? = some A.st[q] from List.getElem?_eq_getElem hq]
  have := h.st (A.st[q]'hq) (List.getElem_mem _)
  unfold Au.go
  rw [e]
  split <;> omega
variable (A)
def le3 (a b : List Nat) : Bool := MP.leP (MX.mv a) (MX.mv b)
def sg (f : List Nat) : List (List Nat) := (List.range A.n).map fun q => [f.getD q 0, f.getD (A.go q 0) 0, f.getD (A.go q 1) 0]
def rows (f : List Nat) : List (List Nat) := (uq (A.sg f)).mergeSort le3
def ref (f : List Nat) : List Nat := (A.sg f).map fun s => (A.rows f).idxOf s
def ini : List Nat := (List.range A.n).map fun q => if q ∈ A.good then 1 else 0
def cl : Nat → List Nat
  | 0 => A.ini
  | i + 1 => A.ref (cl i)
theorem cl_length (i : Nat) : (A.cl i).length = A.n := by
  cases i with
  | zero => simp [cl, ini]
  | succ i => simp [cl, ref, sg]
def E (i q r : Nat) : Prop := (A.cl i).getD q 0 = (A.cl i).getD r 0
instance (i q r : Nat) : Decidable (A.E i q r) := inferInstanceAs (Decidable (_ = _))
theorem sg_mem (f : List Nat) {q : Nat} (hq : q < A.n) : [f.getD q 0, f.getD (A.go q 0) 0, f.getD (A.go q 1) 0] ∈ A.sg f :=
  List.mem_map.mpr ⟨q, List.mem_range.mpr hq, rfl⟩
theorem rows_mem (f : List Nat) (s : List Nat) : s ∈ A.rows f ↔ s ∈ A.sg f := by rw [rows, List.mem_mergeSort, mem_uq]
theorem cl_succ (i : Nat) {q : Nat} (hq : q < A.n) : (A.cl (i + 1)).getD q 0 = (A.rows (A.cl i)).idxOf [(A.cl i).getD q 0, (A.cl i).getD (A.go q 0) 0, (A.cl i).getD (A.go q 1) 0] := by
  show ((A.sg (A.cl i)).map _).getD q 0 = _
  simp [sg, List.getD, hq]
theorem E_succ (i : Nat) {q r : Nat} (hq : q < A.n) (hr : r < A.n) : A.E (i + 1) q r ↔ A.E i q r ∧ A.E i (A.go q 0) (A.go r 0) ∧ A.E i (A.go q 1) (A.go r 1) := by
  unfold E
  rw [cl_succ A i hq, cl_succ A i hr, idxOf_inj ((A.rows_mem _ _).mpr (A.sg_mem _ hq)) ((A.rows_mem _ _).mpr (A.sg_mem _ hr))]
  simp
theorem E_good {q r : Nat} (hq : q < A.n) (hr : r < A.n) : A.E 0 q r ↔ (q ∈ A.good ↔ r ∈ A.good) := by
  unfold E cl ini
  simp [List.getD, hq, hr]
  by_cases h1 : q ∈ A.good <;> by_cases h2 : r ∈ A.good <;> simp [h1, h2]
theorem E_le {i j q r : Nat} (hij : i ≤ j) (hq : q < A.n) (hr : r < A.n) (h : A.E j q r) : A.E i q r := by
  induction j with
  | zero => rw [Nat.le_zero.mp hij]; exact h
  | succ j ih =>
    rcases Nat.lt_or_ge i (j + 1) with h1 | h1
    · exact ih (by omega) ((A.E_succ j hq hr).mp h).1
    · rw [Nat.le_antisymm hij h1]; exact h
/-- q is the first of its class -/
def fst (i q : Nat) : Bool := decide (∀ r, r < q → ¬ A.E i q r)
def D (i : Nat) : Nat := (List.range A.n).countP (A.fst i)
def Stab (i : Nat) : Prop := ∀ q r, q < A.n → r < A.n → A.E i q r → A.E (i + 1) q r
variable {A}
theorem first_of (i : Nat) (q : Nat) : ∃ m, m ≤ q ∧ A.E i m q ∧ A.fst i m = true := by
  induction q using Nat.strongRecOn with
  | ind q ih =>
    by_cases h : A.fst i q = true
    · exact ⟨q, Nat.le_refl _, rfl, h⟩
    · simp only [fst, decide_eq_true_eq] at h
      have ⟨r, hr⟩ := Classical.not_forall.mp h
      have ⟨h1, h2⟩ := Classical.not_imp.mp hr
      have h2 := Classical.not_not.mp h2
      obtain ⟨m, hm, e, f⟩ := ih r h1
      exact ⟨m, by omega, e.trans h2.symm, f⟩
theorem D_lt (ok : A.Ok) {i : Nat} (h : ¬ A.Stab i) : A.D i < A.D (i + 1) := by
  unfold Stab at h
  have ⟨q, h⟩ := Classical.not_forall.mp h
  have ⟨r, h⟩ := Classical.not_forall.mp h
  have ⟨hq, h⟩ := Classical.not_imp.mp h
  have ⟨hr, h⟩ := Classical.not_imp.mp h
  have ⟨h1, h2⟩ := Classical.not_imp.mp h
  -- a state x of the class, and the first m of it, that are parted
  obtain ⟨m, hm, em, fm⟩ := first_of (A := A) i q
  have hx : ∃ x, x < A.n ∧ A.E i m x ∧ ¬ A.E (i + 1) m x := by
    by_cases c : A.E (i + 1) m q
    · refine ⟨r, hr, em.trans h1, fun c2 => h2 (c.symm.trans c2)⟩
    · exact ⟨q, hq, em, c⟩
  obtain ⟨x, hx, e1, e2⟩ := hx
  obtain ⟨y, hy, ey, fy⟩ := first_of (A := A) (i + 1) x
  have hyn : y < A.n := by omega
  have ey0 : A.E i y x := ((A.E_succ i hyn hx).mp ey).1
  refine countP_lt (fun q hq f => ?_) (List.mem_range.mpr hyn) fy ?_
  · have hq := List.mem_range.mp hq
    simp only [fst, decide_eq_true_eq] at f ⊢
    exact fun r hr c => f r hr ((A.E_succ i hq (by omega)).mp c).1
  · have hne : y ≠ m := fun e => e2 (e ▸ ey)
    have hmy : A.E i y m := ey0.trans e1.symm
    have : m < y := by
      rcases Nat.lt_trichotomy m y with h | h | h
      · exact h
      · exact absurd h.symm hne
      · simp only [fst, decide_eq_true_eq] at fm
        exact absurd hmy.symm (fm y h)
    cases hf : A.fst i y with
    | false => rfl
    | true =>
      simp only [fst, decide_eq_true_eq] at hf
      exact absurd hmy (hf m this)
theorem stab_succ (ok : A.Ok) {i : Nat} (h : A.Stab i) : A.Stab (i + 1) := by
  intro q r hq hr e
  rw [A.E_succ i hq hr] at e
  rw [A.E_succ (i + 1) hq hr]
  exact ⟨h q r hq hr e.1, h _ _ (ok.go hq 0) (ok.go hr 0) e.2.1, h _ _ (ok.go hq 1) (ok.go hr 1) e.2.2⟩
theorem stab_n (ok : A.Ok) : A.Stab A.n := by
  have hs : ∃ i, i ≤ A.n ∧ A.Stab i := by
    apply Classical.byContradiction
    intro h
    have hD : ∀ i, i ≤ A.n + 1 → i ≤ A.D i := by
      intro i hi
      induction i with
      | zero => exact Nat.zero_le _
      | succ i ih =>
        have h1 : ¬ A.Stab i := fun c => h ⟨i, by omega, c⟩
        have := D_lt ok h1
        have := ih (by omega)
        omega
    have h1 := hD (A.n + 1) (Nat.le_refl _)
    have h2 : A.D (A.n + 1) ≤ A.n := by
      have := List.countP_le_length (p := A.fst (A.n + 1)) (l := List.range A.n)
      simpa [D] using this
    omega
  obtain ⟨i, hi, h⟩ := hs
  obtain ⟨d, e⟩ := Nat.exists_eq_add_of_le hi
  rw [e]
  have : ∀ d, A.Stab (i + d) := by
    intro d
    induction d with
    | zero => exact h
    | succ d ih => exact stab_succ ok ih
  exact this d
variable (A)
/-- the class of a state -/
def c (q : Nat) : Nat := (A.cl A.n).getD q 0
variable {A}
theorem c_go (ok : A.Ok) {q r : Nat} (hq : q < A.n) (hr : r < A.n) (h : A.c q = A.c r) (k : Nat) : A.c (A.go q k) = A.c (A.go r k) := by
  have := (A.E_succ A.n hq hr).mp (stab_n ok q r hq hr h)
  by_cases hk : k = 0
  · subst hk; exact this.2.1
  · have e : ∀ q, A.go q k = A.go q 1 := fun q => by simp [Au.go, hk]
    rw [e, e]; exact this.2.2
theorem c_good {q r : Nat} (hq : q < A.n) (hr : r < A.n) (h : A.c q = A.c r) : q ∈ A.good ↔ r ∈ A.good :=
  (A.E_good hq hr).mp (A.E_le (Nat.zero_le _) hq hr h)
variable (A)
/-! ### breadth first -/
/-- the next step of a search: the i-th member's successors are added -/
def bs (L : List Nat) (i : Nat) : List Nat := add (add L (A.go (L.getD i 0) 0)) (A.go (L.getD i 0) 1)
/-- the search among states, and among classes -/
def qs (M : List Nat) (L : List Nat) (i : Nat) : List Nat := add (add M (A.c (A.go (L.getD i 0) 0))) (A.c (A.go (L.getD i 0) 1))
/-- the search has come to the i-th member -/
inductive BS : List Nat → Nat → Prop where
  | ini : BS [A.s] 0
  | step {L : List Nat} {i : Nat} : BS L i → i < L.length → BS (A.bs L i) (i + 1)
/-- the search among classes, by members of theirs -/
def ladd (L : List Nat) (q : Nat) : List Nat := if A.c q ∈ L.map A.c then L else L ++ [q]
def ls (L : List Nat) (i : Nat) : List Nat := A.ladd (A.ladd L (A.go (L.getD i 0) 0)) (A.go (L.getD i 0) 1)
inductive LS : List Nat → Nat → Prop where
  | ini : LS [A.s] 0
  | step {L : List Nat} {i : Nat} : LS L i → i < L.length → LS (A.ls L i) (i + 1)
variable {A}
theorem BS.ok (ok : A.Ok) {L : List Nat} {i : Nat} (h : A.BS L i) : L.Nodup ∧ (∀ q ∈ L, q < A.n) ∧ i ≤ L.length ∧ L[0]? = some A.s := by
  induction h with
  | ini => simp [ok.s]
  | @step L i h hi ih =>
    obtain ⟨h1, h2, h3, h4⟩ := ih
    have hq : L.getD i 0 < A.n := h2 _ (by
      have e : L.getD i 0 = L[i] := by simp [List.getD, hi]
      rw [e]; exact List.getElem_mem _)
    have hp : L <+: A.bs L i := (add_pre _ _).trans (add_pre _ _)
    refine ⟨nodup_add (nodup_add h1), fun q hm => ?_, ?_, ?_⟩
    · rcases mem_add.mp hm with hm | rfl
      · rcases mem_add.mp hm with hm | rfl
        · exact h2 q hm
        · exact ok.go hq 0
      · exact ok.go hq 1
    · have := hp.length_le; omega
    · obtain ⟨t, e⟩ := hp
      rw [← e, List.getElem?_append_left (by omega)]
      exact h4
theorem BS.length (ok : A.Ok) {L : List Nat} {i : Nat} (h : A.BS L i) : L.length ≤ A.n := by
  obtain ⟨h1, h2, _⟩ := h.ok ok
  have := nodup_sub_length h1 (m := List.range A.n) (fun q hq => List.mem_range.mpr (h2 q hq))
  simpa using this
theorem LS.ok (ok : A.Ok) {L : List Nat} {i : Nat} (h : A.LS L i) : (L.map A.c).Nodup ∧ (∀ q ∈ L, q < A.n) ∧ i ≤ L.length ∧ L[0]? = some A.s := by
  have hl : ∀ L q, (L.map A.c).Nodup → (∀ q ∈ L, q < A.n) → q < A.n → ((A.ladd L q).map A.c).Nodup ∧ (∀ q' ∈ A.ladd L q, q' < A.n) ∧ L <+: A.ladd L q := by
    intro L q h1 h2 hq
    unfold ladd
    split
    · exact ⟨h1, h2, List.prefix_refl _⟩
    · rename_i hn
      refine ⟨?_, fun q' hm => ?_, List.prefix_append _ _⟩
      · have := nodup_add (x := A.c q) h1
        rw [show add (L.map A.c) (A.c q) = L.map A.c ++ [A.c q] from if_neg hn] at this
        simpa using this
      · rcases List.mem_append.mp hm with hm | hm
        · exact h2 _ hm
        · simp at hm; omega
  induction h with
  | ini => simp [ok.s]
  | @step L i h hi ih =>
    obtain ⟨h1, h2, h3, h4⟩ := ih
    have hq : L.getD i 0 < A.n := h2 _ (by
      have e : L.getD i 0 = L[i] := by simp [List.getD, hi]
      rw [e]; exact List.getElem_mem _)
    obtain ⟨a1, a2, a3⟩ := hl L _ h1 h2 (ok.go hq 0)
    obtain ⟨b1, b2, b3⟩ := hl _ _ a1 a2 (ok.go hq 1)
    have hp : L <+: A.ls L i := a3.trans b3
    refine ⟨b1, b2, ?_, ?_⟩
    · have := hp.length_le; omega
    · obtain ⟨t, e⟩ := hp
      rw [← e, List.getElem?_append_left (by omega)]
      exact h4
theorem LS.length (ok : A.Ok) {L : List Nat} {i : Nat} (h : A.LS L i) : L.length ≤ A.n := by
  obtain ⟨h1, h2, _⟩ := h.ok ok
  have h1 : L.Nodup := by
    rw [List.Nodup, List.pairwise_map] at h1
    exact h1.imp fun hne e => hne (congrArg _ e)
  have := nodup_sub_length h1 (m := List.range A.n) (fun q hq => List.mem_range.mpr (h2 q hq))
  simpa using this
end Au
end AU
/-! The search among states and the search among classes find the classes in one order. -/
namespace AU
namespace Au
variable {A : Au}
theorem uq_map_add (L : List Nat) (x : Nat) (f : Nat → Nat) : uq ((add L x).map f) = add (uq (L.map f)) (f x) := by
  by_cases h : x ∈ L
  · rw [add_of_mem h, add_of_mem]
    exact mem_uq.mpr (List.mem_map_of_mem h)
  · rw [show add L x = L ++ [x] from if_neg h, List.map_append]
    exact uq_snoc _ _
theorem ladd_map (L : List Nat) (q : Nat) : (A.ladd L q).map A.c = add (L.map A.c) (A.c q) := by
  unfold ladd add
  split <;> simp
theorem ladd_pre (L : List Nat) (q : Nat) : L <+: A.ladd L q := by
  unfold ladd
  split
  · exact List.prefix_refl _
  · exact List.prefix_append _ _
theorem ls_map (L : List Nat) (i : Nat) : (A.ls L i).map A.c = add (add (L.map A.c) (A.c (A.go (L.getD i 0) 0))) (A.c (A.go (L.getD i 0) 1)) := by
  unfold ls
  rw [ladd_map, ladd_map]
theorem ls_pre (L : List Nat) (i : Nat) : L <+: A.ls L i := (ladd_pre _ _).trans (ladd_pre _ _)
theorem bs_pre (L : List Nat) (i : Nat) : L <+: A.bs L i := (add_pre _ _).trans (add_pre _ _)
theorem pre_getD {L M : List Nat} (h : L <+: M) {i : Nat} (hi : i < L.length) : M.getD i 0 = L.getD i 0 := by
  obtain ⟨t, rfl⟩ := h
  simp [List.getD, List.getElem?_append_left hi]
theorem go_01 (k q : Nat) : A.go q k = A.go q 0 ∨ A.go q k = A.go q 1 := by
  by_cases h : k = 0
  · exact Or.inl (by rw [h])
  · exact Or.inr (by simp [Au.go, h])
theorem LS.closed {L : List Nat} {j : Nat} (h : A.LS L j) : ∀ j', j' < j → ∀ k, A.c (A.go (L.getD j' 0) k) ∈ L.map A.c := by
  induction h with
  | ini => intro j' h; exact absurd h (Nat.not_lt_zero _)
  | @step L i h hi ih =>
    intro j' hj k
    have hp := ls_pre (A := A) L i
    rw [pre_getD hp (by omega)]
    rcases Nat.lt_or_ge j' i with h1 | h1
    · exact (hp.map A.c).subset (ih j' h1 k)
    · have e : j' = i := by omega
      subst e
      rw [ls_map, mem_add, mem_add]
      rcases go_01 (A := A) k (L.getD j' 0) with e | e <;> rw [e]
      · exact Or.inl (Or.inr rfl)
      · exact Or.inr rfl
theorem BS.closed {L : List Nat} {j : Nat} (h : A.BS L j) : ∀ j', j' < j → ∀ k, A.go (L.getD j' 0) k ∈ L := by
  induction h with
  | ini => intro j' h; exact absurd h (Nat.not_lt_zero _)
  | @step L i h hi ih =>
    intro j' hj k
    have hp := bs_pre (A := A) L i
    rw [pre_getD hp (by omega)]
    rcases Nat.lt_or_ge j' i with h1 | h1
    · exact hp.subset (ih j' h1 k)
    · have e : j' = i := by omega
      subst e
      unfold bs
      rw [mem_add, mem_add]
      rcases go_01 (A := A) k (L.getD j' 0) with e | e <;> rw [e]
      · exact Or.inl (Or.inr rfl)
      · exact Or.inr rfl
theorem sim (ok : A.Ok) {L : List Nat} {i : Nat} (h : A.BS L i) : ∃ L' j, A.LS L' j ∧ uq (L.map A.c) = L'.map A.c ∧ uq ((L.take i).map A.c) = (L'.map A.c).take j := by
  induction h with
  | ini => exact ⟨[A.s], 0, .ini, rfl, rfl⟩
  | @step L i h hi ih =>
    obtain ⟨L', j, hL, e1, e2⟩ := ih
    have hb := h.ok ok
    have hl := hL.ok ok
    have hp := bs_pre (A := A) L i
    have et : (A.bs L i).take (i + 1) = L.take i ++ [L.getD i 0] := by
      obtain ⟨t, e⟩ := hp
      rw [← e, List.take_append_of_le_length (by omega), List.take_succ_eq_append_getElem hi]
      simp [List.getD, hi]
    have em : uq ((A.bs L i).map A.c) = add (add (L'.map A.c) (A.c (A.go (L.getD i 0) 0))) (A.c (A.go (L.getD i 0) 1)) := by
      unfold bs
      rw [uq_map_add, uq_map_add, e1]
    have eq : uq (((A.bs L i).take (i + 1)).map A.c) = add ((L'.map A.c).take j) (A.c (L.getD i 0)) := by
      rw [et, List.map_append]
      show uq (_ ++ [A.c (L.getD i 0)]) = _
      rw [uq_snoc, e2]
    have hq : L.getD i 0 < A.n := hb.2.1 _ (by
      have e : L.getD i 0 = L[i] := by simp [List.getD, hi]
      rw [e]; exact List.getElem_mem _)
    by_cases hc : A.c (L.getD i 0) ∈ (L'.map A.c).take j
    · -- the class was searched before
      obtain ⟨j', hj', ej⟩ := List.mem_iff_getElem.mp hc
      simp at hj' ej
      have hj2 : j' < L'.length := by omega
      have ex : L'.getD j' 0 = L'[j'] := by simp [List.getD, hj2]
      have hx : L'.getD j' 0 < A.n := hl.2.1 _ (by rw [ex]; exact List.getElem_mem _)
      have hm : ∀ k, A.c (A.go (L.getD i 0) k) ∈ L'.map A.c := fun k => by
        rw [c_go ok hq hx (by rw [ex]; exact ej.symm) k]
        exact hL.closed j' (by omega) k
      refine ⟨L', j, hL, ?_, ?_⟩
      · rw [em, add_of_mem (hm 0), add_of_mem (hm 1)]
      · rw [eq, add_of_mem hc]
    · have ea : add ((L'.map A.c).take j) (A.c (L.getD i 0)) = (L'.map A.c).take j ++ [A.c (L.getD i 0)] := if_neg hc
      -- it is the next one
      have hpre : (L'.map A.c).take j ++ [A.c (L.getD i 0)] <+: L'.map A.c := by
        rw [← ea, ← eq, ← e1, et]
        have : L = (L.take i ++ [L.getD i 0]) ++ L.drop (i + 1) := by
          rw [show L.take i ++ [L.getD i 0] = L.take (i + 1) by rw [List.take_succ_eq_append_getElem hi]; simp [List.getD, hi]]
          exact (List.take_append_drop _ _).symm
        conv => rhs; rw [this, List.map_append]
        exact uq_pre_append _ _
      have hjl : j < L'.length := by
        have := hpre.length_le
        simp at this
        have := hl.2.2.1
        omega
      have ej : A.c (L'.getD j 0) = A.c (L.getD i 0) := by
        obtain ⟨t, e⟩ := hpre
        have h1 : (L'.map A.c)[j]? = some (A.c (L.getD i 0)) := by
          rw [← e, List.append_assoc, List.getElem?_append_right (by simp; omega)]
          simp [show min j L'.length = j by omega]
        simp [hjl] at h1
        simp [List.getD, hjl, h1]
      have hx : L'.getD j 0 < A.n := hl.2.1 _ (by
        have e : L'.getD j 0 = L'[j] := by simp [List.getD, hjl]
        rw [e]; exact List.getElem_mem _)
      refine ⟨A.ls L' j, j + 1, .step hL hjl, ?_, ?_⟩
      · rw [em, ls_map, c_go ok hx hq ej, c_go ok hx hq ej]
      · rw [eq, ea]
        obtain ⟨t, e⟩ := (ls_pre (A := A) L' j).map A.c
        rw [← e, List.take_append_of_le_length (by simp; omega), List.take_succ_eq_append_getElem (by simp; exact hjl)]
        congr 2
        rw [List.getElem_map, ← ej]
        simp [List.getD, hjl]
def lsN (A : Au) : Nat → List Nat
  | 0 => [A.s]
  | j + 1 => A.ls (lsN A j) j
theorem LS.eq {L : List Nat} {j : Nat} (h : A.LS L j) : L = A.lsN j ∧ ∀ i, i < j → i < (A.lsN i).length := by
  induction h with
  | ini => exact ⟨rfl, fun i h => absurd h (Nat.not_lt_zero _)⟩
  | @step L i h hi ih =>
    obtain ⟨e, h1⟩ := ih
    subst e
    refine ⟨rfl, fun i' hi' => ?_⟩
    rcases Nat.lt_or_ge i' i with h2 | h2
    · exact h1 i' h2
    · rw [show i' = i by omega]; exact hi
theorem LS.uniq {L M : List Nat} (h1 : A.LS L L.length) (h2 : A.LS M M.length) : L = M := by
  obtain ⟨e1, f1⟩ := h1.eq
  obtain ⟨e2, f2⟩ := h2.eq
  rcases Nat.lt_trichotomy L.length M.length with h | h | h
  · have := f2 _ h
    rw [← e1] at this
    exact absurd this (Nat.lt_irrefl _)
  · rw [e1, e2, h]
  · have := f1 _ h
    rw [← e2] at this
    exact absurd this (Nat.lt_irrefl _)
/-- both searches, when they end -/
theorem sim_end (ok : A.Ok) {L M : List Nat} (h1 : A.BS L L.length) (h2 : A.LS M M.length) : uq (L.map A.c) = M.map A.c := by
  obtain ⟨L', j, hL, e1, e2⟩ := sim ok h1
  rw [List.take_length, e1] at e2
  have hj := (hL.ok ok).2.2.1
  have : j = L'.length := by
    have := congrArg List.length e2
    simp at this
    omega
  subst this
  rw [e1, LS.uniq hL h2]
/-- the least automaton, made of members of the classes -/
def lm (A : Au) (M : List Nat) : Au := ⟨0, (List.range M.length).filter fun k => decide (M.getD k 0 ∈ A.good), M.map fun x => ((M.map A.c).idxOf (A.c (A.go x 0)), (M.map A.c).idxOf (A.c (A.go x 1)))⟩
/-- .. it depends on the classes alone -/
theorem lm_congr (ok : A.Ok) {M N : List Nat} (hM : ∀ q ∈ M, q < A.n) (hN : ∀ q ∈ N, q < A.n) (h : M.map A.c = N.map A.c) : A.lm M = A.lm N := by
  have hl : M.length = N.length := by simpa using congrArg List.length h
  have hk : ∀ k, k < M.length → A.c (M.getD k 0) = A.c (N.getD k 0) := fun k hk => by
    have h1 : (M.map A.c)[k]? = (N.map A.c)[k]? := by rw [h]
    simp [hk, show k < N.length by omega] at h1
    simp [List.getD, hk, show k < N.length by omega, h1]
  have hM' : ∀ k, k < M.length → M.getD k 0 < A.n := fun k hk => hM _ (by
    have e : M.getD k 0 = M[k] := by simp [List.getD, hk]
    rw [e]; exact List.getElem_mem _)
  have hN' : ∀ k, k < N.length → N.getD k 0 < A.n := fun k hk => hN _ (by
    have e : N.getD k 0 = N[k] := by simp [List.getD, hk]
    rw [e]; exact List.getElem_mem _)
  unfold lm
  rw [h, hl]
  congr 1
  · refine List.filter_congr fun k hk' => ?_
    have hk' := List.mem_range.mp hk'
    have := c_good (hM' k (by omega)) (hN' k hk') (hk k (by omega))
    simp only [this]
  · refine List.ext_getElem (by simp [hl]) fun k h1 h2 => ?_
    simp at h1 h2
    have e1 : M.getD k 0 = M[k] := by simp [List.getD, h1]
    have e2 : N.getD k 0 = N[k] := by simp [List.getD, h2]
    have a := hM' k h1
    have b := hN' k h2
    have d := hk k h1
    rw [e1] at a d
    rw [e2] at b d
    simp [c_go ok a b d]
theorem lm_ok (ok : A.Ok) {M : List Nat} (h : A.LS M M.length) : (A.lm M).Ok := by
  have hl := h.ok ok
  have hn : (A.lm M).n = M.length := by simp [n, lm]
  have hpos : 0 < M.length := by
    have := hl.2.2.2
    cases M with
    | nil => simp at this
    | cons _ _ => simp
  refine ⟨by rw [hn]; exact hpos, fun p hp => ?_⟩
  rw [hn]
  obtain ⟨x, hx, rfl⟩ := List.mem_map.mp hp
  obtain ⟨i, hi, rfl⟩ := List.mem_iff_getElem.mp hx
  have e1 : M.getD i 0 = M[i] := by simp [List.getD, hi]
  have h0 := h.closed i hi 0
  have h1 := h.closed i hi 1
  rw [e1] at h0 h1
  have := List.idxOf_lt_length_iff.mpr h0
  have := List.idxOf_lt_length_iff.mpr h1
  simp at *
  omega
theorem LS.ex (ok : A.Ok) : ∃ M, A.LS M M.length := by
  have : ∀ d L i, A.LS L i → A.n - i ≤ d → ∃ M, A.LS M M.length := by
    intro d
    induction d with
    | zero =>
      intro L i h hd
      have h1 := h.length ok
      have h2 := (h.ok ok).2.2.1
      exact ⟨L, by rw [show L.length = i by omega]; exact h⟩
    | succ d ih =>
      intro L i h hd
      have h1 := h.length ok
      have h2 := (h.ok ok).2.2.1
      rcases Nat.lt_or_ge i L.length with c | c
      · exact ih _ _ (.step h c) (by omega)
      · exact ⟨L, by rw [show L.length = i by omega]; exact h⟩
  exact this A.n _ _ .ini (by omega)
/-- the members found, and the least automaton -/
noncomputable def M (A : Au) : List Nat := Classical.epsilon fun M => A.LS M M.length
theorem M_ls (ok : A.Ok) : A.LS A.M A.M.length := Classical.epsilon_spec (p := fun M => A.LS M M.length) (LS.ex ok)
noncomputable def least (A : Au) : Au := A.lm A.M
theorem least_ok (ok : A.Ok) : A.least.Ok := lm_ok ok (M_ls ok)
theorem least_n (ok : A.Ok) : A.least.n ≤ A.n := by
  have : A.least.n = A.M.length := by simp [least, lm, n]
  rw [this]
  exact (M_ls ok).length ok
theorem least_of (ok : A.Ok) {L : List Nat} (h : A.LS L L.length) : A.lm L = A.least := by rw [least, LS.uniq h (M_ls ok)]
theorem lm_n (M : List Nat) : (A.lm M).n = M.length := by simp [n, lm]
end Au
end AU
/-! Moves of automata, and their powers. -/
namespace AU
/-- one move behind another -/
def comp (a b : List Nat) : List Nat := a.map fun q => b.getD q 0
/-- the powers of a move -/
def pw (x : List Nat) : Nat → List Nat
  | 0 => x
  | i + 1 => comp (pw x i) x
def pws (x : List Nat) (t : Nat) : List (List Nat) := (List.range t).map (pw x)
theorem pws_succ (x : List Nat) (t : Nat) : pws x (t + 1) = pws x t ++ [pw x t] := by simp [pws, List.range_succ]
/-- the powers come back after t moves -/
def Stop (x : List Nat) (t : Nat) : Prop := pw x t ∈ pws x t ∧ ∀ t', t' < t → pw x t' ∉ pws x t'
theorem Stop.uniq {x : List Nat} {s t : Nat} (h : Stop x s) (g : Stop x t) : s = t := by
  rcases Nat.lt_trichotomy s t with c | c | c
  · exact absurd h.1 (g.2 s c)
  · exact c
  · exact absurd g.1 (h.2 t c)
noncomputable def T (x : List Nat) : Nat := Classical.epsilon (Stop x)
theorem Stop.T {x : List Nat} {t : Nat} (h : Stop x t) : T x = t := Stop.uniq (Classical.epsilon_spec (p := Stop x) ⟨t, h⟩) h
noncomputable def back (x : List Nat) : Nat := (pws x (T x)).idxOf (pw x (T x))
theorem pws_nodup {x : List Nat} {t : Nat} (h : ∀ t', t' < t → pw x t' ∉ pws x t') : (pws x t).Nodup := by
  induction t with
  | zero => simp [pws]
  | succ t ih =>
    rw [pws_succ]
    have := nodup_add (x := pw x t) (ih fun t' h' => h t' (by omega))
    rwa [show add (pws x t) (pw x t) = pws x t ++ [pw x t] from if_neg (h t (by omega))] at this
/-- a move of n states -/
structure Mv (n : Nat) (x : List Nat) : Prop where
  len : x.length = n
  lt : ∀ q ∈ x, q < n
theorem Mv.getD {n : Nat} {x : List Nat} (h : Mv n x) {q : Nat} (hq : q < n) : x.getD q 0 < n := by
  have hl : q < x.length := by rw [h.len]; exact hq
  have e : x.getD q 0 = x[q] := by simp [List.getD, hl]
  rw [e]; exact h.lt _ (List.getElem_mem _)
theorem Mv.comp {n : Nat} {x y : List Nat} (h : Mv n x) (g : Mv n y) : Mv n (comp x y) := by
  refine ⟨by simp [AU.comp, h.len], fun q hq => ?_⟩
  obtain ⟨r, hr, rfl⟩ := List.mem_map.mp hq
  exact g.getD (h.lt r hr)
theorem Mv.pw {n : Nat} {x : List Nat} (h : Mv n x) (i : Nat) : Mv n (pw x i) := by
  induction i with
  | zero => exact h
  | succ i ih => exact ih.comp h
theorem Mv.mem {n : Nat} {x : List Nat} (h : Mv n x) : x ∈ allT n n := by
  have := mem_allT h.lt
  rwa [h.len] at this
theorem mvs_length {n : Nat} {F : List (List Nat)} (nd : F.Nodup) (h : ∀ x ∈ F, Mv n x) : F.length ≤ n ^ n := by
  have := nodup_sub_length nd (m := allT n n) (fun x hx => (h x hx).mem)
  rwa [allT_length] at this
theorem pws_length {n : Nat} {x : List Nat} (h : Mv n x) {t : Nat} (hs : ∀ t', t' < t → AU.pw x t' ∉ pws x t') : t ≤ n ^ n := by
  have := mvs_length (n := n) (pws_nodup hs) (fun y hy => by
    obtain ⟨i, _, rfl⟩ := List.mem_map.mp hy
    exact h.pw i)
  simpa [pws] using this
theorem stop_ex {n : Nat} {x : List Nat} (h : Mv n x) : ∃ t, Stop x t ∧ t ≤ n ^ n := by
  apply Classical.byContradiction
  intro hc
  have : ∀ t, t ≤ n ^ n + 1 → ∀ t', t' < t → AU.pw x t' ∉ pws x t' := by
    intro t
    induction t with
    | zero => intro _ t' h; exact absurd h (Nat.not_lt_zero _)
    | succ t ih =>
      intro ht t' ht'
      have ih := ih (by omega)
      rcases Nat.lt_or_ge t' t with c | c
      · exact ih t' c
      · rw [show t' = t by omega]
        intro hm
        exact hc ⟨t, ⟨hm, ih⟩, by omega⟩
  have := pws_length h (this (n ^ n + 1) (Nat.le_refl _))
  omega
theorem Mv.stop {n : Nat} {x : List Nat} (h : Mv n x) : Stop x (T x) ∧ T x ≤ n ^ n := by
  obtain ⟨t, ht, hl⟩ := stop_ex h
  rw [ht.T]; exact ⟨ht, hl⟩
theorem Mv.back {n : Nat} {x : List Nat} (h : Mv n x) : back x < T x := by
  have := List.idxOf_lt_length_iff.mpr h.stop.1.1
  simpa [pws, AU.back] using this
theorem T_pos {n : Nat} {x : List Nat} (h : Mv n x) : 1 ≤ T x := by have := h.back; omega

namespace Au
variable (A : Au)
def act (q : Nat) (w : List Nat) : Nat := w.foldl (fun q c => A.go q (c - 97)) q
def actl (w : List Nat) : List Nat := (List.range A.n).map fun q => A.act q w
def letter (k : Nat) : List Nat := (List.range A.n).map fun q => A.go q k
def Isw (w : List Nat) : Prop := ∀ c ∈ w, c = 97 ∨ c = 98
instance instDecIsw (w : List Nat) : Decidable (Isw w) := inferInstanceAs (Decidable (∀ c ∈ w, c = 97 ∨ c = 98))
/-- the moves of all words -/
def Sem (x : List Nat) : Prop := ∃ w, w ≠ [] ∧ Isw w ∧ x = A.actl w
variable {A}
theorem act_lt (ok : A.Ok) {q : Nat} (hq : q < A.n) (w : List Nat) : A.act q w < A.n := by
  induction w generalizing q with
  | nil => exact hq
  | cons c w ih => exact ih (ok.go hq _)
theorem letter_mv (ok : A.Ok) (k : Nat) : Mv A.n (A.letter k) := ⟨by simp [letter], fun q hq => by
  obtain ⟨r, hr, rfl⟩ := List.mem_map.mp hq
  exact ok.go (List.mem_range.mp hr) k⟩
theorem actl_mv (ok : A.Ok) (w : List Nat) : Mv A.n (A.actl w) := ⟨by simp [actl], fun q hq => by
  obtain ⟨r, hr, rfl⟩ := List.mem_map.mp hq
  exact act_lt ok (List.mem_range.mp hr) w⟩
theorem Sem.mv (ok : A.Ok) {x : List Nat} (h : A.Sem x) : Mv A.n x := by
  obtain ⟨w, _, _, rfl⟩ := h
  exact actl_mv ok w
theorem comp_letter (ok : A.Ok) (w : List Nat) (k : Nat) : comp (A.actl w) (A.letter k) = A.actl (w ++ [97 + k]) := by
  unfold comp actl letter
  rw [List.map_map]
  refine List.map_congr_left fun q hq => ?_
  have hq := act_lt ok (List.mem_range.mp hq) w
  show ((List.range A.n).map _).getD (A.act q w) 0 = A.act q (w ++ [97 + k])
  simp [List.getD, hq]
  simp [act]
theorem letter_eq (k : Nat) : A.letter k = A.actl [97 + k] := by simp [letter, actl, act]
theorem Sem.letter {k : Nat} (hk : k < 2) : A.Sem (A.letter k) := ⟨[97 + k], by simp, fun c hc => by simp at hc; omega, letter_eq k⟩
theorem Sem.comp (ok : A.Ok) {x : List Nat} (h : A.Sem x) {k : Nat} (hk : k < 2) : A.Sem (comp x (A.letter k)) := by
  obtain ⟨w, h1, h2, rfl⟩ := h
  refine ⟨w ++ [97 + k], by simp, fun c hc => ?_, comp_letter ok w k⟩
  rcases List.mem_append.mp hc with hc | hc
  · exact h2 c hc
  · simp at hc; omega
/-- lists of moves that are closed -/
theorem sem_of_closed (ok : A.Ok) {F : List (List Nat)} (h0 : A.letter 0 ∈ F) (h1 : A.letter 1 ∈ F) (hc : ∀ x ∈ F, ∀ k, k < 2 → AU.comp x (A.letter k) ∈ F) (hs : ∀ x ∈ F, A.Sem x) (x : List Nat) : x ∈ F ↔ A.Sem x := by
  refine ⟨hs x, ?_⟩
  rintro ⟨w, hw, hi, rfl⟩
  have : ∀ (u : List Nat) (c : Nat), Isw (u.reverse ++ [c]) → A.actl (u.reverse ++ [c]) ∈ F := by
    intro u
    induction u with
    | nil =>
      intro c hc
      rcases hc c (by simp) with rfl | rfl
      · rw [letter_eq] at h0; exact h0
      · rw [letter_eq] at h1; exact h1
    | cons d u ih =>
      intro c hi
      rw [List.reverse_cons] at hi ⊢
      have h := ih d (fun e he => hi e (List.mem_append_left _ he))
      have hk : c = 97 + (c - 97) ∧ c - 97 < 2 := by
        have := hi c (by simp)
        omega
      have := hc _ h (c - 97) hk.2
      rw [comp_letter ok, ← hk.1] at this
      exact this
  have hw2 : w = w.dropLast.reverse.reverse ++ [w.getLast hw] := by rw [List.reverse_reverse]; exact (List.dropLast_concat_getLast hw).symm
  rw [hw2]
  exact this _ _ (by rw [← hw2]; exact hi)
end Au
end AU
/-! Pure runs: one step after another. -/
namespace MX
open MP
open PySem (Str)
@[simp] theorem varOf_var (i : Nat) : (ME.var i).varOf = some i := rfl
@[simp] theorem isNil_var (i : Nat) : (ME.var i).isNil = false := rfl
@[simp] theorem varOf_glb (g : Nat) : (ME.glb g).varOf = none := rfl
@[simp] theorem isNil_glb (g : Nat) : (ME.glb g).isNil = false := rfl
@[simp] theorem varOf_fnv (f : Nat) : (ME.fnv f).varOf = none := rfl
@[simp] theorem isNil_fnv (f : Nat) : (ME.fnv f).isNil = false := rfl
@[simp] theorem varOf_non  : ME.non.varOf = none := rfl
@[simp] theorem isNil_non  : ME.non.isNil = false := rfl
@[simp] theorem varOf_bl (b : Bool) : (ME.bl b).varOf = none := rfl
@[simp] theorem isNil_bl (b : Bool) : (ME.bl b).isNil = false := rfl
@[simp] theorem varOf_int (i : Int) : (ME.int i).varOf = none := rfl
@[simp] theorem isNil_int (i : Int) : (ME.int i).isNil = false := rfl
@[simp] theorem varOf_str (s : PySem.Str) : (ME.str s).varOf = none := rfl
@[simp] theorem isNil_str (s : PySem.Str) : (ME.str s).isNil = false := rfl
@[simp] theorem varOf_nil  : ME.nil.varOf = none := rfl
@[simp] theorem isNil_nil  : ME.nil.isNil = true := rfl
@[simp] theorem varOf_cons (e es : ME) : (ME.cons e es).varOf = none := rfl
@[simp] theorem isNil_cons (e es : ME) : (ME.cons e es).isNil = false := rfl
@[simp] theorem varOf_tup (es : ME) : (ME.tup es).varOf = none := rfl
@[simp] theorem isNil_tup (es : ME) : (ME.tup es).isNil = false := rfl
@[simp] theorem varOf_lst (es : ME) : (ME.lst es).varOf = none := rfl
@[simp] theorem isNil_lst (es : ME) : (ME.lst es).isNil = false := rfl
@[simp] theorem varOf_edct  : ME.edct.varOf = none := rfl
@[simp] theorem isNil_edct  : ME.edct.isNil = false := rfl
@[simp] theorem varOf_dsp (k v : ME) : (ME.dsp k v).varOf = none := rfl
@[simp] theorem isNil_dsp (k v : ME) : (ME.dsp k v).isNil = false := rfl
@[simp] theorem varOf_bin (op : Bop) (a b : ME) : (ME.bin op a b).varOf = none := rfl
@[simp] theorem isNil_bin (op : Bop) (a b : ME) : (ME.bin op a b).isNil = false := rfl
@[simp] theorem varOf_neg (a : ME) : (ME.neg a).varOf = none := rfl
@[simp] theorem isNil_neg (a : ME) : (ME.neg a).isNil = false := rfl
@[simp] theorem varOf_not (a : ME) : (ME.not a).varOf = none := rfl
@[simp] theorem isNil_not (a : ME) : (ME.not a).isNil = false := rfl
@[simp] theorem varOf_and (a b : ME) : (ME.and a b).varOf = none := rfl
@[simp] theorem isNil_and (a b : ME) : (ME.and a b).isNil = false := rfl
@[simp] theorem varOf_or (a b : ME) : (ME.or a b).varOf = none := rfl
@[simp] theorem isNil_or (a b : ME) : (ME.or a b).isNil = false := rfl
@[simp] theorem varOf_cmp (op : Cop) (a b : ME) : (ME.cmp op a b).varOf = none := rfl
@[simp] theorem isNil_cmp (op : Cop) (a b : ME) : (ME.cmp op a b).isNil = false := rfl
@[simp] theorem varOf_chn (op op2 : Cop) (a b c : ME) : (ME.chn op op2 a b c).varOf = none := rfl
@[simp] theorem isNil_chn (op op2 : Cop) (a b c : ME) : (ME.chn op op2 a b c).isNil = false := rfl
@[simp] theorem varOf_ife (c a b : ME) : (ME.ife c a b).varOf = none := rfl
@[simp] theorem isNil_ife (c a b : ME) : (ME.ife c a b).isNil = false := rfl
@[simp] theorem varOf_call (f : Nat) (es : ME) : (ME.call f es).varOf = none := rfl
@[simp] theorem isNil_call (f : Nat) (es : ME) : (ME.call f es).isNil = false := rfl
@[simp] theorem varOf_bcl (f : Bfn) (es : ME) : (ME.bcl f es).varOf = none := rfl
@[simp] theorem isNil_bcl (f : Bfn) (es : ME) : (ME.bcl f es).isNil = false := rfl
@[simp] theorem varOf_isi (a : ME) (t : Ty) : (ME.isi a t).varOf = none := rfl
@[simp] theorem isNil_isi (a : ME) (t : Ty) : (ME.isi a t).isNil = false := rfl
@[simp] theorem varOf_mth (m : Mth) (o es : ME) : (ME.mth m o es).varOf = none := rfl
@[simp] theorem isNil_mth (m : Mth) (o es : ME) : (ME.mth m o es).isNil = false := rfl
@[simp] theorem varOf_idx (a i : ME) : (ME.idx a i).varOf = none := rfl
@[simp] theorem isNil_idx (a i : ME) : (ME.idx a i).isNil = false := rfl
@[simp] theorem varOf_slc (a lo hi : ME) : (ME.slc a lo hi).varOf = none := rfl
@[simp] theorem isNil_slc (a lo hi : ME) : (ME.slc a lo hi).isNil = false := rfl
@[simp] theorem varOf_rev (a : ME) : (ME.rev a).varOf = none := rfl
@[simp] theorem isNil_rev (a : ME) : (ME.rev a).isNil = false := rfl
@[simp] theorem varOf_lc (elt : ME) (t : Tg) (k : Ik) (it c : ME) : (ME.lc elt t k it c).varOf = none := rfl
@[simp] theorem isNil_lc (elt : ME) (t : Tg) (k : Ik) (it c : ME) : (ME.lc elt t k it c).isNil = false := rfl
@[simp] theorem varOf_lc2 (elt : ME) (t : Tg) (k : Ik) (it c : ME) (t1 : Tg) (k1 : Ik) (it1 c1 : ME) : (ME.lc2 elt t k it c t1 k1 it1 c1).varOf = none := rfl
@[simp] theorem isNil_lc2 (elt : ME) (t : Tg) (k : Ik) (it c : ME) (t1 : Tg) (k1 : Ik) (it1 c1 : ME) : (ME.lc2 elt t k it c t1 k1 it1 c1).isNil = false := rfl
@[simp] theorem varOf_hp (e : ME) : (ME.hp e).varOf = none := rfl
@[simp] theorem isNil_hp (e : ME) : (ME.hp e).isNil = false := rfl
@[simp] theorem evK_glb (gl : Nat → Option PV) (call : CallT) (g : Nat) (env : FEnv) (hp : Hs) : evK gl call (ME.glb g) env hp = (ev gl call (ME.glb g) (unf env) hp).map fun p => (p.1, keep p.1 env, p.2) := rfl
@[simp] theorem evK_fnv (gl : Nat → Option PV) (call : CallT) (f : Nat) (env : FEnv) (hp : Hs) : evK gl call (ME.fnv f) env hp = (ev gl call (ME.fnv f) (unf env) hp).map fun p => (p.1, keep p.1 env, p.2) := rfl
@[simp] theorem evK_non (gl : Nat → Option PV) (call : CallT)  (env : FEnv) (hp : Hs) : evK gl call ME.non env hp = (ev gl call ME.non (unf env) hp).map fun p => (p.1, keep p.1 env, p.2) := rfl
@[simp] theorem evK_bl (gl : Nat → Option PV) (call : CallT) (b : Bool) (env : FEnv) (hp : Hs) : evK gl call (ME.bl b) env hp = (ev gl call (ME.bl b) (unf env) hp).map fun p => (p.1, keep p.1 env, p.2) := rfl
@[simp] theorem evK_int (gl : Nat → Option PV) (call : CallT) (i : Int) (env : FEnv) (hp : Hs) : evK gl call (ME.int i) env hp = (ev gl call (ME.int i) (unf env) hp).map fun p => (p.1, keep p.1 env, p.2) := rfl
@[simp] theorem evK_str (gl : Nat → Option PV) (call : CallT) (s : PySem.Str) (env : FEnv) (hp : Hs) : evK gl call (ME.str s) env hp = (ev gl call (ME.str s) (unf env) hp).map fun p => (p.1, keep p.1 env, p.2) := rfl
@[simp] theorem evK_nil (gl : Nat → Option PV) (call : CallT)  (env : FEnv) (hp : Hs) : evK gl call ME.nil env hp = (ev gl call ME.nil (unf env) hp).map fun p => (p.1, keep p.1 env, p.2) := rfl
@[simp] theorem evK_cons (gl : Nat → Option PV) (call : CallT) (e es : ME) (env : FEnv) (hp : Hs) : evK gl call (ME.cons e es) env hp = (ev gl call (ME.cons e es) (unf env) hp).map fun p => (p.1, keep p.1 env, p.2) := rfl
@[simp] theorem evK_tup (gl : Nat → Option PV) (call : CallT) (es : ME) (env : FEnv) (hp : Hs) : evK gl call (ME.tup es) env hp = (ev gl call (ME.tup es) (unf env) hp).map fun p => (p.1, keep p.1 env, p.2) := rfl
@[simp] theorem evK_lst (gl : Nat → Option PV) (call : CallT) (es : ME) (env : FEnv) (hp : Hs) : evK gl call (ME.lst es) env hp = (ev gl call (ME.lst es) (unf env) hp).map fun p => (p.1, keep p.1 env, p.2) := rfl
@[simp] theorem evK_edct (gl : Nat → Option PV) (call : CallT)  (env : FEnv) (hp : Hs) : evK gl call ME.edct env hp = (ev gl call ME.edct (unf env) hp).map fun p => (p.1, keep p.1 env, p.2) := rfl
@[simp] theorem evK_dsp (gl : Nat → Option PV) (call : CallT) (k v : ME) (env : FEnv) (hp : Hs) : evK gl call (ME.dsp k v) env hp = (ev gl call (ME.dsp k v) (unf env) hp).map fun p => (p.1, keep p.1 env, p.2) := rfl
@[simp] theorem evK_bin (gl : Nat → Option PV) (call : CallT) (op : Bop) (a b : ME) (env : FEnv) (hp : Hs) : evK gl call (ME.bin op a b) env hp = (ev gl call (ME.bin op a b) (unf env) hp).map fun p => (p.1, keep p.1 env, p.2) := rfl
@[simp] theorem evK_neg (gl : Nat → Option PV) (call : CallT) (a : ME) (env : FEnv) (hp : Hs) : evK gl call (ME.neg a) env hp = (ev gl call (ME.neg a) (unf env) hp).map fun p => (p.1, keep p.1 env, p.2) := rfl
@[simp] theorem evK_not (gl : Nat → Option PV) (call : CallT) (a : ME) (env : FEnv) (hp : Hs) : evK gl call (ME.not a) env hp = (ev gl call (ME.not a) (unf env) hp).map fun p => (p.1, keep p.1 env, p.2) := rfl
@[simp] theorem evK_and (gl : Nat → Option PV) (call : CallT) (a b : ME) (env : FEnv) (hp : Hs) : evK gl call (ME.and a b) env hp = (ev gl call (ME.and a b) (unf env) hp).map fun p => (p.1, keep p.1 env, p.2) := rfl
@[simp] theorem evK_or (gl : Nat → Option PV) (call : CallT) (a b : ME) (env : FEnv) (hp : Hs) : evK gl call (ME.or a b) env hp = (ev gl call (ME.or a b) (unf env) hp).map fun p => (p.1, keep p.1 env, p.2) := rfl
@[simp] theorem evK_cmp (gl : Nat → Option PV) (call : CallT) (op : Cop) (a b : ME) (env : FEnv) (hp : Hs) : evK gl call (ME.cmp op a b) env hp = (ev gl call (ME.cmp op a b) (unf env) hp).map fun p => (p.1, keep p.1 env, p.2) := rfl
@[simp] theorem evK_chn (gl : Nat → Option PV) (call : CallT) (op op2 : Cop) (a b c : ME) (env : FEnv) (hp : Hs) : evK gl call (ME.chn op op2 a b c) env hp = (ev gl call (ME.chn op op2 a b c) (unf env) hp).map fun p => (p.1, keep p.1 env, p.2) := rfl
@[simp] theorem evK_ife (gl : Nat → Option PV) (call : CallT) (c a b : ME) (env : FEnv) (hp : Hs) : evK gl call (ME.ife c a b) env hp = (ev gl call (ME.ife c a b) (unf env) hp).map fun p => (p.1, keep p.1 env, p.2) := rfl
@[simp] theorem evK_call (gl : Nat → Option PV) (call : CallT) (f : Nat) (es : ME) (env : FEnv) (hp : Hs) : evK gl call (ME.call f es) env hp = (ev gl call (ME.call f es) (unf env) hp).map fun p => (p.1, keep p.1 env, p.2) := rfl
@[simp] theorem evK_bcl (gl : Nat → Option PV) (call : CallT) (f : Bfn) (es : ME) (env : FEnv) (hp : Hs) : evK gl call (ME.bcl f es) env hp = (ev gl call (ME.bcl f es) (unf env) hp).map fun p => (p.1, keep p.1 env, p.2) := rfl
@[simp] theorem evK_isi (gl : Nat → Option PV) (call : CallT) (a : ME) (t : Ty) (env : FEnv) (hp : Hs) : evK gl call (ME.isi a t) env hp = (ev gl call (ME.isi a t) (unf env) hp).map fun p => (p.1, keep p.1 env, p.2) := rfl
@[simp] theorem evK_mth (gl : Nat → Option PV) (call : CallT) (m : Mth) (o es : ME) (env : FEnv) (hp : Hs) : evK gl call (ME.mth m o es) env hp = (ev gl call (ME.mth m o es) (unf env) hp).map fun p => (p.1, keep p.1 env, p.2) := rfl
@[simp] theorem evK_idx (gl : Nat → Option PV) (call : CallT) (a i : ME) (env : FEnv) (hp : Hs) : evK gl call (ME.idx a i) env hp = (ev gl call (ME.idx a i) (unf env) hp).map fun p => (p.1, keep p.1 env, p.2) := rfl
@[simp] theorem evK_slc (gl : Nat → Option PV) (call : CallT) (a lo hi : ME) (env : FEnv) (hp : Hs) : evK gl call (ME.slc a lo hi) env hp = (ev gl call (ME.slc a lo hi) (unf env) hp).map fun p => (p.1, keep p.1 env, p.2) := rfl
@[simp] theorem evK_rev (gl : Nat → Option PV) (call : CallT) (a : ME) (env : FEnv) (hp : Hs) : evK gl call (ME.rev a) env hp = (ev gl call (ME.rev a) (unf env) hp).map fun p => (p.1, keep p.1 env, p.2) := rfl
@[simp] theorem evK_lc (gl : Nat → Option PV) (call : CallT) (elt : ME) (t : Tg) (k : Ik) (it c : ME) (env : FEnv) (hp : Hs) : evK gl call (ME.lc elt t k it c) env hp = (ev gl call (ME.lc elt t k it c) (unf env) hp).map fun p => (p.1, keep p.1 env, p.2) := rfl
@[simp] theorem evK_lc2 (gl : Nat → Option PV) (call : CallT) (elt : ME) (t : Tg) (k : Ik) (it c : ME) (t1 : Tg) (k1 : Ik) (it1 c1 : ME) (env : FEnv) (hp : Hs) : evK gl call (ME.lc2 elt t k it c t1 k1 it1 c1) env hp = (ev gl call (ME.lc2 elt t k it c t1 k1 it1 c1) (unf env) hp).map fun p => (p.1, keep p.1 env, p.2) := rfl
@[simp] theorem evK_hp (gl : Nat → Option PV) (call : CallT) (e : ME) (env : FEnv) (hp : Hs) : evK gl call (ME.hp e) env hp = (ev gl call (ME.hp e) (unf env) hp).map fun p => (p.1, keep p.1 env, p.2) := rfl
@[simp] theorem exec_ret_glb (gl : Nat → Option PV) (call : CallT) (wf : Nat) (g : Nat) (env : FEnv) (hp : Hs) : exec gl call wf (.ret (ME.glb g)) env hp = (ev gl call (ME.glb g) (unf env) hp).map fun p => (.rt p.1, env, p.2) := rfl
@[simp] theorem exec_ret_fnv (gl : Nat → Option PV) (call : CallT) (wf : Nat) (f : Nat) (env : FEnv) (hp : Hs) : exec gl call wf (.ret (ME.fnv f)) env hp = (ev gl call (ME.fnv f) (unf env) hp).map fun p => (.rt p.1, env, p.2) := rfl
@[simp] theorem exec_ret_non (gl : Nat → Option PV) (call : CallT) (wf : Nat)  (env : FEnv) (hp : Hs) : exec gl call wf (.ret ME.non) env hp = (ev gl call ME.non (unf env) hp).map fun p => (.rt p.1, env, p.2) := rfl
@[simp] theorem exec_ret_bl (gl : Nat → Option PV) (call : CallT) (wf : Nat) (b : Bool) (env : FEnv) (hp : Hs) : exec gl call wf (.ret (ME.bl b)) env hp = (ev gl call (ME.bl b) (unf env) hp).map fun p => (.rt p.1, env, p.2) := rfl
@[simp] theorem exec_ret_int (gl : Nat → Option PV) (call : CallT) (wf : Nat) (i : Int) (env : FEnv) (hp : Hs) : exec gl call wf (.ret (ME.int i)) env hp = (ev gl call (ME.int i) (unf env) hp).map fun p => (.rt p.1, env, p.2) := rfl
@[simp] theorem exec_ret_str (gl : Nat → Option PV) (call : CallT) (wf : Nat) (s : PySem.Str) (env : FEnv) (hp : Hs) : exec gl call wf (.ret (ME.str s)) env hp = (ev gl call (ME.str s) (unf env) hp).map fun p => (.rt p.1, env, p.2) := rfl
@[simp] theorem exec_ret_nil (gl : Nat → Option PV) (call : CallT) (wf : Nat)  (env : FEnv) (hp : Hs) : exec gl call wf (.ret ME.nil) env hp = (ev gl call ME.nil (unf env) hp).map fun p => (.rt p.1, env, p.2) := rfl
@[simp] theorem exec_ret_cons (gl : Nat → Option PV) (call : CallT) (wf : Nat) (e es : ME) (env : FEnv) (hp : Hs) : exec gl call wf (.ret (ME.cons e es)) env hp = (ev gl call (ME.cons e es) (unf env) hp).map fun p => (.rt p.1, env, p.2) := rfl
@[simp] theorem exec_ret_tup (gl : Nat → Option PV) (call : CallT) (wf : Nat) (es : ME) (env : FEnv) (hp : Hs) : exec gl call wf (.ret (ME.tup es)) env hp = (ev gl call (ME.tup es) (unf env) hp).map fun p => (.rt p.1, env, p.2) := rfl
@[simp] theorem exec_ret_lst (gl : Nat → Option PV) (call : CallT) (wf : Nat) (es : ME) (env : FEnv) (hp : Hs) : exec gl call wf (.ret (ME.lst es)) env hp = (ev gl call (ME.lst es) (unf env) hp).map fun p => (.rt p.1, env, p.2) := rfl
@[simp] theorem exec_ret_edct (gl : Nat → Option PV) (call : CallT) (wf : Nat)  (env : FEnv) (hp : Hs) : exec gl call wf (.ret ME.edct) env hp = (ev gl call ME.edct (unf env) hp).map fun p => (.rt p.1, env, p.2) := rfl
@[simp] theorem exec_ret_dsp (gl : Nat → Option PV) (call : CallT) (wf : Nat) (k v : ME) (env : FEnv) (hp : Hs) : exec gl call wf (.ret (ME.dsp k v)) env hp = (ev gl call (ME.dsp k v) (unf env) hp).map fun p => (.rt p.1, env, p.2) := rfl
@[simp] theorem exec_ret_bin (gl : Nat → Option PV) (call : CallT) (wf : Nat) (op : Bop) (a b : ME) (env : FEnv) (hp : Hs) : exec gl call wf (.ret (ME.bin op a b)) env hp = (ev gl call (ME.bin op a b) (unf env) hp).map fun p => (.rt p.1, env, p.2) := rfl
@[simp] theorem exec_ret_neg (gl : Nat → Option PV) (call : CallT) (wf : Nat) (a : ME) (env : FEnv) (hp : Hs) : exec gl call wf (.ret (ME.neg a)) env hp = (ev gl call (ME.neg a) (unf env) hp).map fun p => (.rt p.1, env, p.2) := rfl
@[simp] theorem exec_ret_not (gl : Nat → Option PV) (call : CallT) (wf : Nat) (a : ME) (env : FEnv) (hp : Hs) : exec gl call wf (.ret (ME.not a)) env hp = (ev gl call (ME.not a) (unf env) hp).map fun p => (.rt p.1, env, p.2) := rfl
@[simp] theorem exec_ret_and (gl : Nat → Option PV) (call : CallT) (wf : Nat) (a b : ME) (env : FEnv) (hp : Hs) : exec gl call wf (.ret (ME.and a b)) env hp = (ev gl call (ME.and a b) (unf env) hp).map fun p => (.rt p.1, env, p.2) := rfl
@[simp] theorem exec_ret_or (gl : Nat → Option PV) (call : CallT) (wf : Nat) (a b : ME) (env : FEnv) (hp : Hs) : exec gl call wf (.ret (ME.or a b)) env hp = (ev gl call (ME.or a b) (unf env) hp).map fun p => (.rt p.1, env, p.2) := rfl
@[simp] theorem exec_ret_cmp (gl : Nat → Option PV) (call : CallT) (wf : Nat) (op : Cop) (a b : ME) (env : FEnv) (hp : Hs) : exec gl call wf (.ret (ME.cmp op a b)) env hp = (ev gl call (ME.cmp op a b) (unf env) hp).map fun p => (.rt p.1, env, p.2) := rfl
@[simp] theorem exec_ret_chn (gl : Nat → Option PV) (call : CallT) (wf : Nat) (op op2 : Cop) (a b c : ME) (env : FEnv) (hp : Hs) : exec gl call wf (.ret (ME.chn op op2 a b c)) env hp = (ev gl call (ME.chn op op2 a b c) (unf env) hp).map fun p => (.rt p.1, env, p.2) := rfl
@[simp] theorem exec_ret_ife (gl : Nat → Option PV) (call : CallT) (wf : Nat) (c a b : ME) (env : FEnv) (hp : Hs) : exec gl call wf (.ret (ME.ife c a b)) env hp = (ev gl call (ME.ife c a b) (unf env) hp).map fun p => (.rt p.1, env, p.2) := rfl
@[simp] theorem exec_ret_call (gl : Nat → Option PV) (call : CallT) (wf : Nat) (f : Nat) (es : ME) (env : FEnv) (hp : Hs) : exec gl call wf (.ret (ME.call f es)) env hp = (ev gl call (ME.call f es) (unf env) hp).map fun p => (.rt p.1, env, p.2) := rfl
@[simp] theorem exec_ret_bcl (gl : Nat → Option PV) (call : CallT) (wf : Nat) (f : Bfn) (es : ME) (env : FEnv) (hp : Hs) : exec gl call wf (.ret (ME.bcl f es)) env hp = (ev gl call (ME.bcl f es) (unf env) hp).map fun p => (.rt p.1, env, p.2) := rfl
@[simp] theorem exec_ret_isi (gl : Nat → Option PV) (call : CallT) (wf : Nat) (a : ME) (t : Ty) (env : FEnv) (hp : Hs) : exec gl call wf (.ret (ME.isi a t)) env hp = (ev gl call (ME.isi a t) (unf env) hp).map fun p => (.rt p.1, env, p.2) := rfl
@[simp] theorem exec_ret_mth (gl : Nat → Option PV) (call : CallT) (wf : Nat) (m : Mth) (o es : ME) (env : FEnv) (hp : Hs) : exec gl call wf (.ret (ME.mth m o es)) env hp = (ev gl call (ME.mth m o es) (unf env) hp).map fun p => (.rt p.1, env, p.2) := rfl
@[simp] theorem exec_ret_idx (gl : Nat → Option PV) (call : CallT) (wf : Nat) (a i : ME) (env : FEnv) (hp : Hs) : exec gl call wf (.ret (ME.idx a i)) env hp = (ev gl call (ME.idx a i) (unf env) hp).map fun p => (.rt p.1, env, p.2) := rfl
@[simp] theorem exec_ret_slc (gl : Nat → Option PV) (call : CallT) (wf : Nat) (a lo hi : ME) (env : FEnv) (hp : Hs) : exec gl call wf (.ret (ME.slc a lo hi)) env hp = (ev gl call (ME.slc a lo hi) (unf env) hp).map fun p => (.rt p.1, env, p.2) := rfl
@[simp] theorem exec_ret_rev (gl : Nat → Option PV) (call : CallT) (wf : Nat) (a : ME) (env : FEnv) (hp : Hs) : exec gl call wf (.ret (ME.rev a)) env hp = (ev gl call (ME.rev a) (unf env) hp).map fun p => (.rt p.1, env, p.2) := rfl
@[simp] theorem exec_ret_lc (gl : Nat → Option PV) (call : CallT) (wf : Nat) (elt : ME) (t : Tg) (k : Ik) (it c : ME) (env : FEnv) (hp : Hs) : exec gl call wf (.ret (ME.lc elt t k it c)) env hp = (ev gl call (ME.lc elt t k it c) (unf env) hp).map fun p => (.rt p.1, env, p.2) := rfl
@[simp] theorem exec_ret_lc2 (gl : Nat → Option PV) (call : CallT) (wf : Nat) (elt : ME) (t : Tg) (k : Ik) (it c : ME) (t1 : Tg) (k1 : Ik) (it1 c1 : ME) (env : FEnv) (hp : Hs) : exec gl call wf (.ret (ME.lc2 elt t k it c t1 k1 it1 c1)) env hp = (ev gl call (ME.lc2 elt t k it c t1 k1 it1 c1) (unf env) hp).map fun p => (.rt p.1, env, p.2) := rfl
@[simp] theorem exec_ret_hp (gl : Nat → Option PV) (call : CallT) (wf : Nat) (e : ME) (env : FEnv) (hp : Hs) : exec gl call wf (.ret (ME.hp e)) env hp = (ev gl call (ME.hp e) (unf env) hp).map fun p => (.rt p.1, env, p.2) := rfl
@[simp] theorem exec_ret_var (gl : Nat → Option PV) (call : CallT) (wf i : Nat) (env : FEnv) (hp : Hs) : exec gl call wf (.ret (.var i)) env hp = (env[i]?.bind id).map fun r => (.rt r, env, hp) := rfl
@[simp] theorem Wp_some' {α : Type} (a : α) (Q : α → Prop) : Wp (some a) Q = Q a := Wp_some a Q
@[simp] theorem Wp_none' {α : Type} (Q : α → Prop) : Wp none Q = False := Wp_none Q
@[simp] theorem Wp_bind' {α β : Type} (x : Option α) (f : α → Option β) (Q : β → Prop) : Wp (x.bind f) Q = Wp x fun a => Wp (f a) Q := Wp_bind x f Q
@[simp] theorem Wp_map' {α β : Type} (x : Option α) (f : α → β) (Q : β → Prop) : Wp (x.map f) Q = Wp x fun a => Q (f a) := Wp_map x f Q
@[simp] theorem Wp_bnd' {β : Type} (r : Option (Rv × Hs)) (f : PV → Hs → Option β) (Q : β → Prop) : Wp (bnd r f) Q = Wp r fun p => Wp (f p.1.2 p.2) Q := Wp_bnd r f Q
@[simp] theorem Wp_bndL' {β : Type} (r : Option (List PV × Hs)) (f : List PV → Hs → Option β) (Q : β → Prop) : Wp (bndL r f) Q = Wp r fun p => Wp (f p.1 p.2) Q := Wp_bndL r f Q
@[simp] theorem Wp_bndB' {β : Type} (r : Option (Rv × Hs)) (f : Bool → Hs → Option β) (Q : β → Prop) : Wp (bndB r f) Q = Wp r fun p => ∃ b, p.1.2 = .bl b ∧ Wp (f b p.2) Q := by
  unfold bndB
  rw [Wp_bnd]
  congr 1
  funext p
  cases h : p.1.2 <;> simp [asB]
@[simp] theorem Wp_mk (own : Bool) (c : List PV → PV) (r : Option (List PV × Hs)) (Q : Rv × Hs → Prop) : Wp (mk own c r) Q = Wp r fun p => p.1.length ≤ LINE ∧ Q ((own, c p.1), p.2) := by
  unfold mk
  rw [Wp_bndL]
  congr 1
  funext p
  split <;> simp [*]
@[simp] theorem Wp_one (r : Option (Rv × Hs)) (Q : List PV × Hs → Prop) : Wp (one r) Q = Wp r fun p => Q ([p.1.2], p.2) := by
  unfold one
  rw [Wp_bnd]; simp
@[simp] theorem Wp_wK_val (rv : Option (Rv × Hs)) (rl : Option (List PV × Hs)) (Q : List PV × Hs → Prop) : Wp (wK .val rv rl) Q = Wp rv fun p => Wp (itemsP p.1.2) fun xs => Q (xs, p.2) := by
  show Wp (bnd rv fun x hp => (itemsP x).map fun xs => (xs, hp)) Q = _
  simp only [Wp_bnd', Wp_map']
@[simp] theorem Wp_wK_rng (rv : Option (Rv × Hs)) (rl : Option (List PV × Hs)) (Q : List PV × Hs → Prop) : Wp (wK .rng rv rl) Q = Wp rl fun p => Wp (rngP p.1) fun xs => Q (xs, p.2) := by
  show Wp (bndL rl fun vs hp => (rngP vs).map fun xs => (xs, hp)) Q = _
  simp only [Wp_bndL', Wp_map']
@[simp] theorem Wp_wK_rrng (rv : Option (Rv × Hs)) (rl : Option (List PV × Hs)) (Q : List PV × Hs → Prop) : Wp (wK .rrng rv rl) Q = Wp rl fun p => Wp (rngP p.1) fun xs => Q (xs.reverse, p.2) := by
  show Wp (bndL rl fun vs hp => (rngP vs).map fun xs => (xs.reverse, hp)) Q = _
  simp only [Wp_bndL', Wp_map']
@[simp high] theorem Wp_if_none {α : Type} (c : Prop) [Decidable c] (x : Option α) (Q : α → Prop) : Wp (if c then x else none) Q = (c ∧ Wp x Q) := by
  split <;> simp [*]
@[simp] theorem LINE_eq : LINE = 16777216 := rfl
@[simp] theorem lfAll_append (xs ys : List PV) : lfAll (xs ++ ys) = (lfAll xs && lfAll ys) := by
  induction xs with
  | nil => simp
  | cons x xs ih => simp [ih, Bool.and_assoc]
@[simp] theorem lfAll_map {α : Type} (f : α → PV) (xs : List α) (h : ∀ x, (f x).lf = true) : lfAll (xs.map f) = true := by
  rw [lfAll_iff]
  intro y hy
  obtain ⟨x, _, rfl⟩ := List.mem_map.mp hy
  exact h x
@[simp] theorem lcB_def (gl : Nat → Option PV) (call : CallT) (elt : ME) (t : Tg) (c : ME) (env : Env) (x : PV) (hp : Hs) : lcB gl call elt t c env x hp = (setTg t x (wipeE env t.slots)).bind fun env1 => bndB (ev gl call c env1 hp) fun b hp1 =>
        if b = true then one (ev gl call elt env1 hp1) else some ([], hp1) := rfl
@[simp] theorem lcE_nil (f : PV → Hs → Option (List PV × Hs)) (hp : Hs) : lcE f [] hp = some ([], hp) := rfl
@[simp] theorem Wp_lcE_cons (f : PV → Hs → Option (List PV × Hs)) (x : PV) (xs : List PV) (hp : Hs) (Q : List PV × Hs → Prop) : Wp (lcE f (x :: xs) hp) Q = Wp (f x hp) fun a => Wp (lcE f xs a.2) fun b => Q (a.1 ++ b.1, b.2) := by
  show Wp (bndL (f x hp) fun ys hp1 => bndL (lcE f xs hp1) fun zs hp2 => some (ys ++ zs, hp2)) Q = _
  rw [Wp_bndL]
  congr 1
  funext a
  rw [Wp_bndL]
  simp only [Wp_some]
@[simp] theorem forE_nil (tg : Tg) (body : FEnv → Hs → XR) (env : FEnv) (hp : Hs) : forE tg body [] env hp = some (.nx, env, hp) := rfl
theorem forE_cons (tg : Tg) (body : FEnv → Hs → XR) (x : PV) (xs : List PV) (env : FEnv) (hp : Hs) : forE tg body (x :: xs) env hp = (setF tg x env).bind fun env1 => (body env1 hp).bind (turnE (forE tg body xs)) := rfl
@[simp] theorem turnE_nx (next : FEnv → Hs → XR) (env : FEnv) (hp : Hs) : turnE next (.nx, env, hp) = next env hp := rfl
@[simp] theorem turnE_ct (next : FEnv → Hs → XR) (env : FEnv) (hp : Hs) : turnE next (.ct, env, hp) = next env hp := rfl
@[simp] theorem turnE_bk (next : FEnv → Hs → XR) (env : FEnv) (hp : Hs) : turnE next (.bk, env, hp) = some (.nx, env, hp) := rfl
@[simp] theorem turnE_rt (next : FEnv → Hs → XR) (v : Rv) (env : FEnv) (hp : Hs) : turnE next (.rt v, env, hp) = some (.rt v, env, hp) := rfl
@[simp] theorem ownF_def (i : Nat) (f : PV → Option PV) (env : FEnv) (hp : Hs) : ownF i f env hp = match env[i]? with
  | some (some (true, v)) => (f v).map fun v' => (.nx, env.set i (some (true, v')), hp)
  | _ => none := rfl
@[simp] theorem mutF_def (i : Nat) (f : PV → Option PV) (env : FEnv) (hp : Hs) : mutF i f env hp = match env[i]? with
  | some (some (true, v)) => (f v).map fun v' => (.nx, env.set i (some (true, v')), hp)
  | some (some (false, .ref n)) => (hp[n]?.bind f).map fun v' => (.nx, env, hp.set n v')
  | _ => none := rfl
@[simp] theorem appP_lst (v : PV) (xs : List PV) : appP v (.lst xs) = if xs.length < LINE then some (.lst (xs ++ [v])) else none := rfl
@[simp] theorem popP_zero (x : PV) (xs : List PV) : popP (.int 0) (.lst (x :: xs)) = some (x, .lst xs) := rfl
theorem putP_dct (i v : PV) (kvs : List (PV × PV)) : putP (.dct kvs) i v = if okKey i kvs && decide (kvs.length < LINE) then some (.dct (setKv i v kvs)) else none := rfl
theorem in_dct (x : PV) (kvs : List (PV × PV)) : cmpP .isin x (.dct kvs) = if okKey x kvs then some (memP x (keysP kvs)) else none := rfl
theorem nin_dct (x : PV) (kvs : List (PV × PV)) : cmpP .nin x (.dct kvs) = (if okKey x kvs then some (memP x (keysP kvs)) else none).map not := rfl
@[simp] theorem Wp_ite_iff {α : Type} (c : Prop) [Decidable c] (x y : Option α) (Q : α → Prop) : Wp (if c then x else y) Q = ((c → Wp x Q) ∧ (¬ c → Wp y Q)) := by
  by_cases h : c <;> simp [h]
/-- an invariant behind a name -/
theorem mkI4 {α β γ δ : Type} (P : α → β → γ → δ → Prop) : ∃ I : α → β → γ → δ → Prop, ∀ a b c d, I a b c d ↔ P a b c d := ⟨P, fun _ _ _ _ => Iff.rfl⟩
theorem mkI3 {α β γ : Type} (P : α → β → γ → Prop) : ∃ I : α → β → γ → Prop, ∀ a b c, I a b c ↔ P a b c := ⟨P, fun _ _ _ => Iff.rfl⟩
theorem upTo_nt (n : Nat) : upTo 0 n = (List.range n).map nt := upTo_map n
theorem rng_nt (n : Nat) (h : n ≤ 16777216) : rngP [.int (n : Int)] = some ((List.range n).map nt) := by rw [rng_nat n (Nat.lt_of_le_of_lt h (by decide)), upTo_nt]
/-- a turn of a comprehension over one name without a test -/
theorem lcB_ok {gl : Nat → Option PV} {call : CallT} {elt : ME} {t : Tg} {env env1 : Env} {x y : PV} {o : Bool} {hp : Hs} (h1 : setTg t x (wipeE env t.slots) = some env1) (h2 : ev gl call elt env1 hp = some ((o, y), hp)) :
    lcB gl call elt t (.bl true) env x hp = some ([y], hp) := by
  unfold lcB
  rw [h1]
  show bndB (some ((false, .bl true), hp)) _ = _
  rw [bndB_some', if_pos rfl, h2]; rfl
theorem getKv_enc {α β : Type} [BEq α] [LawfulBEq α] {enc : α → PV} {d : Nat} (E : EncOk enc d) (e2 : β → PV) (a : α) (kvs : List (α × β)) : getKv (enc a) (kvs.map fun p => (enc p.1, e2 p.2)) = (kvs.lookup a).map e2 := by
  induction kvs with
  | nil => rfl
  | cons p kvs ih =>
    obtain ⟨k, v⟩ := p
    show (if eqP (enc k) (enc a) = true then some (e2 v) else getKv (enc a) (kvs.map fun p => (enc p.1, e2 p.2))) = _
    rw [E.eqv, ih, List.lookup_cons]
    by_cases h : k = a
    · subst h; simp
    · have h2 : (a == k) = false := by simp [Ne.symm h]
      simp [h, h2]
theorem setKv_new {α β : Type} [BEq α] [LawfulBEq α] {enc : α → PV} {d : Nat} (E : EncOk enc d) (e2 : β → PV) (a : α) (b : β) (kvs : List (α × β)) (h : a ∉ kvs.map (·.1)) : setKv (enc a) (e2 b) (kvs.map fun p => (enc p.1, e2 p.2)) = (kvs ++ [(a, b)]).map fun p => (enc p.1, e2 p.2) := by
  induction kvs with
  | nil => rfl
  | cons p kvs ih =>
    obtain ⟨k, v⟩ := p
    simp at h
    have hk : (k == a) = false := by simp [Ne.symm h.1]
    show (if eqP (enc k) (enc a) = true then (enc k, e2 b) :: kvs.map (fun p => (enc p.1, e2 p.2)) else (enc k, e2 v) :: setKv (enc a) (e2 b) (kvs.map fun p => (enc p.1, e2 p.2))) = _
    rw [E.eqv, hk, ih (by simpa using h.2)]
    rfl
theorem keysP_enc {α β : Type} (enc : α → PV) (e2 : β → PV) (kvs : List (α × β)) : keysP (kvs.map fun p => (enc p.1, e2 p.2)) = (kvs.map (·.1)).map enc := by simp [keysP]
/-- keys of one simple kind -/
theorem okKey_s {α β : Type} {enc : α → PV} (K : ∀ a, isKey (enc a) = true) (e2 : β → PV) (a : α) (kvs : List (α × β)) : okKey (enc a) (kvs.map fun p => (enc p.1, e2 p.2)) = true := by
  unfold okKey
  rw [keysP_enc, K]
  simp [K]
theorem okKey_t {α β : Type} {enc : α → PV} (K : ∀ a, isTKey (enc a) = true) (e2 : β → PV) (a : α) (kvs : List (α × β)) : okKey (enc a) (kvs.map fun p => (enc p.1, e2 p.2)) = true := by
  unfold okKey
  rw [keysP_enc, K]
  simp [K]
theorem isTKey_mv (l : List Nat) : isTKey (mv l) = true := by
  show (l.map nt).all isKey = true
  simp [isKey]
theorem Wp_iff {α : Type} {x : Option α} {Q : α → Prop} (h : Wp x Q) : ∃ a, x = some a ∧ Q a := h
end MX
/-! What automata take; automata that take the same words have one least automaton. -/
namespace AU
namespace Au
variable {A B : Au}
/-- two states take the same words -/
def Lq (A : Au) (q : Nat) (B : Au) (r : Nat) : Prop := ∀ w, A.act q w ∈ A.good ↔ B.act r w ∈ B.good
theorem act_cons (A : Au) (q c : Nat) (w : List Nat) : A.act q (c :: w) = A.act (A.go q (c - 97)) w := by
  unfold act
  rw [List.foldl_cons]
theorem act_snoc (A : Au) (q c : Nat) (w : List Nat) : A.act q (w ++ [c]) = A.go (A.act q w) (c - 97) := by simp [act]
theorem Lq.go {q r : Nat} (h : Lq A q B r) (k : Nat) : Lq A (A.go q k) B (B.go r k) := by
  intro w
  have h2 := h ((97 + k) :: w)
  have e : (97 + k) - 97 = k := by omega
  rw [act_cons A, act_cons B, e] at h2
  exact h2
theorem Lq.symm {q r : Nat} (h : Lq A q B r) : Lq B r A q := fun w => (h w).symm
theorem E_word (ok : A.Ok) : ∀ (i : Nat) {q r : Nat}, q < A.n → r < A.n → (A.E i q r ↔ ∀ w : List Nat, w.length ≤ i → (A.act q w ∈ A.good ↔ A.act r w ∈ A.good))
  | 0, q, r, hq, hr => by
    rw [A.E_good hq hr]
    constructor
    · intro h w hw
      have : w = [] := List.eq_nil_of_length_eq_zero (by omega)
      subst this
      exact h
    · intro h
      exact h [] (Nat.le_refl _)
  | i + 1, q, r, hq, hr => by
    rw [A.E_succ i hq hr, E_word ok i hq hr, E_word ok i (ok.go hq 0) (ok.go hr 0), E_word ok i (ok.go hq 1) (ok.go hr 1)]
    constructor
    · rintro ⟨h, h0, h1⟩ w hw
      cases w with
      | nil => exact h [] (Nat.zero_le _)
      | cons c w =>
        rw [act_cons, act_cons]
        simp at hw
        by_cases hc : c - 97 = 0
        · rw [hc]; exact h0 w hw
        · have e : ∀ q, A.go q (c - 97) = A.go q 1 := fun q => by simp [Au.go, hc]
          rw [e, e]; exact h1 w hw
    · intro h
      refine ⟨fun w hw => h w (by omega), fun w hw => ?_, fun w hw => ?_⟩
      · have := h (97 :: w) (by simp; omega)
        exact this
      · have := h (98 :: w) (by simp; omega)
        exact this
theorem stab_all (ok : A.Ok) {q r : Nat} (hq : q < A.n) (hr : r < A.n) (h : A.E A.n q r) : ∀ d, A.E (A.n + d) q r ∧ A.Stab (A.n + d)
  | 0 => ⟨h, stab_n ok⟩
  | d + 1 => by
    obtain ⟨h1, h2⟩ := stab_all ok hq hr h d
    exact ⟨h2 q r hq hr h1, stab_succ ok h2⟩
theorem c_iff (ok : A.Ok) {q r : Nat} (hq : q < A.n) (hr : r < A.n) : A.c q = A.c r ↔ Lq A q A r := by
  constructor
  · intro h w
    have h1 := (stab_all ok hq hr h w.length).1
    exact (E_word ok _ hq hr).mp h1 w (by omega)
  · intro h
    exact (E_word ok A.n hq hr).mpr fun w _ => h w
theorem idxOf_congr {x y : Nat} : ∀ {l m : List Nat}, l.length = m.length → (∀ i, i < l.length → (l.getD i 0 = x ↔ m.getD i 0 = y)) → l.idxOf x = m.idxOf y
  | [], [], _, _ => rfl
  | [], _ :: _, h, _ => by simp at h
  | _ :: _, [], h, _ => by simp at h
  | a :: l, b :: m, hl, h => by
    have h0 := h 0 (by simp)
    simp only [List.getD_cons_zero] at h0
    have ih := idxOf_congr (l := l) (m := m) (by simpa using hl) (fun i hi => by
      have := h (i + 1) (by simpa using hi)
      simpa using this)
    rw [List.idxOf_cons, List.idxOf_cons, ih]
    by_cases ha : a = x
    · have hb := h0.mp ha
      simp [ha, hb]
    · have hb : ¬ b = y := fun e => ha (h0.mpr e)
      have h1 : (a == x) = false := by simp [ha]
      have h2 : (b == y) = false := by simp [hb]
      simp [h1, h2]
/-- members that take the same words, place by place -/
structure Lock (A : Au) (L : List Nat) (B : Au) (M : List Nat) : Prop where
  len : L.length = M.length
  at_ : ∀ i, i < L.length → Lq A (L.getD i 0) B (M.getD i 0)
theorem c_lock (okA : A.Ok) (okB : B.Ok) {p q r t : Nat} (hp : p < A.n) (hq : q < A.n) (hr : r < B.n) (ht : t < B.n) (h1 : Lq A p B r) (h2 : Lq A q B t) : A.c p = A.c q ↔ B.c r = B.c t := by
  rw [c_iff okA hp hq, c_iff okB hr ht]
  exact ⟨fun h w => (h1 w).symm.trans ((h w).trans (h2 w)), fun h w => (h1 w).trans ((h w).trans (h2 w).symm)⟩
theorem mem_c (A : Au) (L : List Nat) (x : Nat) : x ∈ L.map A.c ↔ ∃ i, i < L.length ∧ A.c (L.getD i 0) = x := by
  rw [List.mem_iff_getElem]
  constructor
  · rintro ⟨i, hi, e⟩
    simp at hi
    exact ⟨i, hi, by simpa [List.getD, hi] using e⟩
  · rintro ⟨i, hi, e⟩
    exact ⟨i, by simpa using hi, by simpa [List.getD, hi] using e⟩
theorem getD_lt {L : List Nat} {n i : Nat} (h : ∀ q ∈ L, q < n) (hi : i < L.length) : L.getD i 0 < n := by
  refine h _ ?_
  have e : L.getD i 0 = L[i] := by simp [List.getD, hi]
  rw [e]; exact List.getElem_mem _
theorem Lock.ladd (okA : A.Ok) (okB : B.Ok) {L M : List Nat} (h : Lock A L B M) (hL : ∀ q ∈ L, q < A.n) (hM : ∀ q ∈ M, q < B.n) {q r : Nat} (hq : q < A.n) (hr : r < B.n) (hqr : Lq A q B r) : Lock A (A.ladd L q) B (B.ladd M r) ∧ (∀ x ∈ A.ladd L q, x < A.n) ∧ ∀ x ∈ B.ladd M r, x < B.n := by
  have hm : A.c q ∈ L.map A.c ↔ B.c r ∈ M.map B.c := by
    rw [mem_c, mem_c]
    constructor
    · rintro ⟨i, hi, e⟩
      exact ⟨i, h.len ▸ hi, (c_lock okA okB (getD_lt hL hi) hq (getD_lt hM (h.len ▸ hi)) hr (h.at_ i hi) hqr).mp e⟩
    · rintro ⟨i, hi, e⟩
      have hi' : i < L.length := by rw [h.len]; exact hi
      exact ⟨i, hi', (c_lock okA okB (getD_lt hL hi') hq (getD_lt hM hi) hr (h.at_ i hi') hqr).mpr e⟩
  unfold Au.ladd
  by_cases c : A.c q ∈ L.map A.c
  · rw [if_pos c, if_pos (hm.mp c)]
    exact ⟨h, hL, hM⟩
  · rw [if_neg c, if_neg (fun z => c (hm.mpr z))]
    refine ⟨⟨by simp [h.len], fun i hi => ?_⟩, fun x hx => ?_, fun x hx => ?_⟩
    · rcases Nat.lt_or_ge i L.length with c1 | c1
      · have := h.at_ i c1
        have c2 : i < M.length := h.len ▸ c1
        simpa [List.getD, List.getElem?_append_left c1, List.getElem?_append_left c2] using this
      · have e : i = L.length := by simp at hi; omega
        subst e
        have e2 : (L ++ [q]).getD L.length 0 = q := by simp [List.getD]
        have e3 : (M ++ [r]).getD L.length 0 = r := by rw [h.len]; simp [List.getD]
        rw [e2, e3]; exact hqr
    · rcases List.mem_append.mp hx with hx | hx
      · exact hL x hx
      · simp at hx; subst hx; exact hq
    · rcases List.mem_append.mp hx with hx | hx
      · exact hM x hx
      · simp at hx; subst hx; exact hr
theorem ls_lock (okA : A.Ok) (okB : B.Ok) (h : Lq A A.s B B.s) : ∀ j, (∀ i, i < j → i < (A.lsN i).length) → Lock A (A.lsN j) B (B.lsN j) ∧ (∀ x ∈ A.lsN j, x < A.n) ∧ ∀ x ∈ B.lsN j, x < B.n
  | 0, _ => by
    refine ⟨⟨rfl, fun i hi => ?_⟩, fun x hx => ?_, fun x hx => ?_⟩
    · have : i = 0 := by simpa [lsN] using hi
      subst this; exact h
    · simp [lsN] at hx; subst hx; exact okA.s
    · simp [lsN] at hx; subst hx; exact okB.s
  | j + 1, hj => by
    obtain ⟨h1, h2, h3⟩ := ls_lock okA okB h j fun i hi => hj i (by omega)
    have hjl := hj j (by omega)
    have hq := h1.at_ j hjl
    have qa := getD_lt h2 hjl
    have qb := getD_lt h3 (h1.len ▸ hjl)
    obtain ⟨a1, a2, a3⟩ := h1.ladd okA okB h2 h3 (okA.go qa 0) (okB.go qb 0) (hq.go 0)
    obtain ⟨b1, b2, b3⟩ := a1.ladd okA okB a2 a3 (okA.go qa 1) (okB.go qb 1) (hq.go 1)
    exact ⟨b1, b2, b3⟩
/-- automata that take the same words have one least automaton -/
theorem least_eq (okA : A.Ok) (okB : B.Ok) (h : Lq A A.s B B.s) : A.least = B.least := by
  have hA := M_ls okA
  have hB := M_ls okB
  obtain ⟨eA, fA⟩ := hA.eq
  obtain ⟨eB, fB⟩ := hB.eq
  -- both searches end at one step
  have hlen : A.M.length = B.M.length := by
    rcases Nat.lt_trichotomy A.M.length B.M.length with c | c | c
    · obtain ⟨l, _, _⟩ := ls_lock okA okB h A.M.length fA
      have h1 := fB A.M.length c
      have h2 := l.len
      rw [← eA] at h2
      rw [← h2] at h1
      exact absurd h1 (Nat.lt_irrefl _)
    · exact c
    · obtain ⟨l, _, _⟩ := ls_lock okB okA h.symm B.M.length fB
      have h1 := fA B.M.length c
      have h2 := l.len
      rw [← eB] at h2
      rw [← h2] at h1
      exact absurd h1 (Nat.lt_irrefl _)
  obtain ⟨l, hL, hM⟩ := ls_lock okA okB h A.M.length fA
  rw [← eA] at l hL
  rw [hlen, ← eB] at l hM
  have okat : ∀ i, i < A.M.length → A.M.getD i 0 < A.n ∧ B.M.getD i 0 < B.n := fun i hi => ⟨getD_lt hL hi, getD_lt hM (hlen ▸ hi)⟩
  show A.lm A.M = B.lm B.M
  unfold lm
  congr 1
  · rw [hlen]
    refine List.filter_congr fun k hk => ?_
    have hk := List.mem_range.mp hk
    have := l.at_ k (by rw [hlen]; exact hk) []
    simp only [act, List.foldl_nil] at this
    simp only [this]
  · refine List.ext_getElem (by simp [hlen]) fun k h1 h2 => ?_
    simp at h1 h2
    have e1 : A.M.getD k 0 = A.M[k] := by simp [List.getD, h1]
    have e2 : B.M.getD k 0 = B.M[k] := by simp [List.getD, h2]
    have hk := l.at_ k h1
    obtain ⟨qa, qb⟩ := okat k h1
    rw [e1, e2] at hk
    rw [e1] at qa
    rw [e2] at qb
    have go : ∀ j, (A.M.map A.c).idxOf (A.c (A.go A.M[k] j)) = (B.M.map B.c).idxOf (B.c (B.go B.M[k] j)) := fun j => by
      refine idxOf_congr (by simp [hlen]) fun i hi => ?_
      simp at hi
      have hi2 : i < B.M.length := hlen ▸ hi
      have g1 : (A.M.map A.c).getD i 0 = A.c (A.M.getD i 0) := by simp [List.getD, hi]
      have g2 : (B.M.map B.c).getD i 0 = B.c (B.M.getD i 0) := by simp [List.getD, hi2]
      rw [g1, g2]
      exact c_lock okA okB (okat i hi).1 (okA.go qa j) (okat i hi).2 (okB.go qb j) (l.at_ i hi) (hk.go j)
    simp [go]
/-- the least automaton takes the same words -/
theorem least_lq (ok : A.Ok) : Lq A.least A.least.s A A.s := by
  have hM := M_ls ok
  have hl := hM.ok ok
  have hcl := hM.closed
  have hn : A.least.n = A.M.length := by simp [least, lm, n]
  have gost : ∀ i, i < A.M.length → ∀ k, A.least.go i k = (A.M.map A.c).idxOf (A.c (A.go (A.M.getD i 0) k)) := fun i hi k => by
    have e : A.M.getD i 0 = A.M[i] := by simp [List.getD, hi]
    by_cases hk : k = 0
    · subst hk
      simp [Au.go, least, lm, List.getD, hi]
    · have e2 : A.go (A.M.getD i 0) k = A.go (A.M.getD i 0) 1 := by simp [Au.go, hk]
      rw [e2]
      simp [Au.go, least, lm, List.getD, hi, hk]
  have key : ∀ (w : List Nat) (i q : Nat), i < A.M.length → q < A.n → A.c (A.M.getD i 0) = A.c q → (A.least.act i w ∈ A.least.good ↔ A.act q w ∈ A.good) := by
    intro w
    induction w with
    | nil =>
      intro i q hi hq hc
      have hmi := getD_lt hl.2.1 hi
      show i ∈ A.least.good ↔ q ∈ A.good
      rw [← c_good hmi hq hc]
      simp [least, lm, List.mem_filter, hi]
    | cons c w ih =>
      intro i q hi hq hc
      rw [act_cons, act_cons]
      have hmi := getD_lt hl.2.1 hi
      have hmem := hcl i hi (c - 97)
      have hlt := List.idxOf_lt_length_iff.mpr hmem
      simp only [List.length_map] at hlt
      refine ih _ _ (by rw [gost i hi]; exact hlt) (ok.go hq _) ?_
      rw [gost i hi]
      have h1 := List.getElem_idxOf (List.idxOf_lt_length_iff.mpr hmem)
      rw [List.getElem_map] at h1
      have e : ∀ j (hj : j < A.M.length), A.M.getD j 0 = A.M[j] := fun j hj => by simp [List.getD, hj]
      rw [e _ hlt, h1]
      exact c_go ok hmi hq hc _
  intro w
  have hpos : 0 < A.M.length := by
    have := hl.2.2.2
    cases hM0 : A.M with
    | nil => rw [hM0] at this; simp at this
    | cons _ _ => simp
  have h0 : A.M.getD 0 0 = A.s := by
    have := hl.2.2.2
    simp [List.getD, this]
  exact key w 0 A.s hpos ok.s (by rw [h0])
theorem least_least (ok : A.Ok) : A.least.least = A.least := least_eq (least_ok ok) ok (least_lq ok)
theorem least_iff (okA : A.Ok) (okB : B.Ok) : A.least = B.least ↔ Lq A A.s B B.s := by
  constructor
  · intro h w
    have h1 := least_lq okA w
    have h2 := least_lq okB w
    rw [h] at h1
    exact h1.symm.trans h2
  · exact least_eq okA okB
end Au
end AU
/-! Two automata read one word side by side: a search among the pairs of states, shortest words first. -/
namespace AU
namespace Au
variable {A B : Au}
def pw2 (A B : Au) (w : List Nat) : List Nat := [A.act A.s w, B.act B.s w]
def agr (A B : Au) (w : List Nat) : Prop := A.act A.s w ∈ A.good ↔ B.act B.s w ∈ B.good
theorem agr_congr {u v : List Nat} (h : pw2 A B u = pw2 A B v) : agr A B u ↔ agr A B v := by
  simp [pw2] at h
  simp [agr, h.1, h.2]
theorem pw2_snoc {u v : List Nat} (c : Nat) (h : pw2 A B u = pw2 A B v) : pw2 A B (u ++ [c]) = pw2 A B (v ++ [c]) := by
  simp [pw2] at h
  simp [pw2, act_snoc, h.1, h.2]
theorem pw2_sign (u : List Nat) (c : Nat) : ∃ k, k < 2 ∧ pw2 A B (u ++ [c]) = pw2 A B (u ++ [97 + k]) := by
  by_cases h : c - 97 = 0
  · refine ⟨0, by omega, ?_⟩
    simp [pw2, act_snoc, h]
  · refine ⟨1, by omega, ?_⟩
    simp [pw2, act_snoc, Au.go, h]
/-- what is found so far (fd done, wt waiting) -/
structure PI (A B : Au) (fd wt : List (List Nat × List Nat)) : Prop where
  nd : ((fd ++ wt).map (·.1)).Nodup
  words : ∀ p ∈ fd ++ wt, Isw p.2 ∧ p.1 = pw2 A B p.2
  mono : (fd ++ wt).Pairwise fun p q => p.2.length ≤ q.2.length
  near : ∀ q r, wt = q :: r → ∀ p ∈ fd ++ wt, p.2.length ≤ q.2.length + 1
  agree : ∀ p ∈ fd, agr A B p.2
  closed : ∀ p ∈ fd, ∀ c, c < 2 → ∃ q ∈ fd ++ wt, q.1 = pw2 A B (p.2 ++ [97 + c]) ∧ q.2.length ≤ p.2.length + 1
  start : ∃ q ∈ fd ++ wt, q.1 = pw2 A B [] ∧ q.2.length = 0
  len : ∀ p ∈ fd ++ wt, p.2.length ≤ (fd ++ wt).length
theorem PI.ini : PI A B [] [([A.s, B.s], [])] where
  nd := by simp
  words p hp := by
    simp at hp; subst hp
    exact ⟨fun c hc => by simp at hc, rfl⟩
  mono := by simp
  near q r e p hp := by
    simp at hp; subst hp
    simp
  agree p hp := by simp at hp
  closed p hp := by simp at hp
  start := ⟨([A.s, B.s], []), by simp, rfl, rfl⟩
  len p hp := by
    simp at hp; subst hp
    simp
theorem PI.has {fd wt : List (List Nat × List Nat)} (h : PI A B fd wt) (n : Nat) (hn : ∀ p ∈ wt, n ≤ p.2.length) : ∀ (m : Nat) (v : List Nat), v.length = m → m ≤ n → ∃ q ∈ fd ++ wt, q.1 = pw2 A B v ∧ q.2.length ≤ v.length
  | 0, v, e, _ => by
    have : v = [] := List.eq_nil_of_length_eq_zero e
    subst this
    obtain ⟨q, h1, h2, h3⟩ := h.start
    exact ⟨q, h1, h2, by omega⟩
  | m + 1, v, e, hm => by
    have hv : v ≠ [] := fun c => by simp [c] at e
    have ev := List.dropLast_concat_getLast hv
    have el : v.dropLast.length = m := by simp [e]
    obtain ⟨p, h1, h2, h3⟩ := PI.has h n hn m v.dropLast el (by omega)
    have hpf : p ∈ fd := by
      rcases List.mem_append.mp h1 with c | c
      · exact c
      · have := hn p c
        omega
    obtain ⟨k, hk, ek⟩ := pw2_sign (A := A) (B := B) v.dropLast (v.getLast hv)
    obtain ⟨q, q1, q2, q3⟩ := h.closed p hpf k hk
    refine ⟨q, q1, ?_, by omega⟩
    rw [q2, ← ev, ek]
    refine pw2_snoc _ ?_
    rw [← (h.words p h1).2, h2]
theorem PI.head_le {fd wt : List (List Nat × List Nat)} {x : List Nat × List Nat} (h : PI A B fd (x :: wt)) : ∀ p ∈ x :: wt, x.2.length ≤ p.2.length := by
  intro p hp
  have := (List.pairwise_append.mp h.mono).2.1
  rcases List.mem_cons.mp hp with rfl | hp
  · exact Nat.le_refl _
  · exact (List.pairwise_cons.mp this).1 p hp
/-- no shorter word tells them apart -/
theorem PI.short {fd wt : List (List Nat × List Nat)} {x : List Nat × List Nat} (h : PI A B fd (x :: wt)) (v : List Nat) (hv : v.length < x.2.length) : agr A B v := by
  obtain ⟨p, h1, h2, h3⟩ := h.has x.2.length h.head_le v.length v rfl (by omega)
  have hpf : p ∈ fd := by
    rcases List.mem_append.mp h1 with c | c
    · exact c
    · have := h.head_le p c
      omega
  exact (agr_congr (by rw [← (h.words p h1).2, h2])).mp (h.agree p hpf)
theorem PI.all {fd : List (List Nat × List Nat)} (h : PI A B fd []) (v : List Nat) : agr A B v := by
  obtain ⟨p, h1, h2, h3⟩ := h.has v.length (by simp) v.length v rfl (by omega)
  have hpf : p ∈ fd := by simpa using h1
  exact (agr_congr (by rw [← (h.words p h1).2, h2])).mp (h.agree p hpf)
theorem PI.lq {fd : List (List Nat × List Nat)} (h : PI A B fd []) : Lq A A.s B B.s := fun w => h.all w
theorem PI.add {fd wt : List (List Nat × List Nat)} {x : List Nat × List Nat} (h : PI A B fd (x :: wt)) {c : Nat} (hc : c < 2) (hk : pw2 A B (x.2 ++ [97 + c]) ∉ (fd ++ x :: wt).map (·.1)) :
    PI A B fd (x :: (wt ++ [(pw2 A B (x.2 ++ [97 + c]), x.2 ++ [97 + c])])) := by
  have e : fd ++ x :: (wt ++ [(pw2 A B (x.2 ++ [97 + c]), x.2 ++ [97 + c])]) = (fd ++ x :: wt) ++ [(pw2 A B (x.2 ++ [97 + c]), x.2 ++ [97 + c])] := by simp
  have hx : x ∈ fd ++ x :: wt := by simp
  have hnear := h.near x wt rfl
  constructor
  · rw [e, List.map_append, List.nodup_append]
    refine ⟨h.nd, by simp, ?_⟩
    intro a ha b hb
    simp only [List.map_cons, List.map_nil, List.mem_singleton] at hb
    subst hb
    exact fun e => hk (e ▸ ha)
  · rw [e]
    intro p hp
    rcases List.mem_append.mp hp with hp | hp
    · exact h.words p hp
    · simp only [List.mem_singleton] at hp
      subst hp
      refine ⟨fun d hd => ?_, rfl⟩
      rcases List.mem_append.mp hd with hd | hd
      · exact (h.words x hx).1 d hd
      · simp at hd; subst hd; omega
  · rw [e, List.pairwise_append]
    refine ⟨h.mono, by simp, fun p hp q hq => ?_⟩
    simp only [List.mem_singleton] at hq
    subst hq
    have := hnear p hp
    simpa using this
  · intro q r eq p hp
    cases eq
    rw [e] at hp
    rcases List.mem_append.mp hp with hp | hp
    · exact hnear p hp
    · simp only [List.mem_singleton] at hp
      subst hp
      simp
  · exact h.agree
  · intro p hp d hd
    obtain ⟨q, q1, q2⟩ := h.closed p hp d hd
    exact ⟨q, by rw [e]; exact List.mem_append_left _ q1, q2⟩
  · obtain ⟨q, q1, q2⟩ := h.start
    exact ⟨q, by rw [e]; exact List.mem_append_left _ q1, q2⟩
  · rw [e]
    intro p hp
    rw [List.length_append]
    rcases List.mem_append.mp hp with hp | hp
    · have := h.len p hp
      omega
    · simp only [List.mem_singleton] at hp
      subst hp
      have := h.len x hx
      simp at this ⊢
      omega
theorem PI.found {fd wt : List (List Nat × List Nat)} {x : List Nat × List Nat} (h : PI A B fd (x :: wt)) {k : List Nat} (hk : k ∈ (fd ++ x :: wt).map (·.1)) : ∃ q ∈ fd ++ x :: wt, q.1 = k ∧ q.2.length ≤ x.2.length + 1 := by
  obtain ⟨q, q1, q2⟩ := List.mem_map.mp hk
  exact ⟨q, q1, q2, h.near x wt rfl q q1⟩
theorem PI.next {fd wt : List (List Nat × List Nat)} {x : List Nat × List Nat} (h : PI A B fd (x :: wt)) (ha : agr A B x.2) (hc : ∀ c, c < 2 → pw2 A B (x.2 ++ [97 + c]) ∈ (fd ++ x :: wt).map (·.1)) : PI A B (fd ++ [x]) wt := by
  have e : (fd ++ [x]) ++ wt = fd ++ x :: wt := by simp
  have hnear := h.near x wt rfl
  constructor
  · rw [e]; exact h.nd
  · rw [e]; exact h.words
  · rw [e]; exact h.mono
  · intro q r eq p hp
    rw [e] at hp
    have := h.head_le q (by simp [eq])
    have := hnear p hp
    omega
  · intro p hp
    rcases List.mem_append.mp hp with hp | hp
    · exact h.agree p hp
    · simp only [List.mem_singleton] at hp
      subst hp
      exact ha
  · rw [e]
    intro p hp
    rcases List.mem_append.mp hp with hp | hp
    · exact h.closed p hp
    · simp only [List.mem_singleton] at hp
      subst hp
      exact fun c hc2 => h.found (hc c hc2)
  · rw [e]; exact h.start
  · rw [e]; exact h.len
theorem PI.lt (okA : A.Ok) (okB : B.Ok) {fd wt : List (List Nat × List Nat)} (h : PI A B fd wt) : ∀ p ∈ fd ++ wt, p.1 = [A.act A.s p.2, B.act B.s p.2] ∧ A.act A.s p.2 < A.n ∧ B.act B.s p.2 < B.n :=
  fun p hp => ⟨(h.words p hp).2, act_lt okA okA.s _, act_lt okB okB.s _⟩
theorem PI.length (okA : A.Ok) (okB : B.Ok) {fd wt : List (List Nat × List Nat)} (h : PI A B fd wt) : (fd ++ wt).length ≤ A.n * B.n := by
  have h1 := nodup_sub_length h.nd (m := (List.range A.n).flatMap fun a => (List.range B.n).map fun b => [a, b]) fun x hx => by
    obtain ⟨p, hp, rfl⟩ := List.mem_map.mp hx
    obtain ⟨e, ha, hb⟩ := h.lt okA okB p hp
    rw [e, List.mem_flatMap]
    exact ⟨_, List.mem_range.mpr ha, List.mem_map.mpr ⟨_, List.mem_range.mpr hb, rfl⟩⟩
  have h2 : ((List.range A.n).flatMap fun a => (List.range B.n).map fun b => [a, b]).length = A.n * B.n := by
    rw [List.length_flatMap]
    simp [List.map_const', List.sum_replicate_nat]
  rw [h2, List.length_map] at h1
  exact h1
/-- pairs of states that go together, in order -/
structure PairsOk (A B : Au) (ps : List (List Nat)) : Prop where
  rng : ∀ p ∈ ps, ∃ a b, p = [a, b] ∧ a < A.n ∧ b < B.n
  asc : ps.Pairwise (· < ·)
  start : [A.s, B.s] ∈ ps
  agree : ∀ a b, [a, b] ∈ ps → (a ∈ A.good ↔ b ∈ B.good)
  closed : ∀ a b, [a, b] ∈ ps → ∀ k, k < 2 → [A.go a k, B.go b k] ∈ ps
theorem PI.pairs (okA : A.Ok) (okB : B.Ok) {fd : List (List Nat × List Nat)} (h : PI A B fd []) {ps : List (List Nat)} (h1 : ps.Pairwise (· < ·)) (h2 : ∀ x, x ∈ ps ↔ x ∈ fd.map (·.1)) : PairsOk A B ps where
  rng p hp := by
    obtain ⟨q, hq, rfl⟩ := List.mem_map.mp ((h2 p).mp hp)
    obtain ⟨e, ha, hb⟩ := h.lt okA okB q (by simpa using hq)
    exact ⟨_, _, e, ha, hb⟩
  asc := h1
  start := by
    obtain ⟨q, h3, h4, h5⟩ := h.start
    rw [h2]
    exact List.mem_map.mpr ⟨q, by simpa using h3, h4⟩
  agree a b hp := by
    obtain ⟨q, hq, e⟩ := List.mem_map.mp ((h2 _).mp hp)
    obtain ⟨e2, ha, hb⟩ := h.lt okA okB q (by simpa using hq)
    have := h.agree q hq
    rw [e] at e2
    simp at e2
    unfold agr at this
    rw [← e2.1, ← e2.2] at this
    exact this
  closed a b hp k hk := by
    obtain ⟨q, hq, e⟩ := List.mem_map.mp ((h2 _).mp hp)
    obtain ⟨e2, ha, hb⟩ := h.lt okA okB q (by simpa using hq)
    obtain ⟨r, hr, r1, r2⟩ := h.closed q hq k hk
    rw [e] at e2
    simp at e2
    rw [h2]
    refine List.mem_map.mpr ⟨r, by simpa using hr, ?_⟩
    rw [r1, pw2, act_snoc, act_snoc, ← e2.1, ← e2.2, Nat.add_sub_cancel_left]
end Au
end AU
set_option maxRecDepth 100000
set_option maxHeartbeats 0
namespace K90
open PySem PySem.Spec PyProof.Rows L2 MP
abbrev S (x : String) : PySem.Str := PySem.Str.ofString x
def top (i : Nat) : Stmt := PySem.Challenge.pw_backforth_k90_automata_alike.main.body.getD i (.Pass ⟨0, 0, 0, 0⟩)
def b_is_whole : MS :=
  (.cons (.ret (.and (.isi (.var 0) .int) (.not (.isi (.var 0) .bool)))) .nil)
def b_is_numbers : MS :=
  (.cons (.ret (.and (.isi (.var 0) .tuple) (.bcl .all (.cons (.lc (.call 0 (.cons (.var 1) .nil)) (.nm 1) .val (.var 0) (.bl true)) .nil)))) .nil)
def b_is_from : MS :=
  (.cons (.ret (.and (.call 0 (.cons (.var 0) .nil)) (.chn .le .le (.var 1) (.var 0) (.var 2)))) .nil)
def b_is_named : MS :=
  (.cons (.ret (.and (.isi (.var 0) .tuple) (.and (.cmp .eq (.bcl .len (.cons (.var 0) .nil)) (.var 2)) (.and (.isi (.idx (.var 0) (.int 0)) .str) (.cmp
  .eq (.idx (.var 0) (.int 0)) (.var 1)))))) .nil)
def b_rises : MS :=
  (.cons (.ret (.bcl .all (.cons (.lc (.cmp .lt (.idx (.var 0) (.var 1)) (.idx (.var 0) (.bin .add (.var 1) (.int 1)))) (.nm 1) .rng (.cons (.bin .sub
  (.bcl .len (.cons (.var 0) .nil)) (.int 1)) .nil) (.bl true)) .nil))) .nil)
def b_is_items : MS :=
  (.cons (.ret (.and (.call 1 (.cons (.var 0) .nil)) (.and (.call 4 (.cons (.var 0) .nil)) (.bcl .all (.cons (.lc (.chn .le .lt (.int 0) (.var 2) (.var
  1)) (.nm 2) .val (.var 0) (.bl true)) .nil))))) .nil)
def b_is_automaton : MS :=
  (.cons (.ife (.or (.not (.isi (.var 0) .tuple)) (.or (.cmp .ne (.bcl .len (.cons (.var 0) .nil)) (.int 3)) (.not (.isi (.idx (.var 0) (.int 2))
  .tuple)))) (.cons (.ret (.bl false)) .nil) .nil) (.cons (.asg (.tp (.cons (.nm 1) (.cons (.nm 2) (.cons (.nm 3) .nil)))) (.var 0)) (.cons (.asg (.nm
  4) (.bcl .len (.cons (.var 3) .nil))) (.cons (.ife (.or (.not (.chn .le .le (.int 1) (.var 4) (.glb 1))) (.or (.not (.call 2 (.cons (.var 1) (.cons
  (.int 0) (.cons (.bin .sub (.var 4) (.int 1)) .nil))))) (.not (.call 5 (.cons (.var 2) (.cons (.var 4) .nil)))))) (.cons (.ret (.bl false)) .nil)
  .nil) (.cons (.ife (.not (.bcl .all (.cons (.lc (.and (.isi (.var 5) .tuple) (.cmp .eq (.bcl .len (.cons (.var 5) .nil)) (.int 2))) (.nm 5) .val
  (.var 3) (.bl true)) .nil))) (.cons (.ret (.bl false)) .nil) .nil) (.cons (.ret (.bcl .all (.cons (.lc2 (.call 2 (.cons (.var 6) (.cons (.int 0)
  (.cons (.bin .sub (.var 4) (.int 1)) .nil)))) (.nm 5) .val (.var 3) (.bl true) (.nm 6) .val (.var 5) (.bl true)) .nil))) .nil))))))
def b_state_behind : MS :=
  (.cons (.for_ (.nm 3) .val (.var 2) (.cons (.asg (.nm 1) (.idx (.idx (.idx (.var 0) (.int 2)) (.var 1)) (.mth .index (.glb 0) (.cons (.var 3) .nil))))
  .nil)) (.cons (.ret (.var 1)) .nil))
def b_accepts : MS :=
  (.cons (.ret (.cmp .isin (.call 7 (.cons (.var 0) (.cons (.idx (.var 0) (.int 0)) (.cons (.var 1) .nil)))) (.idx (.var 0) (.int 1)))) .nil)
def b_reached : MS :=
  (.cons (.asg (.nm 1) (.dsp (.idx (.var 0) (.int 0)) (.str (S "")))) (.cons (.asg (.nm 2) (.lst (.cons (.idx (.var 0) (.int 0)) .nil))) (.cons (.asg
  (.nm 3) (.lst .nil)) (.cons (.whl (.cmp .gt (.bcl .len (.cons (.var 2) .nil)) (.int 0)) (.cons (.pop 4 2 (.int 0)) (.cons (.app 3 (.var 4)) (.cons
  (.for_ (.nm 5) .rng (.cons (.int 2) .nil) (.cons (.asg (.nm 6) (.idx (.idx (.idx (.var 0) (.int 2)) (.var 4)) (.var 5))) (.cons (.ife (.cmp .nin
  (.var 6) (.var 1)) (.cons (.seti (.var 1) (.var 6) (.bin .add (.idx (.var 1) (.var 4)) (.idx (.glb 0) (.var 5)))) (.cons (.app 2 (.var 6)) .nil))
  .nil) .nil))) .nil)))) (.cons (.ret (.tup (.cons (.var 3) (.cons (.var 1) .nil)))) .nil)))))
def b_alike_paper : MS :=
  (.cons (.asg (.nm 2) (.tup (.cons (.idx (.var 0) (.int 0)) (.cons (.idx (.var 1) (.int 0)) .nil)))) (.cons (.asg (.nm 3) (.dsp (.var 2) (.str (S ""))))
  (.cons (.asg (.nm 4) (.lst (.cons (.var 2) .nil))) (.cons (.whl (.cmp .gt (.bcl .len (.cons (.var 4) .nil)) (.int 0)) (.cons (.pop 5 4 (.int 0))
  (.cons (.ife (.cmp .ne (.cmp .isin (.idx (.var 5) (.int 0)) (.idx (.var 0) (.int 1))) (.cmp .isin (.idx (.var 5) (.int 1)) (.idx (.var 1) (.int 1))))
  (.cons (.ret (.tup (.cons (.str (S "word")) (.cons (.idx (.var 3) (.var 5)) .nil)))) .nil) .nil) (.cons (.for_ (.nm 6) .rng (.cons (.int 2) .nil)
  (.cons (.asg (.nm 7) (.tup (.cons (.idx (.idx (.idx (.var 0) (.int 2)) (.idx (.var 5) (.int 0))) (.var 6)) (.cons (.idx (.idx (.idx (.var 1) (.int
  2)) (.idx (.var 5) (.int 1))) (.var 6)) .nil)))) (.cons (.ife (.cmp .nin (.var 7) (.var 3)) (.cons (.seti (.var 3) (.var 7) (.bin .add (.idx (.var 3)
  (.var 5)) (.idx (.glb 0) (.var 6)))) (.cons (.app 4 (.var 7)) .nil)) .nil) .nil))) .nil)))) (.cons (.ret (.tup (.cons (.str (S "pairs")) (.cons (.bcl
  .tuple (.cons (.bcl .sorted (.cons (.var 3) .nil)) .nil)) .nil)))) .nil)))))
def b_is_word : MS :=
  (.cons (.ret (.and (.isi (.var 0) .str) (.bcl .all (.cons (.lc (.cmp .isin (.var 1) (.glb 0)) (.nm 1) .val (.var 0) (.bl true)) .nil)))) .nil)
def b_is_pairs_of : MS :=
  (.cons (.asg (.nm 3) (.tup (.cons (.bcl .len (.cons (.idx (.var 0) (.int 2)) .nil)) (.cons (.bcl .len (.cons (.idx (.var 1) (.int 2)) .nil)) .nil))))
  (.cons (.ife (.or (.not (.isi (.var 2) .tuple)) (.not (.bcl .all (.cons (.lc (.and (.isi (.var 7) .tuple) (.cmp .eq (.bcl .len (.cons (.var 7) .nil))
  (.int 2))) (.nm 7) .val (.var 2) (.bl true)) .nil)))) (.cons (.ret (.bl false)) .nil) .nil) (.cons (.ife (.not (.bcl .all (.cons (.lc2 (.call 2
  (.cons (.idx (.var 7) (.var 8)) (.cons (.int 0) (.cons (.bin .sub (.idx (.var 3) (.var 8)) (.int 1)) .nil)))) (.nm 7) .val (.var 2) (.bl true) (.nm
  8) .val (.tup (.cons (.int 0) (.cons (.int 1) .nil))) (.bl true)) .nil))) (.cons (.ret (.bl false)) .nil) .nil) (.cons (.ife (.or (.cmp .ne (.bcl
  .tuple (.cons (.bcl .sorted (.cons (.bcl .set (.cons (.var 2) .nil)) .nil)) .nil)) (.var 2)) (.cmp .nin (.tup (.cons (.idx (.var 0) (.int 0)) (.cons
  (.idx (.var 1) (.int 0)) .nil))) (.var 2))) (.cons (.ret (.bl false)) .nil) .nil) (.cons (.ife (.not (.bcl .all (.cons (.lc (.cmp .eq (.cmp .isin
  (.var 4) (.idx (.var 0) (.int 1))) (.cmp .isin (.var 5) (.idx (.var 1) (.int 1)))) (.tp (.cons (.nm 4) (.cons (.nm 5) .nil))) .val (.var 2) (.bl
  true)) .nil))) (.cons (.ret (.bl false)) .nil) .nil) (.cons (.ret (.bcl .all (.cons (.lc2 (.cmp .isin (.tup (.cons (.idx (.idx (.idx (.var 0) (.int
  2)) (.var 4)) (.var 6)) (.cons (.idx (.idx (.idx (.var 1) (.int 2)) (.var 5)) (.var 6)) .nil))) (.var 2)) (.tp (.cons (.nm 4) (.cons (.nm 5) .nil)))
  .val (.var 2) (.bl true) (.nm 6) .val (.tup (.cons (.int 0) (.cons (.int 1) .nil))) (.bl true)) .nil))) .nil))))))
def b_check_alike : MS :=
  (.cons (.ife (.call 3 (.cons (.var 2) (.cons (.str (S "word")) (.cons (.int 2) .nil)))) (.cons (.ret (.and (.call 11 (.cons (.idx (.var 2) (.int 1))
  .nil)) (.cmp .ne (.call 8 (.cons (.var 0) (.cons (.idx (.var 2) (.int 1)) .nil))) (.call 8 (.cons (.var 1) (.cons (.idx (.var 2) (.int 1)) .nil))))))
  .nil) .nil) (.cons (.ret (.and (.call 3 (.cons (.var 2) (.cons (.str (S "pairs")) (.cons (.int 2) .nil)))) (.call 12 (.cons (.var 0) (.cons (.var 1)
  (.cons (.idx (.var 2) (.int 1)) .nil)))))) .nil))
def b_classes : MS :=
  (.cons (.asg (.tp (.cons (.nm 1) (.cons (.nm 2) .nil))) (.tup (.cons (.idx (.var 0) (.int 1)) (.cons (.idx (.var 0) (.int 2)) .nil)))) (.cons (.asg
  (.nm 3) (.lc (.bcl .int (.cons (.cmp .isin (.var 7) (.var 1)) .nil)) (.nm 7) .rng (.cons (.bcl .len (.cons (.var 2) .nil)) .nil) (.bl true))) (.cons
  (.for_ (.nm 4) .rng (.cons (.bcl .len (.cons (.var 2) .nil)) .nil) (.cons (.asg (.nm 5) (.lc (.tup (.cons (.idx (.var 3) (.var 7)) (.cons (.idx (.var
  3) (.idx (.idx (.var 2) (.var 7)) (.int 0))) (.cons (.idx (.var 3) (.idx (.idx (.var 2) (.var 7)) (.int 1))) .nil)))) (.nm 7) .rng (.cons (.bcl .len
  (.cons (.var 2) .nil)) .nil) (.bl true))) (.cons (.asg (.nm 6) (.bcl .sorted (.cons (.bcl .set (.cons (.var 5) .nil)) .nil))) (.cons (.asg (.nm 3)
  (.lc (.mth .index (.var 6) (.cons (.var 8) .nil)) (.nm 8) .val (.var 5) (.bl true))) .nil)))) (.cons (.ret (.var 3)) .nil))))
def b_least : MS :=
  (.cons (.asg (.nm 1) (.call 14 (.cons (.var 0) .nil))) (.cons (.asg (.tp (.cons (.nm 2) (.cons (.nm 3) .nil))) (.call 9 (.cons (.var 0) .nil))) (.cons
  (.asg (.nm 4) (.lst .nil)) (.cons (.for_ (.nm 5) .val (.var 2) (.cons (.ife (.cmp .nin (.idx (.var 1) (.var 5)) (.var 4)) (.cons (.app 4 (.idx (.var
  1) (.var 5))) .nil) .nil) .nil)) (.cons (.asg (.nm 6) (.lc (.idx (.lc (.var 5) (.nm 5) .val (.var 2) (.cmp .eq (.idx (.var 1) (.var 5)) (.var 8)))
  (.int 0)) (.nm 8) .val (.var 4) (.bl true))) (.cons (.asg (.nm 7) (.bcl .tuple (.cons (.lc (.bcl .tuple (.cons (.lc (.mth .index (.var 4) (.cons
  (.idx (.var 1) (.idx (.idx (.idx (.var 0) (.int 2)) (.var 5)) (.var 9))) .nil)) (.nm 9) .val (.tup (.cons (.int 0) (.cons (.int 1) .nil))) (.bl
  true)) .nil)) (.nm 5) .val (.var 6) (.bl true)) .nil))) (.cons (.ret (.tup (.cons (.int 0) (.cons (.bcl .tuple (.cons (.lc (.var 9) (.nm 9) .rng
  (.cons (.bcl .len (.cons (.var 6) .nil)) .nil) (.cmp .isin (.idx (.var 6) (.var 9)) (.idx (.var 0) (.int 1)))) .nil)) (.cons (.var 7) .nil)))))
  .nil)))))))
def b_law_cell : MS :=
  (.cons (.ife (.cmp .lt (.var 1) (.bcl .len (.cons (.var 0) .nil))) (.cons (.ret (.idx (.var 0) (.var 1))) .nil) .nil) (.cons (.ret (.int 0)) .nil))
def b_law_draws : MS :=
  (.cons (.asg (.nm 2) (.lst .nil)) (.cons (.asg (.nm 3) (.var 0)) (.cons (.for_ (.nm 4) .rng (.cons (.var 1) .nil) (.cons (.ife (.and (.cmp .ge (.var 0)
  (.bin .pow (.int 10) (.int 18))) (.cmp .gt (.var 3) (.int 0))) (.cons (.app 2 (.bin .mod (.bcl .int (.cons (.var 3) .nil)) (.int 4096))) (.cons (.asg
  (.nm 3) (.bin .fdiv (.var 3) (.int 4096))) .nil)) (.cons (.asg (.nm 5) (.bin .mod (.bcl .int (.cons (.bin .add (.bin .mul (.var 0) (.int 48271))
  (.bin .mul (.bin .add (.var 4) (.int 1)) (.int 69621))) .nil)) (.int 2147483647))) (.cons (.asg (.nm 5) (.bin .mod (.bcl .int (.cons (.bin .add (.bin
  .add (.bin .mul (.var 5) (.var 5)) (.bin .mul (.var 5) (.int 16807))) (.bin .mul (.var 4) (.int 7919))) .nil)) (.int 2147483629))) (.cons (.asg (.nm
  5) (.bin .mod (.bcl .int (.cons (.bin .add (.bin .add (.bin .mul (.var 5) (.var 5)) (.var 0)) (.bin .mul (.int 13) (.var 4))) .nil)) (.int
  2147483587))) (.cons (.app 2 (.bin .mod (.bin .fdiv (.var 5) (.int 7)) (.int 4096))) .nil))))) .nil)) (.cons (.ret (.var 2)) .nil))))
def b_law_is_int : MS :=
  (.cons (.ret (.and (.isi (.var 0) .int) (.not (.isi (.var 0) .bool)))) .nil)
def b_law_is_bool : MS :=
  (.cons (.ife (.var 1) (.cons (.ret (.cmp .is (.var 0) (.bl true))) .nil) .nil) (.cons (.ret (.cmp .is (.var 0) (.bl false))) .nil))
def b_law_kind : MS :=
  (.cons (.ife (.isi (.var 0) .bool) (.cons (.ret (.int 1)) .nil) .nil) (.cons (.ife (.isi (.var 0) .int) (.cons (.ret (.int 2)) .nil) .nil) (.cons (.ife
  (.isi (.var 0) .str) (.cons (.ret (.int 3)) .nil) .nil) (.cons (.ife (.isi (.var 0) .tuple) (.cons (.ret (.int 4)) .nil) .nil) (.cons (.ife (.isi
  (.var 0) .list) (.cons (.ret (.int 5)) .nil) .nil) (.cons (.ife (.isi (.var 0) .dict) (.cons (.ret (.int 6)) .nil) .nil) (.cons (.ret (.int 0))
  .nil)))))))
def b_law_equal : MS :=
  (.cons (.ife (.cmp .ne (.call 20 (.cons (.var 0) .nil)) (.call 20 (.cons (.var 1) .nil))) (.cons (.ret (.bl false)) .nil) .nil) (.cons (.ife (.or (.isi
  (.var 1) .tuple) (.isi (.var 1) .list)) (.cons (.ife (.cmp .ne (.bcl .len (.cons (.var 0) .nil)) (.bcl .len (.cons (.var 1) .nil))) (.cons (.ret (.bl
  false)) .nil) .nil) (.cons (.ret (.cmp .eq (.bcl .len (.cons (.lc (.var 3) (.nm 3) .rng (.cons (.bcl .len (.cons (.var 1) .nil)) .nil) (.not (.call
  21 (.cons (.idx (.var 0) (.var 3)) (.cons (.idx (.var 1) (.var 3)) .nil))))) .nil)) (.int 0))) .nil)) .nil) (.cons (.ife (.isi (.var 1) .dict) (.cons
  (.ife (.cmp .ne (.bcl .len (.cons (.var 0) .nil)) (.bcl .len (.cons (.var 1) .nil))) (.cons (.ret (.bl false)) .nil) .nil) (.cons (.for_ (.nm 2) .val
  (.var 0) (.cons (.ife (.or (.cmp .nin (.var 2) (.var 1)) (.not (.call 21 (.cons (.idx (.var 0) (.var 2)) (.cons (.idx (.var 1) (.var 2)) .nil)))))
  (.cons (.ret (.bl false)) .nil) .nil) (.cons (.ife (.cmp .eq (.bcl .len (.cons (.lc (.var 4) (.nm 4) .val (.var 1) (.and (.cmp .eq (.var 4) (.var 2))
  (.call 21 (.cons (.var 2) (.cons (.var 4) .nil))))) .nil)) (.int 0)) (.cons (.ret (.bl false)) .nil) .nil) .nil))) (.cons (.ret (.bl true)) .nil)))
  .nil) (.cons (.ret (.cmp .eq (.var 0) (.var 1))) .nil))))
def b_law_named : MS :=
  (.cons (.ret (.and (.isi (.var 0) .tuple) (.and (.cmp .eq (.bcl .len (.cons (.var 0) .nil)) (.var 2)) (.and (.isi (.idx (.var 0) (.int 0)) .str) (.cmp
  .eq (.idx (.var 0) (.int 0)) (.var 1)))))) .nil)
def b_law_numbers_in : MS :=
  (.cons (.ife (.or (.not (.isi (.var 0) .tuple)) (.cmp .ne (.bcl .len (.cons (.var 0) .nil)) (.var 1))) (.cons (.ret (.bl false)) .nil) .nil) (.cons
  (.ret (.cmp .eq (.bcl .len (.cons (.lc (.var 2) (.nm 2) .val (.var 0) (.not (.call 18 (.cons (.var 2) .nil)))) .nil)) (.int 0))) .nil))
def b_law_bend : MS :=
  (.cons (.asg (.nm 3) (.bcl .int (.cons (.idx (.var 1) (.bin .mod (.var 2) (.bcl .len (.cons (.var 1) .nil)))) .nil))) (.cons (.ife (.and (.isi (.var 0)
  .tuple) (.and (.cmp .gt (.bcl .len (.cons (.var 0) .nil)) (.int 0)) (.cmp .gt (.bin .mod (.var 3) (.int 5)) (.int 0)))) (.cons (.asg (.nm 5) (.bin
  .mod (.bin .fdiv (.var 3) (.int 5)) (.bcl .len (.cons (.var 0) .nil)))) (.cons (.ret (.bin .add (.bin .add (.slc (.var 0) .nil (.var 5)) (.tup (.cons
  (.call 24 (.cons (.idx (.var 0) (.var 5)) (.cons (.var 1) (.cons (.bin .add (.var 2) (.int 1)) .nil)))) .nil))) (.slc (.var 0) (.bin .add (.var 5)
  (.int 1)) .nil))) .nil)) .nil) (.cons (.asg (.nm 4) (.bin .mod (.bin .fdiv (.var 3) (.int 5)) (.int 7))) (.cons (.ife (.isi (.var 0) .tuple) (.cons
  (.ret (.idx (.lst (.cons (.bin .add (.var 0) (.tup (.cons (.int 0) .nil))) (.cons (.slc (.var 0) .nil (.neg (.int 1))) (.cons (.bcl .list (.cons
  (.var 0) .nil)) (.cons (.rev (.var 0)) (.cons .non (.cons (.bin .add (.var 0) (.slc (.var 0) (.neg (.int 1)) .nil)) (.cons (.tup (.cons (.var 0)
  .nil)) .nil)))))))) (.var 4))) .nil) .nil) (.cons (.ife (.isi (.var 0) .str) (.cons (.ret (.idx (.lst (.cons (.bin .add (.var 0) (.str (S "s")))
  (.cons (.str (S "")) (.cons (.int 0) (.cons (.str (S "kept")) (.cons (.str (S "parted")) (.cons (.str (S "some")) (.cons .non .nil)))))))) (.var 4)))
  .nil) .nil) (.cons (.ife (.or (.isi (.var 0) .bool) (.not (.isi (.var 0) .int))) (.cons (.ret (.int 0)) .nil) .nil) (.cons (.ret (.idx (.lst (.cons
  (.bin .add (.var 0) (.int 1)) (.cons (.bin .sub (.var 0) (.int 1)) (.cons (.bin .add (.var 0) (.int 2)) (.cons (.cmp .eq (.var 0) (.int 1)) (.cons
  (.bcl .str (.cons (.var 0) .nil)) (.cons (.neg (.var 0)) (.cons (.bin .add (.var 0) (.int 9)) .nil)))))))) (.var 4))) .nil)))))))
def b_law_pool : MS :=
  (.cons (.asg (.nm 1) (.lst .nil)) (.cons (.for_ (.nm 2) .rng (.cons (.bcl .min (.cons (.int 4) (.cons (.bcl .max (.cons (.int 1) (.cons (.bcl .len
  (.cons (.var 0) .nil)) .nil))) .nil))) .nil) (.cons (.asg (.nm 1) (.bin .add (.var 1) (.call 17 (.cons (.bin .add (.call 16 (.cons (.var 0) (.cons
  (.var 2) .nil))) (.bin .mul (.int 7) (.var 2))) (.cons (.int 20) .nil))))) .nil)) (.cons (.ret (.lst (.cons (.var 1) (.cons (.hp (.lst (.cons (.int
  0) .nil))) .nil)))) .nil)))
def b_law_pick : MS :=
  (.cons (.asg (.nm 2) (.idx (.idx (.var 0) (.int 1)) (.int 0))) (.cons (.seti (.idx (.var 0) (.int 1)) (.int 0) (.bin .add (.var 2) (.int 1))) (.cons
  (.asg (.nm 3) (.bin .fdiv (.var 2) (.bcl .len (.cons (.idx (.var 0) (.int 0)) .nil)))) (.cons (.ret (.bin .mod (.bcl .int (.cons (.bin .add (.bin
  .add (.idx (.idx (.var 0) (.int 0)) (.bin .mod (.var 2) (.bcl .len (.cons (.idx (.var 0) (.int 0)) .nil)))) (.bin .mul (.var 3) (.int 1009))) (.bin
  .mul (.var 3) (.var 2))) .nil)) (.var 1))) .nil))))
def b_law_items : MS :=
  (.cons (.ife (.or (.not (.isi (.var 0) .tuple)) (.cmp .gt (.bcl .len (.cons (.lc (.var 3) (.nm 3) .val (.var 0) (.or (.not (.call 18 (.cons (.var 3)
  .nil))) (.not (.chn .le .lt (.int 0) (.var 3) (.var 1))))) .nil)) (.int 0))) (.cons (.ret (.bl false)) .nil) .nil) (.cons (.ret (.cmp .eq (.bcl .len
  (.cons (.lc (.var 2) (.nm 2) .rng (.cons (.bin .sub (.bcl .len (.cons (.var 0) .nil)) (.int 1)) .nil) (.cmp .ge (.idx (.var 0) (.var 2)) (.idx (.var
  0) (.bin .add (.var 2) (.int 1))))) .nil)) (.int 0))) .nil))
def b_law_pairs : MS :=
  (.cons (.ife (.not (.isi (.var 0) .tuple)) (.cons (.ret (.bl false)) .nil) .nil) (.cons (.for_ (.nm 3) .val (.var 0) (.cons (.ife (.or (.not (.call 23
  (.cons (.var 3) (.cons (.int 2) .nil)))) (.or (.not (.chn .le .lt (.int 0) (.idx (.var 3) (.int 0)) (.var 1))) (.not (.chn .le .lt (.int 0) (.idx
  (.var 3) (.int 1)) (.var 2))))) (.cons (.ret (.bl false)) .nil) .nil) .nil)) (.cons (.ret (.cmp .eq (.bcl .len (.cons (.lc (.var 4) (.nm 4) .rng
  (.cons (.bin .sub (.bcl .len (.cons (.var 0) .nil)) (.int 1)) .nil) (.cmp .ge (.idx (.var 0) (.var 4)) (.idx (.var 0) (.bin .add (.var 4) (.int
  1))))) .nil)) (.int 0))) .nil)))
def b_law_tuples : MS :=
  (.cons (.asg (.nm 2) (.lst (.cons (.tup .nil) .nil))) (.cons (.for_ (.nm 3) .rng (.cons (.var 1) .nil) (.cons (.asg (.nm 4) (.lst .nil)) (.cons (.for_
  (.nm 5) .val (.var 2) (.cons (.asg (.nm 4) (.bin .add (.var 4) (.lc (.bin .add (.var 5) (.tup (.cons (.var 6) .nil))) (.nm 6) .rng (.cons (.var 0)
  .nil) (.bl true)))) .nil)) (.cons (.asg (.nm 2) (.var 4)) .nil)))) (.cons (.ret (.var 2)) .nil)))
def b_law_unlike : MS :=
  (.cons (.asg (.nm 1) (.lst .nil)) (.cons (.for_ (.nm 2) .val (.bcl .sorted (.cons (.var 0) .nil)) (.cons (.ife (.cmp .nin (.var 2) (.var 1)) (.cons
  (.app 1 (.var 2)) .nil) .nil) .nil)) (.cons (.ret (.bcl .tuple (.cons (.var 1) .nil))) .nil)))
def b_law_is_auto : MS :=
  (.cons (.ife (.or (.not (.isi (.var 0) .tuple)) (.or (.cmp .ne (.bcl .len (.cons (.var 0) .nil)) (.int 3)) (.or (.not (.isi (.idx (.var 0) (.int 2))
  .tuple)) (.not (.chn .le .le (.int 1) (.bcl .len (.cons (.idx (.var 0) (.int 2)) .nil)) (.int 100)))))) (.cons (.ret (.bl false)) .nil) .nil) (.cons
  (.asg (.nm 1) (.bcl .len (.cons (.idx (.var 0) (.int 2)) .nil))) (.cons (.ife (.or (.not (.call 18 (.cons (.idx (.var 0) (.int 0)) .nil))) (.or (.not
  (.chn .le .lt (.int 0) (.idx (.var 0) (.int 0)) (.var 1))) (.not (.call 27 (.cons (.idx (.var 0) (.int 1)) (.cons (.var 1) .nil)))))) (.cons (.ret
  (.bl false)) .nil) .nil) (.cons (.ret (.cmp .eq (.bcl .len (.cons (.lc (.var 2) (.nm 2) .val (.idx (.var 0) (.int 2)) (.or (.not (.call 23 (.cons
  (.var 2) (.cons (.int 2) .nil)))) (.or (.cmp .lt (.bcl .min (.cons (.var 2) .nil)) (.int 0)) (.cmp .ge (.bcl .max (.cons (.var 2) .nil)) (.var 1)))))
  .nil)) (.int 0))) .nil))))
def b_law_auto : MS :=
  (.cons (.asg (.nm 2) (.bin .add (.int 1) (.call 26 (.cons (.var 0) (.cons (.var 1) .nil))))) (.cons (.asg (.nm 3) (.tup .nil)) (.cons (.for_ (.nm 4)
  .rng (.cons (.var 2) .nil) (.cons (.asg (.nm 3) (.bin .add (.var 3) (.tup (.cons (.tup (.cons (.call 26 (.cons (.var 0) (.cons (.var 2) .nil)))
  (.cons (.call 26 (.cons (.var 0) (.cons (.var 2) .nil))) .nil))) .nil)))) .nil)) (.cons (.ret (.tup (.cons (.call 26 (.cons (.var 0) (.cons (.var 2)
  .nil))) (.cons (.bcl .tuple (.cons (.lc (.var 4) (.nm 4) .rng (.cons (.var 2) .nil) (.cmp .eq (.call 26 (.cons (.var 0) (.cons (.int 2) .nil))) (.int
  0))) .nil)) (.cons (.var 3) .nil))))) .nil))))
def b_law_behind : MS :=
  (.cons (.for_ (.nm 3) .val (.var 2) (.cons (.asg (.nm 1) (.idx (.idx (.idx (.var 0) (.int 2)) (.var 1)) (.mth .index (.str (S "ab")) (.cons (.var 3)
  .nil)))) .nil)) (.cons (.ret (.var 1)) .nil))
def b_law_takes : MS :=
  (.cons (.ret (.cmp .isin (.call 33 (.cons (.var 0) (.cons (.idx (.var 0) (.int 0)) (.cons (.var 1) .nil)))) (.idx (.var 0) (.int 1)))) .nil)
def b_law_texts : MS :=
  (.cons (.asg (.nm 1) (.lst (.cons (.str (S "")) .nil))) (.cons (.asg (.nm 2) (.lst (.cons (.str (S "")) .nil))) (.cons (.for_ (.nm 3) .rng (.cons (.var
  0) .nil) (.cons (.asg (.nm 4) (.lst .nil)) (.cons (.for_ (.nm 5) .val (.var 1) (.cons (.asg (.nm 4) (.bin .add (.var 4) (.lst (.cons (.bin .add (.var
  5) (.str (S "a"))) (.cons (.bin .add (.var 5) (.str (S "b"))) .nil))))) .nil)) (.cons (.asg (.nm 1) (.var 4)) (.cons (.asg (.nm 2) (.bin .add (.var
  2) (.var 1))) .nil))))) (.cons (.ret (.var 2)) .nil))))
def b_law_classes : MS :=
  (.cons (.asg (.nm 1) (.bcl .len (.cons (.idx (.var 0) (.int 2)) .nil))) (.cons (.asg (.nm 2) (.lc (.bcl .int (.cons (.cmp .isin (.var 6) (.idx (.var 0)
  (.int 1))) .nil)) (.nm 6) .rng (.cons (.var 1) .nil) (.bl true))) (.cons (.for_ (.nm 3) .rng (.cons (.var 1) .nil) (.cons (.asg (.nm 4) (.lc (.tup
  (.cons (.idx (.var 2) (.var 6)) (.cons (.idx (.var 2) (.idx (.idx (.idx (.var 0) (.int 2)) (.var 6)) (.int 0))) (.cons (.idx (.var 2) (.idx (.idx
  (.idx (.var 0) (.int 2)) (.var 6)) (.int 1))) .nil)))) (.nm 6) .rng (.cons (.var 1) .nil) (.bl true))) (.cons (.asg (.nm 5) (.call 30 (.cons (.var 4)
  .nil))) (.cons (.asg (.nm 2) (.lc (.mth .index (.var 5) (.cons (.var 7) .nil)) (.nm 7) .val (.var 4) (.bl true))) .nil)))) (.cons (.ret (.var 2))
  .nil))))
def b_law_least : MS :=
  (.cons (.asg (.nm 1) (.call 36 (.cons (.var 0) .nil))) (.cons (.asg (.nm 2) (.lst (.cons (.idx (.var 0) (.int 0)) .nil))) (.cons (.asg (.nm 3) (.int
  0)) (.cons (.whl (.and (.cmp .lt (.var 3) (.bcl .len (.cons (.var 2) .nil))) (.cmp .lt (.var 3) (.int 20))) (.cons (.for_ (.nm 6) .rng (.cons (.int
  2) .nil) (.cons (.asg (.nm 7) (.idx (.idx (.idx (.var 0) (.int 2)) (.idx (.var 2) (.var 3))) (.var 6))) (.cons (.ife (.cmp .nin (.idx (.var 1) (.var
  7)) (.lc (.idx (.var 1) (.var 8)) (.nm 8) .val (.var 2) (.bl true))) (.cons (.app 2 (.var 7)) .nil) .nil) .nil))) (.cons (.asg (.nm 3) (.bin .add
  (.var 3) (.int 1))) .nil))) (.cons (.asg (.nm 4) (.lc (.idx (.var 1) (.var 8)) (.nm 8) .val (.var 2) (.bl true))) (.cons (.asg (.nm 5) (.bcl .tuple
  (.cons (.lc (.bcl .tuple (.cons (.lc (.mth .index (.var 4) (.cons (.idx (.var 1) (.idx (.idx (.idx (.var 0) (.int 2)) (.var 8)) (.var 6))) .nil))
  (.nm 6) .rng (.cons (.int 2) .nil) (.bl true)) .nil)) (.nm 8) .val (.var 2) (.bl true)) .nil))) (.cons (.ret (.tup (.cons (.int 0) (.cons (.bcl
  .tuple (.cons (.lc (.var 6) (.nm 6) .rng (.cons (.bcl .len (.cons (.var 2) .nil)) .nil) (.cmp .isin (.idx (.var 2) (.var 6)) (.idx (.var 0) (.int
  1)))) .nil)) (.cons (.var 5) .nil))))) .nil)))))))
def b_law_right : MS :=
  (.cons (.ife (.call 22 (.cons (.var 2) (.cons (.str (S "word")) (.cons (.int 2) .nil)))) (.cons (.ife (.or (.not (.isi (.idx (.var 2) (.int 1)) .str))
  (.cmp .gt (.bcl .len (.cons (.lc (.var 5) (.nm 5) .val (.idx (.var 2) (.int 1)) (.cmp .nin (.var 5) (.str (S "ab")))) .nil)) (.int 0))) (.cons (.ret
  (.bl false)) .nil) .nil) (.cons (.ret (.cmp .ne (.call 34 (.cons (.var 0) (.cons (.idx (.var 2) (.int 1)) .nil))) (.call 34 (.cons (.var 1) (.cons
  (.idx (.var 2) (.int 1)) .nil))))) .nil)) .nil) (.cons (.ife (.or (.not (.call 22 (.cons (.var 2) (.cons (.str (S "pairs")) (.cons (.int 2) .nil)))))
  (.or (.not (.call 28 (.cons (.idx (.var 2) (.int 1)) (.cons (.bcl .len (.cons (.idx (.var 0) (.int 2)) .nil)) (.cons (.bcl .len (.cons (.idx (.var 1)
  (.int 2)) .nil)) .nil))))) (.cmp .nin (.tup (.cons (.idx (.var 0) (.int 0)) (.cons (.idx (.var 1) (.int 0)) .nil))) (.idx (.var 2) (.int 1)))))
  (.cons (.ret (.bl false)) .nil) .nil) (.cons (.for_ (.tp (.cons (.nm 3) (.cons (.nm 4) .nil))) .val (.idx (.var 2) (.int 1)) (.cons (.ife (.or (.cmp
  .ne (.cmp .isin (.var 3) (.idx (.var 0) (.int 1))) (.cmp .isin (.var 4) (.idx (.var 1) (.int 1)))) (.cmp .gt (.bcl .len (.cons (.lc (.var 6) (.nm 6)
  .rng (.cons (.int 2) .nil) (.cmp .nin (.tup (.cons (.idx (.idx (.idx (.var 0) (.int 2)) (.var 3)) (.var 6)) (.cons (.idx (.idx (.idx (.var 1) (.int
  2)) (.var 4)) (.var 6)) .nil))) (.idx (.var 2) (.int 1)))) .nil)) (.int 0))) (.cons (.ret (.bl false)) .nil) .nil) .nil)) (.cons (.ret (.bl true))
  .nil))))
def b_law : MS :=
  (.cons (.asg (.nm 1) (.call 25 (.cons (.var 0) .nil))) (.cons (.asg (.nm 2) (.call 17 (.cons (.bin .add (.call 16 (.cons (.var 0) (.cons (.int 0)
  .nil))) (.int 1)) (.cons (.int 60) .nil)))) (.cons (.asg (.nm 3) (.call 32 (.cons (.var 1) (.cons (.int 5) .nil)))) (.cons (.asg (.nm 4) (.idx (.lst
  (.cons (.call 32 (.cons (.var 1) (.cons (.int 5) .nil))) (.cons (.call 37 (.cons (.var 3) .nil)) .nil))) (.call 26 (.cons (.var 1) (.cons (.int 2)
  .nil))))) (.cons (.for_ (.nm 5) .val (.lst (.cons (.var 3) (.cons (.var 4) (.cons (.call 24 (.cons (.var 3) (.cons (.var 2) (.cons (.int 3) .nil))))
  (.cons (.call 24 (.cons (.call 24 (.cons (.var 4) (.cons (.var 2) (.cons (.int 9) .nil)))) (.cons (.var 2) (.cons (.int 15) .nil)))) (.cons (.bcl
  .list (.cons (.var 3) .nil)) (.cons .non (.cons (.slc (.var 3) .nil (.int 2)) (.cons (.tup (.cons (.int 0) (.cons (.tup .nil) (.cons (.tup .nil)
  .nil)))) (.cons (.tup (.cons (.int 0) (.cons (.tup .nil) (.cons (.bin .mul (.tup (.cons (.tup (.cons (.int 0) (.cons (.int 0) .nil))) .nil)) (.int
  100)) .nil)))) (.cons (.tup (.cons (.int 0) (.cons (.tup .nil) (.cons (.bin .mul (.tup (.cons (.tup (.cons (.int 0) (.cons (.int 0) .nil))) .nil))
  (.int 101)) .nil)))) .nil))))))))))) (.cons (.ife (.not (.call 19 (.cons (.call 6 (.cons (.var 5) .nil)) (.cons (.call 31 (.cons (.var 5) .nil))
  .nil)))) (.cons (.ret (.bl false)) .nil) .nil) .nil)) (.cons (.ife (.or (.not (.call 21 (.cons (.call 15 (.cons (.var 3) .nil)) (.cons (.call 37
  (.cons (.var 3) .nil)) .nil)))) (.not (.call 21 (.cons (.call 15 (.cons (.call 15 (.cons (.var 4) .nil)) .nil)) (.cons (.call 37 (.cons (.var 4)
  .nil)) .nil))))) (.cons (.ret (.bl false)) .nil) .nil) (.cons (.asg (.nm 6) (.lst .nil)) (.cons (.for_ (.nm 7) .val (.call 35 (.cons (.int 5) .nil))
  (.cons (.asg (.tp (.cons (.nm 12) (.cons (.nm 13) .nil))) (.tup (.cons (.call 34 (.cons (.var 3) (.cons (.var 7) .nil))) (.cons (.call 34 (.cons
  (.var 4) (.cons (.var 7) .nil))) .nil)))) (.cons (.ife (.or (.not (.call 19 (.cons (.call 8 (.cons (.var 3) (.cons (.var 7) .nil))) (.cons (.var 12)
  .nil)))) (.not (.call 19 (.cons (.call 8 (.cons (.var 4) (.cons (.var 7) .nil))) (.cons (.var 13) .nil))))) (.cons (.ret (.bl false)) .nil) .nil)
  (.cons (.ife (.cmp .ne (.var 12) (.var 13)) (.cons (.app 6 (.var 7)) .nil) .nil) .nil)))) (.cons (.asg (.nm 8) (.call 10 (.cons (.var 3) (.cons (.var
  4) .nil)))) (.cons (.ife (.or (.not (.call 38 (.cons (.var 3) (.cons (.var 4) (.cons (.var 8) .nil))))) (.or (.cmp .ne (.cmp .eq (.idx (.var 8) (.int
  0)) (.str (S "pairs"))) (.cmp .eq (.call 37 (.cons (.var 3) .nil)) (.call 37 (.cons (.var 4) .nil)))) (.and (.cmp .ne (.var 6) (.lst .nil)) (.or
  (.cmp .ne (.idx (.var 8) (.int 0)) (.str (S "word"))) (.cmp .ne (.bcl .len (.cons (.idx (.var 8) (.int 1)) .nil)) (.bcl .len (.cons (.idx (.var 6)
  (.int 0)) .nil))))))) (.cons (.ret (.bl false)) .nil) .nil) (.cons (.asg (.nm 9) (.bcl .tuple (.cons (.call 29 (.cons (.bcl .max (.cons (.bcl .len
  (.cons (.idx (.var 3) (.int 2)) .nil)) (.cons (.bcl .len (.cons (.idx (.var 4) (.int 2)) .nil)) .nil))) (.cons (.int 2) .nil))) .nil))) (.cons (.asg
  (.nm 10) (.lst (.cons (.var 8) (.cons (.tup (.cons (.str (S "pairs")) (.cons (.tup .nil) .nil))) (.cons (.tup (.cons (.str (S "pairs")) (.cons (.tup
  (.cons (.tup (.cons (.idx (.var 3) (.int 0)) (.cons (.idx (.var 4) (.int 0)) .nil))) .nil)) .nil))) (.cons (.tup (.cons (.str (S "word")) (.cons
  (.str (S "")) .nil))) (.cons (.tup (.cons (.str (S "word")) (.cons (.str (S "a")) .nil))) (.cons (.tup (.cons (.str (S "word")) (.cons (.str (S
  "bab")) .nil))) (.cons (.tup (.cons (.str (S "word")) (.cons (.str (S "c")) .nil))) (.cons (.tup (.cons (.str (S "word")) (.cons .non .nil))) (.cons
  .non (.cons (.bcl .list (.cons (.var 8) .nil)) .nil)))))))))))) (.cons (.asg (.nm 10) (.bin .add (.var 10) (.lst (.cons (.tup (.cons (.str (S
  "words")) (.cons (.str (S "a")) .nil))) (.cons (.tup (.cons (.str (S "pairs")) (.cons (.bcl .tuple (.cons (.lc (.tup (.cons (.var 14) (.cons (.var
  15) .nil))) (.tp (.cons (.nm 14) (.cons (.nm 15) .nil))) .val (.var 9) (.and (.cmp .lt (.var 14) (.bcl .len (.cons (.idx (.var 3) (.int 2)) .nil)))
  (.cmp .lt (.var 15) (.bcl .len (.cons (.idx (.var 4) (.int 2)) .nil))))) .nil)) .nil))) .nil))))) (.cons (.ife (.cmp .eq (.idx (.var 8) (.int 0))
  (.str (S "pairs"))) (.cons (.asg (.nm 10) (.bin .add (.var 10) (.lst (.cons (.tup (.cons (.str (S "pairs")) (.cons (.slc (.idx (.var 8) (.int 1))
  (.int 1) .nil) .nil))) (.cons (.tup (.cons (.str (S "pairs")) (.cons (.rev (.idx (.var 8) (.int 1))) .nil))) (.cons (.tup (.cons (.str (S "pairs"))
  (.cons (.bin .add (.idx (.var 8) (.int 1)) (.slc (.idx (.var 8) (.int 1)) (.neg (.int 1)) .nil)) .nil))) (.cons (.tup (.cons (.str (S "pairs"))
  (.cons (.bcl .list (.cons (.idx (.var 8) (.int 1)) .nil)) .nil))) .nil))))))) .nil) .nil) (.cons (.for_ (.nm 11) .rng (.cons (.int 4) .nil) (.cons
  (.app 10 (.call 24 (.cons (.var 8) (.cons (.var 2) (.cons (.bin .add (.int 20) (.bin .mul (.int 6) (.var 11))) .nil))))) .nil)) (.cons (.for_ (.nm 5)
  .val (.var 10) (.cons (.ife (.not (.call 19 (.cons (.call 13 (.cons (.var 3) (.cons (.var 4) (.cons (.var 5) .nil)))) (.cons (.call 38 (.cons (.var
  3) (.cons (.var 4) (.cons (.var 5) .nil)))) .nil)))) (.cons (.ret (.bl false)) .nil) .nil) .nil)) (.cons (.ret (.bl true)) .nil)))))))))))))))))
def pb_is_whole : PDef :=
  ⟨S "is_whole", defArgs (top 1), defBody (top 1), defScope (top 1), [S "value"], [S "value"], ⟨1, 1, b_is_whole, []⟩⟩
def pb_is_numbers : PDef :=
  ⟨S "is_numbers", defArgs (top 2), defBody (top 2), defScope (top 2), [S "value", S "item"], [S "value"], ⟨1, 2, b_is_numbers, []⟩⟩
def pb_is_from : PDef :=
  ⟨S "is_from", defArgs (top 3), defBody (top 3), defScope (top 3), [S "value", S "low", S "high"], [S "value", S "low", S "high"], ⟨3, 3, b_is_from,
  []⟩⟩
def pb_is_named : PDef :=
  ⟨S "is_named", defArgs (top 4), defBody (top 4), defScope (top 4), [S "value", S "word", S "size"], [S "value", S "word", S "size"], ⟨3, 3, b_is_named,
  []⟩⟩
def pb_rises : PDef :=
  ⟨S "rises", defArgs (top 5), defBody (top 5), defScope (top 5), [S "items", S "k"], [S "items"], ⟨1, 2, b_rises, []⟩⟩
def pb_is_items : PDef :=
  ⟨S "is_items", defArgs (top 6), defBody (top 6), defScope (top 6), [S "value", S "n", S "item"], [S "value", S "n"], ⟨2, 3, b_is_items, []⟩⟩
def pb_is_automaton : PDef :=
  ⟨S "is_automaton", defArgs (top 10), defBody (top 10), defScope (top 10), [S "value", S "start", S "good", S "steps", S "size", S "row", S "state"], [S
  "value"], ⟨1, 7, b_is_automaton, []⟩⟩
def pb_state_behind : PDef :=
  ⟨S "state_behind", defArgs (top 11), defBody (top 11), defScope (top 11), [S "automaton", S "state", S "word", S "sign"], [S "automaton", S "state", S
  "word"], ⟨3, 4, b_state_behind, []⟩⟩
def pb_accepts : PDef :=
  ⟨S "accepts", defArgs (top 12), defBody (top 12), defScope (top 12), [S "automaton", S "word"], [S "automaton", S "word"], ⟨2, 2, b_accepts, []⟩⟩
def pb_reached : PDef :=
  ⟨S "reached", defArgs (top 13), defBody (top 13), defScope (top 13), [S "automaton", S "words", S "waiting", S "found", S "state", S "k", S "after"],
  [S "automaton"], ⟨1, 7, b_reached, []⟩⟩
def pb_alike_paper : PDef :=
  ⟨S "alike_paper", defArgs (top 14), defBody (top 14), defScope (top 14), [S "one", S "two", S "start", S "words", S "waiting", S "pair", S "k", S
  "after"], [S "one", S "two"], ⟨2, 8, b_alike_paper, []⟩⟩
def pb_is_word : PDef :=
  ⟨S "is_word", defArgs (top 15), defBody (top 15), defScope (top 15), [S "value", S "sign"], [S "value"], ⟨1, 2, b_is_word, []⟩⟩
def pb_is_pairs_of : PDef :=
  ⟨S "is_pairs_of", defArgs (top 16), defBody (top 16), defScope (top 16), [S "one", S "two", S "value", S "sizes", S "a", S "b", S "k", S "pair", S
  "i"], [S "one", S "two", S "value"], ⟨3, 9, b_is_pairs_of, []⟩⟩
def pb_check_alike : PDef :=
  ⟨S "check_alike", defArgs (top 17), defBody (top 17), defScope (top 17), [S "one", S "two", S "value"], [S "one", S "two", S "value"], ⟨3, 3,
  b_check_alike, []⟩⟩
def pb_classes : PDef :=
  ⟨S "classes", defArgs (top 18), defBody (top 18), defScope (top 18), [S "automaton", S "good", S "steps", S "found", S "_", S "signs", S "rows", S
  "state", S "sign"], [S "automaton"], ⟨1, 9, b_classes, []⟩⟩
def pb_least : PDef :=
  ⟨S "least", defArgs (top 19), defBody (top 19), defScope (top 19), [S "automaton", S "found", S "states", S "_", S "order", S "state", S "firsts", S
  "steps", S "lot", S "k"], [S "automaton"], ⟨1, 10, b_least, []⟩⟩
def pb_law_cell : PDef :=
  ⟨S "_law_cell", defArgs (top 21), defBody (top 21), defScope (top 21), [S "script", S "k"], [S "script", S "k"], ⟨2, 2, b_law_cell, []⟩⟩
def pb_law_draws : PDef :=
  ⟨S "_law_draws", defArgs (top 22), defBody (top 22), defScope (top 22), [S "cell", S "amount", S "rows", S "left", S "k", S "blended"], [S "cell", S
  "amount"], ⟨2, 6, b_law_draws, []⟩⟩
def pb_law_is_int : PDef :=
  ⟨S "_law_is_int", defArgs (top 23), defBody (top 23), defScope (top 23), [S "x"], [S "x"], ⟨1, 1, b_law_is_int, []⟩⟩
def pb_law_is_bool : PDef :=
  ⟨S "_law_is_bool", defArgs (top 24), defBody (top 24), defScope (top 24), [S "x", S "due"], [S "x", S "due"], ⟨2, 2, b_law_is_bool, []⟩⟩
def pb_law_kind : PDef :=
  ⟨S "_law_kind", defArgs (top 25), defBody (top 25), defScope (top 25), [S "x"], [S "x"], ⟨1, 1, b_law_kind, []⟩⟩
def pb_law_equal : PDef :=
  ⟨S "_law_equal", defArgs (top 26), defBody (top 26), defScope (top 26), [S "x", S "due", S "key", S "k", S "other"], [S "x", S "due"], ⟨2, 5,
  b_law_equal, []⟩⟩
def pb_law_named : PDef :=
  ⟨S "_law_named", defArgs (top 27), defBody (top 27), defScope (top 27), [S "value", S "word", S "amount"], [S "value", S "word", S "amount"], ⟨3, 3,
  b_law_named, []⟩⟩
def pb_law_numbers_in : PDef :=
  ⟨S "_law_numbers_in", defArgs (top 28), defBody (top 28), defScope (top 28), [S "value", S "amount", S "item"], [S "value", S "amount"], ⟨2, 3,
  b_law_numbers_in, []⟩⟩
def pb_law_bend : PDef :=
  ⟨S "_law_bend", defArgs (top 29), defBody (top 29), defScope (top 29), [S "value", S "draws", S "at", S "draw", S "way", S "k"], [S "value", S "draws",
  S "at"], ⟨3, 6, b_law_bend, []⟩⟩
def pb_law_pool : PDef :=
  ⟨S "_law_pool", defArgs (top 30), defBody (top 30), defScope (top 30), [S "script", S "rows", S "k"], [S "script"], ⟨1, 3, b_law_pool, []⟩⟩
def pb_law_pick : PDef :=
  ⟨S "_law_pick", defArgs (top 31), defBody (top 31), defScope (top 31), [S "pool", S "amount", S "at", S "turn"], [S "pool", S "amount"], ⟨2, 4,
  b_law_pick, []⟩⟩
def pb_law_items : PDef :=
  ⟨S "_law_items", defArgs (top 32), defBody (top 32), defScope (top 32), [S "value", S "n", S "k", S "item"], [S "value", S "n"], ⟨2, 4, b_law_items,
  []⟩⟩
def pb_law_pairs : PDef :=
  ⟨S "_law_pairs", defArgs (top 33), defBody (top 33), defScope (top 33), [S "value", S "n", S "m", S "pair", S "k"], [S "value", S "n", S "m"], ⟨3, 5,
  b_law_pairs, []⟩⟩
def pb_law_tuples : PDef :=
  ⟨S "_law_tuples", defArgs (top 34), defBody (top 34), defScope (top 34), [S "n", S "size", S "rows", S "k", S "more", S "row", S "item"], [S "n", S
  "size"], ⟨2, 7, b_law_tuples, []⟩⟩
def pb_law_unlike : PDef :=
  ⟨S "_law_unlike", defArgs (top 35), defBody (top 35), defScope (top 35), [S "items", S "found", S "item"], [S "items"], ⟨1, 3, b_law_unlike, []⟩⟩
def pb_law_is_auto : PDef :=
  ⟨S "_law_is_auto", defArgs (top 36), defBody (top 36), defScope (top 36), [S "value", S "n", S "row"], [S "value"], ⟨1, 3, b_law_is_auto, []⟩⟩
def pb_law_auto : PDef :=
  ⟨S "_law_auto", defArgs (top 37), defBody (top 37), defScope (top 37), [S "pool", S "most", S "n", S "steps", S "k"], [S "pool", S "most"], ⟨2, 5,
  b_law_auto, []⟩⟩
def pb_law_behind : PDef :=
  ⟨S "_law_behind", defArgs (top 38), defBody (top 38), defScope (top 38), [S "auto", S "state", S "word", S "sign"], [S "auto", S "state", S "word"],
  ⟨3, 4, b_law_behind, []⟩⟩
def pb_law_takes : PDef :=
  ⟨S "_law_takes", defArgs (top 39), defBody (top 39), defScope (top 39), [S "auto", S "word"], [S "auto", S "word"], ⟨2, 2, b_law_takes, []⟩⟩
def pb_law_texts : PDef :=
  ⟨S "_law_texts", defArgs (top 40), defBody (top 40), defScope (top 40), [S "most", S "rows", S "found", S "k", S "more", S "row"], [S "most"], ⟨1, 6,
  b_law_texts, []⟩⟩
def pb_law_classes : PDef :=
  ⟨S "_law_classes", defArgs (top 41), defBody (top 41), defScope (top 41), [S "auto", S "n", S "found", S "turn", S "signs", S "kinds", S "k", S
  "sign"], [S "auto"], ⟨1, 8, b_law_classes, []⟩⟩
def pb_law_least : PDef :=
  ⟨S "_law_least", defArgs (top 42), defBody (top 42), defScope (top 42), [S "auto", S "lots", S "order", S "at", S "names", S "steps", S "k", S "after",
  S "x"], [S "auto"], ⟨1, 9, b_law_least, []⟩⟩
def pb_law_right : PDef :=
  ⟨S "_law_right", defArgs (top 43), defBody (top 43), defScope (top 43), [S "one", S "two", S "value", S "a", S "b", S "sign", S "k"], [S "one", S
  "two", S "value"], ⟨3, 7, b_law_right, []⟩⟩
def pb_law : PDef :=
  ⟨S "law", defArgs (top 44), defBody (top 44), defScope (top 44), [S "script", S "pool", S "draws", S "one", S "two", S "value", S "unlike", S "word", S
  "told", S "whole", S "values", S "k", S "here", S "there", S "a", S "b"], [S "script"], ⟨1, 16, b_law, []⟩⟩
def ds0 : List PDef := [pb_is_whole, pb_is_numbers, pb_is_from, pb_is_named, pb_rises, pb_is_items, pb_is_automaton, pb_state_behind, pb_accepts, pb_reached, pb_alike_paper, pb_is_word, pb_is_pairs_of, pb_check_alike, pb_classes, pb_least]
def ds1 : List PDef := [pb_law_cell, pb_law_draws, pb_law_is_int, pb_law_is_bool, pb_law_kind, pb_law_equal, pb_law_named, pb_law_numbers_in, pb_law_bend, pb_law_pool, pb_law_pick, pb_law_items, pb_law_pairs, pb_law_tuples, pb_law_unlike, pb_law_is_auto]
def ds2 : List PDef := [pb_law_auto, pb_law_behind, pb_law_takes, pb_law_texts, pb_law_classes, pb_law_least, pb_law_right, pb_law]
def ds : List PDef := ds0 ++ ds1 ++ ds2
def cs : List (PySem.Str × PV) := [(S "SIGNS", .str (S "ab")), (S "MOST_STATES", .int 100)]
abbrev G : Gl := glOf ds cs
theorem ckb_is_whole : pchk ds cs pb_is_whole = true := by kernel_rfl
theorem ckb_is_numbers : pchk ds cs pb_is_numbers = true := by kernel_rfl
theorem ckb_is_from : pchk ds cs pb_is_from = true := by kernel_rfl
theorem ckb_is_named : pchk ds cs pb_is_named = true := by kernel_rfl
theorem ckb_rises : pchk ds cs pb_rises = true := by kernel_rfl
theorem ckb_is_items : pchk ds cs pb_is_items = true := by kernel_rfl
theorem ckb_is_automaton : pchk ds cs pb_is_automaton = true := by kernel_rfl
theorem ckb_state_behind : pchk ds cs pb_state_behind = true := by kernel_rfl
theorem ckb_accepts : pchk ds cs pb_accepts = true := by kernel_rfl
theorem ckb_reached : pchk ds cs pb_reached = true := by kernel_rfl
theorem ckb_alike_paper : pchk ds cs pb_alike_paper = true := by kernel_rfl
theorem ckb_is_word : pchk ds cs pb_is_word = true := by kernel_rfl
theorem ckb_is_pairs_of : pchk ds cs pb_is_pairs_of = true := by kernel_rfl
theorem ckb_check_alike : pchk ds cs pb_check_alike = true := by kernel_rfl
theorem ckb_classes : pchk ds cs pb_classes = true := by kernel_rfl
theorem ckb_least : pchk ds cs pb_least = true := by kernel_rfl
theorem ckb_law_cell : pchk ds cs pb_law_cell = true := by kernel_rfl
theorem ckb_law_draws : pchk ds cs pb_law_draws = true := by kernel_rfl
theorem ckb_law_is_int : pchk ds cs pb_law_is_int = true := by kernel_rfl
theorem ckb_law_is_bool : pchk ds cs pb_law_is_bool = true := by kernel_rfl
theorem ckb_law_kind : pchk ds cs pb_law_kind = true := by kernel_rfl
theorem ckb_law_equal : pchk ds cs pb_law_equal = true := by kernel_rfl
theorem ckb_law_named : pchk ds cs pb_law_named = true := by kernel_rfl
theorem ckb_law_numbers_in : pchk ds cs pb_law_numbers_in = true := by kernel_rfl
theorem ckb_law_bend : pchk ds cs pb_law_bend = true := by kernel_rfl
theorem ckb_law_pool : pchk ds cs pb_law_pool = true := by kernel_rfl
theorem ckb_law_pick : pchk ds cs pb_law_pick = true := by kernel_rfl
theorem ckb_law_items : pchk ds cs pb_law_items = true := by kernel_rfl
theorem ckb_law_pairs : pchk ds cs pb_law_pairs = true := by kernel_rfl
theorem ckb_law_tuples : pchk ds cs pb_law_tuples = true := by kernel_rfl
theorem ckb_law_unlike : pchk ds cs pb_law_unlike = true := by kernel_rfl
theorem ckb_law_is_auto : pchk ds cs pb_law_is_auto = true := by kernel_rfl
theorem ckb_law_auto : pchk ds cs pb_law_auto = true := by kernel_rfl
theorem ckb_law_behind : pchk ds cs pb_law_behind = true := by kernel_rfl
theorem ckb_law_takes : pchk ds cs pb_law_takes = true := by kernel_rfl
theorem ckb_law_texts : pchk ds cs pb_law_texts = true := by kernel_rfl
theorem ckb_law_classes : pchk ds cs pb_law_classes = true := by kernel_rfl
theorem ckb_law_least : pchk ds cs pb_law_least = true := by kernel_rfl
theorem ckb_law_right : pchk ds cs pb_law_right = true := by kernel_rfl
theorem ckb_law : pchk ds cs pb_law = true := by kernel_rfl
theorem bpb_is_whole : BindP pb_is_whole := fun _ _ _ _ _ _ us hl => match us, hl with | [_], _ => rfl
theorem bpb_is_numbers : BindP pb_is_numbers := fun _ _ _ _ _ _ us hl => match us, hl with | [_], _ => rfl
theorem bpb_is_from : BindP pb_is_from := fun _ _ _ _ _ _ us hl => match us, hl with | [_, _, _], _ => rfl
theorem bpb_is_named : BindP pb_is_named := fun _ _ _ _ _ _ us hl => match us, hl with | [_, _, _], _ => rfl
theorem bpb_rises : BindP pb_rises := fun _ _ _ _ _ _ us hl => match us, hl with | [_], _ => rfl
theorem bpb_is_items : BindP pb_is_items := fun _ _ _ _ _ _ us hl => match us, hl with | [_, _], _ => rfl
theorem bpb_is_automaton : BindP pb_is_automaton := fun _ _ _ _ _ _ us hl => match us, hl with | [_], _ => rfl
theorem bpb_state_behind : BindP pb_state_behind := fun _ _ _ _ _ _ us hl => match us, hl with | [_, _, _], _ => rfl
theorem bpb_accepts : BindP pb_accepts := fun _ _ _ _ _ _ us hl => match us, hl with | [_, _], _ => rfl
theorem bpb_reached : BindP pb_reached := fun _ _ _ _ _ _ us hl => match us, hl with | [_], _ => rfl
theorem bpb_alike_paper : BindP pb_alike_paper := fun _ _ _ _ _ _ us hl => match us, hl with | [_, _], _ => rfl
theorem bpb_is_word : BindP pb_is_word := fun _ _ _ _ _ _ us hl => match us, hl with | [_], _ => rfl
theorem bpb_is_pairs_of : BindP pb_is_pairs_of := fun _ _ _ _ _ _ us hl => match us, hl with | [_, _, _], _ => rfl
theorem bpb_check_alike : BindP pb_check_alike := fun _ _ _ _ _ _ us hl => match us, hl with | [_, _, _], _ => rfl
theorem bpb_classes : BindP pb_classes := fun _ _ _ _ _ _ us hl => match us, hl with | [_], _ => rfl
theorem bpb_least : BindP pb_least := fun _ _ _ _ _ _ us hl => match us, hl with | [_], _ => rfl
theorem bpb_law_cell : BindP pb_law_cell := fun _ _ _ _ _ _ us hl => match us, hl with | [_, _], _ => rfl
theorem bpb_law_draws : BindP pb_law_draws := fun _ _ _ _ _ _ us hl => match us, hl with | [_, _], _ => rfl
theorem bpb_law_is_int : BindP pb_law_is_int := fun _ _ _ _ _ _ us hl => match us, hl with | [_], _ => rfl
theorem bpb_law_is_bool : BindP pb_law_is_bool := fun _ _ _ _ _ _ us hl => match us, hl with | [_, _], _ => rfl
theorem bpb_law_kind : BindP pb_law_kind := fun _ _ _ _ _ _ us hl => match us, hl with | [_], _ => rfl
theorem bpb_law_equal : BindP pb_law_equal := fun _ _ _ _ _ _ us hl => match us, hl with | [_, _], _ => rfl
theorem bpb_law_named : BindP pb_law_named := fun _ _ _ _ _ _ us hl => match us, hl with | [_, _, _], _ => rfl
theorem bpb_law_numbers_in : BindP pb_law_numbers_in := fun _ _ _ _ _ _ us hl => match us, hl with | [_, _], _ => rfl
theorem bpb_law_bend : BindP pb_law_bend := fun _ _ _ _ _ _ us hl => match us, hl with | [_, _, _], _ => rfl
theorem bpb_law_pool : BindP pb_law_pool := fun _ _ _ _ _ _ us hl => match us, hl with | [_], _ => rfl
theorem bpb_law_pick : BindP pb_law_pick := fun _ _ _ _ _ _ us hl => match us, hl with | [_, _], _ => rfl
theorem bpb_law_items : BindP pb_law_items := fun _ _ _ _ _ _ us hl => match us, hl with | [_, _], _ => rfl
theorem bpb_law_pairs : BindP pb_law_pairs := fun _ _ _ _ _ _ us hl => match us, hl with | [_, _, _], _ => rfl
theorem bpb_law_tuples : BindP pb_law_tuples := fun _ _ _ _ _ _ us hl => match us, hl with | [_, _], _ => rfl
theorem bpb_law_unlike : BindP pb_law_unlike := fun _ _ _ _ _ _ us hl => match us, hl with | [_], _ => rfl
theorem bpb_law_is_auto : BindP pb_law_is_auto := fun _ _ _ _ _ _ us hl => match us, hl with | [_], _ => rfl
theorem bpb_law_auto : BindP pb_law_auto := fun _ _ _ _ _ _ us hl => match us, hl with | [_, _], _ => rfl
theorem bpb_law_behind : BindP pb_law_behind := fun _ _ _ _ _ _ us hl => match us, hl with | [_, _, _], _ => rfl
theorem bpb_law_takes : BindP pb_law_takes := fun _ _ _ _ _ _ us hl => match us, hl with | [_, _], _ => rfl
theorem bpb_law_texts : BindP pb_law_texts := fun _ _ _ _ _ _ us hl => match us, hl with | [_], _ => rfl
theorem bpb_law_classes : BindP pb_law_classes := fun _ _ _ _ _ _ us hl => match us, hl with | [_], _ => rfl
theorem bpb_law_least : BindP pb_law_least := fun _ _ _ _ _ _ us hl => match us, hl with | [_], _ => rfl
theorem bpb_law_right : BindP pb_law_right := fun _ _ _ _ _ _ us hl => match us, hl with | [_, _, _], _ => rfl
theorem bpb_law : BindP pb_law := fun _ _ _ _ _ _ us hl => match us, hl with | [_], _ => rfl
theorem bp0 : AllPD BindP ds0 := ⟨bpb_is_whole, bpb_is_numbers, bpb_is_from, bpb_is_named, bpb_rises, bpb_is_items, bpb_is_automaton, bpb_state_behind, bpb_accepts, bpb_reached, bpb_alike_paper, bpb_is_word, bpb_is_pairs_of, bpb_check_alike, bpb_classes, bpb_least, trivial⟩
theorem ck0 : AllPD (fun p => pchk ds cs p = true) ds0 := ⟨ckb_is_whole, ckb_is_numbers, ckb_is_from, ckb_is_named, ckb_rises, ckb_is_items, ckb_is_automaton, ckb_state_behind, ckb_accepts, ckb_reached, ckb_alike_paper, ckb_is_word, ckb_is_pairs_of, ckb_check_alike, ckb_classes, ckb_least, trivial⟩
theorem bp1 : AllPD BindP ds1 := ⟨bpb_law_cell, bpb_law_draws, bpb_law_is_int, bpb_law_is_bool, bpb_law_kind, bpb_law_equal, bpb_law_named, bpb_law_numbers_in, bpb_law_bend, bpb_law_pool, bpb_law_pick, bpb_law_items, bpb_law_pairs, bpb_law_tuples, bpb_law_unlike, bpb_law_is_auto, trivial⟩
theorem ck1 : AllPD (fun p => pchk ds cs p = true) ds1 := ⟨ckb_law_cell, ckb_law_draws, ckb_law_is_int, ckb_law_is_bool, ckb_law_kind, ckb_law_equal, ckb_law_named, ckb_law_numbers_in, ckb_law_bend, ckb_law_pool, ckb_law_pick, ckb_law_items, ckb_law_pairs, ckb_law_tuples, ckb_law_unlike, ckb_law_is_auto, trivial⟩
theorem bp2 : AllPD BindP ds2 := ⟨bpb_law_auto, bpb_law_behind, bpb_law_takes, bpb_law_texts, bpb_law_classes, bpb_law_least, bpb_law_right, bpb_law, trivial⟩
theorem ck2 : AllPD (fun p => pchk ds cs p = true) ds2 := ⟨ckb_law_auto, ckb_law_behind, ckb_law_takes, ckb_law_texts, ckb_law_classes, ckb_law_least, ckb_law_right, ckb_law, trivial⟩
theorem bp_all : ∀ p ∈ ds, BindP p := AllPD.mem ((MP.AllPD.append (MP.AllPD.append bp0 bp1) bp2))
theorem ck_all : ∀ p ∈ ds, pchk ds cs p = true := AllPD.mem ((MP.AllPD.append (MP.AllPD.append ck0 ck1) ck2))
theorem hd_all : ∀ p ∈ ds, p.fd.dfl = [] ∧ p.fd.np = p.ps.length := by
  have h : (ds.all fun p => p.fd.dfl.isEmpty && decide (p.fd.np = p.ps.length)) = true := by kernel_rfl
  intro p hp
  have q := List.all_eq_true.mp h p hp
  rw [Bool.and_eq_true, decide_eq_true_eq, List.isEmpty_iff] at q
  exact q
def cf : List He.Fa := [.str (S "SIGNS") (S "ab"), .int (S "MOST_STATES") 100]
theorem cst_all {P : Program} {w : World} {K : PySem.W.Frag} {h : Heap} {mg : PySem.Str → Option Value} (X : K.In h) (Gh : h.Ns mainGlobals mg) (c : He.SaysD (factsOf ds cf) (ds.map PDef.toD) K) : ∀ (g : Nat) (x : PySem.Str) (v : PV), cs[g]? = some (x, v) → ∃ u y, mg x = some u ∧ RelV y u ∧ ∀ F ph, Rep (wdOf ds P w K) F ph v y := by
  intro g x v h
  match g, h with
  | 0, h =>
    cases h
    obtain ⟨t, e⟩ := He.str_ok X Gh (c.fact 58 (f := .str (S "SIGNS") (S "ab")) (by kernel_rfl))
    exact ⟨_, .str (S "ab"), e, ⟨t, rfl⟩, fun _ _ => .str _ (by kernel_rfl)⟩
  | 1, h =>
    cases h
    obtain ⟨t, e⟩ := He.int_ok X Gh (c.fact 59 (f := .int (S "MOST_STATES") 100) (by kernel_rfl))
    exact ⟨_, .int 100, e, ⟨t, rfl⟩, fun _ _ => .int _⟩
  | (n + 2), h => exact absurd h (by simp [cs])
end K90
set_option maxRecDepth 100000
namespace K90
open PySem (Str)
open MP MX AU
theorem fn_is_whole : G.fns 0 = some ⟨1, 1, b_is_whole, []⟩ := by rfl
theorem fn_is_numbers : G.fns 1 = some ⟨1, 2, b_is_numbers, []⟩ := by rfl
theorem fn_is_from : G.fns 2 = some ⟨3, 3, b_is_from, []⟩ := by rfl
theorem fn_is_named : G.fns 3 = some ⟨3, 3, b_is_named, []⟩ := by rfl
theorem fn_rises : G.fns 4 = some ⟨1, 2, b_rises, []⟩ := by rfl
theorem fn_is_items : G.fns 5 = some ⟨2, 3, b_is_items, []⟩ := by rfl
theorem fn_is_automaton : G.fns 6 = some ⟨1, 7, b_is_automaton, []⟩ := by rfl
theorem fn_state_behind : G.fns 7 = some ⟨3, 4, b_state_behind, []⟩ := by rfl
theorem fn_accepts : G.fns 8 = some ⟨2, 2, b_accepts, []⟩ := by rfl
theorem fn_reached : G.fns 9 = some ⟨1, 7, b_reached, []⟩ := by rfl
theorem fn_alike_paper : G.fns 10 = some ⟨2, 8, b_alike_paper, []⟩ := by rfl
theorem fn_is_word : G.fns 11 = some ⟨1, 2, b_is_word, []⟩ := by rfl
theorem fn_is_pairs_of : G.fns 12 = some ⟨3, 9, b_is_pairs_of, []⟩ := by rfl
theorem fn_check_alike : G.fns 13 = some ⟨3, 3, b_check_alike, []⟩ := by rfl
theorem fn_classes : G.fns 14 = some ⟨1, 9, b_classes, []⟩ := by rfl
theorem fn_least : G.fns 15 = some ⟨1, 10, b_least, []⟩ := by rfl
theorem fn_law_cell : G.fns 16 = some ⟨2, 2, b_law_cell, []⟩ := by rfl
theorem fn_law_draws : G.fns 17 = some ⟨2, 6, b_law_draws, []⟩ := by rfl
theorem fn_law_is_int : G.fns 18 = some ⟨1, 1, b_law_is_int, []⟩ := by rfl
theorem fn_law_is_bool : G.fns 19 = some ⟨2, 2, b_law_is_bool, []⟩ := by rfl
theorem fn_law_kind : G.fns 20 = some ⟨1, 1, b_law_kind, []⟩ := by rfl
theorem fn_law_equal : G.fns 21 = some ⟨2, 5, b_law_equal, []⟩ := by rfl
theorem fn_law_named : G.fns 22 = some ⟨3, 3, b_law_named, []⟩ := by rfl
theorem fn_law_numbers_in : G.fns 23 = some ⟨2, 3, b_law_numbers_in, []⟩ := by rfl
theorem fn_law_bend : G.fns 24 = some ⟨3, 6, b_law_bend, []⟩ := by rfl
theorem fn_law_pool : G.fns 25 = some ⟨1, 3, b_law_pool, []⟩ := by rfl
theorem fn_law_pick : G.fns 26 = some ⟨2, 4, b_law_pick, []⟩ := by rfl
theorem fn_law_items : G.fns 27 = some ⟨2, 4, b_law_items, []⟩ := by rfl
theorem fn_law_pairs : G.fns 28 = some ⟨3, 5, b_law_pairs, []⟩ := by rfl
theorem fn_law_tuples : G.fns 29 = some ⟨2, 7, b_law_tuples, []⟩ := by rfl
theorem fn_law_unlike : G.fns 30 = some ⟨1, 3, b_law_unlike, []⟩ := by rfl
theorem fn_law_is_auto : G.fns 31 = some ⟨1, 3, b_law_is_auto, []⟩ := by rfl
theorem fn_law_auto : G.fns 32 = some ⟨2, 5, b_law_auto, []⟩ := by rfl
theorem fn_law_behind : G.fns 33 = some ⟨3, 4, b_law_behind, []⟩ := by rfl
theorem fn_law_takes : G.fns 34 = some ⟨2, 2, b_law_takes, []⟩ := by rfl
theorem fn_law_texts : G.fns 35 = some ⟨1, 6, b_law_texts, []⟩ := by rfl
theorem fn_law_classes : G.fns 36 = some ⟨1, 8, b_law_classes, []⟩ := by rfl
theorem fn_law_least : G.fns 37 = some ⟨1, 9, b_law_least, []⟩ := by rfl
theorem fn_law_right : G.fns 38 = some ⟨3, 7, b_law_right, []⟩ := by rfl
theorem fn_law : G.fns 39 = some ⟨1, 16, b_law, []⟩ := by rfl
def sp (p : Nat × Nat) : PV := .tup [.int p.1, .int p.2]
@[simp] theorem sp_eq (p : Nat × Nat) : sp p = .tup [.int p.1, .int p.2] := rfl
def pv (A : Au) : PV := .tup [.int A.s, .tup (A.good.map nt), .tup (A.st.map sp)]
@[simp] theorem pv_eq (A : Au) : pv A = .tup [.int A.s, .tup (A.good.map nt), .tup (A.st.map sp)] := rfl
theorem st_at {A : Au} {q : Nat} (h : q < A.n) : (A.st.map sp)[q]? = some (.tup [.int (A.go q 0 : Nat), .int (A.go q 1 : Nat)]) := by
  have h' : q < A.st.length := h
  simp [Au.go, List.getD, h']
theorem nt_at {l : List Nat} {q : Nat} (h : q < l.length) : (l.map nt)[q]? = some (.int (l.getD q 0 : Nat)) := by
  simp [List.getD, h]
theorem mv3 (a b c : Nat) : mv [a, b, c] = .tup [.int a, .int b, .int c] := rfl
theorem Small (A : Au) (h : A.n ≤ 60) : A.n ≤ 16777216 ∧ A.n ≤ 16777216 := by omega
theorem ltAll_nt (a b : List Nat) : ltAll (a.map nt) (b.map nt) = decide (a < b) := by
  induction a generalizing b with
  | nil => cases b <;> simp [ltAll]
  | cons x a ih =>
    cases b with
    | nil => simp [ltAll]
    | cons y b =>
      show (if eqP (nt x) (nt y) = true then ltAll (a.map nt) (b.map nt) else ltP (nt x) (nt y)) = _
      rw [ntOk.eqv, ih, Bool.eq_iff_iff]
      by_cases h : x = y
      · subst h; simp
      · simp [h, ltP, List.cons_lt_cons_iff]
theorem le3_eq (a b : List Nat) : Au.le3 a b = decide (a ≤ b) := by
  show (!ltAll (b.map nt) (a.map nt)) = _
  rw [ltAll_nt, Bool.eq_iff_iff]
  simp
theorem le3_anti (a b : List Nat) (h : Au.le3 a b = true) (g : Au.le3 b a = true) : a = b := by
  rw [le3_eq] at h g
  exact List.le_antisymm (by simpa using h) (by simpa using g)
theorem le3_trans (a b c : List Nat) (h : Au.le3 a b = true) (g : Au.le3 b c = true) : Au.le3 a c = true := by
  rw [le3_eq] at *
  exact decide_eq_true (List.le_trans (by simpa using h) (by simpa using g))
theorem le3_total (a b : List Nat) : (Au.le3 a b || Au.le3 b a) = true := by
  rw [le3_eq, le3_eq]
  simp
  exact List.le_total a b
theorem sort_map (xs : List (List Nat)) : (xs.map mv).mergeSort leP = (xs.mergeSort Au.le3).map mv := (List.map_mergeSort (f := mv) (r := Au.le3) (s := leP) (l := xs) fun _ _ _ _ => rfl).symm
theorem alk_nt (a b : List Nat) : alkAll (a.map nt) (b.map nt) = true := by
  induction a generalizing b with
  | nil => cases b <;> rfl
  | cons x a ih =>
    cases b with
    | nil => rfl
    | cons y b => exact ih b
theorem sorted_mv (xs : List (List Nat)) (h : ∀ x ∈ xs, x ≠ []) (hl : xs.length ≤ 16777216) : bclP .sorted [.lst (xs.map mv)] = some (true, .lst ((xs.mergeSort Au.le3).map mv)) := by
  have ok : okSort (xs.map mv) = true := by
    simp only [okSort, Bool.and_eq_true, List.all_eq_true, decide_eq_true_eq, List.length_map]
    refine ⟨⟨⟨fun x hx y hy => ?_, fun x hx => ?_⟩, fun x hx => ?_⟩, hl⟩
    · obtain ⟨a, ha, rfl⟩ := List.mem_map.mp hx
      obtain ⟨b, hb, rfl⟩ := List.mem_map.mp hy
      exact alk_nt a b
    · obtain ⟨a, ha, rfl⟩ := List.mem_map.mp hx
      cases a with
      | nil => exact absurd rfl (h _ ha)
      | cons => rfl
    · obtain ⟨a, ha, rfl⟩ := List.mem_map.mp hx
      exact Nat.le_trans (mvOk.dep a) (by decide)
  show (sortP (xs.map mv)).map _ = _
  rw [sortP, if_pos ok, sort_map]; rfl
theorem intsP_nt (a : List Nat) : intsP (a.map nt) = some (a.map fun (x : Nat) => (x : Int)) := by
  induction a with
  | nil => rfl
  | cons x a ih => simp [intsP, ih]
theorem set_mv (xs : List (List Nat)) (hl : xs.length < 64) : bclP .set [.lst (xs.map mv)] = some (true, .pst ((uq xs).map mv)) := by
  have ok : okSet (xs.map mv) = true := by
    simp only [okSet, Bool.and_eq_true, List.all_eq_true, decide_eq_true_eq, List.length_map]
    refine ⟨hl, fun x hx => ?_⟩
    obtain ⟨a, ha, rfl⟩ := List.mem_map.mp hx
    show (intsP (a.map nt)).isSome = true
    rw [intsP_nt]; rfl
  show setP (xs.map mv) = _
  unfold setP
  rw [if_pos ok]
  have := mvOk.dedup [] xs
  exact congrArg (fun l => some (true, PV.pst l)) this
theorem okR1 (d : Nat) (ys : List PV) : okRow d (.tup ys) = (decide (ys.length = d) && (match intsP ys with | some is => is.all fun i => decide (0 ≤ i ∧ i < 2 ^ 30) | none => false)) := rfl
theorem okR2 (d : Nat) (a : List Nat) (h1 : a.length = d) (h2 : ∀ i ∈ a, i < 2 ^ 30) : (List.map (fun (x : Nat) => (x : Int)) a).all (fun i => decide (0 ≤ i ∧ i < 2 ^ 30)) = true := by
  rw [List.all_eq_true]
  intro i hi
  obtain ⟨x, hx, rfl⟩ := List.mem_map.mp hi
  have := h2 x hx
  exact decide_eq_true (by omega)
theorem okR (d : Nat) (a : List Nat) (h1 : a.length = d) (h2 : ∀ i ∈ a, i < 2 ^ 30) : okRow d (mv a) = true := by
  rw [mv, okR1, intsP_nt]
  have := okR2 d a h1 h2
  rw [List.length_map, h1, decide_eq_true rfl, Bool.true_and]
  exact this
theorem okRs (d : Nat) (xs : List (List Nat)) (h : ∀ x ∈ xs, x.length = d ∧ ∀ i ∈ x, i < 2 ^ 30) (hd : 1 ≤ d) (hn : xs ≠ []) : okRows (xs.map mv) = true := by
  have w : widthP (xs.map mv) = d := by
    cases xs with
    | nil => exact absurd rfl hn
    | cons x xs => have := (h x (by simp)).1; simpa [widthP] using this
  simp only [okRows, w, Bool.and_eq_true, decide_eq_true_eq, List.all_eq_true]
  refine ⟨hd, fun x hx => ?_⟩
  obtain ⟨a, ha, rfl⟩ := List.mem_map.mp hx
  obtain ⟨h1, h2⟩ := h a ha
  exact okR d a h1 h2
theorem sP (xs : List PV) : bclP .sorted [.pst xs] = if okRows xs = true ∧ xs ≠ [] then some (true, PV.lst (xs.mergeSort leP)) else if okInts xs = true ∧ xs.length < 64 then some (true, .lst (xs.mergeSort leP)) else none := rfl
theorem sorted_pst (d : Nat) (xs : List (List Nat)) (h : ∀ x ∈ xs, x.length = d ∧ ∀ i ∈ x, i < 2 ^ 30) (hd : 1 ≤ d) (hn : xs ≠ []) : bclP .sorted [.pst (xs.map mv)] = some (true, .lst ((xs.mergeSort Au.le3).map mv)) := by
  have ok := okRs d xs h hd hn
  have hne : xs.map mv ≠ [] := by simpa using hn
  rw [sP, if_pos ⟨ok, hne⟩, sort_map]
theorem cl_lt (A : Au) (hn : A.n ≤ 60) (i : Nat) : ∀ q, (A.cl i).getD q 0 < 2 ^ 30 := by
  intro q
  rcases Nat.lt_or_ge q A.n with hq | hq
  · cases i with
    | zero =>
      simp [Au.cl, Au.ini, List.getD, hq]
      split <;> omega
    | succ i =>
      rw [A.cl_succ i hq]
      have := List.idxOf_lt_length_iff.mpr ((A.rows_mem (A.cl i) _).mpr (A.sg_mem (A.cl i) hq))
      have h2 : (A.rows (A.cl i)).length ≤ A.n := by
        rw [Au.rows, List.length_mergeSort]
        have := (uq_sublist (A.sg (A.cl i))).length_le
        simpa [Au.sg] using this
      omega
  · simp [List.getD, A.cl_length, hq]
theorem sg_rows (A : Au) (f : List Nat) : ∀ x ∈ A.sg f, x.length = 3 := by
  intro x hx
  obtain ⟨q, _, rfl⟩ := List.mem_map.mp hx
  rfl
theorem sg_next (A : Au) (i : Nat) : (A.sg (A.cl i)).map (fun s => nt ((A.rows (A.cl i)).idxOf s)) = (A.cl (i + 1)).map nt := by
  show _ = (A.ref _).map nt
  simp [Au.ref]
theorem classes_ok (k : Nat) (A : Au) (ok : A.Ok) (hn : A.n ≤ 60) (hp : Hs) :
    callF G (k + 1) 14 [pv A] hp = some ((true, .lst ((A.cl A.n).map nt)), hp) := by
  obtain ⟨s1, s2⟩ := Small A hn
  refine call_eq fn_classes rfl rfl ?_
  have el : A.st.length = A.n := rfl
  simp -implicitDefEqProofs [-List.getD_eq_getElem?_getD, -List.map_map, b_classes, el, rng_nt _ s1]
  refine Wp_of (lcE_map1 (g := fun q => nt (if q ∈ A.good then 1 else 0)) fun q _ => ?_) ?_
  · simp -implicitDefEqProofs [-List.getD_eq_getElem?_getD, -List.map_map, lcB]
    by_cases h : q ∈ A.good <;> simp -implicitDefEqProofs [-List.getD_eq_getElem?_getD, -List.map_map, h, b2i]
  rw [show (List.range A.n).map (fun q => nt (if q ∈ A.good then 1 else 0)) = (A.cl 0).map nt by simp [Au.cl, Au.ini]]
  simp -implicitDefEqProofs [-List.getD_eq_getElem?_getD, -List.map_map, A.cl_length, s2, rng_nt _ s1, el]
  rw [← upTo_nt]
  refine Wp_rng A.n (fun i env h => h = hp ∧ ∃ x4 x5 x6, env = [some (false, pv A), some (false, .tup (A.good.map nt)), some (false, .tup (A.st.map sp)), some (true, .lst ((A.cl i).map nt)), x4, x5, x6, none, none]) ⟨rfl, _, _, _, rfl⟩ ?_ ?_
  · rintro i env h hi ⟨rfl, x4, x5, x6, rfl⟩
    simp -implicitDefEqProofs [-List.getD_eq_getElem?_getD, -List.map_map, el, rng_nt _ s1]
    refine Wp_of (lcE_map1 (g := fun q => mv [(A.cl i).getD q 0, (A.cl i).getD (A.go q 0) 0, (A.cl i).getD (A.go q 1) 0]) fun q hq => ?_) ?_
    · have hq := List.mem_range.mp hq
      have h0 := ok.go hq 0
      have h1 := ok.go hq 1
      simp only [lcB]
      simp -implicitDefEqProofs [-List.getD_eq_getElem?_getD, -List.map_map, st_at hq, nt_at, A.cl_length, hq, h0, h1, List.getD]
    rw [show (List.range A.n).map (fun q => mv [(A.cl i).getD q 0, (A.cl i).getD (A.go q 0) 0, (A.cl i).getD (A.go q 1) 0]) = (A.sg (A.cl i)).map mv by simp [Au.sg]]
    have e1 : (A.sg (A.cl i)).length = A.n := by simp [Au.sg]
    have hpos : 0 < A.n := Nat.lt_of_le_of_lt (Nat.zero_le _) ok.s
    simp -implicitDefEqProofs [-List.getD_eq_getElem?_getD, -List.map_map, e1, s2]
    rw [set_mv _ (by omega)]
    simp -implicitDefEqProofs [-List.getD_eq_getElem?_getD, -List.map_map]
    rw [sorted_pst 3 _ (fun x hx => ?_) (by decide) ?_]
    · simp -implicitDefEqProofs [-List.getD_eq_getElem?_getD, -List.map_map]
      refine Wp_of (lcE_map1 (g := fun s => nt ((A.rows (A.cl i)).idxOf s)) fun s hs => ?_) ?_
      · simp -implicitDefEqProofs [-List.getD_eq_getElem?_getD, -List.map_map, lcB]
        have := mvOk.index_lst s (A.rows (A.cl i)) (by decide) ((A.rows_mem _ _).mpr hs)
        simp -implicitDefEqProofs [-List.getD_eq_getElem?_getD, -List.map_map] at this
        rw [show (uq (A.sg (A.cl i))).mergeSort Au.le3 = A.rows (A.cl i) from rfl, this]; rfl
      · rw [sg_next]
        simp -implicitDefEqProofs [-List.getD_eq_getElem?_getD, -List.map_map, e1, s2, A.cl_length]
    · intro e
      have := mem_uq.mpr (A.sg_mem (A.cl i) hpos)
      rw [e] at this
      simp -implicitDefEqProofs [-List.getD_eq_getElem?_getD, -List.map_map] at this
    · have hx := mem_uq.mp hx
      refine ⟨sg_rows A _ x hx, ?_⟩
      obtain ⟨q, hq, rfl⟩ := List.mem_map.mp hx
      intro j hj
      simp only [List.mem_cons, List.not_mem_nil, or_false] at hj
      rcases hj with rfl | rfl | rfl <;> exact cl_lt A hn i _
  · rintro env h ⟨rfl, x4, x5, x6, rfl⟩
    simp -implicitDefEqProofs [-List.getD_eq_getElem?_getD, -List.map_map]
theorem unlike_ok (k : Nat) (xs : List (List Nat)) (hx : ∀ x ∈ xs, x ≠ []) (hl : xs.length ≤ 10000) (hp : Hs) :
    callF G (k + 1) 30 [.lst (xs.map mv)] hp = some ((false, .tup ((uq (xs.mergeSort Au.le3)).map mv)), hp) := by
  refine call_eq fn_law_unlike rfl rfl ?_
  simp -implicitDefEqProofs [-List.getD_eq_getElem?_getD, -List.map_map, b_law_unlike, sorted_mv xs hx (by omega)]
  refine Wp_for (fun done rest env h => h = hp ∧ done ++ rest = xs.mergeSort Au.le3 ∧ ∃ x2, env = [some (false, .lst (xs.map mv)), some (true, .lst ((uq done).map mv)), x2]) ?_ (xs.mergeSort Au.le3) [] _ _ ⟨rfl, rfl, _, rfl⟩ ?_
  · rintro done x rest env h ⟨rfl, hd, x2, rfl⟩
    have hlen : (uq done).length ≤ xs.length := by
      have h1 := (uq_sublist done).length_le
      have h2 := congrArg List.length hd
      simp -implicitDefEqProofs [-List.getD_eq_getElem?_getD, -List.map_map] at h2
      omega
    have hlt : (uq done).length < 16777216 := by omega
    simp -implicitDefEqProofs [-List.getD_eq_getElem?_getD, -List.map_map, hlt, hd]
    refine ⟨fun hm => ?_, fun hm => ?_⟩
    · rw [uq_snoc, add_of_mem hm]
    · rw [uq_snoc, show add (uq done) x = uq done ++ [x] from if_neg hm]
      simp -implicitDefEqProofs [-List.getD_eq_getElem?_getD, -List.map_map]
  · rintro env h ⟨rfl, hd, x2, rfl⟩
    simp -implicitDefEqProofs [-List.getD_eq_getElem?_getD, -List.map_map] at hd
    simp -implicitDefEqProofs [-List.getD_eq_getElem?_getD, -List.map_map, hd]
/-- the rows, as the law finds them -/
theorem rows_law (A : Au) (f : List Nat) : uq ((A.sg f).mergeSort Au.le3) = A.rows f := (sort_uq le3_anti le3_trans le3_total _).symm
theorem law_classes_ok (k : Nat) (A : Au) (ok : A.Ok) (hn : A.n ≤ 60) (hp : Hs) :
    callF G (k + 2) 36 [pv A] hp = some ((true, .lst ((A.cl A.n).map nt)), hp) := by
  obtain ⟨s1, s2⟩ := Small A hn
  refine call_eq fn_law_classes rfl rfl ?_
  have el : A.st.length = A.n := rfl
  simp -implicitDefEqProofs [-List.getD_eq_getElem?_getD, -List.map_map, b_law_classes, el, rng_nt _ s1]
  refine Wp_of (lcE_map1 (g := fun q => nt (if q ∈ A.good then 1 else 0)) fun q _ => ?_) ?_
  · simp -implicitDefEqProofs [-List.getD_eq_getElem?_getD, -List.map_map, lcB]
    by_cases h : q ∈ A.good <;> simp -implicitDefEqProofs [-List.getD_eq_getElem?_getD, -List.map_map, h, b2i]
  rw [show (List.range A.n).map (fun q => nt (if q ∈ A.good then 1 else 0)) = (A.cl 0).map nt by simp [Au.cl, Au.ini]]
  simp -implicitDefEqProofs [-List.getD_eq_getElem?_getD, -List.map_map, A.cl_length, s2, rng_nt _ s1, el]
  rw [← upTo_nt]
  refine Wp_rng A.n (fun i env h => h = hp ∧ ∃ x3 x4 x5, env = [some (false, pv A), some (false, .int A.n), some (true, .lst ((A.cl i).map nt)), x3, x4, x5, none, none]) ⟨rfl, _, _, _, rfl⟩ ?_ ?_
  · rintro i env h hi ⟨rfl, x3, x4, x5, rfl⟩
    simp -implicitDefEqProofs [-List.getD_eq_getElem?_getD, -List.map_map, rng_nt _ s1]
    refine Wp_of (lcE_map1 (g := fun q => mv [(A.cl i).getD q 0, (A.cl i).getD (A.go q 0) 0, (A.cl i).getD (A.go q 1) 0]) fun q hq => ?_) ?_
    · have hq := List.mem_range.mp hq
      have h0 := ok.go hq 0
      have h1 := ok.go hq 1
      simp only [lcB]
      simp -implicitDefEqProofs [-List.getD_eq_getElem?_getD, -List.map_map, st_at hq, nt_at, A.cl_length, hq, h0, h1, List.getD]
    rw [show (List.range A.n).map (fun q => mv [(A.cl i).getD q 0, (A.cl i).getD (A.go q 0) 0, (A.cl i).getD (A.go q 1) 0]) = (A.sg (A.cl i)).map mv by simp [Au.sg]]
    have e1 : (A.sg (A.cl i)).length = A.n := by simp [Au.sg]
    simp -implicitDefEqProofs [-List.getD_eq_getElem?_getD, -List.map_map, e1, s2]
    refine Wp_of (unlike_ok k (A.sg (A.cl i)) (fun x hx => ?_) (by omega) h) ?_
    · have := sg_rows A _ x hx
      intro e
      rw [e] at this
      simp at this
    rw [rows_law]
    simp -implicitDefEqProofs [-List.getD_eq_getElem?_getD, -List.map_map]
    refine Wp_of (lcE_map1 (g := fun s => nt ((A.rows (A.cl i)).idxOf s)) fun s hs => ?_) ?_
    · simp -implicitDefEqProofs [-List.getD_eq_getElem?_getD, -List.map_map, lcB]
      have := mvOk.index_tup s (A.rows (A.cl i)) (by decide) ((A.rows_mem _ _).mpr hs)
      simp -implicitDefEqProofs [-List.getD_eq_getElem?_getD, -List.map_map] at this
      rw [this]; rfl
    · rw [sg_next]
      simp -implicitDefEqProofs [-List.getD_eq_getElem?_getD, -List.map_map, e1, s2, A.cl_length]
  · rintro env h ⟨rfl, x4, x5, x6, rfl⟩
    simp -implicitDefEqProofs [-List.getD_eq_getElem?_getD, -List.map_map]
end K90
set_option maxRecDepth 100000
namespace K90
open PySem (Str)
open MP MX AU
/-! ### the search among states -/
abbrev AB : Str := PySem.Str.ofString "ab"
theorem AB_eq : PySem.Str.ofString "ab" = ⟨#[97, 98]⟩ := by rfl
theorem cst0 : G.cst 0 = some (.str (PySem.Str.ofString "ab")) := by rfl
theorem empty_eq : PySem.Str.ofString "" = ⟨#[]⟩ := by rfl
/-- a dict from states to words -/
def dk (kvs : List (Nat × List Nat)) : List (PV × PV) := kvs.map fun p => (nt p.1, tx p.2)
theorem dk_len (kvs : List (Nat × List Nat)) : (dk kvs).length = kvs.length := by simp [dk]
theorem dk_clean (kvs : List (Nat × List Nat)) : ((dk kvs).all fun p => p.1.lf && p.2.lf) = true := by
  simp [dk]
theorem dk_nin (a : Nat) (kvs : List (Nat × List Nat)) : cmpP .nin (.int (a : Int)) (.dct (dk kvs)) = some (decide (a ∉ kvs.map (·.1))) := by
  have h1 : okKey (.int (a : Int)) (dk kvs) = true := okKey_s (enc := nt) (fun _ => rfl) tx a kvs
  have h2 : keysP (dk kvs) = (kvs.map (·.1)).map nt := keysP_enc nt tx kvs
  rw [nin_dct, h1, h2]
  have := ntOk.memP a (kvs.map (·.1))
  rw [nt_eq] at this
  simp [this, -List.map_map]
theorem dk_get (a : Nat) (kvs : List (Nat × List Nat)) : idxP (.dct (dk kvs)) (.int (a : Int)) = (kvs.lookup a).map tx := by
  have h1 : okKey (.int (a : Int)) (dk kvs) = true := okKey_s (enc := nt) (fun _ => rfl) tx a kvs
  rw [idx_dct, h1]
  exact getKv_enc ntOk tx a kvs
theorem dk_put (a : Nat) (w : List Nat) (kvs : List (Nat × List Nat)) (h : a ∉ kvs.map (·.1)) (hl : kvs.length < 16777216) : putP (.dct (dk kvs)) (.int (a : Int)) (.str ⟨w.toArray⟩) = some (.dct (dk (kvs ++ [(a, w)]))) := by
  have h1 : okKey (.int (a : Int)) (dk kvs) = true := okKey_s (enc := nt) (fun _ => rfl) tx a kvs
  rw [putP_dct, h1, dk_len]
  simp [hl]
  exact setKv_new ntOk tx a w kvs h
theorem lookup_mem {β : Type} {a : Nat} {kvs : List (Nat × β)} (h : a ∈ kvs.map (·.1)) : ∃ b, kvs.lookup a = some b ∧ (a, b) ∈ kvs := by
  induction kvs with
  | nil => simp at h
  | cons p kvs ih =>
    obtain ⟨k, v⟩ := p
    by_cases e : a = k
    · subst e; exact ⟨v, by simp, by simp⟩
    · have h : a ∈ kvs.map (·.1) := by simpa [e] using h
      obtain ⟨b, h1, h2⟩ := ih h
      have e2 : (a == k) = false := by simp [e]
      exact ⟨b, by rw [List.lookup_cons, e2]; exact h1, by simp [h2]⟩
theorem go_lt2 (A : Au) (q : Nat) {k : Nat} (h : k < 2) : atP [PV.int (A.go q 0 : Nat), PV.int (A.go q 1 : Nat)] (k : Int) = some (.int (A.go q k : Nat)) := by
  rcases (by omega : k = 0 ∨ k = 1) with rfl | rfl <;> rfl
theorem AB_at {k : Nat} (h : k < 2) : idxP (.str (PySem.Str.ofString "ab")) (.int (k : Int)) = some (.str ⟨#[97 + k]⟩) := by
  rcases (by omega : k = 0 ∨ k = 1) with rfl | rfl <;> rfl
theorem getD_mem {L : List Nat} {i : Nat} (h : i < L.length) : L.getD i 0 ∈ L := by
  have e : L.getD i 0 = L[i] := by simp [List.getD, h]
  rw [e]; exact List.getElem_mem _
theorem drop_getD {L : List Nat} {i : Nat} (h : i < L.length) : L.drop i = L.getD i 0 :: L.drop (i + 1) := by
  rw [List.drop_eq_getElem_cons h]
  simp [List.getD, h]
theorem take_getD {L : List Nat} {i : Nat} (h : i < L.length) : L.take (i + 1) = L.take i ++ [L.getD i 0] := by
  rw [List.take_succ_eq_append_getElem h]
  simp [List.getD, h]
structure KvOk (kvs : List (Nat × List Nat)) (L : List Nat) : Prop where
  keys : kvs.map (·.1) = L
  len : ∀ p ∈ kvs, p.2.length ≤ L.length
/-- one member's successors are added -/
def adds (A : Au) (q : Nat) (M : List Nat) (ks : List Nat) : List Nat := ks.foldl (fun M k => add M (A.go q k)) M
theorem adds_snoc (A : Au) (q : Nat) (M : List Nat) (ks : List Nat) (k : Nat) : adds A q M (ks ++ [k]) = add (adds A q M ks) (A.go q k) := by simp [adds]
theorem adds_pre (A : Au) (q : Nat) (M : List Nat) (ks : List Nat) : M <+: adds A q M ks := by
  induction ks generalizing M with
  | nil => exact List.prefix_refl _
  | cons c ks ih => exact (add_pre _ _).trans (ih _)
theorem adds_ok {A : Au} (ok : A.Ok) {q : Nat} (hq : q < A.n) (ks : List Nat) {M : List Nat} (h1 : M.Nodup) (h2 : ∀ x ∈ M, x < A.n) : (adds A q M ks).Nodup ∧ (∀ x ∈ adds A q M ks, x < A.n) := by
  induction ks generalizing M with
  | nil => exact ⟨h1, h2⟩
  | cons c ks ih => exact ih (nodup_add h1) (fun x hm => (mem_add.mp hm).elim (h2 x) fun e => e ▸ ok.go hq c)
theorem bs_adds (A : Au) (L : List Nat) (i : Nat) : A.bs L i = adds A (L.getD i 0) L [0, 1] := rfl
theorem pre_split {l m M : List Nat} (h : l ++ m <+: M) : ∃ r, M = l ++ r ∧ m <+: r := by
  obtain ⟨t, rfl⟩ := h
  exact ⟨m ++ t, by simp, List.prefix_append _ _⟩
theorem reached_ok (k : Nat) (A : Au) (ok : A.Ok) (hn : A.n ≤ 60) (hp : Hs) :
    ∃ L w, A.BS L L.length ∧ callF G (k + 1) 9 [pv A] hp = some ((false, .tup [.lst (L.map nt), .dct w]), hp) := by
  have hw : Wp (callF G (k + 1) 9 [pv A] hp) fun r => ∃ L w, A.BS L L.length ∧ r = ((false, .tup [.lst (L.map nt), .dct w]), hp) := by
    refine Wp_call fn_reached rfl rfl ?_
    simp -implicitDefEqProofs [-List.getD_eq_getElem?_getD, -List.map_map, b_reached, empty_eq, isKey]
    refine Wp_whl (fun m env h => h = hp ∧ ∃ fd wt kvs x4 x5 x6, A.BS (fd ++ wt) fd.length ∧ m = A.n - fd.length ∧ KvOk kvs (fd ++ wt) ∧
      env = [some (false, pv A), some (true, .dct (dk kvs)), some (true, .lst (wt.map nt)), some (true, .lst (fd.map nt)), x4, x5, x6]) ?_ _ A.n _ _ ?_ ?_
    · rintro m env h ⟨rfl, fd, wt, kvs, x4, x5, x6, hb, rfl, hk, rfl⟩
      have hbo := hb.ok ok
      have hlen := hb.length ok
      simp -implicitDefEqProofs [-List.getD_eq_getElem?_getD, -List.map_map] at hlen
      cases wt with
      | nil =>
        simp -implicitDefEqProofs [-List.getD_eq_getElem?_getD, -List.map_map]
        exact ⟨fd, by simp -implicitDefEqProofs [-List.getD_eq_getElem?_getD, -List.map_map] at hb; exact hb, rfl⟩
      | cons q wt =>
        have hq : q < A.n := hbo.2.1 q (by simp -implicitDefEqProofs [-List.getD_eq_getElem?_getD, -List.map_map])
        have hpos : (0 : Int) < (wt.length : Int) + 1 := by omega
        have hfl : fd.length < 16777216 := by simp -implicitDefEqProofs [-List.getD_eq_getElem?_getD, -List.map_map] at hlen; omega
        have hg : (fd ++ q :: wt).getD fd.length 0 = q := by simp -implicitDefEqProofs [-List.getD_eq_getElem?_getD, -List.map_map, List.getD]
        simp -implicitDefEqProofs [-List.getD_eq_getElem?_getD, -List.map_map, hpos, hfl]
        show Wp (forE (Tg.nm 5) _ ([0, 1].map nt) _ _) _
        refine Wp_for (fun done rest env h' => h' = h ∧ ∃ kvs wt' x5 x6, done ++ rest = [0, 1] ∧ KvOk kvs (adds A q (fd ++ q :: wt) done) ∧ adds A q (fd ++ q :: wt) done = fd ++ q :: wt' ∧
          env = [some (false, pv A), some (true, .dct (dk kvs)), some (true, .lst (wt'.map nt)), some (true, .lst ((fd ++ [q]).map nt)), some (false, .int (q : Nat)), x5, x6]) ?_ [0, 1] [] _ _ ⟨rfl, kvs, wt, x5, x6, rfl, hk, rfl, by simp -implicitDefEqProofs [-List.getD_eq_getElem?_getD, -List.map_map]⟩ ?_
        · rintro done c rest env h' ⟨rfl, kvs, wt', x5, x6, hd, hk, hM, rfl⟩
          have hc : c < 2 := by
            have : c ∈ [0, 1] := by rw [← hd]; simp -implicitDefEqProofs [-List.getD_eq_getElem?_getD, -List.map_map]
            simp -implicitDefEqProofs [-List.getD_eq_getElem?_getD, -List.map_map] at this
            omega
          obtain ⟨m1, m2⟩ := adds_ok ok hq done hbo.1 hbo.2.1
          have ml : (adds A q (fd ++ q :: wt) done).length ≤ A.n := by
            have := nodup_sub_length m1 (m := List.range A.n) (fun q hq => List.mem_range.mpr (m2 q hq))
            simp -implicitDefEqProofs [-List.getD_eq_getElem?_getD, -List.map_map] at this
            exact this
          have kl : kvs.length = (adds A q (fd ++ q :: wt) done).length := by rw [← hk.keys, List.length_map]
          have qM : q ∈ kvs.map (·.1) := by rw [hk.keys, hM]; simp -implicitDefEqProofs [-List.getD_eq_getElem?_getD, -List.map_map]
          obtain ⟨w, hw1, hw2⟩ := lookup_mem qM
          have hwl := hk.len _ hw2
          simp -implicitDefEqProofs [-List.getD_eq_getElem?_getD, -List.map_map] at hwl
          have hwl2 : w.length + 1 ≤ 16777216 := by omega
          have hkl : kvs.length < 16777216 := by omega
          have hw' : wt'.length < 16777216 := by
            rw [hM] at ml
            simp -implicitDefEqProofs [-List.getD_eq_getElem?_getD, -List.map_map] at ml
            omega
          simp -implicitDefEqProofs [-List.getD_eq_getElem?_getD, -List.map_map, st_at hq, go_lt2 A _ hc, dk_nin, hk.keys]
          by_cases hm : A.go q c ∈ adds A q (fd ++ q :: wt) done
          · simp -implicitDefEqProofs [-List.getD_eq_getElem?_getD, -List.map_map, hm]
            refine ⟨hd, kvs, ?_, wt', ?_, rfl, rfl⟩ <;> rw [adds_snoc, add_of_mem hm]
            · exact hk
            · exact hM
          · have ea : add (adds A q (fd ++ q :: wt) done) (A.go q c) = adds A q (fd ++ q :: wt) done ++ [A.go q c] := if_neg hm
            have hap : (⟨w.toArray⟩ : Str) ++ (⟨#[97 + c]⟩ : Str) = ⟨(w ++ [97 + c]).toArray⟩ := by
              show Str.append _ _ = _
              simp -implicitDefEqProofs [-List.getD_eq_getElem?_getD, -List.map_map, PySem.Str.append]
            have hsl : (⟨w.toArray⟩ : Str).length + (⟨#[97 + c]⟩ : Str).length ≤ 16777216 := by
              simp -implicitDefEqProofs [-List.getD_eq_getElem?_getD, -List.map_map, PySem.Str.length]
              omega
            simp -implicitDefEqProofs [-List.getD_eq_getElem?_getD, -List.map_map, hm, dk_get, hw1, cst0, AB_at hc, hap, hsl, hkl, hw', dk_put _ _ _ (show A.go q c ∉ kvs.map (·.1) by rw [hk.keys]; exact hm)]
            refine ⟨hd, _, ?_, wt' ++ [A.go q c], ?_, rfl, by simp -implicitDefEqProofs [-List.getD_eq_getElem?_getD, -List.map_map]⟩
            · rw [adds_snoc, ea]
              refine ⟨by simp -implicitDefEqProofs [-List.getD_eq_getElem?_getD, -List.map_map, hk.keys], fun p hp => ?_⟩
              rcases List.mem_append.mp hp with hp | hp
              · have := hk.len p hp
                simp -implicitDefEqProofs [-List.getD_eq_getElem?_getD, -List.map_map]
                omega
              · simp -implicitDefEqProofs [-List.getD_eq_getElem?_getD, -List.map_map] at hp
                subst hp
                simp -implicitDefEqProofs [-List.getD_eq_getElem?_getD, -List.map_map]
                omega
            · rw [adds_snoc, ea, hM]
              simp -implicitDefEqProofs [-List.getD_eq_getElem?_getD, -List.map_map]
        · rintro env h' ⟨rfl, kvs, wt', x5, x6, hd, hk, hM, rfl⟩
          simp -implicitDefEqProofs [-List.getD_eq_getElem?_getD, -List.map_map] at hM hk
          have hb' : A.BS (fd ++ q :: wt') (fd.length + 1) := by
            have := hb.step (by simp -implicitDefEqProofs [-List.getD_eq_getElem?_getD, -List.map_map])
            rw [bs_adds, hg, hM] at this
            exact this
          simp -implicitDefEqProofs [-List.getD_eq_getElem?_getD, -List.map_map]
          refine ⟨A.n - (fd.length + 1), by simp -implicitDefEqProofs [-List.getD_eq_getElem?_getD, -List.map_map] at hlen; omega, fd ++ [q], wt', ?_, ?_, kvs, ?_, rfl, rfl, ?_⟩
          · simp -implicitDefEqProofs [-List.getD_eq_getElem?_getD, -List.map_map]; exact hb'
          · simp -implicitDefEqProofs [-List.getD_eq_getElem?_getD, -List.map_map]
          · rw [hM] at hk; simp -implicitDefEqProofs [-List.getD_eq_getElem?_getD, -List.map_map]; exact hk
          · simp -implicitDefEqProofs [-List.getD_eq_getElem?_getD, -List.map_map]
    · show A.n < 1000000
      omega
    · refine ⟨rfl, [], [A.s], [(A.s, [])], none, none, none, .ini, rfl, ⟨rfl, by simp -implicitDefEqProofs [-List.getD_eq_getElem?_getD, -List.map_map]⟩, ?_⟩
      simp -implicitDefEqProofs [-List.getD_eq_getElem?_getD, -List.map_map, dk]
  obtain ⟨r, e, L, w, h1, rfl⟩ := hw
  exact ⟨L, w, h1, e⟩
/-! ### the least automaton -/
theorem c_at {A : Au} {q : Nat} (h : q < A.n) : ((A.cl A.n).map nt)[q]? = some (.int (A.c q : Nat)) := nt_at (by rw [A.cl_length]; exact h)
def ladds (A : Au) (q : Nat) (M : List Nat) (ks : List Nat) : List Nat := ks.foldl (fun M k => A.ladd M (A.go q k)) M
theorem ladds_snoc (A : Au) (q : Nat) (M : List Nat) (ks : List Nat) (k : Nat) : ladds A q M (ks ++ [k]) = A.ladd (ladds A q M ks) (A.go q k) := by simp [ladds]
theorem ladds_ok {A : Au} (ok : A.Ok) {q : Nat} (hq : q < A.n) (ks : List Nat) {M : List Nat} (h2 : ∀ x ∈ M, x < A.n) : M <+: ladds A q M ks ∧ (∀ x ∈ ladds A q M ks, x < A.n) ∧ (ladds A q M ks).length ≤ M.length + ks.length := by
  induction ks generalizing M with
  | nil => exact ⟨List.prefix_refl _, h2, by simp [ladds]⟩
  | cons c ks ih =>
    have h3 : ∀ x ∈ A.ladd M (A.go q c), x < A.n := fun x hm => by
      unfold Au.ladd at hm
      split at hm
      · exact h2 x hm
      · rcases List.mem_append.mp hm with hm | hm
        · exact h2 x hm
        · simp at hm; subst hm; exact ok.go hq c
    obtain ⟨a, b, d⟩ := ih h3
    have hl : (A.ladd M (A.go q c)).length ≤ M.length + 1 := by
      unfold Au.ladd
      split <;> simp
    exact ⟨(Au.ladd_pre _ _).trans a, b, by simp at d ⊢; simp only [ladds, List.foldl_cons] at d ⊢; omega⟩
theorem ls_ladds (A : Au) (L : List Nat) (i : Nat) : A.ls L i = ladds A (L.getD i 0) L [0, 1] := rfl
/-- what is made of a list of members -/
theorem lm_steps (A : Au) (M : List Nat) : (A.lm M).st.map sp = M.map fun x => .tup [.int ((M.map A.c).idxOf (A.c (A.go x 0)) : Nat), .int ((M.map A.c).idxOf (A.c (A.go x 1)) : Nat)] := by
  simp [Au.lm]
theorem lm_good (A : Au) (M : List Nat) : (A.lm M).good.map nt = ((List.range M.length).filter fun k => decide (M.getD k 0 ∈ A.good)).map nt := rfl
theorem law_least_ok (k : Nat) (A : Au) (ok : A.Ok) (hn : A.n ≤ 20) (hp : Hs) :
    callF G (k + 3) 37 [pv A] hp = some ((false, pv A.least), hp) := by
  refine call_eq fn_law_least rfl rfl ?_
  simp -implicitDefEqProofs [-List.getD_eq_getElem?_getD, -List.map_map, b_law_least]
  refine Wp_of (law_classes_ok k A ok (by omega) hp) ?_
  simp -implicitDefEqProofs [-List.getD_eq_getElem?_getD, -List.map_map]
  refine Wp_whl (fun m env h => h = hp ∧ ∃ L i x4 x5 x6 x7 x8, A.LS L i ∧ m = A.n - i ∧
      env = [some (false, pv A), some (true, .lst ((A.cl A.n).map nt)), some (true, .lst (L.map nt)), some (false, .int (i : Nat)), x4, x5, x6, x7, x8]) ?_ _ A.n _ _ ?_ ?_
  · rintro m env h ⟨rfl, L, i, x4, x5, x6, x7, x8, hb, rfl, rfl⟩
    have hbo := hb.ok ok
    have hlen := hb.length ok
    by_cases hi : i < L.length
    · have hi20 : (i : Int) < 20 := by omega
      have hq := hbo.2.1 _ (getD_mem hi)
      simp -implicitDefEqProofs [-List.getD_eq_getElem?_getD, -List.map_map, hi, hi20]
      show Wp (forE (Tg.nm 6) _ ([0, 1].map nt) _ _) _
      refine Wp_for (fun done rest env h' => h' = h ∧ ∃ x6 x7, done ++ rest = [0, 1] ∧
        env = [some (false, pv A), some (true, .lst ((A.cl A.n).map nt)), some (true, .lst ((ladds A (L.getD i 0) L done).map nt)), some (false, .int (i : Nat)), x4, x5, x6, x7, x8]) ?_ [0, 1] [] _ _ ⟨rfl, x6, x7, rfl, rfl⟩ ?_
      · rintro done c rest env h' ⟨rfl, x6, x7, hd, rfl⟩
        have hc : c < 2 := by
          have : c ∈ [0, 1] := by rw [← hd]; simp -implicitDefEqProofs [-List.getD_eq_getElem?_getD, -List.map_map]
          simp -implicitDefEqProofs [-List.getD_eq_getElem?_getD, -List.map_map] at this
          omega
        have hdl : done.length < 2 := by
          have := congrArg List.length hd
          simp -implicitDefEqProofs [-List.getD_eq_getElem?_getD, -List.map_map] at this
          omega
        obtain ⟨a1, a2, a3⟩ := ladds_ok ok hq done hbo.2.1
        have hi2 : i < (ladds A (L.getD i 0) L done).length := Nat.lt_of_lt_of_le hi a1.length_le
        have e1 := Au.pre_getD a1 hi
        have hl : (ladds A (L.getD i 0) L done).length ≤ 16777216 := by omega
        have hl2 : (ladds A (L.getD i 0) L done).length < 16777216 := by omega
        simp -implicitDefEqProofs [-List.getD_eq_getElem?_getD, -List.map_map, nt_at hi2, e1, st_at hq, go_lt2 A _ hc, c_at (ok.go hq c)]
        refine Wp_of (lcE_map1 (g := fun x => nt (A.c x)) fun x hx => ?_) ?_
        · simp -implicitDefEqProofs [-List.getD_eq_getElem?_getD, -List.map_map, c_at (a2 x hx)]
        rw [show (ladds A (L.getD i 0) L done).map (fun x => nt (A.c x)) = ((ladds A (L.getD i 0) L done).map A.c).map nt by simp]
        by_cases hm : A.c (A.go (L.getD i 0) c) ∈ (ladds A (L.getD i 0) L done).map A.c
        · simp -implicitDefEqProofs [-List.getD_eq_getElem?_getD, -List.map_map, hl, hm, -List.mem_map]
          exact ⟨hd, by rw [ladds_snoc, Au.ladd, if_pos hm]⟩
        · simp -implicitDefEqProofs [-List.getD_eq_getElem?_getD, -List.map_map, hl, hl2, hm, -List.mem_map]
          exact ⟨hd, by rw [ladds_snoc, Au.ladd, if_neg hm]; simp -implicitDefEqProofs [-List.getD_eq_getElem?_getD, -List.map_map]⟩
      · rintro env h' ⟨rfl, x6, x7, hd, rfl⟩
        simp -implicitDefEqProofs [-List.getD_eq_getElem?_getD, -List.map_map]
        refine ⟨A.n - (i + 1), by omega, _, i + 1, hb.step hi, rfl, ?_, ?_⟩
        · rw [ls_ladds]
        · rfl
    · have e : i = L.length := by have := hbo.2.2.1; omega
      subst e
      have eM : L = A.M := Au.LS.uniq hb (Au.M_ls ok)
      subst eM
      have hl : A.M.length ≤ 16777216 := by omega
      simp -implicitDefEqProofs [-List.getD_eq_getElem?_getD, -List.map_map]
      refine Wp_of (lcE_map1 (g := fun x => nt (A.c x)) fun x hx => ?_) ?_
      · simp -implicitDefEqProofs [-List.getD_eq_getElem?_getD, -List.map_map, c_at (hbo.2.1 x hx)]
      rw [show A.M.map (fun x => nt (A.c x)) = (A.M.map A.c).map nt by simp]
      simp -implicitDefEqProofs [-List.getD_eq_getElem?_getD, -List.map_map, hl, -List.map_map, -List.mem_map]
      refine Wp_of (lcE_map1 (g := fun x => .tup [.int ((A.M.map A.c).idxOf (A.c (A.go x 0)) : Nat), .int ((A.M.map A.c).idxOf (A.c (A.go x 1)) : Nat)]) fun x hx => ?_) ?_
      · have hx' := hbo.2.1 x hx
        obtain ⟨j, hj, ej⟩ := List.mem_iff_getElem.mp hx
        have ej : A.M.getD j 0 = x := by simp [List.getD, hj, ej]
        have m0 := hb.closed j hj 0
        have m1 := hb.closed j hj 1
        rw [ej] at m0 m1
        have i0 := ntOk.index_lst _ _ (by decide) m0
        have i1 := ntOk.index_lst _ _ (by decide) m1
        rw [nt_eq] at i0 i1
        refine Wp_eq ?_
        simp -implicitDefEqProofs [-List.getD_eq_getElem?_getD, -List.map_map, st_at hx', c_at (ok.go hx' 0), c_at (ok.go hx' 1), i0, i1]
      rw [← lm_steps]
      simp -implicitDefEqProofs [-List.getD_eq_getElem?_getD, -List.map_map, hl, rng_nt, show (A.lm A.M).st.length ≤ 16777216 by rw [show (A.lm A.M).st.length = A.M.length from Au.lm_n _]; exact hl]
      refine Wp_of (lcE_filter (p := fun k => decide (A.M.getD k 0 ∈ A.good)) (g := nt) fun j hj => ?_) ?_
      · have hj := List.mem_range.mp hj
        simp -implicitDefEqProofs [-List.getD_eq_getElem?_getD, -List.map_map, nt_at hj]
        split <;> rfl
      have hl2 : ((List.range A.M.length).filter fun k => decide (A.M.getD k 0 ∈ A.good)).length ≤ 16777216 := by
        have := List.length_filter_le (fun k => decide (A.M.getD k 0 ∈ A.good)) (List.range A.M.length)
        simp -implicitDefEqProofs [-List.getD_eq_getElem?_getD, -List.map_map] at this
        simp -implicitDefEqProofs [-List.getD_eq_getElem?_getD, -List.map_map]
        omega
      rw [← lm_good] at *
      simp -implicitDefEqProofs [-List.getD_eq_getElem?_getD, -List.map_map, Au.least]
      exact ⟨hl2, rfl⟩
  · show A.n < 1000000
    omega
  · exact ⟨rfl, [A.s], 0, none, none, none, none, none, .ini, rfl, rfl⟩
theorem idx0 (x : PV) (xs : List PV) : idxP (.lst (x :: xs)) (.int 0) = some x := rfl
/-- the first member of a class -/
def fstOf (A : Au) (L : List Nat) (lot : Nat) : Nat := (L.filter fun q => decide (A.c q = lot)).getD 0 0
theorem fstOf_ok {A : Au} {L : List Nat} {lot : Nat} (h : lot ∈ uq (L.map A.c)) : fstOf A L lot ∈ L ∧ A.c (fstOf A L lot) = lot ∧ ((L.filter fun q => decide (A.c q = lot)).map nt)[0]? = some (nt (fstOf A L lot)) := by
  have h := mem_uq.mp h
  obtain ⟨q, hq, e⟩ := List.mem_map.mp h
  have hf : q ∈ L.filter fun q => decide (A.c q = lot) := List.mem_filter.mpr ⟨hq, by simp [e]⟩
  unfold fstOf
  cases hL : L.filter fun q => decide (A.c q = lot) with
  | nil => rw [hL] at hf; simp at hf
  | cons r rs =>
    have hr : r ∈ L.filter fun q => decide (A.c q = lot) := by rw [hL]; simp
    have := List.mem_filter.mp hr
    refine ⟨this.1, by simpa using this.2, rfl⟩
theorem least_ok (k : Nat) (A : Au) (ok : A.Ok) (hn : A.n ≤ 20) (hp : Hs) :
    callF G (k + 2) 15 [pv A] hp = some ((false, pv A.least), hp) := by
  obtain ⟨L, w, hL, er⟩ := reached_ok k A ok (by omega) hp
  have hb := hL.ok ok
  have hll := hL.length ok
  refine call_eq fn_least rfl rfl ?_
  simp -implicitDefEqProofs [-List.getD_eq_getElem?_getD, -List.map_map, b_least]
  refine Wp_of (classes_ok k A ok (by omega) hp) ?_
  simp -implicitDefEqProofs [-List.getD_eq_getElem?_getD, -List.map_map]
  refine Wp_of er ?_
  simp -implicitDefEqProofs [-List.getD_eq_getElem?_getD, -List.map_map]
  refine Wp_for (fun done rest env h => h = hp ∧ ∃ x5, done ++ rest = L ∧ env = [some (false, pv A), some (false, .lst ((A.cl A.n).map nt)), some (false, .lst (L.map nt)), some (false, .dct w), some (true, .lst ((uq (done.map A.c)).map nt)), x5, none, none, none, none]) ?_ L [] _ _ ⟨rfl, none, rfl, rfl⟩ ?_
  · rintro done q rest env h ⟨rfl, x5, hd, rfl⟩
    have hq : q < A.n := hb.2.1 q (by rw [← hd]; simp -implicitDefEqProofs [-List.getD_eq_getElem?_getD, -List.map_map])
    have hdl : (uq (done.map A.c)).length < 16777216 := by
      have h1 := (uq_sublist (done.map A.c)).length_le
      have h2 := congrArg List.length hd
      simp -implicitDefEqProofs [-List.getD_eq_getElem?_getD, -List.map_map] at h1 h2
      omega
    by_cases hm : A.c q ∈ uq (done.map A.c)
    · simp -implicitDefEqProofs [-List.getD_eq_getElem?_getD, -List.map_map, c_at hq, hm]
      refine ⟨hd, ?_⟩
      rw [uq_snoc, add_of_mem hm]
    · simp -implicitDefEqProofs [-List.getD_eq_getElem?_getD, -List.map_map, c_at hq, hm, hdl]
      refine ⟨hd, ?_⟩
      rw [uq_snoc, show add (uq (done.map A.c)) (A.c q) = uq (done.map A.c) ++ [A.c q] from if_neg hm]
      simp -implicitDefEqProofs [-List.getD_eq_getElem?_getD, -List.map_map]
  · rintro env h ⟨rfl, x5, hd, rfl⟩
    simp -implicitDefEqProofs [-List.getD_eq_getElem?_getD, -List.map_map]
    have hol : (uq (L.map A.c)).length ≤ 16777216 := by
      have h1 := (uq_sublist (L.map A.c)).length_le
      simp -implicitDefEqProofs [-List.getD_eq_getElem?_getD, -List.map_map] at h1
      omega
    refine Wp_of (lcE_map1 (g := fun lot => nt (fstOf A L lot)) fun lot hlot => ?_) ?_
    · refine Wp_eq ?_
      simp -implicitDefEqProofs [-List.getD_eq_getElem?_getD, -List.map_map]
      refine Wp_of (lcE_filter (p := fun q => decide (A.c q = lot)) (g := nt) fun q hq => ?_) ?_
      · simp -implicitDefEqProofs [-List.getD_eq_getElem?_getD, -List.map_map, c_at (hb.2.1 q hq)]
        by_cases e : A.c q = lot
        · simp -implicitDefEqProofs [-List.getD_eq_getElem?_getD, -List.map_map, e]
        · simp -implicitDefEqProofs [-List.getD_eq_getElem?_getD, -List.map_map, e]
          omega
      · have h1 := (fstOf_ok hlot).2.2
        have h2 := List.length_filter_le (fun q => decide (A.c q = lot)) L
        simp -implicitDefEqProofs [-List.getD_eq_getElem?_getD, -List.map_map, h1]
        omega
    obtain ⟨F, hF1, hF2, hF3⟩ : ∃ F : List Nat, (uq (L.map A.c)).map (fun lot => nt (fstOf A L lot)) = F.map nt ∧ uq (L.map A.c) = F.map A.c ∧ ∀ q ∈ F, q ∈ L := by
      refine ⟨(uq (L.map A.c)).map (fstOf A L), by simp, ?_, fun q hq => ?_⟩
      · rw [List.map_map]
        conv => lhs; rw [← List.map_id (uq (L.map A.c))]
        exact List.map_congr_left fun lot hlot => (fstOf_ok hlot).2.1.symm
      · obtain ⟨lot, hlot, rfl⟩ := List.mem_map.mp hq
        exact (fstOf_ok hlot).1
    have hFl : F.length ≤ 16777216 := by
      have := congrArg List.length hF2
      simp -implicitDefEqProofs [-List.getD_eq_getElem?_getD, -List.map_map] at this
      omega
    have hFM : A.lm F = A.least := Au.lm_congr ok (fun q hq => hb.2.1 q (hF3 q hq)) (fun q hq => ((Au.M_ls ok).ok ok).2.1 q hq) (by rw [← hF2]; exact Au.sim_end ok hL (Au.M_ls ok))
    rw [hF1, hF2]
    simp -implicitDefEqProofs [-List.getD_eq_getElem?_getD, -List.map_map, hFl]
    refine Wp_of (lcE_map1 (g := fun x => .tup [.int ((F.map A.c).idxOf (A.c (A.go x 0)) : Nat), .int ((F.map A.c).idxOf (A.c (A.go x 1)) : Nat)]) fun x hx => ?_) ?_
    · have hx2 := hF3 x hx
      have hx' := hb.2.1 x hx2
      obtain ⟨j, hj, ej⟩ := List.mem_iff_getElem.mp hx2
      have ej : L.getD j 0 = x := by simp [List.getD, hj, ej]
      have mm : ∀ k, A.c (A.go x k) ∈ F.map A.c := fun k => by
        rw [← hF2, mem_uq, ← ej]
        exact List.mem_map_of_mem (hL.closed j hj k)
      have i0 := ntOk.index_lst _ _ (by decide) (mm 0)
      have i1 := ntOk.index_lst _ _ (by decide) (mm 1)
      rw [nt_eq] at i0 i1
      refine Wp_eq ?_
      simp -implicitDefEqProofs [-List.getD_eq_getElem?_getD, -List.map_map, st_at hx', c_at (ok.go hx' 0), c_at (ok.go hx' 1), i0, i1]
    rw [← lm_steps]
    simp -implicitDefEqProofs [-List.getD_eq_getElem?_getD, -List.map_map, hFl, rng_nt, show (A.lm F).st.length ≤ 16777216 by rw [show (A.lm F).st.length = F.length from Au.lm_n _]; exact hFl]
    refine Wp_of (lcE_filter (p := fun k => decide (F.getD k 0 ∈ A.good)) (g := nt) fun j hj => ?_) ?_
    · have hj := List.mem_range.mp hj
      simp -implicitDefEqProofs [-List.getD_eq_getElem?_getD, -List.map_map, nt_at hj]
      split <;> rfl
    have hl2 : ((List.range F.length).filter fun k => decide (F.getD k 0 ∈ A.good)).length ≤ 16777216 := by
      have := List.length_filter_le (fun k => decide (F.getD k 0 ∈ A.good)) (List.range F.length)
      simp -implicitDefEqProofs [-List.getD_eq_getElem?_getD, -List.map_map] at this
      simp -implicitDefEqProofs [-List.getD_eq_getElem?_getD, -List.map_map]
      omega
    rw [← lm_good] at *
    rw [← hFM]
    simp -implicitDefEqProofs [-List.getD_eq_getElem?_getD, -List.map_map]
    exact ⟨hl2, rfl⟩
end K90
set_option maxRecDepth 100000
namespace K90
open PySem (Str)
open MP MX AU
theorem idx_ab {c : Nat} (h : c = 97 ∨ c = 98) : mthP .index (.str (PySem.Str.ofString "ab")) [.str ⟨#[c]⟩] = some (.int ((c - 97 : Nat))) := by
  have e : ∀ c, mthP .index (.str (PySem.Str.ofString "ab")) [.str ⟨#[c]⟩] = (PySem.Builtin.Str.occurrences (PySem.Str.ofString "ab") ⟨#[c]⟩ 0 2 1).head?.map fun (n : Nat) => .int n := fun c => rfl
  have e1 : PySem.Builtin.Str.occurrences (PySem.Str.ofString "ab") ⟨#[97]⟩ 0 2 1 = [0] := by decide +kernel
  have e2 : PySem.Builtin.Str.occurrences (PySem.Str.ofString "ab") ⟨#[98]⟩ 0 2 1 = [1] := by decide +kernel
  rcases h with rfl | rfl
  · rw [e, e1]; rfl
  · rw [e, e2]; rfl
theorem strIn_ab (c : Nat) : strIn ⟨#[c]⟩ (PySem.Str.ofString "ab") = decide (c = 97 ∨ c = 98) := by
  have e1 : PySem.Builtin.Str.occurrences (PySem.Str.ofString "ab") ⟨#[97]⟩ 0 2 1 = [0] := by decide +kernel
  have e2 : PySem.Builtin.Str.occurrences (PySem.Str.ofString "ab") ⟨#[98]⟩ 0 2 1 = [1] := by decide +kernel
  show (!(PySem.Builtin.Str.occurrences (PySem.Str.ofString "ab") ⟨#[c]⟩ 0 2 1).isEmpty) = _
  by_cases h1 : c = 97
  · subst h1; rw [e1]; rfl
  by_cases h2 : c = 98
  · subst h2; rw [e2]; rfl
  have : PySem.Builtin.Str.occurrences (PySem.Str.ofString "ab") ⟨#[c]⟩ 0 2 1 = [] := by
    have := PySem.W.occ_nil_of_no (PySem.Str.ofString "ab") ⟨#[c]⟩ 1 (fun i hi => ?_)
    · exact this
    · have hi : i + 1 ≤ 2 := hi
      have : i = 0 ∨ i = 1 := by omega
      have h1' : 97 ≠ c := fun e => h1 e.symm
      have h2' : 98 ≠ c := fun e => h2 e.symm
      rcases this with rfl | rfl
      · show ((#[97] : Array Nat) == #[c]) = false
        simp [h1']
      · show ((#[98] : Array Nat) == #[c]) = false
        simp [h2']
  rw [this]
  simp [h1, h2]
/-! ### words -/
theorem behind_body (k : Nat) (A : Au) (ok : A.Ok) (e0 : MS) (x0 : ME)
    (h0 : ∀ env hp, ev G.cst (callF G k) x0 env hp = some ((false, .str (PySem.Str.ofString "ab")), hp))
    (q : Nat) (hq : q < A.n) (w : List Nat) (hw : Au.Isw w) (hp : Hs) :
    Wp (exec G.cst (callF G k) WF (.cons (.for_ (.nm 3) .val (.var 2) (.cons (.asg (.nm 1) (.idx (.idx (.idx (.var 0) (.int 2)) (.var 1)) (.mth .index x0 (.cons (.var 3) .nil)))) .nil)) (.cons (.ret (.var 1)) .nil))
      [some (false, pv A), some (false, .int q), some (false, .str ⟨w.toArray⟩), none] hp) fun r => r.1 = .rt (false, .int (A.act q w : Nat)) ∧ r.2.2 = hp := by
  simp -implicitDefEqProofs [-List.getD_eq_getElem?_getD, -List.map_map]
  refine Wp_for (enc := chr1) (fun done rest env h => h = hp ∧ ∃ x3, done ++ rest = w ∧ env = [some (false, pv A), some (false, .int (A.act q done : Nat)), some (false, .str ⟨w.toArray⟩), x3]) ?_ w [] _ _ ⟨rfl, none, rfl, rfl⟩ ?_
  · rintro done c rest env h ⟨rfl, x3, hd, rfl⟩
    have hc : c = 97 ∨ c = 98 := hw c (by rw [← hd]; simp -implicitDefEqProofs [-List.getD_eq_getElem?_getD, -List.map_map])
    have hc2 : c - 97 < 2 := by omega
    have ha := Au.act_lt ok hq done
    simp -implicitDefEqProofs [-List.getD_eq_getElem?_getD, -List.map_map, chr1, st_at ha, h0, idx_ab hc, go_lt2 A _ hc2]
    refine ⟨hd, ?_⟩
    simp -implicitDefEqProofs [-List.getD_eq_getElem?_getD, -List.map_map, Au.act]
  · rintro env h ⟨rfl, x3, hd, rfl⟩
    simp -implicitDefEqProofs [-List.getD_eq_getElem?_getD, -List.map_map]
theorem state_behind_ok (k : Nat) (A : Au) (ok : A.Ok) (q : Nat) (hq : q < A.n) (w : List Nat) (hw : Au.Isw w) (hp : Hs) :
    callF G (k + 1) 7 [pv A, .int q, .str ⟨w.toArray⟩] hp = some ((false, .int (A.act q w : Nat)), hp) :=
  call_eq fn_state_behind rfl rfl (behind_body k A ok .nil (.glb 0) (fun _ _ => rfl) q hq w hw hp)
theorem law_behind_ok (k : Nat) (A : Au) (ok : A.Ok) (q : Nat) (hq : q < A.n) (w : List Nat) (hw : Au.Isw w) (hp : Hs) :
    callF G (k + 1) 33 [pv A, .int q, .str ⟨w.toArray⟩] hp = some ((false, .int (A.act q w : Nat)), hp) :=
  call_eq fn_law_behind rfl rfl (behind_body k A ok .nil (.str (PySem.Str.ofString "ab")) (fun _ _ => rfl) q hq w hw hp)
theorem is_word_ok (k : Nat) (w : List Nat) (hz : w.length ≤ 16777216) (hp : Hs) : callF G (k + 1) 11 [.str ⟨w.toArray⟩] hp = some ((false, .bl (decide (Au.Isw w))), hp) := by
  refine call_eq fn_is_word rfl rfl ?_
  simp -implicitDefEqProofs [-List.getD_eq_getElem?_getD, -List.map_map, b_is_word]
  refine Wp_of (lcE_map1 (g := fun c => .bl (decide (c = 97 ∨ c = 98))) fun c hc => ?_) ?_
  · simp -implicitDefEqProofs [-List.getD_eq_getElem?_getD, -List.map_map, chr1, cst0, cmpP, inP, strIn_ab]
  simp -implicitDefEqProofs [-List.getD_eq_getElem?_getD, -List.map_map, hz]
  by_cases hI : Au.Isw w
  · exact Or.inr ⟨hI, hI⟩
  · refine Or.inl ⟨?_, hI⟩
    apply Classical.byContradiction
    intro hc
    refine hI fun c hm => ?_
    apply Classical.byContradiction
    intro hx
    exact hc ⟨c, hm, fun e => hx (Or.inl e), fun e => hx (Or.inr e)⟩
theorem is_word_no (k : Nat) (v : PV) (hd : v.dat = true) (hv : ∀ z, v ≠ .str z) (hp : Hs) : callF G (k + 1) 11 [v] hp = some ((false, .bl false), hp) := by
  refine call_eq fn_is_word rfl rfl ?_
  cases v <;> simp -implicitDefEqProofs [-List.getD_eq_getElem?_getD, -List.map_map, b_is_word] <;> simp_all [PV.dat]
end K90
namespace K90
open PySem (Str)
open MP MX
/-! ### kinds of values -/
def isN (v : PV) (t : Str) (n : Nat) : Bool := match v with
  | .tup (.str z :: xs) => decide (xs.length + 1 = n) && decide (z = t)
  | _ => false
theorem dat_tup {xs : List PV} (h : (PV.tup xs).dat = true) : ∀ x ∈ xs, x.dat = true := (datAll_iff xs).mp h
theorem named_body (k : Nat) (v : PV) (hd : v.dat = true) (t : Str) (n : Nat) (hn : 1 ≤ n) (hp : Hs) :
    Wp (exec G.cst (callF G k) WF b_is_named [some (false, v), some (false, .str t), some (false, .int n)] hp) fun r => r.1 = .rt (false, .bl (isN v t n)) ∧ r.2.2 = hp := by
  cases v with
  | tup xs =>
    cases xs with
    | nil =>
      have : ¬ (0 : Int) = (n : Int) := by omega
      simp -implicitDefEqProofs [-List.getD_eq_getElem?_getD, -List.map_map, b_is_named, isN, this]
    | cons x xs =>
      have hx := dat_tup hd x (by simp)
      by_cases hl : xs.length + 1 = n
      · subst hl
        cases x <;> simp -implicitDefEqProofs [-List.getD_eq_getElem?_getD, -List.map_map, b_is_named, isN] <;> first | (simp [PV.dat] at hx; done) | (rw [Bool.eq_iff_iff]; simp)
      · have hl2 : ¬ (xs.length : Int) + 1 = (n : Int) := by omega
        cases x <;> simp -implicitDefEqProofs [-List.getD_eq_getElem?_getD, -List.map_map, b_is_named, isN, hl, hl2]
  | _ => simp -implicitDefEqProofs [-List.getD_eq_getElem?_getD, -List.map_map, b_is_named, isN] <;> simp [PV.dat] at hd
theorem is_named_ok (k : Nat) (v : PV) (hd : v.dat = true) (t : Str) (n : Nat) (hn : 1 ≤ n) (hp : Hs) :
    callF G (k + 1) 3 [v, .str t, .int n] hp = some ((false, .bl (isN v t n)), hp) := call_eq fn_is_named rfl rfl (named_body k v hd t n hn hp)
theorem law_named_ok (k : Nat) (v : PV) (hd : v.dat = true) (t : Str) (n : Nat) (hn : 1 ≤ n) (hp : Hs) :
    callF G (k + 1) 22 [v, .str t, .int n] hp = some ((false, .bl (isN v t n)), hp) := call_eq fn_law_named rfl rfl (named_body k v hd t n hn hp)
def isI : PV → Bool
  | .int _ => true
  | _ => false
theorem is_int_body (k : Nat) (v : PV) (hd : v.dat = true) (hp : Hs) :
    Wp (exec G.cst (callF G k) WF b_is_whole [some (false, v)] hp) fun r => r.1 = .rt (false, .bl (isI v)) ∧ r.2.2 = hp := by
  cases v <;> simp -implicitDefEqProofs [-List.getD_eq_getElem?_getD, -List.map_map, b_is_whole, isI] <;> simp [PV.dat] at hd
theorem is_whole_ok (k : Nat) (v : PV) (hd : v.dat = true) (hp : Hs) : callF G (k + 1) 0 [v] hp = some ((false, .bl (isI v)), hp) := call_eq fn_is_whole rfl rfl (is_int_body k v hd hp)
theorem law_is_int_ok (k : Nat) (v : PV) (hd : v.dat = true) (hp : Hs) : callF G (k + 1) 18 [v] hp = some ((false, .bl (isI v)), hp) := call_eq fn_law_is_int rfl rfl (is_int_body k v hd hp)
theorem is_from_int (k : Nat) (i lo hi : Int) (hp : Hs) : callF G (k + 2) 2 [.int i, .int lo, .int hi] hp = some ((false, .bl (decide (lo ≤ i ∧ i ≤ hi))), hp) := by
  refine call_eq fn_is_from rfl rfl ?_
  simp -implicitDefEqProofs [-List.getD_eq_getElem?_getD, -List.map_map, b_is_from]
  refine Wp_of (is_whole_ok k (.int i) rfl hp) ?_
  by_cases h : lo ≤ i
  · simp -implicitDefEqProofs [-List.getD_eq_getElem?_getD, -List.map_map, isI, h]
    omega
  · simp -implicitDefEqProofs [-List.getD_eq_getElem?_getD, -List.map_map, isI, h]
theorem is_from_no (k : Nat) (v : PV) (hd : v.dat = true) (hv : isI v = false) (lo hi : Int) (hp : Hs) : callF G (k + 2) 2 [v, .int lo, .int hi] hp = some ((false, .bl false), hp) := by
  refine call_eq fn_is_from rfl rfl ?_
  simp -implicitDefEqProofs [-List.getD_eq_getElem?_getD, -List.map_map, b_is_from]
  refine Wp_of (is_whole_ok k v hd hp) ?_
  simp -implicitDefEqProofs [-List.getD_eq_getElem?_getD, -List.map_map, hv]
theorem isN3 {v : PV} {t : Str} (h : isN v t 3 = true) : ∃ a b, v = .tup [.str t, a, b] := by
  unfold isN at h
  split at h
  · rename_i z xs
    simp at h
    obtain ⟨h1, rfl⟩ := h
    match xs, h1 with
    | [a, b], _ => exact ⟨a, b, rfl⟩
  · exact absurd h (by simp)
theorem isN2 {v : PV} {t : Str} (h : isN v t 2 = true) : ∃ a, v = .tup [.str t, a] := by
  unfold isN at h
  split at h
  · rename_i z xs
    simp at h
    obtain ⟨h1, rfl⟩ := h
    match xs, h1 with
    | [a], _ => exact ⟨a, rfl⟩
  · exact absurd h (by simp)
theorem isI_cases (v : PV) : (∃ i, v = .int i) ∨ isI v = false := by cases v <;> simp [isI]
theorem str_cases (v : PV) : (∃ w : List Nat, v = .str ⟨w.toArray⟩) ∨ ∀ z, v ≠ .str z := by
  cases v with
  | str z => exact Or.inl ⟨z.cps.toList, by simp⟩
  | _ => exact Or.inr (by simp)
theorem isi_no_str {v : PV} (hd : v.dat = true) (hv : ∀ z, v ≠ .str z) : isiP v .str = some false := by
  cases v <;> simp_all [PV.dat]
end K90
set_option maxRecDepth 100000
namespace K90
open PySem (Str)
open MP MX
/-! ### what a law draws of a script -/
theorem fmod_nat (x : Int) (m : Nat) (h : 0 < m) : ∃ d : Nat, d < m ∧ x.fmod (m : Int) = (d : Int) := by
  have h1 := Int.fmod_nonneg_of_pos x (b := (m : Int)) (by omega)
  have h2 := Int.fmod_lt_of_pos x (b := (m : Int)) (by omega)
  exact ⟨(x.fmod (m : Int)).toNat, by omega, by omega⟩
theorem cell_ok (k : Nat) (ns : List Int) (i : Nat) (hp : Hs) : callF G (k + 1) 16 [.lst (ns.map PV.int), .int i] hp = some ((false, .int (ns.getD i 0)), hp) := by
  refine call_eq fn_law_cell rfl rfl ?_
  by_cases h : i < ns.length
  · simp -implicitDefEqProofs [-List.getD_eq_getElem?_getD, -List.map_map, b_law_cell, h, List.getD]
  · have h2 : ns.length ≤ i := by omega
    simp -implicitDefEqProofs [-List.getD_eq_getElem?_getD, -List.map_map, b_law_cell, h, List.getD, h2]
theorem pow18 : binP .pow (.int 10) (.int 18) = some (false, .int 1000000000000000000) := by
  show (if (0 : Int) ≤ 18 ∧ (18 : Int) ≤ 1000000 ∧ (10 : Int).natAbs < 2 ^ 64 then some (false, PV.int ((10 : Int) ^ (18 : Int).toNat)) else none) = _
  rw [if_pos (by decide)]
  rfl
theorem big_r (b : Int) (h : b.natAbs < 2147483648) (a : Int) : (big a || big b) = true := by
  have : big b = true := by
    unfold big
    rw [decide_eq_true_eq]
    omega
  rw [this, Bool.or_true]
theorem mul_r (a b : Int) (h : b.natAbs < 2147483648) : binP .mul (.int a) (.int b) = some (false, .int (a * b)) := bin_mul_int a b (big_r b h a)
theorem mul_l (a b : Int) (h : a.natAbs < 2147483648) : binP .mul (.int a) (.int b) = some (false, .int (a * b)) := bin_mul_int a b (by rw [Bool.or_comm]; exact big_r a h b)
theorem mod_lit (a : Int) (m : Nat) (h : 0 < m) : binP .mod (.int a) (.int (m : Int)) = some (false, .int (a.fmod m)) := bin_mod_int a m (by omega)
theorem div_lit (a : Int) (m : Nat) (h : 0 < m) (h2 : m < 1073741824) : binP .fdiv (.int a) (.int (m : Int)) = some (false, .int (a.fdiv m)) := bin_fdiv_int a m (by omega) (by omega)
theorem draws_ok (k : Nat) (cell : Int) (n : Nat) (hn : n ≤ 1000) (hp : Hs) :
    ∃ ds : List Nat, ds.length = n ∧ (∀ d ∈ ds, d < 4096) ∧ callF G (k + 1) 17 [.int cell, .int n] hp = some ((true, .lst (ds.map nt)), hp) := by
  have hw : Wp (callF G (k + 1) 17 [.int cell, .int n] hp) fun r => ∃ ds : List Nat, ds.length = n ∧ (∀ d ∈ ds, d < 4096) ∧ r = ((true, .lst (ds.map nt)), hp) := by
    refine Wp_call fn_law_draws rfl rfl ?_
    simp -implicitDefEqProofs [-List.getD_eq_getElem?_getD, -List.map_map, b_law_draws, rng_nt n (by omega)]
    rw [← upTo_nt]
    obtain ⟨I, iI⟩ := mkI3 (fun (i : Nat) (env : FEnv) (h : Hs) => h = hp ∧ ∃ (ds : List Nat) (left : Int) (x4 x5 : Option Rv), ds.length = i ∧ (∀ d ∈ ds, d < 4096) ∧
      env = [some (false, .int cell), some (false, .int n), some (true, .lst (ds.map nt)), some (false, .int left), x4, x5])
    refine Wp_rng n I ((iI _ _ _).mpr ⟨rfl, [], cell, none, none, rfl, by simp, rfl⟩) ?_ ?_
    · intro i env h hi hI
      obtain ⟨rfl, ds, left, x4, x5, hl, hd, rfl⟩ := (iI _ _ _).mp hI
      have hdl : ds.length < 16777216 := by omega
      have fin : ∀ x : Int, ∃ d : Nat, d < 4096 ∧ x.fmod 4096 = (d : Int) := fun x => fmod_nat x 4096 (by decide)
      have m4 : ∀ x : Int, binP .mod (.int x) (.int 4096) = some (false, .int (x.fmod 4096)) := fun x => mod_lit x 4096 (by decide)
      have d4 : ∀ x : Int, binP .fdiv (.int x) (.int 4096) = some (false, .int (x.fdiv 4096)) := fun x => div_lit x 4096 (by decide) (by decide)
      have d7 : ∀ x : Int, binP .fdiv (.int x) (.int 7) = some (false, .int (x.fdiv 7)) := fun x => div_lit x 7 (by decide) (by decide)
      have ma : ∀ x : Int, binP .mod (.int x) (.int 2147483647) = some (false, .int (x.fmod 2147483647)) := fun x => mod_lit x 2147483647 (by decide)
      have mb : ∀ x : Int, binP .mod (.int x) (.int 2147483629) = some (false, .int (x.fmod 2147483629)) := fun x => mod_lit x 2147483629 (by decide)
      have mc : ∀ x : Int, binP .mod (.int x) (.int 2147483587) = some (false, .int (x.fmod 2147483587)) := fun x => mod_lit x 2147483587 (by decide)
      have mu : ∀ x : Int, binP .mul (.int x) (.int 48271) = some (false, .int (x * 48271)) := fun x => mul_r x _ (by decide)
      have mv1 : ∀ x : Int, binP .mul (.int x) (.int 69621) = some (false, .int (x * 69621)) := fun x => mul_r x _ (by decide)
      have mw : ∀ x : Int, binP .mul (.int x) (.int 16807) = some (false, .int (x * 16807)) := fun x => mul_r x _ (by decide)
      have mx : ∀ x : Int, binP .mul (.int x) (.int 7919) = some (false, .int (x * 7919)) := fun x => mul_r x _ (by decide)
      have my : ∀ x : Int, binP .mul (.int 13) (.int x) = some (false, .int (13 * x)) := fun x => mul_l 13 x (by decide)
      have sq1 : ∀ x : Int, binP .mul (.int (x.fmod 2147483647)) (.int (x.fmod 2147483647)) = some (false, .int (x.fmod 2147483647 * x.fmod 2147483647)) := fun x => by
        obtain ⟨d, h1, h2⟩ := fmod_nat x 2147483647 (by decide)
        have h2 : x.fmod 2147483647 = (d : Int) := h2
        rw [h2]
        exact mul_r _ _ (by omega)
      have sq2 : ∀ x : Int, binP .mul (.int (x.fmod 2147483629)) (.int (x.fmod 2147483629)) = some (false, .int (x.fmod 2147483629 * x.fmod 2147483629)) := fun x => by
        obtain ⟨d, h1, h2⟩ := fmod_nat x 2147483629 (by decide)
        have h2 : x.fmod 2147483629 = (d : Int) := h2
        rw [h2]
        exact mul_r _ _ (by omega)
      have step : ∀ (d : Nat) (left : Int) (x4 x5 : Option Rv), d < 4096 → I (i + 1) [some (false, .int cell), some (false, .int n), some (true, .lst (ds.map nt ++ [.int d])), some (false, .int left), x4, x5] h := fun d left x4 x5 hd4 =>
        (iI _ _ _).mpr ⟨rfl, ds ++ [d], left, x4, x5, by simp [hl], fun e he => by
          rcases List.mem_append.mp he with he | he
          · exact hd e he
          · simp at he; omega, by simp⟩
      by_cases hc : (1000000000000000000 : Int) ≤ cell
      · by_cases hp0 : 0 < left
        · obtain ⟨d, hd1, hd2⟩ := fin left
          simp -implicitDefEqProofs [-List.getD_eq_getElem?_getD, -List.map_map, pow18, hc, hp0, m4, hd2, hdl, d4]
          exact step _ _ _ _ hd1
        · simp -implicitDefEqProofs [-List.getD_eq_getElem?_getD, -List.map_map, pow18, hc, hp0, mu, mv1, ma, mb, mc, mw, mx, my, sq1, sq2, d7, m4, hdl]
          obtain ⟨d, hd1, hd2⟩ := fin (((((((cell * 48271 + ((i : Int) + 1) * 69621).fmod 2147483647 * (cell * 48271 + ((i : Int) + 1) * 69621).fmod 2147483647 + (cell * 48271 + ((i : Int) + 1) * 69621).fmod 2147483647 * 16807 + (i : Int) * 7919).fmod 2147483629) * ((((cell * 48271 + ((i : Int) + 1) * 69621).fmod 2147483647 * (cell * 48271 + ((i : Int) + 1) * 69621).fmod 2147483647 + (cell * 48271 + ((i : Int) + 1) * 69621).fmod 2147483647 * 16807 + (i : Int) * 7919).fmod 2147483629)) + cell + 13 * (i : Int)).fmod 2147483587).fdiv 7))
          rw [hd2]
          exact step _ _ _ _ hd1
      · simp -implicitDefEqProofs [-List.getD_eq_getElem?_getD, -List.map_map, pow18, hc, mu, mv1, ma, mb, mc, mw, mx, my, sq1, sq2, d7, m4, hdl]
        obtain ⟨d, hd1, hd2⟩ := fin (((((((cell * 48271 + ((i : Int) + 1) * 69621).fmod 2147483647 * (cell * 48271 + ((i : Int) + 1) * 69621).fmod 2147483647 + (cell * 48271 + ((i : Int) + 1) * 69621).fmod 2147483647 * 16807 + (i : Int) * 7919).fmod 2147483629) * ((((cell * 48271 + ((i : Int) + 1) * 69621).fmod 2147483647 * (cell * 48271 + ((i : Int) + 1) * 69621).fmod 2147483647 + (cell * 48271 + ((i : Int) + 1) * 69621).fmod 2147483647 * 16807 + (i : Int) * 7919).fmod 2147483629)) + cell + 13 * (i : Int)).fmod 2147483587).fdiv 7))
        rw [hd2]
        exact step _ _ _ _ hd1
    · intro env h hI
      obtain ⟨rfl, ds, left, x4, x5, hl, hd, rfl⟩ := (iI _ _ _).mp hI
      simp -implicitDefEqProofs [-List.getD_eq_getElem?_getD, -List.map_map]
      exact ⟨ds, hl, hd, rfl⟩
  obtain ⟨r, e, ds, h1, h2, rfl⟩ := hw
  exact ⟨ds, h1, h2, e⟩
end K90
set_option maxRecDepth 100000
namespace K90
open PySem (Str)
open MP MX
/-! ### the pool of draws -/
@[simp] theorem exec_seti_idx (gl : Nat → Option PV) (call : CallT) (wf : Nat) (a b i e : ME) (env : FEnv) (hp : Hs) : exec gl call wf (.seti (.idx a b) i e) env hp = bnd (ev gl call e (unf env) hp) fun v hp1 =>
    bnd (ev gl call (.idx a b) (unf env) hp1) fun x hp2 => bnd (ev gl call i (unf env) hp2) fun j hp3 => if (v.lf && j.lf) = true then refF x (fun c => putP c j v) env hp3 else none := rfl
@[simp] theorem refF_ref (n : Nat) (f : PV → Option PV) (env : FEnv) (hp : Hs) : refF (.ref n) f env hp = (hp[n]?.bind f).map fun v' => (.nx, env, hp.set n v') := rfl
@[simp] theorem putP_lst0 (x v : PV) (xs : List PV) : putP (.lst (x :: xs)) (.int 0) v = some (.lst (v :: xs)) := by simp [putP]
/-- the pool, and what is drawn of it so far -/
def pl (rows : List Nat) : PV := .lst [.lst (rows.map nt), .ref 0]
@[simp] theorem pl_eq (rows : List Nat) : pl rows = .lst [.lst (rows.map nt), .ref 0] := rfl
def Hp (at_ : Nat) : Hs := [.lst [.int (at_ : Int)]]
structure Pool (rows : List Nat) : Prop where
  pos : 0 < rows.length
  len : rows.length ≤ 100
  lt : ∀ d ∈ rows, d < 4096
theorem pick_ok (k : Nat) {rows : List Nat} (P : Pool rows) (a : Nat) (ha : a ≤ 1000000) (n : Nat) (hn : 0 < n) :
    ∃ r, r < n ∧ callF G (k + 1) 26 [pl rows, .int n] (Hp a) = some ((false, .int (r : Nat)), Hp (a + 1)) := by
  have hw : Wp (callF G (k + 1) 26 [pl rows, .int n] (Hp a)) fun r => ∃ d, d < n ∧ r = ((false, .int (d : Nat)), Hp (a + 1)) := by
    refine Wp_call fn_law_pick rfl rfl ?_
    have d1 : binP .fdiv (.int (a : Int)) (.int (rows.length : Int)) = some (false, .int ((a / rows.length : Nat) : Int)) := by
      rw [div_lit _ _ P.pos (by have := P.len; omega)]
      rw [Int.fdiv_eq_ediv_of_nonneg _ (by omega)]; rfl
    have m1 : binP .mod (.int (a : Int)) (.int (rows.length : Int)) = some (false, .int ((a % rows.length : Nat) : Int)) := by
      rw [mod_lit _ _ P.pos]
      rw [Int.fmod_eq_emod_of_nonneg _ (by omega)]; rfl
    have lt1 : a % rows.length < rows.length := Nat.mod_lt _ P.pos
    have mu : ∀ x : Int, binP .mul (.int x) (.int 1009) = some (false, .int (x * 1009)) := fun x => mul_r x _ (by decide)
    have mu2 : ∀ x : Int, binP .mul (.int x) (.int (a : Int)) = some (false, .int (x * (a : Int))) := fun x => mul_r x _ (by omega)
    have m2 : ∀ x : Int, binP .mod (.int x) (.int (n : Int)) = some (false, .int (x.fmod n)) := fun x => mod_lit x n hn
    generalize a / rows.length = t at *
    generalize a % rows.length = i at *
    simp -implicitDefEqProofs [-List.getD_eq_getElem?_getD, -List.map_map, b_law_pick, Hp, d1, m1, mu, mu2, m2, lt1]
    obtain ⟨d, h1, h2⟩ := fmod_nat (((rows[i] : Nat) : Int) + (t : Int) * 1009 + (t : Int) * (a : Int)) n hn
    exact ⟨d, h1, h2⟩
  obtain ⟨r, e, d, h1, rfl⟩ := hw
  exact ⟨d, h1, e⟩
theorem pool_ok (k : Nat) (ns : List Int) : ∃ rows o, Pool rows ∧ callF G (k + 2) 25 [.lst (ns.map PV.int)] [] = some ((o, pl rows), Hp 0) := by
  have hw : Wp (callF G (k + 2) 25 [.lst (ns.map PV.int)] []) fun r => ∃ rows o, Pool rows ∧ r = ((o, pl rows), Hp 0) := by
    rw [callF_def fn_law_pool rfl rfl]
    have em : (if (4 : Int) > (if (ns.length : Int) > 1 then (ns.length : Int) else 1) then (if (ns.length : Int) > 1 then (ns.length : Int) else 1) else 4) = ((min 4 (max 1 ns.length) : Nat) : Int) := by
      repeat' split
      all_goals omega
    have em2 : rngP [.int (if (if (1 : Int) < (ns.length : Int) then (ns.length : Int) else 1) < 4 then (if (1 : Int) < (ns.length : Int) then (ns.length : Int) else 1) else 4)] = some ((List.range (min 4 (max 1 ns.length))).map nt) := by
      have := rng_nt (min 4 (max 1 ns.length)) (by omega)
      rw [← em] at this
      exact this
    simp -implicitDefEqProofs [-List.getD_eq_getElem?_getD, -List.map_map, b_law_pool, em2]
    rw [← upTo_nt]
    obtain ⟨I, iI⟩ := mkI3 (fun (i : Nat) (env : FEnv) (h : Hs) => h = [] ∧ ∃ (rows : List Nat) (o : Bool) (x2 : Option Rv), rows.length = 20 * i ∧ (∀ d ∈ rows, d < 4096) ∧
      env = [some (false, .lst (ns.map PV.int)), some (o, .lst (rows.map nt)), x2])
    refine Wp_rng _ I ((iI _ _ _).mpr ⟨rfl, [], true, none, rfl, by simp, rfl⟩) ?_ ?_
    · intro i env h hi hI
      obtain ⟨rfl, rows, o, x2, hl, hd, rfl⟩ := (iI _ _ _).mp hI
      have mu : ∀ x : Int, binP .mul (.int 7) (.int x) = some (false, .int (7 * x)) := fun x => mul_l 7 x (by decide)
      simp -implicitDefEqProofs [-List.getD_eq_getElem?_getD, -List.map_map]
      refine Wp_of (cell_ok k ns i []) ?_
      simp -implicitDefEqProofs [-List.getD_eq_getElem?_getD, -List.map_map, mu]
      obtain ⟨ds, h1, h2, h3⟩ := draws_ok k (ns.getD i 0 + 7 * (i : Int)) 20 (by decide) []
      refine Wp_of h3 ?_
      have hlen : rows.length + ds.length ≤ 16777216 := by omega
      simp -implicitDefEqProofs [-List.getD_eq_getElem?_getD, -List.map_map, hlen]
      refine (iI _ _ _).mpr ⟨rfl, rows ++ ds, true, _, by simp; omega, fun d hm => ?_, by simp -implicitDefEqProofs [-List.getD_eq_getElem?_getD, -List.map_map]; rfl⟩
      rcases List.mem_append.mp hm with hm | hm
      · exact hd d hm
      · exact h2 d hm
    · intro env h hI
      obtain ⟨rfl, rows, o, x2, hl, hd, rfl⟩ := (iI _ _ _).mp hI
      simp -implicitDefEqProofs [-List.getD_eq_getElem?_getD, -List.map_map, trim, PV.rb, rbAll]
      exact ⟨rows, ⟨by omega, by omega, hd⟩, rfl, rfl⟩
  obtain ⟨r, e, rows, o, h1, rfl⟩ := hw
  exact ⟨rows, o, h1, e⟩
end K90
namespace K90
open PySem (Str)
open MP MX
/-! ### a truth that is due -/
theorem is_bool_ok (k : Nat) (b c : Bool) (hp : Hs) : callF G (k + 1) 19 [.bl b, .bl c] hp = some ((false, .bl (b == c)), hp) := by
  refine call_eq fn_law_is_bool rfl rfl ?_
  cases b <;> cases c <;> simp -implicitDefEqProofs [-List.getD_eq_getElem?_getD, -List.map_map, b_law_is_bool, cmpP, isP]
end K90
set_option maxRecDepth 100000
namespace K90
open PySem (Str)
open MP MX
/-! ### a value bent -/
def texts6 : List PV := [.str (PySem.Str.ofString ""), .int 0, .str (PySem.Str.ofString "kept"), .str (PySem.Str.ofString "parted"), .str (PySem.Str.ofString "some"), .non]
/-- what a bent value may be -/
inductive Bent : PV → PV → Prop where
  | sub {xs : List PV} {i : Nat} {x u : PV} : xs[i]? = some x → Bent x u → Bent (.tup xs) (.tup (xs.take i ++ [u] ++ xs.drop (i + 1)))
  | more {xs : List PV} : Bent (.tup xs) (.tup (xs ++ [.int 0]))
  | less {xs : List PV} : Bent (.tup xs) (.tup xs.dropLast)
  | lst {xs : List PV} : Bent (.tup xs) (.lst xs)
  | back {xs : List PV} : Bent (.tup xs) (.tup xs.reverse)
  | none {xs : List PV} : Bent (.tup xs) .non
  | twice {xs : List PV} : Bent (.tup xs) (.tup (xs ++ xs.drop (xs.length - 1)))
  | in_ {xs : List PV} : Bent (.tup xs) (.tup [.tup xs])
  | long {z : Str} : Bent (.str z) (.str (z ++ PySem.Str.ofString "s"))
  | str {z : Str} {u : PV} : u ∈ texts6 → Bent (.str z) u
  | zero {v : PV} : (∀ i, v ≠ .int i) → Bent v (.int 0)
  | int {i j : Int} : j = i + 1 ∨ j = i - 1 ∨ j = i + 2 ∨ j = -i ∨ j = i + 9 → Bent (.int i) (.int j)
  | bl {i : Int} {b : Bool} : Bent (.int i) (.bl b)
  | txt {i : Int} {z : Str} : z.length ≤ 21 → Bent (.int i) (.str z)
/-- what can be bent -/
inductive Can : Nat → PV → Prop where
  | tup {n : Nat} {xs : List PV} : xs.length ≤ 1000 → (∀ x ∈ xs, Can n x) → Can (n + 1) (.tup xs)
  | str {n : Nat} {z : Str} : z.length ≤ 1000000 → Can n (.str z)
  | int {n : Nat} {i : Int} : i.natAbs < 2 ^ 64 → Can n (.int i)
  | bl {n : Nat} {b : Bool} : Can n (.bl b)
  | non {n : Nat} : Can n .non
theorem slc_to (xs : List PV) (i : Nat) (h : i ≤ xs.length) : slcP (.tup xs) none (some (i : Int)) = some (false, .tup (xs.take i)) := by
  have h1 : ¬ (i : Int) < 0 := by omega
  have h2 : min i xs.length = i := by omega
  simp [slcP, cutL, clipI, h1, h2]
theorem slc_from (xs : List PV) (i : Nat) (h : i ≤ xs.length) : slcP (.tup xs) (some (i : Int)) none = some (false, .tup (xs.drop i)) := by
  have h1 : ¬ (i : Int) < 0 := by omega
  have h2 : min i xs.length = i := by omega
  simp [slcP, cutL, clipI, h1, h2]
  apply List.take_of_length_le
  simp
theorem slc_m1 (xs : List PV) : slcP (.tup xs) none (some (-1)) = some (false, .tup xs.dropLast) := by
  have h2 : (-1 + (xs.length : Int)).toNat = xs.length - 1 := by omega
  simp [slcP, cutL, clipI, h2, List.dropLast_eq_take]
theorem slc_l1 (xs : List PV) : slcP (.tup xs) (some (-1)) none = some (false, .tup (xs.drop (xs.length - 1))) := by
  have h2 : (-1 + (xs.length : Int)).toNat = xs.length - 1 := by omega
  simp [slcP, cutL, clipI, h2]
  apply List.take_of_length_le
  simp
theorem at7 (a b c d e f g : PV) {i : Nat} (h : i < 7) : ∃ u, atP [a, b, c, d, e, f, g] (i : Int) = some u ∧ (i = 0 ∧ u = a ∨ i = 1 ∧ u = b ∨ i = 2 ∧ u = c ∨ i = 3 ∧ u = d ∨ i = 4 ∧ u = e ∨ i = 5 ∧ u = f ∨ i = 6 ∧ u = g) := by
  rcases (by omega : i = 0 ∨ i = 1 ∨ i = 2 ∨ i = 3 ∨ i = 4 ∨ i = 5 ∨ i = 6) with rfl | rfl | rfl | rfl | rfl | rfl | rfl <;> exact ⟨_, rfl, by simp⟩
theorem md_nat (x m : Nat) (h : 0 < m) : binP .mod (.int (x : Int)) (.int (m : Int)) = some (false, .int ((x % m : Nat) : Int)) := by
  rw [bin_mod_int _ _ (by omega), Int.fmod_eq_emod_of_nonneg _ (by omega)]; rfl
theorem fd_nat (x m : Nat) (h : 0 < m) (h2 : m < 1073741824) : binP .fdiv (.int (x : Int)) (.int (m : Int)) = some (false, .int ((x / m : Nat) : Int)) := by
  rw [bin_fdiv_int _ _ (by omega) (by omega), Int.fdiv_eq_ediv_of_nonneg _ (by omega)]; rfl
/-- the head of the def: the draw -/
theorem bend_str (k : Nat) (z : Str) (hz : z.length ≤ 1000000) (ds : List Nat) (a : Nat) (h0 : 0 < ds.length) (h1 : ds.length ≤ 1000) (hp : Hs) :
    ∃ u, Bent (.str z) u ∧ callF G (k + 1) 24 [.str z, .lst (ds.map nt), .int a] hp = some ((false, u), hp) := by
  have hw : Wp (callF G (k + 1) 24 [.str z, .lst (ds.map nt), .int a] hp) fun r => ∃ u, Bent (.str z) u ∧ r = ((false, u), hp) := by
    refine Wp_call fn_law_bend rfl rfl ?_
    have m1 := md_nat a ds.length h0
    have lt1 : a % ds.length < ds.length := Nat.mod_lt _ h0
    generalize a % ds.length = i at *
    have f5 : ∀ x : Nat, binP .fdiv (.int (x : Int)) (.int 5) = some (false, .int ((x / 5 : Nat) : Int)) := fun x => fd_nat x 5 (by decide) (by decide)
    have m7 : ∀ x : Nat, binP .mod (.int (x : Int)) (.int 7) = some (false, .int ((x % 7 : Nat) : Int)) := fun x => md_nat x 7 (by decide)
    have hs : z.length + (PySem.Str.ofString "s").length ≤ 16777216 := by
      have : (PySem.Str.ofString "s").length = 1 := by rfl
      omega
    have f5' := f5 ds[i]
    generalize ds[i] / 5 = q at *
    have m7' := m7 q
    have lt7 : q % 7 < 7 := Nat.mod_lt _ (by decide)
    generalize q % 7 = w at *
    simp -implicitDefEqProofs [-List.getD_eq_getElem?_getD, -List.map_map, b_law_bend, m1, lt1, f5', m7', hs]
    obtain ⟨u, e, hu⟩ := at7 (.str (z ++ PySem.Str.ofString "s")) (.str (PySem.Str.ofString "")) (.int 0) (.str (PySem.Str.ofString "kept")) (.str (PySem.Str.ofString "parted")) (.str (PySem.Str.ofString "some")) .non lt7
    refine Wp_of e ?_
    rcases hu with ⟨_, rfl⟩ | ⟨_, rfl⟩ | ⟨_, rfl⟩ | ⟨_, rfl⟩ | ⟨_, rfl⟩ | ⟨_, rfl⟩ | ⟨_, rfl⟩
    · exact .long
    all_goals exact .str (by simp [texts6])
  obtain ⟨r, e, u, h1, rfl⟩ := hw
  exact ⟨u, h1, e⟩
theorem ofString_length (s : String) : (PySem.Str.ofString s).length = s.length := by
  rw [PySem.Str.ofString_eq_toList]
  simp [PySem.Str.length]
  exact String.length_toList
theorem str_int_len {j : Int} (h : j.natAbs < 2 ^ 64) : (PySem.Str.ofString (toString j)).length ≤ 21 := by
  rw [ofString_length]
  have h2 : ∀ n : Nat, n < 2 ^ 64 → n.repr.length ≤ 20 := fun n hn => (Nat.length_repr_le_iff (by decide)).mpr (Nat.lt_of_lt_of_le hn (by decide))
  cases j with
  | ofNat n =>
    show n.repr.length ≤ 21
    have := h2 n h
    omega
  | negSucc n =>
    show ("-" ++ (n + 1).repr).length ≤ 21
    have := h2 (n + 1) h
    rw [String.length_append]
    have : ("-" : String).length = 1 := by decide
    omega
theorem bend_int (k : Nat) (j : Int) (hj : j.natAbs < 2 ^ 64) (ds : List Nat) (a : Nat) (h0 : 0 < ds.length) (h1 : ds.length ≤ 1000) (hp : Hs) :
    ∃ u, Bent (.int j) u ∧ callF G (k + 1) 24 [.int j, .lst (ds.map nt), .int a] hp = some ((false, u), hp) := by
  have hw : Wp (callF G (k + 1) 24 [.int j, .lst (ds.map nt), .int a] hp) fun r => ∃ u, Bent (.int j) u ∧ r = ((false, u), hp) := by
    refine Wp_call fn_law_bend rfl rfl ?_
    have m1 := md_nat a ds.length h0
    have lt1 : a % ds.length < ds.length := Nat.mod_lt _ h0
    generalize a % ds.length = i at *
    have f5 : ∀ x : Nat, binP .fdiv (.int (x : Int)) (.int 5) = some (false, .int ((x / 5 : Nat) : Int)) := fun x => fd_nat x 5 (by decide) (by decide)
    have m7 : ∀ x : Nat, binP .mod (.int (x : Int)) (.int 7) = some (false, .int ((x % 7 : Nat) : Int)) := fun x => md_nat x 7 (by decide)
    have hst : bclP .str [.int j] = some (false, .str (PySem.Str.ofString (toString j))) := by
      have : j.natAbs.log2 < 1920 := by
        by_cases h0 : j.natAbs = 0
        · rw [h0]; decide
        · exact Nat.lt_trans ((Nat.log2_lt h0).mpr hj) (by decide)
      show (if j.natAbs.log2 < 1920 then _ else none) = _
      rw [if_pos this]
    have f5' := f5 ds[i]
    generalize ds[i] / 5 = q at *
    have m7' := m7 q
    have lt7 : q % 7 < 7 := Nat.mod_lt _ (by decide)
    generalize q % 7 = w at *
    simp -implicitDefEqProofs [-List.getD_eq_getElem?_getD, -List.map_map, b_law_bend, m1, lt1, f5', m7', hst]
    obtain ⟨u, e, hu⟩ := at7 (.int (j + 1)) (.int (j - 1)) (.int (j + 2)) (.bl (decide (j = 1))) (.str (PySem.Str.ofString (toString j))) (.int (-j)) (.int (j + 9)) lt7
    refine Wp_of e ?_
    rcases hu with ⟨_, rfl⟩ | ⟨_, rfl⟩ | ⟨_, rfl⟩ | ⟨_, rfl⟩ | ⟨_, rfl⟩ | ⟨_, rfl⟩ | ⟨_, rfl⟩
    · exact .int (by simp)
    · exact .int (by simp)
    · exact .int (by simp)
    · exact .bl
    · exact .txt (str_int_len hj)
    · exact .int (by simp)
    · exact .int (by simp)
  obtain ⟨r, e, u, h1, rfl⟩ := hw
  exact ⟨u, h1, e⟩
theorem bend_else (k : Nat) (v : PV) (hv : (∃ b, v = .bl b) ∨ v = .non ∨ ∃ xs, v = .lst xs) (ds : List Nat) (a : Nat) (h0 : 0 < ds.length) (h1 : ds.length ≤ 1000) (hp : Hs) :
    callF G (k + 1) 24 [v, .lst (ds.map nt), .int a] hp = some ((false, .int 0), hp) := by
  refine call_eq fn_law_bend rfl rfl ?_
  have m1 := md_nat a ds.length h0
  have lt1 : a % ds.length < ds.length := Nat.mod_lt _ h0
  generalize a % ds.length = i at *
  have f5 : ∀ x : Nat, binP .fdiv (.int (x : Int)) (.int 5) = some (false, .int ((x / 5 : Nat) : Int)) := fun x => fd_nat x 5 (by decide) (by decide)
  have m7 : ∀ x : Nat, binP .mod (.int (x : Int)) (.int 7) = some (false, .int ((x % 7 : Nat) : Int)) := fun x => md_nat x 7 (by decide)
  have f5' := f5 ds[i]
  generalize ds[i] / 5 = q at *
  have m7' := m7 q
  have lt7 : q % 7 < 7 := Nat.mod_lt _ (by decide)
  generalize q % 7 = w at *
  rcases hv with ⟨b, rfl⟩ | rfl | ⟨xs, rfl⟩
  · simp -implicitDefEqProofs [-List.getD_eq_getElem?_getD, -List.map_map, b_law_bend, m1, lt1, f5', m7']
  · simp -implicitDefEqProofs [-List.getD_eq_getElem?_getD, -List.map_map, b_law_bend, m1, lt1, f5', m7']
  · simp -implicitDefEqProofs [-List.getD_eq_getElem?_getD, -List.map_map, b_law_bend, m1, lt1, f5', m7']
theorem bend_tup (k : Nat) (xs : List PV) (hx : xs.length ≤ 1000) (ds : List Nat) (a : Nat) (h0 : 0 < ds.length) (h1 : ds.length ≤ 1000) (hp : Hs)
    (sub : ∀ x ∈ xs, ∃ u, Bent x u ∧ callF G k 24 [x, .lst (ds.map nt), .int (a + 1 : Nat)] hp = some ((false, u), hp)) :
    ∃ u, Bent (.tup xs) u ∧ callF G (k + 1) 24 [.tup xs, .lst (ds.map nt), .int a] hp = some ((false, u), hp) := by
  have hw : Wp (callF G (k + 1) 24 [.tup xs, .lst (ds.map nt), .int a] hp) fun r => ∃ u, Bent (.tup xs) u ∧ r = ((false, u), hp) := by
    refine Wp_call fn_law_bend rfl rfl ?_
    have m1 := md_nat a ds.length h0
    have lt1 : a % ds.length < ds.length := Nat.mod_lt _ h0
    generalize a % ds.length = i at *
    have f5 : ∀ x : Nat, binP .fdiv (.int (x : Int)) (.int 5) = some (false, .int ((x / 5 : Nat) : Int)) := fun x => fd_nat x 5 (by decide) (by decide)
    have m5 : ∀ x : Nat, binP .mod (.int (x : Int)) (.int 5) = some (false, .int ((x % 5 : Nat) : Int)) := fun x => md_nat x 5 (by decide)
    have m7 : ∀ x : Nat, binP .mod (.int (x : Int)) (.int 7) = some (false, .int ((x % 7 : Nat) : Int)) := fun x => md_nat x 7 (by decide)
    have f5' := f5 ds[i]
    have m5' := m5 ds[i]
    generalize ds[i] / 5 = q at *
    generalize ds[i] % 5 = e at *
    by_cases hd : 0 < xs.length ∧ 0 < e
    · have mx := md_nat q xs.length hd.1
      have lt2 : q % xs.length < xs.length := Nat.mod_lt _ hd.1
      generalize q % xs.length = j at *
      obtain ⟨u, hu, eu⟩ := sub xs[j] (List.getElem_mem lt2)
      have s1 := slc_to xs j (by omega)
      have s2 := slc_from xs (j + 1) (by omega)
      have hl1 : min j xs.length + 1 ≤ 16777216 := by omega
      have hl2 : min j xs.length + 1 + (xs.length - (j + 1)) ≤ 16777216 := by omega
      have eu' : callF G k 24 [xs[j], .lst (ds.map nt), .int ((a : Int) + 1)] hp = some ((false, u), hp) := eu
      have s2' : slcP (.tup xs) (some ((j : Int) + 1)) none = some (false, .tup (xs.drop (j + 1))) := s2
      simp -implicitDefEqProofs [-List.getD_eq_getElem?_getD, -List.map_map, b_law_bend, m1, lt1, f5', m5', hd.1, hd.2, mx, lt2, s1, eu', s2', hl1, hl2]
      have := Bent.sub (xs := xs) (i := j) (x := xs[j]) (List.getElem?_eq_getElem lt2) hu
      simpa using this
    · have m7' := m7 q
      have lt7 : q % 7 < 7 := Nat.mod_lt _ (by decide)
      generalize q % 7 = w at *
      have hl1 : xs.length + 1 ≤ 16777216 := by omega
      have hl2 : xs.length + (xs.length - (xs.length - 1)) ≤ 16777216 := by omega
      have fin : Wp (atP [PV.tup (xs ++ [.int 0]), .tup xs.dropLast, .lst xs, .tup xs.reverse, .non, .tup (xs ++ xs.drop (xs.length - 1)), .tup [.tup xs]] (w : Int)) fun u => Bent (.tup xs) u := by
        obtain ⟨u, e, hu⟩ := at7 (PV.tup (xs ++ [.int 0])) (.tup xs.dropLast) (.lst xs) (.tup xs.reverse) .non (.tup (xs ++ xs.drop (xs.length - 1))) (.tup [.tup xs]) lt7
        refine Wp_of e ?_
        rcases hu with ⟨_, rfl⟩ | ⟨_, rfl⟩ | ⟨_, rfl⟩ | ⟨_, rfl⟩ | ⟨_, rfl⟩ | ⟨_, rfl⟩ | ⟨_, rfl⟩
        · exact .more
        · exact .less
        · exact .lst
        · exact .back
        · exact .none
        · exact .twice
        · exact .in_
      by_cases hz : 0 < xs.length
      · have he : e = 0 := by omega
        subst he
        simp -implicitDefEqProofs [-List.getD_eq_getElem?_getD, -List.map_map, b_law_bend, m1, lt1, f5', m5', hz, m7', hl1, hl2, slc_m1, slc_l1, revP]
        exact fin
      · simp -implicitDefEqProofs [-List.getD_eq_getElem?_getD, -List.map_map, b_law_bend, m1, lt1, f5', m5', hz, m7', hl1, hl2, slc_m1, slc_l1, revP]
        exact fin
  obtain ⟨r, e, u, h1, rfl⟩ := hw
  exact ⟨u, h1, e⟩
theorem Can.lf {n : Nat} {v : PV} (h : Can n v) : v.lf = true := by
  induction h with
  | tup _ _ ih => exact (lfAll_iff _).mpr ih
  | _ => rfl
theorem bend_ok (n : Nat) : ∀ (k : Nat) (v : PV), Can n v → ∀ (ds : List Nat) (a : Nat), 0 < ds.length → ds.length ≤ 1000 → ∀ hp : Hs,
    ∃ u, Bent v u ∧ callF G (k + n + 1) 24 [v, .lst (ds.map nt), .int a] hp = some ((false, u), hp) := by
  induction n with
  | zero =>
    intro k v hv ds a h0 h1 hp
    cases hv with
    | str h => exact bend_str _ _ h ds a h0 h1 hp
    | int h => exact bend_int _ _ h ds a h0 h1 hp
    | bl => exact ⟨_, .zero (by simp), bend_else _ _ (Or.inl ⟨_, rfl⟩) ds a h0 h1 hp⟩
    | non => exact ⟨_, .zero (by simp), bend_else _ _ (Or.inr (Or.inl rfl)) ds a h0 h1 hp⟩
  | succ n ih =>
    intro k v hv ds a h0 h1 hp
    cases hv with
    | tup hl hx => exact bend_tup (k + n + 1) _ hl ds a h0 h1 hp fun x hm => ih k x (hx x hm) ds (a + 1) h0 h1 hp
    | str h => exact bend_str _ _ h ds a h0 h1 hp
    | int h => exact bend_int _ _ h ds a h0 h1 hp
    | bl => exact ⟨_, .zero (by simp), bend_else _ _ (Or.inl ⟨_, rfl⟩) ds a h0 h1 hp⟩
    | non => exact ⟨_, .zero (by simp), bend_else _ _ (Or.inr (Or.inl rfl)) ds a h0 h1 hp⟩
end K90
set_option maxRecDepth 100000
namespace K90
open PySem (Str)
open MP MX AU
theorem Wp_map_eq {α β : Type} {x : Option α} {f : α → β} {b : β} {Q : α → Prop} (h : x.map f = some b) (q : ∀ a, b = f a → Q a) : Wp x Q := by
  cases x with
  | none => simp at h
  | some a => exact ⟨a, rfl, q a (by simpa using h.symm)⟩
/-- the good states stand within -/
structure GoodB (A : Au) : Prop where
  len : A.good.length ≤ A.n
  lt : ∀ g ∈ A.good, g < A.n
theorem auto_ok2 (k : Nat) {rows : List Nat} (P : Pool rows) (a : Nat) (ha : a ≤ 1000) (most : Nat) (hm : 0 < most) (hm2 : most ≤ 20) :
    Wp (callF G (k + 2) 32 [pl rows, .int most] (Hp a)) fun r => ∃ A a', (A.Ok ∧ GoodB A) ∧ A.n ≤ most ∧ a' ≤ a + 100 ∧ r = ((false, pv A), Hp a') := by
  refine Wp_call fn_law_auto rfl rfl ?_
  simp -implicitDefEqProofs [-List.getD_eq_getElem?_getD, -List.map_map, b_law_auto]
  obtain ⟨d, hd, e⟩ := pick_ok k P a (by omega) most hm
  refine Wp_of e ?_
  have hr : rngP [.int (1 + (d : Int))] = some ((List.range (d + 1)).map nt) := by
    have := rng_nt (d + 1) (by omega)
    rw [show ((d + 1 : Nat) : Int) = 1 + (d : Int) by omega] at this
    exact this
  simp -implicitDefEqProofs [-List.getD_eq_getElem?_getD, -List.map_map, hr]
  rw [← upTo_nt]
  obtain ⟨I, iI⟩ := mkI3 (fun (i : Nat) (env : FEnv) (h : Hs) => h = Hp (a + 1 + 2 * i) ∧ ∃ (st : List (Nat × Nat)) (x4 : Option Rv), st.length = i ∧ (∀ p ∈ st, p.1 < d + 1 ∧ p.2 < d + 1) ∧
    env = [some (false, pl rows), some (false, .int most), some (false, .int (1 + (d : Int))), some (false, .tup (st.map sp)), x4])
  refine Wp_rng _ I ((iI _ _ _).mpr ⟨rfl, [], none, rfl, by simp, rfl⟩) ?_ ?_
  · intro i env h hi hI
    obtain ⟨rfl, st, x4, hl, hst, rfl⟩ := (iI _ _ _).mp hI
    obtain ⟨p, hp1, e1⟩ := pick_ok k P (a + 1 + 2 * i) (by omega) (d + 1) (by omega)
    obtain ⟨q, hq1, e2⟩ := pick_ok k P (a + 1 + 2 * i + 1) (by omega) (d + 1) (by omega)
    rw [show ((d + 1 : Nat) : Int) = 1 + (d : Int) by omega] at e1 e2
    have hsl : st.length ≤ 16777215 := by omega
    simp -implicitDefEqProofs [-List.getD_eq_getElem?_getD, -List.map_map]
    refine Wp_of e1 ?_
    simp -implicitDefEqProofs [-List.getD_eq_getElem?_getD, -List.map_map]
    refine Wp_of e2 ?_
    simp -implicitDefEqProofs [-List.getD_eq_getElem?_getD, -List.map_map, hsl]
    refine (iI _ _ _).mpr ⟨rfl, st ++ [(p, q)], _, by simp [hl], fun r hr => ?_, by simp -implicitDefEqProofs [-List.getD_eq_getElem?_getD, -List.map_map]; rfl⟩
    rcases List.mem_append.mp hr with hr | hr
    · exact hst r hr
    · simp at hr; subst hr; exact ⟨hp1, hq1⟩
  · intro env h hI
    obtain ⟨rfl, st, x4, hl, hst, rfl⟩ := (iI _ _ _).mp hI
    obtain ⟨s, hs1, e1⟩ := pick_ok k P (a + 1 + 2 * (d + 1)) (by omega) (d + 1) (by omega)
    rw [show ((d + 1 : Nat) : Int) = 1 + (d : Int) by omega] at e1
    simp -implicitDefEqProofs [-List.getD_eq_getElem?_getD, -List.map_map]
    refine Wp_of e1 ?_
    simp -implicitDefEqProofs [-List.getD_eq_getElem?_getD, -List.map_map, hr]
    refine Wp_lc (enc := nt) (fun done rest acc h => h = Hp (a + 1 + 2 * (d + 1) + 1 + done.length) ∧ done.length + rest.length = d + 1 ∧ ∃ good : List Nat, (good.length ≤ done.length ∧ (∀ g ∈ good, g < d + 1) ∧ ∀ x ∈ rest, x < d + 1) ∧ acc = good.map nt) ?_ (List.range (d + 1)) [] [] _ ⟨rfl, by simp, [], ⟨by simp, by simp, fun x hx => List.mem_range.mp hx⟩, rfl⟩ ?_
    · rintro done x rest acc h ⟨rfl, hl2, good, ⟨hg, hgl, hxr⟩, rfl⟩
      obtain ⟨c, hc1, e2⟩ := pick_ok k P (a + 1 + 2 * (d + 1) + 1 + done.length) (by simp at hl2; omega) 2 (by decide)
      have e2 : callF G (k + 1) 26 [pl rows, .int 2] (Hp (a + 1 + 2 * (d + 1) + 1 + done.length)) = some ((false, .int (c : Nat)), Hp (a + 1 + 2 * (d + 1) + 1 + done.length + 1)) := e2
      simp -implicitDefEqProofs [-List.getD_eq_getElem?_getD, -List.map_map]
      refine Wp_of e2 ?_
      by_cases hc : c = 0
      · simp -implicitDefEqProofs [-List.getD_eq_getElem?_getD, -List.map_map, hc]
        refine ⟨rfl, by simp at hl2; omega, good ++ [x], ⟨by simp; omega, fun g hg => ?_, fun y hy => hxr y (by simp [hy])⟩, by simp -implicitDefEqProofs [-List.getD_eq_getElem?_getD, -List.map_map]⟩
        rcases List.mem_append.mp hg with hg | hg
        · exact hgl g hg
        · simp at hg; subst hg; exact hxr _ (by simp)
      · simp -implicitDefEqProofs [-List.getD_eq_getElem?_getD, -List.map_map, hc]
        refine ⟨rfl, by simp at hl2; omega, good, ⟨by omega, hgl, fun y hy => hxr y (by simp [hy])⟩, rfl⟩
    · rintro acc' h ⟨rfl, hl2, good, ⟨hg, hgb, _⟩, e3⟩
      have e3 : acc' = good.map nt := by simpa using e3
      subst e3
      have hgl : good.length ≤ 16777216 := by simp at hg; omega
      simp -implicitDefEqProofs [-List.getD_eq_getElem?_getD, -List.map_map, hgl]
      refine ⟨rfl, ⟨s, good, st⟩, ?_⟩
      refine ⟨⟨⟨?_, ?_⟩, ⟨?_, ?_⟩⟩, ?_, ?_⟩
      · show s < st.length
        omega
      · intro p hp
        have := hst p hp
        show p.1 < st.length ∧ p.2 < st.length
        omega
      · show good.length ≤ st.length
        simp at hg
        omega
      · intro g hg'
        show g < st.length
        have := hgb g hg'
        omega
      · show st.length ≤ most
        omega
      · refine ⟨_, ?_, ⟨rfl, rfl, rfl⟩, rfl⟩
        omega
theorem auto_ok (k : Nat) {rows : List Nat} (P : Pool rows) (a : Nat) (ha : a ≤ 1000) (most : Nat) (hm : 0 < most) (hm2 : most ≤ 20) :
    Wp (callF G (k + 2) 32 [pl rows, .int most] (Hp a)) fun r => ∃ A a', A.Ok ∧ A.n ≤ most ∧ a' ≤ a + 100 ∧ r = ((false, pv A), Hp a') :=
  (auto_ok2 k P a ha most hm hm2).mono fun _ ⟨A, a', h1, h2⟩ => ⟨A, a', h1.1, h2⟩
end K90
namespace K90
open PySem (Str)
open MP MX
/-! ### equal, of one kind at every place -/
/-- plain data, nested at most n deep -/
inductive Dt : Nat → PV → Prop where
  | non {n : Nat} : Dt n .non
  | bl {n : Nat} (b : Bool) : Dt n (.bl b)
  | int {n : Nat} (i : Int) : Dt n (.int i)
  | str {n : Nat} (z : Str) : Dt n (.str z)
  | tup {n : Nat} {xs : List PV} : xs.length ≤ 1000000 → (∀ x ∈ xs, Dt n x) → Dt (n + 1) (.tup xs)
  | lst {n : Nat} {xs : List PV} : xs.length ≤ 1000000 → (∀ x ∈ xs, Dt n x) → Dt (n + 1) (.lst xs)
def kindN : PV → Int
  | .bl _ => 1
  | .int _ => 2
  | .str _ => 3
  | .tup _ => 4
  | .lst _ => 5
  | _ => 0
theorem kind_ok (k : Nat) {n : Nat} {v : PV} (h : Dt n v) (hp : Hs) : callF G (k + 1) 20 [v] hp = some ((false, .int (kindN v)), hp) := by
  refine call_eq fn_law_kind rfl rfl ?_
  cases h <;> simp -implicitDefEqProofs [-List.getD_eq_getElem?_getD, -List.map_map, b_law_kind, kindN]
theorem equal_seq (k : Nat) {xs ys : List PV} (hl : ys.length ≤ 1000000) (hxy : xs.length = ys.length) (hp : Hs)
    (ih : ∀ i (h1 : i < xs.length) (h2 : i < ys.length), ∃ b, callF G k 21 [xs[i], ys[i]] hp = some ((false, .bl b), hp) ∧ (b = true ↔ xs[i] = ys[i])) :
    ∃ p : Nat → Bool, (∀ i, i < ys.length → ∃ b, callF G k 21 [xs.getD i .non, ys.getD i .non] hp = some ((false, .bl b), hp) ∧ (p i = !b)) ∧ (((List.range ys.length).filter p = []) ↔ xs = ys) := by
  have : ∀ i, ∃ b, i < ys.length → callF G k 21 [xs.getD i .non, ys.getD i .non] hp = some ((false, .bl b), hp) ∧ (b = true ↔ xs.getD i .non = ys.getD i .non) := fun i => by
    by_cases h : i < ys.length
    · obtain ⟨b, h1, h2⟩ := ih i (by omega) h
      have e1 : xs.getD i .non = xs[i]'(by omega) := by simp [List.getD, show i < xs.length by omega]
      have e2 : ys.getD i .non = ys[i] := by simp [List.getD, h]
      exact ⟨b, fun _ => by rw [e1, e2]; exact ⟨h1, h2⟩⟩
    · exact ⟨true, fun h' => absurd h' h⟩
  obtain ⟨f, hf⟩ := Classical.axiomOfChoice this
  refine ⟨fun i => !f i, fun i hi => ⟨f i, (hf i hi).1, rfl⟩, ?_⟩
  rw [List.filter_eq_nil_iff]
  constructor
  · intro h
    refine List.ext_getElem hxy fun i h1 h2 => ?_
    have := h i (List.mem_range.mpr h2)
    have := (hf i h2).2.mp (by simpa using this)
    simpa [List.getD, h1, h2] using this
  · rintro rfl i hi
    have := (hf i (List.mem_range.mp hi)).2.mpr rfl
    simp [this]
theorem equal_ne (k : Nat) {n m : Nat} {v x : PV} (hv : Dt n v) (hx : Dt m x) (hk : kindN x ≠ kindN v) (hp : Hs) : callF G (k + 2) 21 [x, v] hp = some ((false, .bl false), hp) := by
  refine call_eq fn_law_equal rfl rfl ?_
  simp -implicitDefEqProofs [-List.getD_eq_getElem?_getD, -List.map_map, b_law_equal]
  refine Wp_of (kind_ok k hx hp) ?_
  simp -implicitDefEqProofs [-List.getD_eq_getElem?_getD, -List.map_map]
  refine Wp_of (kind_ok k hv hp) ?_
  simp -implicitDefEqProofs [-List.getD_eq_getElem?_getD, -List.map_map, hk]
/-- what stands at a leaf -/
def leaf : PV → Bool
  | .tup _ => false
  | .lst _ => false
  | _ => true
theorem equal_leaf (k : Nat) {n m : Nat} {v x : PV} (hv : Dt n v) (hx : Dt m x) (hk : kindN x = kindN v) (hl : leaf v = true) (hp : Hs) : ∃ b, callF G (k + 2) 21 [x, v] hp = some ((false, .bl b), hp) ∧ (b = true ↔ x = v) := by
  have kx := kind_ok k hx hp
  have kv := kind_ok k hv hp
  have : ∃ b, Wp (exec G.cst (callF G (k + 1)) WF b_law_equal [some (false, x), some (false, v), none, none, none] hp) (fun r => r.1 = .rt (false, .bl b) ∧ r.2.2 = hp) ∧ (b = true ↔ x = v) := by
    cases hv with
    | non =>
      cases hx <;> simp [kindN] at hk
      refine ⟨true, ?_, by simp⟩
      simp -implicitDefEqProofs [-List.getD_eq_getElem?_getD, -List.map_map, b_law_equal]
      refine Wp_of kx ?_
      simp -implicitDefEqProofs [-List.getD_eq_getElem?_getD, -List.map_map]
      refine Wp_of kv ?_
      simp -implicitDefEqProofs [-List.getD_eq_getElem?_getD, -List.map_map, cmpP, okEq, PV.dat, PV.dep, eqP]
    | bl b =>
      cases hx <;> simp [kindN] at hk
      rename_i c
      refine ⟨c == b, ?_, by simp⟩
      simp -implicitDefEqProofs [-List.getD_eq_getElem?_getD, -List.map_map, b_law_equal]
      refine Wp_of kx ?_
      simp -implicitDefEqProofs [-List.getD_eq_getElem?_getD, -List.map_map]
      refine Wp_of kv ?_
      simp -implicitDefEqProofs [-List.getD_eq_getElem?_getD, -List.map_map, kindN]
    | int i =>
      cases hx <;> simp [kindN] at hk
      rename_i c
      refine ⟨decide (c = i), ?_, by simp⟩
      simp -implicitDefEqProofs [-List.getD_eq_getElem?_getD, -List.map_map, b_law_equal]
      refine Wp_of kx ?_
      simp -implicitDefEqProofs [-List.getD_eq_getElem?_getD, -List.map_map]
      refine Wp_of kv ?_
      simp -implicitDefEqProofs [-List.getD_eq_getElem?_getD, -List.map_map, kindN]
    | str z =>
      cases hx <;> simp [kindN] at hk
      rename_i c
      refine ⟨decide (c = z), ?_, by simp⟩
      simp -implicitDefEqProofs [-List.getD_eq_getElem?_getD, -List.map_map, b_law_equal]
      refine Wp_of kx ?_
      simp -implicitDefEqProofs [-List.getD_eq_getElem?_getD, -List.map_map]
      refine Wp_of kv ?_
      simp -implicitDefEqProofs [-List.getD_eq_getElem?_getD, -List.map_map, kindN]
    | tup _ _ => simp [leaf] at hl
    | lst _ _ => simp [leaf] at hl
  obtain ⟨b, w, h⟩ := this
  exact ⟨b, call_eq fn_law_equal rfl rfl w, h⟩
/-- two tuples, or two lists -/
theorem equal_two (k : Nat) (f : List PV → PV) (hf : f = PV.tup ∨ f = PV.lst) {n m : Nat} {xs ys : List PV} (hv : Dt n (f ys)) (hx : Dt m (f xs)) (hl : ys.length ≤ 1000000) (hp : Hs)
    (ih : xs.length = ys.length → ∀ i (h1 : i < xs.length) (h2 : i < ys.length), ∃ b, callF G (k + 1) 21 [xs[i], ys[i]] hp = some ((false, .bl b), hp) ∧ (b = true ↔ xs[i] = ys[i])) :
    ∃ b, callF G (k + 2) 21 [f xs, f ys] hp = some ((false, .bl b), hp) ∧ (b = true ↔ xs = ys) := by
  have kx := kind_ok k hx hp
  have kv := kind_ok k hv hp
  by_cases hxy : xs.length = ys.length
  · obtain ⟨p, h1, h2⟩ := equal_seq (k + 1) hl hxy hp (ih hxy)
    refine ⟨decide ((List.range ys.length).filter p = []), call_eq fn_law_equal rfl rfl ?_, by rw [decide_eq_true_eq, h2]⟩
    have hfl := List.length_filter_le p (List.range ys.length)
    simp only [List.length_range] at hfl
    rcases hf with rfl | rfl
    · simp -implicitDefEqProofs [-List.getD_eq_getElem?_getD, -List.map_map, b_law_equal]
      refine Wp_of kx ?_
      simp -implicitDefEqProofs [-List.getD_eq_getElem?_getD, -List.map_map]
      refine Wp_of kv ?_
      simp -implicitDefEqProofs [-List.getD_eq_getElem?_getD, -List.map_map, kindN, hxy, rng_nt ys.length (by omega)]
      refine Wp_of (lcE_filter (p := p) (g := nt) fun i hi => ?_) ?_
      · have hi := List.mem_range.mp hi
        obtain ⟨b, e, hb⟩ := h1 i hi
        have hi2 : i < xs.length := by omega
        have e1 : xs.getD i .non = xs[i] := by simp [List.getD, hi2]
        have e2 : ys.getD i .non = ys[i] := by simp [List.getD, hi]
        rw [e1, e2] at e
        refine Wp_eq ?_
        simp -implicitDefEqProofs [-List.getD_eq_getElem?_getD, -List.map_map, hi, hi2]
        refine Wp_of e ?_
        cases b <;> simp -implicitDefEqProofs [-List.getD_eq_getElem?_getD, -List.map_map, hb]
      · simp -implicitDefEqProofs [-List.getD_eq_getElem?_getD, -List.map_map, show ((List.range ys.length).filter p).length ≤ 16777216 by omega]
    · simp -implicitDefEqProofs [-List.getD_eq_getElem?_getD, -List.map_map, b_law_equal]
      refine Wp_of kx ?_
      simp -implicitDefEqProofs [-List.getD_eq_getElem?_getD, -List.map_map]
      refine Wp_of kv ?_
      simp -implicitDefEqProofs [-List.getD_eq_getElem?_getD, -List.map_map, kindN, hxy, rng_nt ys.length (by omega)]
      refine Wp_of (lcE_filter (p := p) (g := nt) fun i hi => ?_) ?_
      · have hi := List.mem_range.mp hi
        obtain ⟨b, e, hb⟩ := h1 i hi
        have hi2 : i < xs.length := by omega
        have e1 : xs.getD i .non = xs[i] := by simp [List.getD, hi2]
        have e2 : ys.getD i .non = ys[i] := by simp [List.getD, hi]
        rw [e1, e2] at e
        refine Wp_eq ?_
        simp -implicitDefEqProofs [-List.getD_eq_getElem?_getD, -List.map_map, hi, hi2]
        refine Wp_of e ?_
        cases b <;> simp -implicitDefEqProofs [-List.getD_eq_getElem?_getD, -List.map_map, hb]
      · simp -implicitDefEqProofs [-List.getD_eq_getElem?_getD, -List.map_map, show ((List.range ys.length).filter p).length ≤ 16777216 by omega]
  · refine ⟨false, call_eq fn_law_equal rfl rfl ?_, by simp; rintro rfl; exact hxy rfl⟩
    have hxy2 : ¬ (xs.length : Int) = (ys.length : Int) := by omega
    rcases hf with rfl | rfl
    · simp -implicitDefEqProofs [-List.getD_eq_getElem?_getD, -List.map_map, b_law_equal]
      refine Wp_of kx ?_
      simp -implicitDefEqProofs [-List.getD_eq_getElem?_getD, -List.map_map]
      refine Wp_of kv ?_
      simp -implicitDefEqProofs [-List.getD_eq_getElem?_getD, -List.map_map, kindN, hxy2]
    · simp -implicitDefEqProofs [-List.getD_eq_getElem?_getD, -List.map_map, b_law_equal]
      refine Wp_of kx ?_
      simp -implicitDefEqProofs [-List.getD_eq_getElem?_getD, -List.map_map]
      refine Wp_of kv ?_
      simp -implicitDefEqProofs [-List.getD_eq_getElem?_getD, -List.map_map, kindN, hxy2]
theorem equal_ok (n : Nat) : ∀ (k : Nat) {m : Nat} {v x : PV}, Dt n v → Dt m x → ∀ hp : Hs, ∃ b, callF G (k + n + 2) 21 [x, v] hp = some ((false, .bl b), hp) ∧ (b = true ↔ x = v) := by
  induction n with
  | zero =>
    intro k m v x hv hx hp
    by_cases hk : kindN x = kindN v
    · exact equal_leaf k hv hx hk (by cases hv <;> rfl) hp
    · exact ⟨false, equal_ne k hv hx hk hp, by simp; rintro rfl; exact hk rfl⟩
  | succ n ih =>
    intro k m v x hv hx hp
    by_cases hk : kindN x = kindN v
    · by_cases hl : leaf v = true
      · exact equal_leaf (k + n + 1) hv hx hk hl hp
      · cases hv with
        | @tup _ ys h1 h2 =>
          cases hx with
          | @tup _ xs g1 g2 =>
            obtain ⟨b, e, h⟩ := equal_two (k + n + 1) PV.tup (Or.inl rfl) (.tup h1 h2) (.tup g1 g2) h1 hp fun _ i a1 a2 => ih k (h2 _ (List.getElem_mem a2)) (g2 _ (List.getElem_mem a1)) hp
            exact ⟨b, e, by rw [h]; simp⟩
          | _ => simp [kindN] at hk
        | @lst _ ys h1 h2 =>
          cases hx with
          | @lst _ xs g1 g2 =>
            obtain ⟨b, e, h⟩ := equal_two (k + n + 1) PV.lst (Or.inr rfl) (.lst h1 h2) (.lst g1 g2) h1 hp fun _ i a1 a2 => ih k (h2 _ (List.getElem_mem a2)) (g2 _ (List.getElem_mem a1)) hp
            exact ⟨b, e, by rw [h]; simp⟩
          | _ => simp [kindN] at hk
        | _ => exact absurd rfl hl
    · exact ⟨false, equal_ne (k + n + 1) hv hx hk hp, by simp; rintro rfl; exact hk rfl⟩
/-- a value is equal to itself -/
theorem equal_self (k n : Nat) {v : PV} (hv : Dt n v) (hp : Hs) : callF G (k + n + 2) 21 [v, v] hp = some ((false, .bl true), hp) := by
  obtain ⟨b, e, h⟩ := equal_ok n k hv hv hp
  rw [e, h.mpr rfl]
end K90
set_option maxRecDepth 100000
namespace K90
open PySem (Str)
open MP MX AU
/-! ### what an automaton is -/
theorem Dt.dat {n : Nat} {v : PV} (h : Dt n v) : v.dat = true := by
  induction h with
  | tup _ _ ih => exact (datAll_iff _).mpr ih
  | lst _ _ ih => exact (datAll_iff _).mpr ih
  | _ => rfl
theorem Dt.sub {n : Nat} {xs : List PV} (h : Dt n (.tup xs)) : ∃ m, ∀ x ∈ xs, Dt m x := by
  cases h with
  | tup _ h => exact ⟨_, h⟩
theorem Dt.len {n : Nat} {xs : List PV} (h : Dt n (.tup xs)) : xs.length ≤ 1000000 := by
  cases h with
  | tup h _ => exact h
theorem isI_map {xs : List PV} (h : xs.all isI = true) : ∃ is : List Int, xs = is.map PV.int := by
  induction xs with
  | nil => exact ⟨[], rfl⟩
  | cons x xs ih =>
    simp only [List.all_cons, Bool.and_eq_true] at h
    obtain ⟨is, rfl⟩ := ih h.2
    cases x <;> simp [isI] at h
    rename_i i
    exact ⟨i :: is, rfl⟩
theorem map_isI (is : List Int) : (is.map PV.int).all isI = true := by simp [isI]
theorem isi_tup_no {n : Nat} {v : PV} (h : Dt n v) (hv : ∀ xs, v ≠ .tup xs) : isiP v .tuple = some false := by
  cases h <;> simp_all
theorem tup_or {n : Nat} {v : PV} (h : Dt n v) : (∃ xs, v = .tup xs) ∨ ∀ xs, v ≠ .tup xs := by
  cases h <;> simp
theorem rng_pred (n : Nat) (h : n ≤ 16777216) : rngP [.int ((n : Int) - 1)] = some ((List.range (n - 1)).map nt) := by
  cases n with
  | zero => rfl
  | succ n =>
    have e : ((n + 1 : Nat) : Int) - 1 = (n : Int) := by omega
    rw [e, Nat.add_sub_cancel]
    exact rng_nt n (by omega)
/-- numbers that rise -/
def rz (is : List Int) : Bool := (List.range (is.length - 1)).all fun k => decide (is.getD k 0 < is.getD (k + 1) 0)
def Items (v : PV) (n : Int) : Prop := ∃ is : List Int, v = .tup (is.map PV.int) ∧ rz is = true ∧ ∀ i ∈ is, 0 ≤ i ∧ i < n
theorem is_numbers_ok (k : Nat) {n : Nat} {v : PV} (h : Dt n v) (hp : Hs) : ∃ b, callF G (k + 2) 1 [v] hp = some ((false, .bl b), hp) ∧ (b = true ↔ ∃ is : List Int, v = .tup (is.map PV.int)) := by
  rcases tup_or h with ⟨xs, rfl⟩ | hv
  · obtain ⟨m, hs⟩ := h.sub
    refine ⟨xs.all isI, call_eq fn_is_numbers rfl rfl ?_, fun hb => ?_, ?_⟩
    · simp -implicitDefEqProofs [-List.getD_eq_getElem?_getD, -List.map_map, b_is_numbers]
      rw [show xs = xs.map id by simp]
      refine Wp_of (lcE_map1 (enc := id) (g := fun x => PV.bl (isI x)) fun x hx => ?_) ?_
      · refine Wp_eq ?_
        simp -implicitDefEqProofs [-List.getD_eq_getElem?_getD, -List.map_map]
        refine Wp_of (is_whole_ok k x (hs x hx).dat hp) ?_
        simp -implicitDefEqProofs [-List.getD_eq_getElem?_getD, -List.map_map]
      · simp -implicitDefEqProofs [-List.getD_eq_getElem?_getD, -List.map_map, show xs.length ≤ 16777216 by have := h.len; omega]
        grind
    · obtain ⟨is, e⟩ := isI_map hb
      exact ⟨is, by rw [e]⟩
    · rintro ⟨is, e⟩
      cases e
      exact map_isI is
  · refine ⟨false, call_eq fn_is_numbers rfl rfl ?_, by simp; exact fun is => hv _⟩
    simp -implicitDefEqProofs [-List.getD_eq_getElem?_getD, -List.map_map, b_is_numbers, isi_tup_no h hv]
theorem int_at {is : List Int} {k : Nat} (h : k < is.length) : (is.map PV.int)[k]? = some (.int (is.getD k 0)) := by simp [List.getD, h]
theorem rises_ok (k : Nat) (is : List Int) (hl : is.length ≤ 1000000) (hp : Hs) : callF G (k + 1) 4 [.tup (is.map PV.int)] hp = some ((false, .bl (rz is)), hp) := by
  refine call_eq fn_rises rfl rfl ?_
  simp -implicitDefEqProofs [-List.getD_eq_getElem?_getD, -List.map_map, b_rises, rng_pred is.length (by omega)]
  refine Wp_of (lcE_map1 (g := fun k => PV.bl (decide (is.getD k 0 < is.getD (k + 1) 0))) fun j hj => ?_) ?_
  · have hj := List.mem_range.mp hj
    have e1 := atP_nat (is.map PV.int) (j + 1)
    have e2 : ((j + 1 : Nat) : Int) = (j : Int) + 1 := by omega
    rw [e2, int_at (by omega)] at e1
    simp -implicitDefEqProofs [-List.getD_eq_getElem?_getD, -List.map_map, int_at (show j < is.length by omega), e1]
  · simp -implicitDefEqProofs [-List.getD_eq_getElem?_getD, -List.map_map, show is.length - 1 ≤ 16777216 by omega, rz]
theorem is_items_ok (k : Nat) {m : Nat} {v : PV} (h : Dt m v) (n : Int) (hp : Hs) : ∃ b, callF G (k + 3) 5 [v, .int n] hp = some ((false, .bl b), hp) ∧ (b = true ↔ Items v n) := by
  obtain ⟨b, e, hb⟩ := is_numbers_ok k h hp
  cases b with
  | false =>
    refine ⟨false, call_eq fn_is_items rfl rfl ?_, by simp; rintro ⟨is, hv, _⟩; have := hb.mpr ⟨is, hv⟩; simp at this⟩
    simp -implicitDefEqProofs [-List.getD_eq_getElem?_getD, -List.map_map, b_is_items]
    refine Wp_of e ?_
    simp -implicitDefEqProofs [-List.getD_eq_getElem?_getD, -List.map_map]
  | true =>
    obtain ⟨is, rfl⟩ := hb.mp rfl
    have hl := h.len
    simp only [List.length_map] at hl
    refine ⟨rz is && is.all fun i => decide (0 ≤ i ∧ i < n), call_eq fn_is_items rfl rfl ?_, ?_⟩
    · simp -implicitDefEqProofs [-List.getD_eq_getElem?_getD, -List.map_map, b_is_items]
      refine Wp_of e ?_
      simp -implicitDefEqProofs [-List.getD_eq_getElem?_getD, -List.map_map]
      refine Wp_of (rises_ok (k + 1) is hl hp) ?_
      cases hz : rz is with
      | false => simp -implicitDefEqProofs [-List.getD_eq_getElem?_getD, -List.map_map]
      | true =>
        simp -implicitDefEqProofs [-List.getD_eq_getElem?_getD, -List.map_map]
        refine Wp_of (lcE_map1 (enc := PV.int) (g := fun i => PV.bl (decide (0 ≤ i ∧ i < n))) fun i hi => ?_) ?_
        · by_cases h0 : 0 ≤ i <;> simp -implicitDefEqProofs [-List.getD_eq_getElem?_getD, -List.map_map, h0]
        · simp -implicitDefEqProofs [-List.getD_eq_getElem?_getD, -List.map_map, show is.length ≤ 16777216 by omega]
          grind
    · simp only [Bool.and_eq_true, List.all_eq_true, decide_eq_true_eq]
      constructor
      · rintro ⟨h1, h2⟩
        exact ⟨is, rfl, h1, h2⟩
      · rintro ⟨js, ej, h1, h2⟩
        have : is = js := by
          have : is.map PV.int = js.map PV.int := by simpa using ej
          exact (List.map_inj_right fun _ _ e => by cases e; rfl).mp this
        subst this
        exact ⟨h1, h2⟩
/-- no number below n -/
def badI (n : Int) : PV → Bool
  | .int i => !decide (0 ≤ i ∧ i < n)
  | _ => true
def toI : PV → Int
  | .int i => i
  | _ => 0
def rzN (xs : List PV) : Bool := rz (xs.map toI)
theorem rzN_ints (is : List Int) : rzN (is.map PV.int) = rz is := by
  unfold rzN
  rw [List.map_map]
  congr 1
  exact List.map_id' is
theorem law_items_ok (k : Nat) {m : Nat} {v : PV} (h : Dt m v) (n : Int) (hp : Hs) : ∃ b, callF G (k + 2) 27 [v, .int n] hp = some ((false, .bl b), hp) ∧ (b = true ↔ Items v n) := by
  rcases tup_or h with ⟨xs, rfl⟩ | hv
  · obtain ⟨m, hs⟩ := h.sub
    have hl := h.len
    have hb : ∀ x ∈ xs, callF G (k + 1) 18 [x] hp = some ((false, .bl (isI x)), hp) := fun x hx => law_is_int_ok k x (hs x hx).dat hp
    refine ⟨decide (xs.filter (badI n) = []) && rzN xs, call_eq fn_law_items rfl rfl ?_, ?_⟩
    · have hfl := List.length_filter_le (badI n) xs
      simp -implicitDefEqProofs [-List.getD_eq_getElem?_getD, -List.map_map, b_law_items]
      rw [show xs = xs.map id by simp]
      refine Wp_of (lcE_filter (enc := id) (p := badI n) (g := id) fun x hx => ?_) ?_
      · refine Wp_eq ?_
        simp -implicitDefEqProofs [-List.getD_eq_getElem?_getD, -List.map_map]
        refine Wp_of (hb x hx) ?_
        cases x with
        | int i =>
          by_cases h0 : 0 ≤ i
          · by_cases h1 : i < n
            · simp -implicitDefEqProofs [-List.getD_eq_getElem?_getD, -List.map_map, isI, h0, h1, badI]
            · simp -implicitDefEqProofs [-List.getD_eq_getElem?_getD, -List.map_map, isI, h0, h1, badI]
          · simp -implicitDefEqProofs [-List.getD_eq_getElem?_getD, -List.map_map, isI, h0, badI]
        | _ => simp -implicitDefEqProofs [-List.getD_eq_getElem?_getD, -List.map_map, isI, badI]
      · by_cases hf : xs.filter (badI n) = []
        · have hall : xs.all isI = true := by
            rw [List.filter_eq_nil_iff] at hf
            rw [List.all_eq_true]
            intro x hx
            have := hf x hx
            cases x <;> simp [badI] at this
            rfl
          obtain ⟨is, rfl⟩ := isI_map hall
          simp only [List.length_map] at hl hfl
          simp -implicitDefEqProofs [-List.getD_eq_getElem?_getD, -List.map_map, hf, rng_pred is.length (by omega)]
          refine Wp_of (lcE_filter (p := fun k => decide (is.getD (k + 1) 0 ≤ is.getD k 0)) (g := nt) fun j hj => ?_) ?_
          · have hj := List.mem_range.mp hj
            have e1 := atP_nat (is.map PV.int) (j + 1)
            have e2 : ((j + 1 : Nat) : Int) = (j : Int) + 1 := by omega
            rw [e2, int_at (by omega)] at e1
            simp -implicitDefEqProofs [-List.getD_eq_getElem?_getD, -List.map_map, int_at (show j < is.length by omega), e1]
            split <;> rfl
          · have hgl := List.length_filter_le (fun k => decide (is.getD (k + 1) 0 ≤ is.getD k 0)) (List.range (is.length - 1))
            simp only [List.length_range] at hgl
            simp -implicitDefEqProofs [-List.getD_eq_getElem?_getD, -List.map_map, show ((List.range (is.length - 1)).filter fun k => decide (is.getD (k + 1) 0 ≤ is.getD k 0)).length ≤ 16777216 by omega, rzN_ints]
            have hb0 : ∀ a ∈ is, badI n (.int a) = false := fun a ha => by
              have := (List.filter_eq_nil_iff.mp hf) (.int a) (List.mem_map_of_mem ha)
              simpa using this
            simp only [rz]
            rw [Bool.eq_iff_iff]
            simp
            grind
        · have h0 : (0 : Int) < ((xs.filter (badI n)).length : Nat) := by
            have := List.length_pos_iff.mpr hf
            omega
          simp -implicitDefEqProofs [-List.getD_eq_getElem?_getD, -List.map_map, hf, h0, show (xs.filter (badI n)).length ≤ 16777216 by omega]
          have := mt List.filter_eq_nil_iff.mpr hf
          simp at this
          grind
    · rw [Bool.and_eq_true, decide_eq_true_eq, List.filter_eq_nil_iff]
      constructor
      · rintro ⟨h1, h2⟩
        have hall : xs.all isI = true := by
          rw [List.all_eq_true]
          intro x hx
          have := h1 x hx
          cases x <;> simp [badI] at this
          rfl
        obtain ⟨is, rfl⟩ := isI_map hall
        rw [rzN_ints] at h2
        refine ⟨is, rfl, h2, fun i hi => ?_⟩
        have := h1 _ (List.mem_map_of_mem hi)
        simp [badI] at this
        omega
      · rintro ⟨is, e, h1, h2⟩
        cases e
        rw [rzN_ints]
        refine ⟨fun x hx => ?_, h1⟩
        obtain ⟨i, hi, rfl⟩ := List.mem_map.mp hx
        have := h2 i hi
        simp [badI]
        omega
  · refine ⟨false, call_eq fn_law_items rfl rfl ?_, by simp; rintro ⟨is, e, _⟩; exact hv _ e⟩
    simp -implicitDefEqProofs [-List.getD_eq_getElem?_getD, -List.map_map, b_law_items, isi_tup_no h hv]
end K90
set_option maxRecDepth 100000
namespace K90
open PySem (Str)
open MP MX AU
@[simp] theorem lcB2_def (gl : Nat → Option PV) (call : CallT) (elt : ME) (t : Tg) (c : ME) (t1 : Tg) (k1 : Ik) (it1 c1 : ME) (env : Env) (x : PV) (hp : Hs) : lcB2 gl call elt t c t1 k1 it1 c1 env x hp = (setTg t x (wipeE env (t.slots ++ t1.slots))).bind fun env1 => bndB (ev gl call c env1 hp) fun b hp1 =>
    if b = true then bndL (wK k1 (ev gl call it1 env1 hp1) (evL gl call it1 env1 hp1)) fun xs1 hp2 => lcE (lcB gl call elt t1 c1 env1) xs1 hp2 else some ([], hp1) := rfl
def isP2 : PV → Bool
  | .tup [.int _, .int _] => true
  | _ => false
theorem isP2_iff {v : PV} : isP2 v = true ↔ ∃ i j, v = .tup [.int i, .int j] := by
  constructor
  · intro h
    unfold isP2 at h
    split at h
    · exact ⟨_, _, rfl⟩
    · simp at h
  · rintro ⟨i, j, rfl⟩
    rfl
theorem len2 {xs : List PV} (h : xs.length = 2) : ∃ a b, xs = [a, b] := by
  match xs, h with
  | [a, b], _ => exact ⟨a, b, rfl⟩
theorem ok2 {a b : PV} (ha : isI a = true) (hb : isI b = true) : isP2 (.tup [a, b]) = true := by
  cases a <;> cases b <;> simp_all [isI, isP2]
theorem no2 {a b : PV} (h : isI a = false ∨ isI b = false) : isP2 (.tup [a, b]) = false := by
  cases a <;> cases b <;> simp_all [isI, isP2]
theorem numbers_in_ok (k : Nat) {n : Nat} {v : PV} (h : Dt n v) (hp : Hs) : callF G (k + 2) 23 [v, .int 2] hp = some ((false, .bl (isP2 v)), hp) := by
  refine call_eq fn_law_numbers_in rfl rfl ?_
  rcases tup_or h with ⟨xs, rfl⟩ | hv
  · obtain ⟨m, hs⟩ := h.sub
    have hl := h.len
    by_cases h2 : xs.length = 2
    · obtain ⟨a, b, rfl⟩ := len2 h2
      simp -implicitDefEqProofs [-List.getD_eq_getElem?_getD, -List.map_map, b_law_numbers_in]
      refine Wp_of (law_is_int_ok k a (hs a (by simp)).dat hp) ?_
      cases ha : isI a with
      | true =>
        simp -implicitDefEqProofs [-List.getD_eq_getElem?_getD, -List.map_map]
        refine Wp_of (law_is_int_ok k b (hs b (by simp)).dat hp) ?_
        cases hb : isI b with
        | true =>
          simp -implicitDefEqProofs [-List.getD_eq_getElem?_getD, -List.map_map, ok2 ha hb]
        | false =>
          simp -implicitDefEqProofs [-List.getD_eq_getElem?_getD, -List.map_map, no2 (Or.inr hb)]
      | false =>
        simp -implicitDefEqProofs [-List.getD_eq_getElem?_getD, -List.map_map]
        refine Wp_of (law_is_int_ok k b (hs b (by simp)).dat hp) ?_
        cases hb : isI b with
        | true =>
          simp -implicitDefEqProofs [-List.getD_eq_getElem?_getD, -List.map_map, no2 (Or.inl ha)]
        | false =>
          simp -implicitDefEqProofs [-List.getD_eq_getElem?_getD, -List.map_map, no2 (Or.inl ha)]
    · have h3 : ¬ (xs.length : Int) = 2 := by omega
      have h4 : isP2 (.tup xs) = false := by
        rw [Bool.eq_false_iff]
        intro c
        obtain ⟨i, j, e⟩ := isP2_iff.mp c
        cases e
        exact h2 rfl
      simp -implicitDefEqProofs [-List.getD_eq_getElem?_getD, -List.map_map, b_law_numbers_in, h3, h4]
  · have h4 : isP2 v = false := by
      rw [Bool.eq_false_iff]
      intro c
      obtain ⟨i, j, e⟩ := isP2_iff.mp c
      exact hv _ e
    simp -implicitDefEqProofs [-List.getD_eq_getElem?_getD, -List.map_map, b_law_numbers_in, isi_tup_no h hv, h4]
/-- a row of steps -/
def rowI (n : Nat) (v : PV) : Bool := match v with
  | .tup [.int i, .int j] => decide (0 ≤ i ∧ i < (n : Int)) && decide (0 ≤ j ∧ j < (n : Int))
  | _ => false
def IsA (v : PV) : Prop := ∃ (s : Int) (g : PV) (rs : List PV), v = .tup [.int s, g, .tup rs] ∧ 1 ≤ rs.length ∧ rs.length ≤ 100 ∧ 0 ≤ s ∧ s < (rs.length : Int) ∧ Items g (rs.length : Int) ∧ ∀ r ∈ rs, rowI rs.length r = true
theorem len3 (xs : List PV) : (∃ a b c, xs = [a, b, c]) ∨ xs.length ≠ 3 := by
  match xs with
  | [a, b, c] => exact Or.inl ⟨a, b, c, rfl⟩
  | [] => simp
  | [_] => simp
  | [_, _] => simp
  | _ :: _ :: _ :: _ :: _ => right; simp
theorem cst1 : G.cst 1 = some (.int 100) := by rfl
/-- a whole number from .. to .. -/
def isFr (lo hi : Int) : PV → Bool
  | .int i => decide (lo ≤ i ∧ i ≤ hi)
  | _ => false
theorem is_from_ok (k : Nat) {m : Nat} {v : PV} (h : Dt m v) (lo hi : Int) (hp : Hs) : callF G (k + 2) 2 [v, .int lo, .int hi] hp = some ((false, .bl (isFr lo hi v)), hp) := by
  rcases isI_cases v with ⟨i, rfl⟩ | hv
  · exact is_from_int k i lo hi hp
  · rw [is_from_no k v h.dat hv]
    cases v <;> simp_all [isI, isFr]
def isT2 : PV → Bool
  | .tup xs => decide (xs.length = 2)
  | _ => false
theorem isT2_iff {v : PV} : isT2 v = true ↔ ∃ a b, v = .tup [a, b] := by
  constructor
  · intro h
    unfold isT2 at h
    split at h
    · obtain ⟨a, b, rfl⟩ := len2 (by simpa using h)
      exact ⟨_, _, rfl⟩
    · simp at h
  · rintro ⟨i, j, rfl⟩
    rfl
def frs (n : Int) : PV → List Bool
  | .tup xs => xs.map (isFr 0 (n - 1))
  | _ => []
theorem rowI_iff {n : Nat} {v : PV} : rowI n v = true ↔ isT2 v = true ∧ (frs n v).all id = true := by
  constructor
  · intro h
    unfold rowI at h
    split at h
    · simp at h
      simp [isT2, frs, isFr]
      omega
    · simp at h
  · rintro ⟨h1, h2⟩
    obtain ⟨a, b, rfl⟩ := isT2_iff.mp h1
    cases a <;> cases b <;> simp [frs, isFr] at h2
    simp [rowI]
    omega
theorem lcE_I {f : PV → Hs → Option (List PV × Hs)} {g : PV → List PV} {hp : Hs} {xs : List PV} (h : ∀ x, x ∈ xs → f x hp = some (g x, hp)) : lcE f xs hp = some (xs.flatMap g, hp) := by
  have := lcE_map (enc := id) (f := f) (g := g) (hp := hp) (xs := xs) h
  rwa [List.map_id] at this
theorem lcE_I1 {f : PV → Hs → Option (List PV × Hs)} {g : PV → PV} {hp : Hs} {xs : List PV} (h : ∀ x, x ∈ xs → f x hp = some ([g x], hp)) : lcE f xs hp = some (xs.map g, hp) := by
  have := lcE_map1 (enc := id) (f := f) (g := g) (hp := hp) (xs := xs) h
  rwa [List.map_id] at this
theorem lcE_IF {f : PV → Hs → Option (List PV × Hs)} {p : PV → Bool} {g : PV → PV} {hp : Hs} {xs : List PV} (h : ∀ x, x ∈ xs → f x hp = some (if p x = true then [g x] else [], hp)) : lcE f xs hp = some ((xs.filter p).map g, hp) := by
  have := lcE_filter (enc := id) (f := f) (p := p) (g := g) (hp := hp) (xs := xs) h
  rwa [List.map_id] at this
theorem all_bl (bs : List Bool) : bclP .all [.lst (bs.map PV.bl)] = some (false, .bl (bs.all id)) := all_map id bs
theorem map_id' (xs : List PV) : xs.map id = xs := by simp
theorem isA_iff {a g : PV} {rs : List PV} : IsA (.tup [a, g, .tup rs]) ↔ (1 ≤ rs.length ∧ rs.length ≤ 100) ∧ isFr 0 ((rs.length : Int) - 1) a = true ∧ Items g (rs.length : Int) ∧ (∀ r ∈ rs, isT2 r = true) ∧ ∀ r ∈ rs, (frs rs.length r).all id = true := by
  constructor
  · rintro ⟨s, g', rs', e, h1, h2, h3, h4, h5, h6⟩
    simp at e
    obtain ⟨rfl, rfl, rfl⟩ := e
    refine ⟨⟨h1, h2⟩, ?_, h5, fun r hr => (rowI_iff.mp (h6 r hr)).1, fun r hr => (rowI_iff.mp (h6 r hr)).2⟩
    simp [isFr]
    omega
  · rintro ⟨⟨h1, h2⟩, h3, h4, h5, h6⟩
    rcases isI_cases a with ⟨i, rfl⟩ | ha
    · simp [isFr] at h3
      exact ⟨i, g, rs, rfl, h1, h2, by omega, by omega, h4, fun r hr => rowI_iff.mpr ⟨h5 r hr, h6 r hr⟩⟩
    · cases a <;> simp_all [isI, isFr]
theorem flat_bl {α : Type} (f : α → List Bool) : ∀ xs : List α, xs.flatMap (fun x => (f x).map PV.bl) = (xs.flatMap f).map PV.bl
  | [] => rfl
  | x :: xs => by simp [flat_bl f xs]
theorem flat_all {α : Type} (f : α → List Bool) (xs : List α) : (xs.flatMap f).all id = xs.all fun x => (f x).all id := by simp [List.all_flatMap]
theorem flat_len {α : Type} (f : α → List Bool) (m : Nat) : ∀ xs : List α, (∀ x ∈ xs, (f x).length = m) → (xs.flatMap f).length = xs.length * m
  | [], _ => by simp
  | x :: xs, h => by
    have h1 := h x (by simp)
    have h2 := flat_len f m xs fun y hy => h y (by simp [hy])
    simp [h1, h2, Nat.add_mul]
    omega
theorem is_automaton_ok (k : Nat) {n : Nat} {v : PV} (h : Dt n v) (hp : Hs) : Wp (callF G (k + 4) 6 [v] hp) fun r => ∃ b, r = ((false, .bl b), hp) ∧ (b = true ↔ IsA v) := by
  refine Wp_call fn_is_automaton rfl rfl ?_
  rcases tup_or h with ⟨xs, rfl⟩ | hv
  · obtain ⟨m, hs⟩ := h.sub
    rcases len3 xs with ⟨a, g, t, rfl⟩ | h3
    · have da := hs a (by simp)
      have dg := hs g (by simp)
      have dt := hs t (by simp)
      rcases tup_or dt with ⟨rs, rfl⟩ | ht
      · obtain ⟨m2, hr⟩ := dt.sub
        have hl := dt.len
        by_cases h1 : 1 ≤ rs.length
        · have h1' : (1 : Int) ≤ (rs.length : Int) := by omega
          by_cases h2 : rs.length ≤ 100
          · have h2' : (rs.length : Int) ≤ 100 := by omega
            simp -implicitDefEqProofs [-List.getD_eq_getElem?_getD, -List.map_map, b_is_automaton, cst1, h1', h2']
            refine Wp_of (is_from_ok (k + 1) da _ _ hp) ?_
            cases hf : isFr 0 ((rs.length : Int) - 1) a with
            | false =>
              simp -implicitDefEqProofs [-List.getD_eq_getElem?_getD, -List.map_map, isA_iff, hf]
            | true =>
              simp -implicitDefEqProofs [-List.getD_eq_getElem?_getD, -List.map_map]
              obtain ⟨b, e, hb⟩ := is_items_ok k dg (rs.length : Int) hp
              refine Wp_of e ?_
              cases b with
              | false =>
                have : ¬ Items g (rs.length : Int) := fun c => by simpa using hb.mpr c
                simp -implicitDefEqProofs [-List.getD_eq_getElem?_getD, -List.map_map, isA_iff, this]
              | true =>
                have hI := hb.mp rfl
                simp -implicitDefEqProofs [-List.getD_eq_getElem?_getD, -List.map_map]
                refine Wp_of (lcE_I1 (g := fun x => PV.bl (isT2 x)) fun x hx => ?_) ?_
                · have dx := hr x hx
                  refine Wp_eq ?_
                  rcases tup_or dx with ⟨ys, rfl⟩ | hx
                  · simp -implicitDefEqProofs [-List.getD_eq_getElem?_getD, -List.map_map, isT2]
                    omega
                  · have h4 : isT2 x = false := by
                      rw [Bool.eq_false_iff]
                      intro c
                      obtain ⟨i, j, e⟩ := isT2_iff.mp c
                      exact hx _ e
                    simp -implicitDefEqProofs [-List.getD_eq_getElem?_getD, -List.map_map, isi_tup_no dx hx, h4]
                · cases hT : rs.all isT2 with
                  | false =>
                    simp -implicitDefEqProofs [-List.getD_eq_getElem?_getD, -List.map_map, isA_iff, show rs.length ≤ 16777216 by omega, hT]
                    grind
                  | true =>
                    have hT2 := List.all_eq_true.mp hT
                    simp -implicitDefEqProofs [-List.getD_eq_getElem?_getD, -List.map_map, show rs.length ≤ 16777216 by omega, hT]
                    refine Wp_of (lcE_I (g := fun x => (frs rs.length x).map PV.bl) fun x hx => ?_) ?_
                    · obtain ⟨p, q, rfl⟩ := isT2_iff.mp (hT2 x hx)
                      have dx := (hr _ hx).sub
                      obtain ⟨m3, dx⟩ := dx
                      refine Wp_eq ?_
                      simp -implicitDefEqProofs [-List.getD_eq_getElem?_getD, -List.map_map]
                      refine Wp_of (is_from_ok (k + 1) (dx p (by simp)) _ _ hp) ?_
                      simp -implicitDefEqProofs [-List.getD_eq_getElem?_getD, -List.map_map]
                      refine Wp_of (is_from_ok (k + 1) (dx q (by simp)) _ _ hp) ?_
                      simp -implicitDefEqProofs [-List.getD_eq_getElem?_getD, -List.map_map, frs]
                    · have hfl : (rs.flatMap (frs rs.length)).length ≤ 16777216 := by
                        rw [flat_len _ 2 _ fun x hx => ?_]
                        · omega
                        · obtain ⟨p, q, rfl⟩ := isT2_iff.mp (hT2 x hx)
                          rfl
                      have hia : IsA (.tup [a, g, .tup rs]) ↔ ((rs.flatMap (frs rs.length)).all id) = true := by
                        rw [isA_iff, flat_all, List.all_eq_true]
                        exact ⟨fun c => c.2.2.2.2, fun c => ⟨⟨h1, h2⟩, hf, hI, hT2, c⟩⟩
                      rw [flat_bl]
                      generalize rs.flatMap (frs rs.length) = bs at hfl hia ⊢
                      simp only [all_bl]
                      simp -implicitDefEqProofs [-List.getD_eq_getElem?_getD, -List.map_map, hfl, hia]
                      grind
          · have h2' : ¬ (rs.length : Int) ≤ 100 := by omega
            simp -implicitDefEqProofs [-List.getD_eq_getElem?_getD, -List.map_map, b_is_automaton, cst1, h1', h2', isA_iff, h2]
        · have h1' : ¬ (1 : Int) ≤ (rs.length : Int) := by omega
          simp -implicitDefEqProofs [-List.getD_eq_getElem?_getD, -List.map_map, b_is_automaton, h1', isA_iff, h1]
      · simp -implicitDefEqProofs [-List.getD_eq_getElem?_getD, -List.map_map, b_is_automaton, isi_tup_no dt ht]
        rintro ⟨s, g, rs, e, _⟩
        simp at e
        exact ht _ e.2.2
    · have h4 : ¬ (xs.length : Int) = 3 := by omega
      simp -implicitDefEqProofs [-List.getD_eq_getElem?_getD, -List.map_map, b_is_automaton, h4]
      rintro ⟨s, g, rs, e, _⟩
      simp at e
      subst e
      simp at h3
  · simp -implicitDefEqProofs [-List.getD_eq_getElem?_getD, -List.map_map, b_is_automaton, isi_tup_no h hv]
    rintro ⟨s, g, rs, e, _⟩
    exact hv _ e
theorem min_t2 (i j : Int) : bclP .min [.tup [.int i, .int j]] = some (false, .int (min i j)) := by rfl
theorem max_t2 (i j : Int) : bclP .max [.tup [.int i, .int j]] = some (false, .int (max i j)) := by rfl
theorem rowI_two {n : Nat} {v : PV} (h : rowI n v = true) : isP2 v = true := by
  unfold rowI at h
  split at h
  · rfl
  · simp at h
theorem rowI_imp {n : Nat} {rs : List PV} : (∀ r ∈ rs, isT2 r = true) ∧ (∀ r ∈ rs, (frs (n : Int) r).all id = true) ↔ ∀ r ∈ rs, rowI n r = true :=
  ⟨fun h r hr => rowI_iff.mpr ⟨h.1 r hr, h.2 r hr⟩, fun h => ⟨fun r hr => (rowI_iff.mp (h r hr)).1, fun r hr => (rowI_iff.mp (h r hr)).2⟩⟩
theorem law_is_auto_ok (k : Nat) {n : Nat} {v : PV} (h : Dt n v) (hp : Hs) : Wp (callF G (k + 4) 31 [v] hp) fun r => ∃ b, r = ((false, .bl b), hp) ∧ (b = true ↔ IsA v) := by
  refine Wp_call fn_law_is_auto rfl rfl ?_
  rcases tup_or h with ⟨xs, rfl⟩ | hv
  · obtain ⟨m, hs⟩ := h.sub
    rcases len3 xs with ⟨a, g, t, rfl⟩ | h3
    · have da := hs a (by simp)
      have dg := hs g (by simp)
      have dt := hs t (by simp)
      rcases tup_or dt with ⟨rs, rfl⟩ | ht
      · obtain ⟨m2, hr⟩ := dt.sub
        have hl := dt.len
        by_cases h1 : 1 ≤ rs.length
        · have h1' : (1 : Int) ≤ (rs.length : Int) := by omega
          by_cases h2 : rs.length ≤ 100
          · have h2' : (rs.length : Int) ≤ 100 := by omega
            have hsp := isA_iff (a := a) (g := g) (rs := rs)
            rw [rowI_imp] at hsp
            simp -implicitDefEqProofs [-List.getD_eq_getElem?_getD, -List.map_map, b_law_is_auto, h1', h2']
            refine Wp_of (law_is_int_ok (k + 2) a da.dat hp) ?_
            rcases isI_cases a with ⟨i, rfl⟩ | ha
            · by_cases hi : 0 ≤ i ∧ i < (rs.length : Int)
              · obtain ⟨hi0, hi1⟩ := hi
                simp -implicitDefEqProofs [-List.getD_eq_getElem?_getD, -List.map_map, isI, hi0, hi1]
                obtain ⟨b, e, hb⟩ := law_items_ok (k + 1) dg (rs.length : Int) hp
                refine Wp_of e ?_
                cases b with
                | false =>
                  have : ¬ Items g (rs.length : Int) := fun c => by simpa using hb.mpr c
                  simp -implicitDefEqProofs [-List.getD_eq_getElem?_getD, -List.map_map, hsp, this]
                | true =>
                  have hI := hb.mp rfl
                  have hia : IsA (.tup [.int i, g, .tup rs]) ↔ rs.filter (fun r => !rowI rs.length r) = [] := by
                    rw [hsp, List.filter_eq_nil_iff]
                    constructor
                    · intro c r hr
                      simp [c.2.2.2 r hr]
                    · intro c
                      refine ⟨⟨h1, h2⟩, ?_, hI, fun r hr => by simpa using c r hr⟩
                      simp [isFr]
                      omega
                  simp -implicitDefEqProofs [-List.getD_eq_getElem?_getD, -List.map_map]
                  refine Wp_of (lcE_IF (p := fun r => !rowI rs.length r) (g := id) fun x hx => ?_) ?_
                  · refine Wp_eq ?_
                    have dx := hr x hx
                    simp -implicitDefEqProofs [-List.getD_eq_getElem?_getD, -List.map_map]
                    refine Wp_of (numbers_in_ok (k + 1) dx hp) ?_
                    cases h2 : isP2 x with
                    | false =>
                      have : rowI rs.length x = false := by
                        rw [Bool.eq_false_iff]
                        intro c
                        rw [rowI_two c] at h2
                        simp at h2
                      simp -implicitDefEqProofs [-List.getD_eq_getElem?_getD, -List.map_map, this]
                    | true =>
                      obtain ⟨p, q, rfl⟩ := isP2_iff.mp h2
                      simp -implicitDefEqProofs [-List.getD_eq_getElem?_getD, -List.map_map, min_t2, max_t2, rowI]
                      omega
                  · have hfl := List.length_filter_le (fun r => !rowI rs.length r) rs
                    generalize rs.filter (fun r => !rowI rs.length r) = bs at hfl hia ⊢
                    simp -implicitDefEqProofs [-List.getD_eq_getElem?_getD, -List.map_map, show bs.length ≤ 16777216 by omega, hia]
                    exact Classical.em _ |>.symm
              · have hi := Classical.not_and_iff_not_or_not.mp hi
                have : isFr 0 ((rs.length : Int) - 1) (.int i) = false := by simp [isFr]; omega
                rcases hi with hi | hi
                · simp -implicitDefEqProofs [-List.getD_eq_getElem?_getD, -List.map_map, isI, hi, hsp, this]
                · by_cases h0 : 0 ≤ i
                  · simp -implicitDefEqProofs [-List.getD_eq_getElem?_getD, -List.map_map, isI, h0, hi, hsp, this]
                  · simp -implicitDefEqProofs [-List.getD_eq_getElem?_getD, -List.map_map, isI, h0, hsp, this]
            · have : isFr 0 ((rs.length : Int) - 1) a = false := by cases a <;> simp_all [isI, isFr]
              simp -implicitDefEqProofs [-List.getD_eq_getElem?_getD, -List.map_map, ha, hsp, this]
          · have h2' : ¬ (rs.length : Int) ≤ 100 := by omega
            simp -implicitDefEqProofs [-List.getD_eq_getElem?_getD, -List.map_map, b_law_is_auto, h1', h2', isA_iff, h2]
        · have h1' : ¬ (1 : Int) ≤ (rs.length : Int) := by omega
          simp -implicitDefEqProofs [-List.getD_eq_getElem?_getD, -List.map_map, b_law_is_auto, h1', isA_iff, h1]
      · simp -implicitDefEqProofs [-List.getD_eq_getElem?_getD, -List.map_map, b_law_is_auto, isi_tup_no dt ht]
        rintro ⟨s, g, rs, e, _⟩
        simp at e
        exact ht _ e.2.2
    · have h4 : ¬ (xs.length : Int) = 3 := by omega
      simp -implicitDefEqProofs [-List.getD_eq_getElem?_getD, -List.map_map, b_law_is_auto, h4]
      rintro ⟨s, g, rs, e, _⟩
      simp at e
      subst e
      simp at h3
  · simp -implicitDefEqProofs [-List.getD_eq_getElem?_getD, -List.map_map, b_law_is_auto, isi_tup_no h hv]
    rintro ⟨s, g, rs, e, _⟩
    exact hv _ e
end K90
set_option maxRecDepth 100000
namespace K90
open PySem (Str)
open MP MX AU
/-! ### a dict from tuples to words -/
def md (kvs : List (List Nat × List Nat)) : List (PV × PV) := kvs.map fun p => (mv p.1, tx p.2)
theorem md_len (kvs : List (List Nat × List Nat)) : (md kvs).length = kvs.length := by simp [md]
theorem md_clean (kvs : List (List Nat × List Nat)) : ((md kvs).all fun p => p.1.lf && p.2.lf) = true := by
  simp [md]
theorem md_nin (a : List Nat) (kvs : List (List Nat × List Nat)) : cmpP .nin (.tup (a.map nt)) (.dct (md kvs)) = some (decide (a ∉ kvs.map (·.1))) := by
  have h1 : okKey (.tup (a.map nt)) (md kvs) = true := okKey_t (enc := mv) isTKey_mv tx a kvs
  have h2 : keysP (md kvs) = (kvs.map (·.1)).map mv := keysP_enc mv tx kvs
  rw [nin_dct, h1, h2]
  have := mvOk.memP a (kvs.map (·.1))
  rw [mv_eq] at this
  simp [this, -List.map_map]
theorem md_get (a : List Nat) (kvs : List (List Nat × List Nat)) : idxP (.dct (md kvs)) (.tup (a.map nt)) = (kvs.lookup a).map tx := by
  have h1 : okKey (.tup (a.map nt)) (md kvs) = true := okKey_t (enc := mv) isTKey_mv tx a kvs
  rw [idx_dct, h1]
  exact getKv_enc mvOk tx a kvs
theorem md_put (a : List Nat) (w : List Nat) (kvs : List (List Nat × List Nat)) (h : a ∉ kvs.map (·.1)) (hl : kvs.length < 16777216) : putP (.dct (md kvs)) (.tup (a.map nt)) (.str ⟨w.toArray⟩) = some (.dct (md (kvs ++ [(a, w)]))) := by
  have h1 : okKey (.tup (a.map nt)) (md kvs) = true := okKey_t (enc := mv) isTKey_mv tx a kvs
  rw [putP_dct, h1, md_len]
  simp [hl]
  exact setKv_new mvOk tx a w kvs h
theorem md_items (kvs : List (List Nat × List Nat)) : itemsP (.dct (md kvs)) = some ((kvs.map (·.1)).map mv) := by
  have h2 : keysP (md kvs) = (kvs.map (·.1)).map mv := keysP_enc mv tx kvs
  have h3 : (keysP (md kvs)).all intKey = true := by
    rw [h2, List.all_eq_true]
    intro x hx
    obtain ⟨a, _, rfl⟩ := List.mem_map.mp hx
    show (intsP (a.map nt)).isSome = true
    rw [intsP_nt]; rfl
  show (if (keysP (md kvs)).all intKey = true then some (keysP (md kvs)) else none) = _
  rw [if_pos h3, h2]
theorem lookup_memT {β : Type} {a : List Nat} {kvs : List (List Nat × β)} (h : a ∈ kvs.map (·.1)) : ∃ b, kvs.lookup a = some b ∧ (a, b) ∈ kvs := by
  induction kvs with
  | nil => simp at h
  | cons p kvs ih =>
    obtain ⟨k, v⟩ := p
    by_cases e : a = k
    · subst e; exact ⟨v, by simp, by simp⟩
    · have h : a ∈ kvs.map (·.1) := by simpa [e] using h
      obtain ⟨b, h1, h2⟩ := ih h
      have e2 : (a == k) = false := by simp [e]
      exact ⟨b, by rw [List.lookup_cons, e2]; exact h1, by simp [h2]⟩
theorem word2 {w : List Nat} {c : Nat} (hw : Au.Isw w) (hc : c < 2) : Au.Isw (w ++ [97 + c]) := fun d hd => by
  rcases List.mem_append.mp hd with hd | hd
  · exact hw d hd
  · simp at hd; omega
theorem str_add (w : List Nat) (c : Nat) : (⟨w.toArray⟩ : Str) ++ (⟨#[c]⟩ : Str) = ⟨(w ++ [c]).toArray⟩ := by
  show Str.append _ _ = _
  simp [PySem.Str.append]
theorem md2_nin (a b : Nat) (kvs : List (List Nat × List Nat)) : cmpP .nin (.tup [.int (a : Int), .int (b : Int)]) (.dct (md kvs)) = some (decide ([a, b] ∉ kvs.map (·.1))) := md_nin [a, b] kvs
theorem md2_get (a b : Nat) (kvs : List (List Nat × List Nat)) : idxP (.dct (md kvs)) (.tup [.int (a : Int), .int (b : Int)]) = (kvs.lookup [a, b]).map tx := md_get [a, b] kvs
theorem md2_put (a b : Nat) (w : List Nat) (kvs : List (List Nat × List Nat)) (h : [a, b] ∉ kvs.map (·.1)) (hl : kvs.length < 16777216) : putP (.dct (md kvs)) (.tup [.int (a : Int), .int (b : Int)]) (.str ⟨w.toArray⟩) = some (.dct (md (kvs ++ [([a, b], w)]))) := md_put [a, b] w kvs h hl
theorem lookup_mid {fd wt : List (List Nat × List Nat)} {x w : List Nat} (h : ((fd ++ (x, w) :: wt).map (·.1)).Nodup) : (fd ++ (x, w) :: wt).lookup x = some w := by
  induction fd with
  | nil => simp
  | cons p fd ih =>
    obtain ⟨k, v⟩ := p
    have hne : (x == k) = false := by
      simp at h
      simp
      intro e
      subst e
      have := h.1.2.1
      simp at this
    rw [List.cons_append, List.lookup_cons, hne]
    refine ih ?_
    rw [List.cons_append, List.map_cons] at h
    exact (List.nodup_cons.mp h).2
end K90
namespace K90
open PySem (Str)
open MP MX AU
/-! ### what automata take -/
theorem accepts_ok (k : Nat) (A : Au) (ok : A.Ok) (w : List Nat) (hw : Au.Isw w) (hp : Hs) : callF G (k + 2) 8 [pv A, .str ⟨w.toArray⟩] hp = some ((false, .bl (decide (A.act A.s w ∈ A.good))), hp) := by
  refine call_eq fn_accepts rfl rfl ?_
  simp -implicitDefEqProofs [-List.getD_eq_getElem?_getD, -List.map_map, b_accepts]
  refine Wp_of (state_behind_ok k A ok A.s ok.s w hw hp) ?_
  simp -implicitDefEqProofs [-List.getD_eq_getElem?_getD, -List.map_map]
theorem law_takes_ok (k : Nat) (A : Au) (ok : A.Ok) (w : List Nat) (hw : Au.Isw w) (hp : Hs) : callF G (k + 2) 34 [pv A, .str ⟨w.toArray⟩] hp = some ((false, .bl (decide (A.act A.s w ∈ A.good))), hp) := by
  refine call_eq fn_law_takes rfl rfl ?_
  simp -implicitDefEqProofs [-List.getD_eq_getElem?_getD, -List.map_map, b_law_takes]
  refine Wp_of (law_behind_ok k A ok A.s ok.s w hw hp) ?_
  simp -implicitDefEqProofs [-List.getD_eq_getElem?_getD, -List.map_map]
/-! ### the search among pairs -/
theorem md_sorted (kvs : List (List Nat × List Nat)) (h : ∀ x ∈ kvs.map (·.1), x ≠ []) (hl : kvs.length ≤ 16777216) : bclP .sorted [.dct (md kvs)] = some (true, .lst (((kvs.map (·.1)).mergeSort Au.le3).map mv)) := by
  have h2 : keysP (md kvs) = (kvs.map (·.1)).map mv := keysP_enc mv tx kvs
  have h3 : (keysP (md kvs)).all intKey = true := by
    rw [h2, List.all_eq_true]
    intro x hx
    obtain ⟨a, _, rfl⟩ := List.mem_map.mp hx
    show (intsP (a.map nt)).isSome = true
    rw [intsP_nt]; rfl
  have h4 : okSort (keysP (md kvs)) = true := by
    rw [h2]
    simp only [okSort, Bool.and_eq_true, List.all_eq_true, decide_eq_true_eq, List.length_map]
    refine ⟨⟨⟨fun x hx y hy => ?_, fun x hx => ?_⟩, fun x hx => ?_⟩, hl⟩
    · obtain ⟨a, ha, rfl⟩ := List.mem_map.mp hx
      obtain ⟨b, hb, rfl⟩ := List.mem_map.mp hy
      exact alk_nt a b
    · obtain ⟨a, ha, rfl⟩ := List.mem_map.mp hx
      cases a with
      | nil => exact absurd rfl (h _ ha)
      | cons => rfl
    · obtain ⟨a, ha, rfl⟩ := List.mem_map.mp hx
      exact Nat.le_trans (mvOk.dep a) (by decide)
  show (if ((keysP (md kvs)).all intKey && okSort (keysP (md kvs))) = true then some (true, PV.lst ((keysP (md kvs)).mergeSort leP)) else none) = _
  rw [h3, h4, h2, sort_map]
  rfl
theorem sort_asc {xs : List (List Nat)} (h : xs.Nodup) : (xs.mergeSort Au.le3).Pairwise (· < ·) := by
  have h1 := List.pairwise_mergeSort le3_trans le3_total xs
  have h2 : (xs.mergeSort Au.le3).Nodup := (List.mergeSort_perm _ _).nodup_iff.mpr h
  refine (List.Pairwise.and h1 h2).imp ?_
  intro a b ⟨c, d⟩
  rw [le3_eq] at c
  have c : a ≤ b := by simpa using c
  exact Classical.byContradiction fun e => d (List.le_antisymm c e)
def Told (A B : Au) (v : PV) : Prop := (∃ w, v = .tup [.str (PySem.Str.ofString "word"), tx w] ∧ Au.Isw w ∧ ¬ Au.agr A B w ∧ (∀ u : List Nat, u.length < w.length → Au.agr A B u) ∧ w.length ≤ A.n * B.n) ∨
  (∃ ps, v = .tup [.str (PySem.Str.ofString "pairs"), .tup (ps.map mv)] ∧ Au.PairsOk A B ps ∧ Au.Lq A A.s B B.s ∧ ps.length ≤ A.n * B.n)
theorem alike_paper_ok (k : Nat) (A B : Au) (okA : A.Ok) (okB : B.Ok) (hn : A.n * B.n ≤ 10000) (hp : Hs) :
    Wp (callF G (k + 1) 10 [pv A, pv B] hp) fun r => ∃ v, r = ((false, v), hp) ∧ Told A B v := by
  refine Wp_call fn_alike_paper rfl rfl ?_
  simp -implicitDefEqProofs [-List.getD_eq_getElem?_getD, -List.map_map, b_alike_paper, empty_eq, isKey, isTKey]
  refine Wp_whl (fun m env h => h = hp ∧ ∃ fd wt x5 x6 x7, Au.PI A B fd wt ∧ m = A.n * B.n - fd.length ∧
      env = [some (false, pv A), some (false, pv B), some (false, .tup [.int A.s, .int B.s]), some (true, .dct (md (fd ++ wt))), some (true, .lst (wt.map fun p => mv p.1)), x5, x6, x7]) ?_ _ (A.n * B.n) _ _ ?_ ?_
  · rintro m env h ⟨rfl, fd, wt, x5, x6, x7, hI, rfl, rfl⟩
    have hlen := hI.length okA okB
    simp -implicitDefEqProofs [-List.getD_eq_getElem?_getD, -List.map_map] at hlen
    cases wt with
    | nil =>
      have hnil : ∀ x ∈ fd.map (·.1), x ≠ [] := fun x hx => by
        obtain ⟨p, hp, rfl⟩ := List.mem_map.mp hx
        obtain ⟨e, _⟩ := hI.lt okA okB p (by simp [hp])
        simp [e]
      simp -implicitDefEqProofs [-List.getD_eq_getElem?_getD, -List.map_map] at hlen
      have hlen2 : fd.length ≤ 16777216 := by omega
      simp -implicitDefEqProofs [-List.getD_eq_getElem?_getD, -List.map_map, md_sorted fd hnil hlen2]
      refine Or.inr ⟨_, rfl, hI.pairs okA okB (sort_asc (by have := hI.nd; simpa using this)) (fun x => List.mem_mergeSort), hI.lq, by simp; omega⟩
    | cons x wt =>
      obtain ⟨kx, w⟩ := x
      obtain ⟨ekx, hpa, hpb⟩ := hI.lt okA okB (kx, w) (by simp)
      simp only at ekx hpa hpb
      subst ekx
      have hpos : (0 : Int) < (wt.length : Int) + 1 := by omega
      have hlk : (fd ++ ([A.act A.s w, B.act B.s w], w) :: wt).lookup [A.act A.s w, B.act B.s w] = some w := lookup_mid hI.nd
      by_cases hag : (A.act A.s w ∈ A.good ↔ B.act B.s w ∈ B.good)
      · simp -implicitDefEqProofs [-List.getD_eq_getElem?_getD, -List.map_map] at hlen
        simp -implicitDefEqProofs [-List.getD_eq_getElem?_getD, -List.map_map, hpos, hag]
        show Wp (forE (Tg.nm 6) _ ([0, 1].map nt) _ _) _
        obtain ⟨I, iI⟩ := mkI4 (fun (done rest : List Nat) (env : FEnv) (h' : Hs) => h' = h ∧ ∃ wt' x6 x7, done ++ rest = [0, 1] ∧ Au.PI A B fd (([A.act A.s w, B.act B.s w], w) :: wt') ∧
          (∀ c ∈ done, Au.pw2 A B (w ++ [97 + c]) ∈ (fd ++ ([A.act A.s w, B.act B.s w], w) :: wt').map (·.1)) ∧
          env = [some (false, pv A), some (false, pv B), some (false, .tup [.int A.s, .int B.s]), some (true, .dct (md (fd ++ ([A.act A.s w, B.act B.s w], w) :: wt'))), some (true, .lst (wt'.map fun p => mv p.1)), some (false, .tup [.int (A.act A.s w : Nat), .int (B.act B.s w : Nat)]), x6, x7])
        refine Wp_for I ?_ [0, 1] [] _ _ ((iI _ _ _ _).mpr ⟨rfl, wt, x6, x7, rfl, hI, by simp, rfl⟩) ?_
        · intro done c rest env h' hI'
          obtain ⟨rfl, wt', x6, x7, hd, hI, hdn, rfl⟩ := (iI _ _ _ _).mp hI'
          have hc : c < 2 := by
            have : c ∈ [0, 1] := by rw [← hd]; simp -implicitDefEqProofs [-List.getD_eq_getElem?_getD, -List.map_map]
            simp -implicitDefEqProofs [-List.getD_eq_getElem?_getD, -List.map_map] at this
            omega
          have hlen := hI.length okA okB
          simp -implicitDefEqProofs [-List.getD_eq_getElem?_getD, -List.map_map] at hlen
          have hlk : (fd ++ ([A.act A.s w, B.act B.s w], w) :: wt').lookup [A.act A.s w, B.act B.s w] = some w := lookup_mid hI.nd
          have hkl : (fd ++ ([A.act A.s w, B.act B.s w], w) :: wt').length < 16777216 := by simp -implicitDefEqProofs [-List.getD_eq_getElem?_getD, -List.map_map]; omega
          have hwl : wt'.length < 16777216 := by omega
          have hww := hI.len _ (show ([A.act A.s w, B.act B.s w], w) ∈ fd ++ ([A.act A.s w, B.act B.s w], w) :: wt' by simp)
          simp -implicitDefEqProofs [-List.getD_eq_getElem?_getD, -List.map_map] at hww
          have hsl : (⟨w.toArray⟩ : Str).length + (⟨#[97 + c]⟩ : Str).length ≤ 16777216 := by
            simp -implicitDefEqProofs [-List.getD_eq_getElem?_getD, -List.map_map, PySem.Str.length]
            omega
          have epw : Au.pw2 A B (w ++ [97 + c]) = [A.go (A.act A.s w) c, B.go (B.act B.s w) c] := by
            rw [Au.pw2, Au.act_snoc, Au.act_snoc, Nat.add_sub_cancel_left]
          by_cases hm : [A.go (A.act A.s w) c, B.go (B.act B.s w) c] ∈ (fd ++ ([A.act A.s w, B.act B.s w], w) :: wt').map (·.1)
          · generalize hF : fd ++ ([A.act A.s w, B.act B.s w], w) :: wt' = F at hkl hm hlk ⊢
            simp -implicitDefEqProofs [-List.getD_eq_getElem?_getD, -List.map_map, st_at hpa, st_at hpb, go_lt2 A _ hc, go_lt2 B _ hc, md2_nin, hm]
            subst hF
            refine (iI _ _ _ _).mpr ⟨rfl, wt', _, _, by simp [hd], hI, fun d hd' => ?_, rfl⟩
            rcases List.mem_append.mp hd' with hd' | hd'
            · exact hdn d hd'
            · simp only [List.mem_singleton] at hd'
              subst hd'
              rw [epw]; exact hm
          · have hnew := hI.add hc (by rw [epw]; exact hm)
            have hw2 : Au.Isw (w ++ [97 + c]) := word2 (hI.words _ (show ([A.act A.s w, B.act B.s w], w) ∈ fd ++ ([A.act A.s w, B.act B.s w], w) :: wt' by simp)).1 hc
            generalize hF : fd ++ ([A.act A.s w, B.act B.s w], w) :: wt' = F at hkl hm hlk ⊢
            simp -implicitDefEqProofs [-List.getD_eq_getElem?_getD, -List.map_map, st_at hpa, st_at hpb, go_lt2 A _ hc, go_lt2 B _ hc, md2_nin, hm, md2_get, hlk, cst0, AB_at hc, hsl, str_add, hkl, hwl, md2_put _ _ _ _ hm]
            subst hF
            refine (iI _ _ _ _).mpr ⟨rfl, wt' ++ [(Au.pw2 A B (w ++ [97 + c]), w ++ [97 + c])], some (false, .int (c : Nat)), some (false, .tup [.int (A.go (A.act A.s w) c : Nat), .int (B.go (B.act B.s w) c : Nat)]), by simp [hd], hnew, fun d hd' => ?_, ?_⟩
            · rcases List.mem_append.mp hd' with hd' | hd'
              · have := hdn d hd'
                simp only [List.map_append, List.map_cons, List.mem_append, List.mem_cons] at this ⊢
                rcases this with c | c | c
                · exact Or.inl c
                · exact Or.inr (Or.inl c)
                · exact Or.inr (Or.inr (Or.inl c))
              · simp only [List.mem_singleton] at hd'
                subst hd'
                simp
            · simp -implicitDefEqProofs [-List.getD_eq_getElem?_getD, -List.map_map, epw]
        · intro env h' hI'
          obtain ⟨rfl, wt', x6, x7, hd, hI, hdn, rfl⟩ := (iI _ _ _ _).mp hI'
          simp -implicitDefEqProofs [-List.getD_eq_getElem?_getD, -List.map_map] at hd
          have hnx := hI.next hag (fun c hc => hdn c (by simp; omega))
          simp -implicitDefEqProofs [-List.getD_eq_getElem?_getD, -List.map_map]
          refine ⟨A.n * B.n - (fd.length + 1), by omega, fd ++ [([A.act A.s w, B.act B.s w], w)], wt', hnx, ?_, ?_⟩
          · simp -implicitDefEqProofs [-List.getD_eq_getElem?_getD, -List.map_map]
          · simp -implicitDefEqProofs [-List.getD_eq_getElem?_getD, -List.map_map]
      · simp -implicitDefEqProofs [-List.getD_eq_getElem?_getD, -List.map_map, hpos, hag, md2_get, hlk]
        refine Or.inl ⟨w, rfl, (hI.words ([A.act A.s w, B.act B.s w], w) (by simp)).1, hag, fun u hu => hI.short u hu, by have := hI.len ([A.act A.s w, B.act B.s w], w) (by simp); simp -implicitDefEqProofs [-List.getD_eq_getElem?_getD, -List.map_map] at this hlen; omega⟩
  · show A.n * B.n < 1000000
    omega
  · refine ⟨rfl, [], [([A.s, B.s], [])], none, none, none, .ini, rfl, ?_⟩
    simp -implicitDefEqProofs [-List.getD_eq_getElem?_getD, -List.map_map, md]
end K90
set_option maxRecDepth 100000
namespace K90
open PySem (Str)
open MP MX AU
/-! ### papers about two automata -/
theorem isin_mv (a : List Nat) (ps : List (List Nat)) : cmpP .isin (.tup (a.map nt)) (.tup (ps.map mv)) = some (decide (a ∈ ps)) := mvOk.isin_tup a ps (by decide)
theorem nin_mv (a : List Nat) (ps : List (List Nat)) : cmpP .nin (.tup (a.map nt)) (.tup (ps.map mv)) = some (decide (a ∉ ps)) := mvOk.nin_tup a ps (by decide)
theorem isin_mv2 (a b : Nat) (ps : List (List Nat)) : cmpP .isin (.tup [.int (a : Int), .int (b : Int)]) (.tup (ps.map mv)) = some (decide ([a, b] ∈ ps)) := isin_mv [a, b] ps
theorem nin_mv2 (a b : Nat) (ps : List (List Nat)) : cmpP .nin (.tup [.int (a : Int), .int (b : Int)]) (.tup (ps.map mv)) = some (decide ([a, b] ∉ ps)) := nin_mv [a, b] ps
theorem ne_mvs (a b : List (List Nat)) : cmpP .ne (.tup (a.map mv)) (.tup (b.map mv)) = some (decide (a ≠ b)) := by
  have := mvOk.tup.ne_ a b (by decide)
  rw [this]
  congr 1
  rw [Bool.eq_iff_iff]
  simp
theorem uq_nil_iff (ps : List (List Nat)) : uq ps = [] ↔ ps = [] := by
  constructor
  · intro h
    cases ps with
    | nil => rfl
    | cons p ps =>
      have := (mem_uq (xs := p :: ps) (y := p)).mpr (by simp)
      rw [h] at this
      simp at this
  · rintro rfl
    rfl
theorem sset_mv (ps : List (List Nat)) (hl : ps.length < 64) (h : ∀ x ∈ ps, x.length = 2 ∧ ∀ i ∈ x, i < 2 ^ 30) : ∃ o, bclP .sorted [.pst ((uq ps).map mv)] = some (o, .lst (((uq ps).mergeSort Au.le3).map mv)) := by
  by_cases hn : uq ps = []
  · rw [hn]
    refine ⟨true, ?_⟩
    show bclP .sorted [.pst []] = _
    rw [sP, if_neg (fun c => c.2 rfl), if_pos ⟨rfl, by decide⟩]
    simp
  · exact ⟨true, sorted_pst 2 (uq ps) (fun x hx => h x (mem_uq.mp hx)) (by decide) hn⟩
theorem set_tup (xs : List PV) : bclP .set [.tup xs] = bclP .set [.lst xs] := rfl
theorem asc_iff (ps : List (List Nat)) : (uq ps).mergeSort Au.le3 = ps ↔ ps.Pairwise (· < ·) := by
  constructor
  · intro h
    have := sort_asc (nodup_uq ps)
    rwa [h] at this
  · intro h
    have hnd : ps.Nodup := h.imp fun {a b} hab e => by
      subst e
      exact List.lt_irrefl a hab
    refine sorted_ext (le := Au.le3) le3_anti ((List.mergeSort_perm _ _).nodup_iff.mpr (nodup_uq _)) hnd (List.pairwise_mergeSort le3_trans le3_total _) ?_ ?_
    · exact h.imp fun {a b} hab => by
        rw [le3_eq]
        exact decide_eq_true (List.le_of_lt hab)
    · intro x
      rw [List.mem_mergeSort, mem_uq]
/-- a pair of states -/
def prI (n m : Nat) : PV → Bool
  | .tup [.int i, .int j] => decide (0 ≤ i ∧ i < (n : Int)) && decide (0 ≤ j ∧ j < (m : Int))
  | _ => false
def prs (n m : Nat) : PV → List Bool
  | .tup [a, b] => [isFr 0 ((n : Int) - 1) a, isFr 0 ((m : Int) - 1) b]
  | _ => []
theorem prI_iff {n m : Nat} {v : PV} : prI n m v = true ↔ isT2 v = true ∧ (prs n m v).all id = true := by
  constructor
  · intro h
    unfold prI at h
    split at h
    · simp at h
      simp [isT2, prs, isFr]
      omega
    · simp at h
  · rintro ⟨h1, h2⟩
    obtain ⟨a, b, rfl⟩ := isT2_iff.mp h1
    cases a <;> cases b <;> simp [prs, isFr] at h2
    simp [prI]
    omega
def InP (n m : Nat) (ps : List (List Nat)) : Prop := ∀ p ∈ ps, ∃ a b, p = [a, b] ∧ a < n ∧ b < m
theorem prI_all {n m : Nat} {xs : List PV} : (∀ x ∈ xs, prI n m x = true) ↔ ∃ ps, xs = ps.map mv ∧ InP n m ps := by
  constructor
  · intro h
    induction xs with
    | nil => exact ⟨[], rfl, fun p hp => by simp at hp⟩
    | cons x xs ih =>
      obtain ⟨ps, rfl, hps⟩ := ih fun y hy => h y (by simp [hy])
      have := h x (by simp)
      unfold prI at this
      split at this
      · rename_i i j
        simp at this
        refine ⟨[i.toNat, j.toNat] :: ps, ?_, fun p hp => ?_⟩
        · simp [nt]
          omega
        · rcases List.mem_cons.mp hp with rfl | hp
          · exact ⟨_, _, rfl, by omega, by omega⟩
          · exact hps p hp
      · simp at this
  · rintro ⟨ps, rfl, h⟩ x hx
    obtain ⟨p, hp, rfl⟩ := List.mem_map.mp hx
    obtain ⟨a, b, rfl, ha, hb⟩ := h p hp
    simp [prI]
    omega
theorem map_mv_inj {a b : List (List Nat)} (h : a.map mv = b.map mv) : a = b := by
  refine (List.map_inj_right fun x y e => ?_).mp h
  have e : x.map nt = y.map nt := by simpa using e
  exact (List.map_inj_right fun i j e => by simp [nt] at e; omega).mp e
def Right (A B : Au) (v : PV) : Prop := (∃ w, v = .tup [.str (PySem.Str.ofString "word"), tx w] ∧ Au.Isw w ∧ ¬ Au.agr A B w) ∨
  (∃ ps, v = .tup [.str (PySem.Str.ofString "pairs"), .tup (ps.map mv)] ∧ Au.PairsOk A B ps)
theorem Told.right {A B : Au} {v : PV} (h : Told A B v) : Right A B v := by
  rcases h with ⟨w, h1, h2, h3, _⟩ | ⟨ps, h1, h2, _⟩
  · exact Or.inl ⟨w, h1, h2, h3⟩
  · exact Or.inr ⟨ps, h1, h2⟩
def PsOk (A B : Au) (v : PV) : Prop := ∃ ps, v = .tup (ps.map mv) ∧ Au.PairsOk A B ps
theorem PsOk.pr {A B : Au} {xs : List PV} (h : PsOk A B (.tup xs)) : ∀ x ∈ xs, prI A.n B.n x = true := by
  obtain ⟨ps, e, h⟩ := h
  cases e
  exact prI_all.mpr ⟨ps, rfl, h.rng⟩
theorem PsOk.mvs {A B : Au} {ps : List (List Nat)} : PsOk A B (.tup (ps.map mv)) ↔ Au.PairsOk A B ps := by
  constructor
  · rintro ⟨qs, e, h⟩
    have := map_mv_inj (by simpa using e)
    subst this
    exact h
  · exact fun h => ⟨ps, rfl, h⟩
theorem inp_two {n m : Nat} {ps : List (List Nat)} (h : InP n m ps) (hn : n ≤ 60) (hm : m ≤ 60) : ∀ x ∈ ps, x.length = 2 ∧ ∀ i ∈ x, i < 2 ^ 30 := by
  intro x hx
  obtain ⟨a, b, rfl, ha, hb⟩ := h x hx
  refine ⟨rfl, fun i hi => ?_⟩
  have h30 : 60 < 2 ^ 30 := by decide
  simp only [List.mem_cons, List.not_mem_nil, or_false] at hi
  rcases hi with rfl | rfl
  · exact Nat.lt_trans (Nat.lt_of_lt_of_le ha hn) h30
  · exact Nat.lt_trans (Nat.lt_of_lt_of_le hb hm) h30
def agB (A B : Au) (p : List Nat) : Bool := decide (decide (p.getD 0 0 ∈ A.good) = decide (p.getD 1 0 ∈ B.good))
theorem agB_iff {A B : Au} {a b : Nat} : agB A B [a, b] = true ↔ (a ∈ A.good ↔ b ∈ B.good) := by
  simp [agB]
def clB (A B : Au) (ps : List (List Nat)) (p : List Nat) : List Bool := [decide ([A.go (p.getD 0 0) 0, B.go (p.getD 1 0) 0] ∈ ps), decide ([A.go (p.getD 0 0) 1, B.go (p.getD 1 0) 1] ∈ ps)]
theorem clB_iff {A B : Au} {ps : List (List Nat)} {a b : Nat} : (clB A B ps [a, b]).all id = true ↔ ∀ k, k < 2 → [A.go a k, B.go b k] ∈ ps := by
  simp [clB]
  constructor
  · rintro ⟨h0, h1⟩ k hk
    rcases (by omega : k = 0 ∨ k = 1) with rfl | rfl
    · exact h0
    · exact h1
  · exact fun h => ⟨h 0 (by omega), h 1 (by omega)⟩
theorem is_pairs_of_ok (k : Nat) (A B : Au) (okA : A.Ok) (okB : B.Ok) (hA : A.n ≤ 60) (hB : B.n ≤ 60) {n : Nat} {v : PV} (h : Dt n v) (hl : ∀ xs, v = .tup xs → xs.length < 64) (hp : Hs) :
    Wp (callF G (k + 3) 12 [pv A, pv B, v] hp) fun r => ∃ b, r = ((false, .bl b), hp) ∧ (b = true ↔ PsOk A B v) := by
  refine Wp_call fn_is_pairs_of rfl rfl ?_
  have elA : A.st.length = A.n := rfl
  have elB : B.st.length = B.n := rfl
  rcases tup_or h with ⟨xs, rfl⟩ | hv
  · obtain ⟨m, hs⟩ := h.sub
    have hl := hl xs rfl
    simp -implicitDefEqProofs [-List.getD_eq_getElem?_getD, -List.map_map, b_is_pairs_of, elA, elB]
    refine Wp_of (lcE_I1 (g := fun x => PV.bl (isT2 x)) fun x hx => ?_) ?_
    · have dx := hs x hx
      refine Wp_eq ?_
      rcases tup_or dx with ⟨ys, rfl⟩ | hx
      · simp -implicitDefEqProofs [-List.getD_eq_getElem?_getD, -List.map_map, isT2]
        omega
      · have h4 : isT2 x = false := by
          rw [Bool.eq_false_iff]
          intro c
          obtain ⟨i, j, e⟩ := isT2_iff.mp c
          exact hx _ e
        simp -implicitDefEqProofs [-List.getD_eq_getElem?_getD, -List.map_map, isi_tup_no dx hx, h4]
    · have hxl : xs.length ≤ 16777216 := by omega
      cases hT : xs.all isT2 with
      | false =>
        have hno : ¬ PsOk A B (.tup xs) := fun c => by
          have : xs.all isT2 = true := List.all_eq_true.mpr fun x hx => (prI_iff.mp (c.pr x hx)).1
          rw [this] at hT
          simp at hT
        simp -implicitDefEqProofs [-List.getD_eq_getElem?_getD, -List.map_map, hxl, hT, hno]
      | true =>
        have hT2 := List.all_eq_true.mp hT
        simp -implicitDefEqProofs [-List.getD_eq_getElem?_getD, -List.map_map, hxl, hT]
        refine Wp_of (lcE_I (g := fun x => (prs A.n B.n x).map PV.bl) fun x hx => ?_) ?_
        · obtain ⟨p, q, rfl⟩ := isT2_iff.mp (hT2 x hx)
          obtain ⟨m3, dx⟩ := (hs _ hx).sub
          refine Wp_eq ?_
          simp -implicitDefEqProofs [-List.getD_eq_getElem?_getD, -List.map_map]
          refine Wp_of (is_from_ok k (dx p (by simp)) _ _ hp) ?_
          simp -implicitDefEqProofs [-List.getD_eq_getElem?_getD, -List.map_map]
          refine Wp_of (is_from_ok k (dx q (by simp)) _ _ hp) ?_
          simp -implicitDefEqProofs [-List.getD_eq_getElem?_getD, -List.map_map, prs]
        · have hfl : (xs.flatMap (prs A.n B.n)).length ≤ 16777216 := by
            rw [flat_len _ 2 _ fun x hx => ?_]
            · omega
            · obtain ⟨p, q, rfl⟩ := isT2_iff.mp (hT2 x hx)
              rfl
          have hia : ((xs.flatMap (prs A.n B.n)).all id) = true ↔ ∀ x ∈ xs, prI A.n B.n x = true := by
            rw [flat_all, List.all_eq_true]
            exact ⟨fun c x hx => prI_iff.mpr ⟨hT2 x hx, c x hx⟩, fun c x hx => (prI_iff.mp (c x hx)).2⟩
          rw [flat_bl]
          generalize xs.flatMap (prs A.n B.n) = bs at hfl hia ⊢
          simp only [all_bl]
          cases hbs : bs.all id with
          | false =>
            have hno : ¬ PsOk A B (.tup xs) := fun c => by
              rw [hbs] at hia
              exact absurd (hia.mpr c.pr) (by simp)
            simp -implicitDefEqProofs [-List.getD_eq_getElem?_getD, -List.map_map, hfl, hno]
          | true =>
            rw [hbs] at hia
            obtain ⟨ps, rfl, hin⟩ := prI_all.mp (hia.mp rfl)
            rw [PsOk.mvs]
            simp -implicitDefEqProofs [-List.getD_eq_getElem?_getD, -List.map_map] at hl
            obtain ⟨o, hso⟩ := sset_mv ps hl (inp_two hin hA hB)
            have hset := set_mv ps hl
            rw [← set_tup] at hset
            have hl2 : ps.length ≤ 16777216 := by omega
            by_cases hasc : ps.Pairwise (· < ·)
            · by_cases hst : [A.s, B.s] ∈ ps
              · simp -implicitDefEqProofs [-List.getD_eq_getElem?_getD, -List.map_map, hfl, hset, hso, ne_mvs, asc_iff, nin_mv2, hasc, hst]
                refine Wp_of (lcE_map1 (enc := mv) (g := fun p => PV.bl (agB A B p)) fun p hp => ?_) ?_
                · obtain ⟨a, b, rfl, ha, hb⟩ := hin p hp
                  simp -implicitDefEqProofs [-List.getD_eq_getElem?_getD, -List.map_map, agB]
                  rfl
                · cases hag : ps.all (agB A B) with
                  | false =>
                    have hno : ¬ Au.PairsOk A B ps := fun c => by
                      have : ps.all (agB A B) = true := List.all_eq_true.mpr fun p hp => by
                        obtain ⟨a, b, rfl, ha, hb⟩ := hin p hp
                        exact agB_iff.mpr (c.agree a b hp)
                      rw [this] at hag
                      simp at hag
                    simp -implicitDefEqProofs [-List.getD_eq_getElem?_getD, -List.map_map, hl2, hag, hno]
                  | true =>
                    simp -implicitDefEqProofs [-List.getD_eq_getElem?_getD, -List.map_map, hl2, hag]
                    refine Wp_of (lcE_map (enc := mv) (g := fun p => (clB A B ps p).map PV.bl) fun p hp => ?_) ?_
                    · obtain ⟨a, b, rfl, ha, hb⟩ := hin p hp
                      refine Wp_eq ?_
                      simp -implicitDefEqProofs [-List.getD_eq_getElem?_getD, -List.map_map, clB, st_at ha, st_at hb, isin_mv2]
                      exact ⟨Iff.rfl, Iff.rfl⟩
                    · have hfl : (ps.flatMap (clB A B ps)).length ≤ 16777216 := by
                        rw [List.length_flatMap]
                        simp [clB, List.map_const', List.sum_replicate_nat]
                        omega
                      have hia : ((ps.flatMap (clB A B ps)).all id) = true ↔ Au.PairsOk A B ps := by
                        rw [flat_all, List.all_eq_true]
                        constructor
                        · intro c
                          refine ⟨hin, hasc, hst, fun a b hab => ?_, fun a b hab k hk => ?_⟩
                          · exact agB_iff.mp (List.all_eq_true.mp hag _ hab)
                          · exact clB_iff.mp (c _ hab) k hk
                        · intro c p hp
                          obtain ⟨a, b, rfl, ha, hb⟩ := hin p hp
                          exact clB_iff.mpr fun k hk => c.closed a b hp k hk
                      rw [flat_bl]
                      generalize ps.flatMap (clB A B ps) = bs at hfl hia ⊢
                      simp only [all_bl]
                      cases hbs : bs.all id with
                      | false =>
                        have hno : ¬ Au.PairsOk A B ps := fun c => by
                          rw [hbs] at hia
                          exact absurd (hia.mpr c) (by simp)
                        simp -implicitDefEqProofs [-List.getD_eq_getElem?_getD, -List.map_map, hfl, hno]
                      | true =>
                        have hyes := hia.mp hbs
                        simp -implicitDefEqProofs [-List.getD_eq_getElem?_getD, -List.map_map, hfl, hyes]
              · have hno : ¬ Au.PairsOk A B ps := fun c => hst c.start
                simp -implicitDefEqProofs [-List.getD_eq_getElem?_getD, -List.map_map, hfl, hset, hso, ne_mvs, asc_iff, nin_mv2, hasc, hst, hno]
            · have hno : ¬ Au.PairsOk A B ps := fun c => hasc c.asc
              simp -implicitDefEqProofs [-List.getD_eq_getElem?_getD, -List.map_map, hfl, hset, hso, ne_mvs, asc_iff, nin_mv2, hasc, hno]
  · have hno : ¬ PsOk A B v := fun ⟨ps, e, _⟩ => hv _ e
    simp -implicitDefEqProofs [-List.getD_eq_getElem?_getD, -List.map_map, b_is_pairs_of, isi_tup_no h hv, hno]
/-! ### the law's own judge of pairs -/
theorem cmp_ge_mv (a b : List Nat) : cmpP .ge (.tup (a.map nt)) (.tup (b.map nt)) = some (!decide (a < b)) := by
  have h : okLt (mv a) (mv b) = true := by
    have h1 : alk (mv a) (mv b) = true := alk_nt a b
    have h2 : min (mv a).dep (mv b).dep ≤ 60 := Nat.le_trans (Nat.min_le_left _ _) (Nat.le_trans (mvOk.dep a) (by decide))
    have h3 : eqP (mv a) .non = false := rfl
    simp only [okLt, h1, mvOk.dat, h2, h3]
    rfl
  show (if okLt (mv a) (mv b) = true then some (!ltAll (a.map nt) (b.map nt)) else none) = _
  rw [if_pos h, ltAll_nt]
theorem adj_iff (ps : List (List Nat)) : (∀ k, k < ps.length - 1 → ps.getD k [] < ps.getD (k + 1) []) ↔ ps.Pairwise (· < ·) := by
  constructor
  · intro h
    have key : ∀ d i j, j = i + d + 1 → j < ps.length → ps.getD i [] < ps.getD j [] := by
      intro d
      induction d with
      | zero =>
        rintro i j rfl hj
        exact h i (by omega)
      | succ d ih =>
        rintro i j rfl hj
        exact List.lt_trans (ih i (i + d + 1) rfl (by omega)) (h (i + d + 1) (by omega))
    rw [List.pairwise_iff_getElem]
    intro i j hi hj hij
    have := key (j - i - 1) i j (by omega) hj
    simpa [List.getD, hi, hj] using this
  · intro h k hk
    have := List.pairwise_iff_getElem.mp h k (k + 1) (by omega) (by omega) (by omega)
    simpa [List.getD, show k < ps.length by omega, show k + 1 < ps.length by omega] using this
theorem mv_at {ps : List (List Nat)} {k : Nat} (h : k < ps.length) : (ps.map mv)[k]? = some (.tup ((ps.getD k []).map nt)) := by simp [List.getD, h]
def PrOk (a b : Nat) (v : PV) : Prop := ∃ ps, v = .tup (ps.map mv) ∧ InP a b ps ∧ ps.Pairwise (· < ·)
theorem law_pairs_ok (k : Nat) {n : Nat} {v : PV} (h : Dt n v) (hl : ∀ xs, v = .tup xs → xs.length < 64) (a b : Nat) (hp : Hs) :
    Wp (callF G (k + 3) 28 [v, .int a, .int b] hp) fun r => ∃ z, r = ((false, .bl z), hp) ∧ (z = true ↔ PrOk a b v) := by
  refine Wp_call fn_law_pairs rfl rfl ?_
  rcases tup_or h with ⟨xs, rfl⟩ | hv
  · obtain ⟨m, hs⟩ := h.sub
    have hl := hl xs rfl
    simp -implicitDefEqProofs [-List.getD_eq_getElem?_getD, -List.map_map, b_law_pairs]
    obtain ⟨I, iI⟩ := mkI4 (fun (done rest : List PV) (env : FEnv) (h' : Hs) => h' = hp ∧ ∃ x3, done ++ rest = xs ∧ (∀ x ∈ done, prI a b x = true) ∧
      env = [some (false, .tup xs), some (false, .int a), some (false, .int b), x3, none])
    rw [show xs = xs.map id by simp]
    refine Wp_for (enc := id) I ?_ xs [] _ _ ((iI _ _ _ _).mpr ⟨rfl, none, rfl, by simp, by simp⟩) ?_
    · intro done x rest env h' hI'
      obtain ⟨rfl, x3, hd, hdn, rfl⟩ := (iI _ _ _ _).mp hI'
      have hx : x ∈ xs := by rw [← hd]; simp
      have hno : prI a b x = false → ¬ PrOk a b (.tup xs) := by
        rintro hf ⟨ps, e, hin, _⟩
        cases e
        have := prI_all.mpr ⟨ps, rfl, hin⟩ x hx
        rw [hf] at this
        simp at this
      have hyes : prI a b x = true → I (done ++ [x]) rest [some (false, .tup xs), some (false, .int a), some (false, .int b), some (false, x), none] h' := by
        intro ht
        refine (iI _ _ _ _).mpr ⟨rfl, some (false, x), by simp [hd], fun y hy => ?_, rfl⟩
        rcases List.mem_append.mp hy with hy | hy
        · exact hdn y hy
        · simp at hy; subst hy; exact ht
      simp -implicitDefEqProofs [-List.getD_eq_getElem?_getD, -List.map_map]
      refine Wp_of (numbers_in_ok k (hs x hx) h') ?_
      cases h2 : isP2 x with
      | false =>
        have hf : prI a b x = false := by
          unfold prI
          split
          · simp [isP2] at h2
          · rfl
        simp -implicitDefEqProofs [-List.getD_eq_getElem?_getD, -List.map_map, hno hf]
      | true =>
        obtain ⟨p, q, rfl⟩ := isP2_iff.mp h2
        have hpr : prI a b (.tup [.int p, .int q]) = (decide (0 ≤ p ∧ p < (a : Int)) && decide (0 ≤ q ∧ q < (b : Int))) := rfl
        cases hz : prI a b (.tup [.int p, .int q]) with
        | false =>
          have hN := hno hz
          rw [hpr] at hz
          simp -implicitDefEqProofs [-List.getD_eq_getElem?_getD, -List.map_map, hN]
          simp at hz
          grind
        | true =>
          have hY := hyes hz
          rw [hpr] at hz
          simp at hz
          simp -implicitDefEqProofs [-List.getD_eq_getElem?_getD, -List.map_map, hz, hY]
          try grind
    · intro env h' hI'
      obtain ⟨rfl, x3, hd, hdn, rfl⟩ := (iI _ _ _ _).mp hI'
      obtain ⟨ps, rfl, hin⟩ := prI_all.mp (by simpa using hdn)
      have hpk : PrOk a b (.tup (ps.map mv)) ↔ ((List.range (ps.length - 1)).filter fun k => !decide (ps.getD k [] < ps.getD (k + 1) [])) = [] := by
        rw [List.filter_eq_nil_iff]
        constructor
        · rintro ⟨qs, e, _, h2⟩ k hk
          have := map_mv_inj (by simpa using e)
          subst this
          have := (adj_iff ps).mpr h2 k (List.mem_range.mp hk)
          simpa using this
        · intro c
          refine ⟨ps, rfl, hin, (adj_iff ps).mp fun k hk => ?_⟩
          have := c k (List.mem_range.mpr hk)
          simpa using this
      simp -implicitDefEqProofs [-List.getD_eq_getElem?_getD, -List.map_map] at hl
      simp -implicitDefEqProofs [-List.getD_eq_getElem?_getD, -List.map_map, rng_pred ps.length (by omega)]
      refine Wp_of (lcE_filter (p := fun k => !decide (ps.getD k [] < ps.getD (k + 1) [])) (g := nt) fun j hj => ?_) ?_
      · have hj := List.mem_range.mp hj
        have e1 := atP_nat (ps.map mv) (j + 1)
        have e2 : ((j + 1 : Nat) : Int) = (j : Int) + 1 := by omega
        rw [e2, mv_at (by omega)] at e1
        refine Wp_eq ?_
        simp -implicitDefEqProofs [-List.getD_eq_getElem?_getD, -List.map_map, mv_at (show j < ps.length by omega), e1, cmp_ge_mv]
      · have hgl := List.length_filter_le (fun k => !decide (ps.getD k [] < ps.getD (k + 1) [])) (List.range (ps.length - 1))
        simp only [List.length_range] at hgl
        generalize (List.range (ps.length - 1)).filter (fun k => !decide (ps.getD k [] < ps.getD (k + 1) [])) = bs at hgl hpk ⊢
        simp -implicitDefEqProofs [-List.getD_eq_getElem?_getD, -List.map_map, hpk, show bs.length ≤ 16777216 by omega]
        try exact (Classical.em _).symm
  · have hno : ¬ PrOk a b v := fun ⟨ps, e, _⟩ => hv _ e
    simp -implicitDefEqProofs [-List.getD_eq_getElem?_getD, -List.map_map, b_law_pairs, isi_tup_no h hv, hno]
end K90
set_option maxRecDepth 100000
namespace K90
open PySem (Str)
open MP MX AU
/-! ### check_alike, and the law's own judge -/
abbrev tW : Str := PySem.Str.ofString "word"
abbrev tP : Str := PySem.Str.ofString "pairs"
theorem tW_ne : tW ≠ tP := by decide +kernel
structure Sm (v : PV) : Prop where
  l : ∀ t xs, v = .tup [t, .tup xs] → xs.length < 64
  z : ∀ t (w : List Nat), v = .tup [t, .str ⟨w.toArray⟩] → w.length ≤ 1000000
theorem right_word {A B : Au} {a : PV} : Right A B (.tup [.str tW, a]) ↔ ∃ w : List Nat, a = .str ⟨w.toArray⟩ ∧ Au.Isw w ∧ ¬ Au.agr A B w := by
  constructor
  · rintro (⟨w, e, h⟩ | ⟨ps, e, h⟩)
    · simp at e
      exact ⟨w, e, h⟩
    · simp at e
      exact absurd e.1 tW_ne
  · rintro ⟨w, rfl, h⟩
    exact Or.inl ⟨w, rfl, h⟩
theorem right_pairs {A B : Au} {a : PV} : Right A B (.tup [.str tP, a]) ↔ PsOk A B a := by
  constructor
  · rintro (⟨w, e, h⟩ | ⟨ps, e, h⟩)
    · simp at e
      exact absurd e.1.symm tW_ne
    · simp at e
      exact ⟨ps, e, h⟩
  · rintro ⟨ps, rfl, h⟩
    exact Or.inr ⟨ps, rfl, h⟩
theorem isN_at (t u : Str) (a : PV) : isN (.tup [.str u, a]) t 2 = decide (u = t) := by simp [isN]
theorem right_no {A B : Au} {v : PV} (h1 : isN v tW 2 = false) (h2 : isN v tP 2 = false) : ¬ Right A B v := by
  rintro (⟨w, rfl, h⟩ | ⟨ps, rfl, h⟩)
  · rw [isN_at] at h1; simp at h1
  · rw [isN_at] at h2; simp at h2
theorem Dt.at1 {n : Nat} {t a : PV} (h : Dt n (.tup [t, a])) : ∃ m, Dt m a := by
  obtain ⟨m, h⟩ := h.sub
  exact ⟨m, h a (by simp)⟩
theorem check_alike_ok (k : Nat) (A B : Au) (okA : A.Ok) (okB : B.Ok) (hA : A.n ≤ 60) (hB : B.n ≤ 60) {n : Nat} {v : PV} (h : Dt n v) (hs : Sm v) (hp : Hs) :
    Wp (callF G (k + 4) 13 [pv A, pv B, v] hp) fun r => ∃ b, r = ((false, .bl b), hp) ∧ (b = true ↔ Right A B v) := by
  refine Wp_call fn_check_alike rfl rfl ?_
  simp -implicitDefEqProofs [-List.getD_eq_getElem?_getD, -List.map_map, b_check_alike]
  refine Wp_of (is_named_ok (k + 2) v h.dat tW 2 (by decide) hp) ?_
  cases h1 : isN v tW 2 with
  | true =>
    obtain ⟨a, rfl⟩ := isN2 h1
    rw [right_word]
    obtain ⟨m, da⟩ := h.at1
    simp -implicitDefEqProofs [-List.getD_eq_getElem?_getD, -List.map_map]
    rcases str_cases a with ⟨w, rfl⟩ | ha
    · have hz := hs.z _ _ rfl
      refine Wp_of (is_word_ok (k + 2) w (by omega) hp) ?_
      by_cases hw : Au.Isw w
      · simp -implicitDefEqProofs [-List.getD_eq_getElem?_getD, -List.map_map, hw]
        refine Wp_of (accepts_ok (k + 1) A okA w hw hp) ?_
        simp -implicitDefEqProofs [-List.getD_eq_getElem?_getD, -List.map_map]
        refine Wp_of (accepts_ok (k + 1) B okB w hw hp) ?_
        simp -implicitDefEqProofs [-List.getD_eq_getElem?_getD, -List.map_map, Au.agr]
        exact Classical.em _
      · simp -implicitDefEqProofs [-List.getD_eq_getElem?_getD, -List.map_map, hw]
    · refine Wp_of (is_word_no (k + 2) a da.dat ha hp) ?_
      simp -implicitDefEqProofs [-List.getD_eq_getElem?_getD, -List.map_map, ha]
  | false =>
    simp -implicitDefEqProofs [-List.getD_eq_getElem?_getD, -List.map_map]
    refine Wp_of (is_named_ok (k + 2) v h.dat tP 2 (by decide) hp) ?_
    cases h2 : isN v tP 2 with
    | false =>
      simp -implicitDefEqProofs [-List.getD_eq_getElem?_getD, -List.map_map, right_no h1 h2]
    | true =>
      obtain ⟨a, rfl⟩ := isN2 h2
      rw [right_pairs]
      obtain ⟨m, da⟩ := h.at1
      simp -implicitDefEqProofs [-List.getD_eq_getElem?_getD, -List.map_map]
      obtain ⟨r, e, b, rfl, hb⟩ := is_pairs_of_ok k A B okA okB hA hB da (fun xs e => hs.l _ _ (by rw [e])) hp
      refine Wp_of e ?_
      simp -implicitDefEqProofs [-List.getD_eq_getElem?_getD, -List.map_map, hb]
      grind
theorem isw_filter (w : List Nat) : Au.Isw w ↔ w.filter (fun c => !decide (c = 97 ∨ c = 98)) = [] := by
  rw [List.filter_eq_nil_iff]
  constructor
  · intro h c hc
    have := h c hc
    simp [this]
  · intro h c hc
    have := h c hc
    simp at this
    omega
theorem prok_ps {A B : Au} {a : PV} (h : PsOk A B a) : PrOk A.n B.n a := by
  obtain ⟨ps, rfl, h⟩ := h
  exact ⟨ps, rfl, h.rng, h.asc⟩
theorem law_right_ok (k : Nat) (A B : Au) (okA : A.Ok) (okB : B.Ok) (hA : A.n ≤ 60) (hB : B.n ≤ 60) {n : Nat} {v : PV} (h : Dt n v) (hs : Sm v) (hp : Hs) :
    Wp (callF G (k + 4) 38 [pv A, pv B, v] hp) fun r => ∃ b, r = ((false, .bl b), hp) ∧ (b = true ↔ Right A B v) := by
  refine Wp_call fn_law_right rfl rfl ?_
  have elA : A.st.length = A.n := rfl
  have elB : B.st.length = B.n := rfl
  simp -implicitDefEqProofs [-List.getD_eq_getElem?_getD, -List.map_map, b_law_right]
  refine Wp_of (law_named_ok (k + 2) v h.dat tW 2 (by decide) hp) ?_
  cases h1 : isN v tW 2 with
  | true =>
    obtain ⟨a, rfl⟩ := isN2 h1
    rw [right_word]
    obtain ⟨m, da⟩ := h.at1
    simp -implicitDefEqProofs [-List.getD_eq_getElem?_getD, -List.map_map]
    rcases str_cases a with ⟨w, rfl⟩ | ha
    · have hz := hs.z _ _ rfl
      simp -implicitDefEqProofs [-List.getD_eq_getElem?_getD, -List.map_map]
      refine Wp_of (lcE_filter (enc := chr1) (p := fun c => !decide (c = 97 ∨ c = 98)) (g := chr1) fun c hc => ?_) ?_
      · refine Wp_eq ?_
        simp -implicitDefEqProofs [-List.getD_eq_getElem?_getD, -List.map_map, chr1, cmpP, inP, strIn_ab]
      · have hfl := List.length_filter_le (fun c => !decide (c = 97 ∨ c = 98)) w
        have hiw := isw_filter w
        generalize hbs : w.filter (fun c => !decide (c = 97 ∨ c = 98)) = bs at hfl hiw ⊢
        by_cases hw : Au.Isw w
        · have hbs0 := hiw.mp hw
          simp -implicitDefEqProofs [-List.getD_eq_getElem?_getD, -List.map_map, hbs0, hw]
          refine Wp_of (law_takes_ok (k + 1) A okA w hw hp) ?_
          simp -implicitDefEqProofs [-List.getD_eq_getElem?_getD, -List.map_map]
          refine Wp_of (law_takes_ok (k + 1) B okB w hw hp) ?_
          simp -implicitDefEqProofs [-List.getD_eq_getElem?_getD, -List.map_map, Au.agr]
          exact Classical.em _
        · have hbs0 : bs ≠ [] := fun c => hw (hiw.mpr c)
          have h0 : (0 : Int) < (bs.length : Nat) := by
            have := List.length_pos_iff.mpr hbs0
            omega
          simp -implicitDefEqProofs [-List.getD_eq_getElem?_getD, -List.map_map, h0, hbs0, hw, List.length_pos_iff.mpr hbs0, show bs.length ≤ 16777216 by omega]
    · simp -implicitDefEqProofs [-List.getD_eq_getElem?_getD, -List.map_map, isi_no_str da.dat ha, ha]
  | false =>
    simp -implicitDefEqProofs [-List.getD_eq_getElem?_getD, -List.map_map]
    refine Wp_of (law_named_ok (k + 2) v h.dat tP 2 (by decide) hp) ?_
    cases h2 : isN v tP 2 with
    | false =>
      simp -implicitDefEqProofs [-List.getD_eq_getElem?_getD, -List.map_map, right_no h1 h2]
    | true =>
      obtain ⟨a, rfl⟩ := isN2 h2
      rw [right_pairs]
      obtain ⟨m, da⟩ := h.at1
      simp -implicitDefEqProofs [-List.getD_eq_getElem?_getD, -List.map_map, elA, elB]
      obtain ⟨r, e, b, rfl, hb⟩ := law_pairs_ok k da (fun xs e => hs.l _ _ (by rw [e])) A.n B.n hp
      refine Wp_of e ?_
      cases b with
      | false =>
        have hno : ¬ PsOk A B a := fun c => by
          have := hb.mpr (prok_ps c)
          simp at this
        simp -implicitDefEqProofs [-List.getD_eq_getElem?_getD, -List.map_map, hno]
      | true =>
        obtain ⟨ps, rfl, hin, hasc⟩ := hb.mp rfl
        rw [PsOk.mvs]
        by_cases hst : [A.s, B.s] ∈ ps
        · simp -implicitDefEqProofs [-List.getD_eq_getElem?_getD, -List.map_map, nin_mv2, hst]
          obtain ⟨I, iI⟩ := mkI4 (fun (done rest : List (List Nat)) (env : FEnv) (h' : Hs) => h' = hp ∧ ∃ x3 x4, done ++ rest = ps ∧ (∀ p ∈ done, agB A B p = true ∧ (clB A B ps p).all id = true) ∧
            env = [some (false, pv A), some (false, pv B), some (false, .tup [.str tP, .tup (ps.map mv)]), x3, x4, none, none])
          refine Wp_for (enc := mv) I ?_ ps [] _ _ ((iI _ _ _ _).mpr ⟨rfl, none, none, rfl, by simp, rfl⟩) ?_
          · intro done p rest env h' hI'
            obtain ⟨rfl, x3, x4, hd, hdn, rfl⟩ := (iI _ _ _ _).mp hI'
            have hpm : p ∈ ps := by rw [← hd]; simp
            obtain ⟨a, b, rfl, ha, hb⟩ := hin p hpm
            have hyes : agB A B [a, b] = true → (clB A B ps [a, b]).all id = true → I (done ++ [[a, b]]) rest [some (false, pv A), some (false, pv B), some (false, .tup [.str tP, .tup (ps.map mv)]), some (false, .int a), some (false, .int b), none, none] h' := by
              intro t1 t2
              refine (iI _ _ _ _).mpr ⟨rfl, _, _, by simp [hd], fun y hy => ?_, rfl⟩
              rcases List.mem_append.mp hy with hy | hy
              · exact hdn y hy
              · simp at hy; subst hy; exact ⟨t1, t2⟩
            rw [agB_iff, clB_iff] at hyes
            by_cases hag : (a ∈ A.good ↔ b ∈ B.good)
            · by_cases c0 : [A.go a 0, B.go b 0] ∈ ps
              · by_cases c1 : [A.go a 1, B.go b 1] ∈ ps
                · have hY := hyes hag (fun k hk => by
                    rcases (by omega : k = 0 ∨ k = 1) with rfl | rfl
                    · exact c0
                    · exact c1)
                  simp -implicitDefEqProofs [-List.getD_eq_getElem?_getD, -List.map_map] at hY
                  simp -implicitDefEqProofs [-List.getD_eq_getElem?_getD, -List.map_map, hag, c0, c1, st_at ha, st_at hb, nin_mv2, hY]
                · have hno : ¬ Au.PairsOk A B ps := fun c => c1 (c.closed a b hpm 1 (by omega))
                  simp -implicitDefEqProofs [-List.getD_eq_getElem?_getD, -List.map_map, hag, c0, c1, st_at ha, st_at hb, nin_mv2, hno]
              · have hno : ¬ Au.PairsOk A B ps := fun c => c0 (c.closed a b hpm 0 (by omega))
                by_cases c1 : [A.go a 1, B.go b 1] ∈ ps
                · simp -implicitDefEqProofs [-List.getD_eq_getElem?_getD, -List.map_map, hag, c0, c1, st_at ha, st_at hb, nin_mv2, hno]
                · simp -implicitDefEqProofs [-List.getD_eq_getElem?_getD, -List.map_map, hag, c0, c1, st_at ha, st_at hb, nin_mv2, hno]
            · have hno : ¬ Au.PairsOk A B ps := fun c => hag (c.agree a b hpm)
              simp -implicitDefEqProofs [-List.getD_eq_getElem?_getD, -List.map_map, hag, hno]
          · intro env h' hI'
            obtain ⟨rfl, x3, x4, hd, hdn, rfl⟩ := (iI _ _ _ _).mp hI'
            have hyes : Au.PairsOk A B ps := by
              have hdn : ∀ p ∈ ps, agB A B p = true ∧ (clB A B ps p).all id = true := by simpa using hdn
              exact ⟨hin, hasc, hst, fun a b hab => agB_iff.mp (hdn _ hab).1, fun a b hab k hk => clB_iff.mp (hdn _ hab).2 k hk⟩
            simp -implicitDefEqProofs [-List.getD_eq_getElem?_getD, -List.map_map, hyes]
        · have hno : ¬ Au.PairsOk A B ps := fun c => hst c.start
          simp -implicitDefEqProofs [-List.getD_eq_getElem?_getD, -List.map_map, nin_mv2, hst, hno]
end K90
set_option maxRecDepth 100000
namespace K90
open PySem (Str)
open MP MX
/-! ### a bent value bent -/
inductive C2 (b : Nat) : Nat → PV → Prop where
  | tup {n : Nat} {xs : List PV} : xs.length ≤ b → (∀ x ∈ xs, C2 b n x) → C2 b (n + 1) (.tup xs)
  | lst {n : Nat} {xs : List PV} : xs.length ≤ b → (∀ x ∈ xs, C2 b n x) → C2 b (n + 1) (.lst xs)
  | str {n : Nat} {z : Str} : z.length ≤ b → C2 b n (.str z)
  | int {n : Nat} {i : Int} : i.natAbs ≤ b → C2 b n (.int i)
  | bl {n : Nat} {t : Bool} : C2 b n (.bl t)
  | non {n : Nat} : C2 b n .non
theorem C2.mono {b c n : Nat} {v : PV} (h : C2 b n v) (hc : b ≤ c) : ∀ {m : Nat}, n ≤ m → C2 c m v := by
  induction h with
  | tup hl _ ih =>
    intro m hm
    obtain ⟨m, rfl⟩ : ∃ k, m = k + 1 := ⟨m - 1, by omega⟩
    exact .tup (by omega) fun x hx => ih x hx (by omega)
  | lst hl _ ih =>
    intro m hm
    obtain ⟨m, rfl⟩ : ∃ k, m = k + 1 := ⟨m - 1, by omega⟩
    exact .lst (by omega) fun x hx => ih x hx (by omega)
  | str h => intro m _; exact .str (by omega)
  | int h => intro m _; exact .int (by omega)
  | bl => intro m _; exact .bl
  | non => intro m _; exact .non
theorem C2.sub {b n : Nat} {xs : List PV} (h : C2 b n (.tup xs)) : xs.length ≤ b ∧ ∃ m, n = m + 1 ∧ ∀ x ∈ xs, C2 b m x := by
  cases h with
  | tup h1 h2 => exact ⟨h1, _, rfl, h2⟩
theorem bent_c2 {b : Nat} (hb : 21 ≤ b) {v u : PV} (h : Bent v u) : ∀ {n : Nat}, C2 b n v → C2 (b + 9) (n + 1) u := by
  induction h with
  | @sub xs i x u hx hu ih =>
    intro n hc
    obtain ⟨hl, m, rfl, hs⟩ := hc.sub
    have hi := (List.getElem?_eq_some_iff.mp hx).1
    refine .tup (by simp; omega) fun y hy => ?_
    simp at hy
    rcases hy with hy | rfl | hy
    · exact (hs y (List.mem_of_mem_take hy)).mono (by omega) (by omega)
    · exact ih (hs x (List.mem_of_getElem? hx))
    · exact (hs y (List.mem_of_mem_drop hy)).mono (by omega) (by omega)
  | @more xs =>
    intro n hc
    obtain ⟨hl, m, rfl, hs⟩ := hc.sub
    refine .tup (by simp; omega) fun y hy => ?_
    simp at hy
    rcases hy with hy | rfl
    · exact (hs y hy).mono (by omega) (by omega)
    · exact .int (by simp)
  | @less xs =>
    intro n hc
    obtain ⟨hl, m, rfl, hs⟩ := hc.sub
    exact .tup (by simp; omega) fun y hy => (hs y ((List.dropLast_sublist xs).subset hy)).mono (by omega) (by omega)
  | @lst xs =>
    intro n hc
    obtain ⟨hl, m, rfl, hs⟩ := hc.sub
    exact .lst (by omega) fun y hy => (hs y hy).mono (by omega) (by omega)
  | @back xs =>
    intro n hc
    obtain ⟨hl, m, rfl, hs⟩ := hc.sub
    exact .tup (by simp; omega) fun y hy => (hs y (by simpa using hy)).mono (by omega) (by omega)
  | none => intro n _; exact .non
  | @twice xs =>
    intro n hc
    obtain ⟨hl, m, rfl, hs⟩ := hc.sub
    refine .tup (by simp; omega) fun y hy => ?_
    rcases List.mem_append.mp hy with hy | hy
    · exact (hs y hy).mono (by omega) (by omega)
    · exact (hs y (List.mem_of_mem_drop hy)).mono (by omega) (by omega)
  | @in_ xs =>
    intro n hc
    refine .tup (by simp) fun y hy => ?_
    simp at hy
    subst hy
    exact hc.mono (by omega) (by omega)
  | @long z =>
    intro n hc
    cases hc with
    | str h =>
      refine .str ?_
      have h1 : (z ++ PySem.Str.ofString "s").length = z.length + 1 := by
        show (z.cps ++ (PySem.Str.ofString "s").cps).size = z.cps.size + 1
        rw [Array.size_append]
        rfl
      omega
  | str h =>
    intro n _
    simp [texts6] at h
    have h1 : (PySem.Str.ofString "").length = 0 := by rfl
    have h2 : (PySem.Str.ofString "kept").length = 4 := by rfl
    have h3 : (PySem.Str.ofString "parted").length = 6 := by rfl
    have h4 : (PySem.Str.ofString "some").length = 4 := by rfl
    rcases h with rfl | rfl | rfl | rfl | rfl | rfl
    · exact .str (by omega)
    · exact .int (by simp)
    · exact .str (by omega)
    · exact .str (by omega)
    · exact .str (by omega)
    · exact .non
  | zero _ => intro n _; exact .int (by simp)
  | int hj =>
    intro n hc
    cases hc with
    | int h => exact .int (by omega)
  | bl => intro n _; exact .bl
  | txt h => intro n _; exact .str (by omega)
theorem bend_ok2 {b : Nat} (hb : b ≤ 1000) (n : Nat) : ∀ (k : Nat) (v : PV), C2 b n v → ∀ (ds : List Nat) (a : Nat), 0 < ds.length → ds.length ≤ 1000 → ∀ hp : Hs,
    ∃ u, Bent v u ∧ callF G (k + n + 1) 24 [v, .lst (ds.map nt), .int a] hp = some ((false, u), hp) := by
  have hi : ∀ i : Int, i.natAbs ≤ b → i.natAbs < 2 ^ 64 := fun i h => Nat.lt_of_le_of_lt (Nat.le_trans h hb) (by decide)
  induction n with
  | zero =>
    intro k v hv ds a h0 h1 hp
    cases hv with
    | str h => exact bend_str _ _ (by omega) ds a h0 h1 hp
    | int h => exact bend_int _ _ (hi _ h) ds a h0 h1 hp
    | bl => exact ⟨_, .zero (by simp), bend_else _ _ (Or.inl ⟨_, rfl⟩) ds a h0 h1 hp⟩
    | non => exact ⟨_, .zero (by simp), bend_else _ _ (Or.inr (Or.inl rfl)) ds a h0 h1 hp⟩
  | succ n ih =>
    intro k v hv ds a h0 h1 hp
    cases hv with
    | tup hl hx => exact bend_tup (k + n + 1) _ (by omega) ds a h0 h1 hp fun x hm => ih k x (hx x hm) ds (a + 1) h0 h1 hp
    | lst hl hx => exact ⟨_, .zero (by simp), bend_else _ _ (Or.inr (Or.inr ⟨_, rfl⟩)) ds a h0 h1 hp⟩
    | str h => exact bend_str _ _ (by omega) ds a h0 h1 hp
    | int h => exact bend_int _ _ (hi _ h) ds a h0 h1 hp
    | bl => exact ⟨_, .zero (by simp), bend_else _ _ (Or.inl ⟨_, rfl⟩) ds a h0 h1 hp⟩
    | non => exact ⟨_, .zero (by simp), bend_else _ _ (Or.inr (Or.inl rfl)) ds a h0 h1 hp⟩
theorem C2.dt {b n : Nat} (hb : b ≤ 1000000) {v : PV} (h : C2 b n v) : Dt n v := by
  induction h with
  | tup hl _ ih => exact .tup (by omega) fun x hx => ih x hx
  | lst hl _ ih => exact .lst (by omega) fun x hx => ih x hx
  | str _ => exact .str _
  | int _ => exact .int _
  | bl => exact .bl _
  | non => exact .non
end K90
set_option maxRecDepth 100000
namespace K90
open PySem (Str)
open MP MX AU
/-! ### small facts for the law -/
def Okv (v : PV) : Prop := ∃ n, C2 60 n v
theorem Okv.dt {v : PV} (h : Okv v) : ∃ n, Dt n v := ⟨_, h.choose_spec.dt (by decide)⟩
theorem strlen (w : List Nat) : (⟨w.toArray⟩ : Str).length = w.length := by simp [PySem.Str.length]
theorem Okv.sm {v : PV} (h : Okv v) : Sm v := by
  obtain ⟨n, h⟩ := h
  refine ⟨fun t xs e => ?_, fun t w e => ?_⟩
  · subst e
    obtain ⟨_, m, _, hs⟩ := h.sub
    have := (hs (.tup xs) (by simp)).sub.1
    omega
  · subst e
    obtain ⟨_, m, _, hs⟩ := h.sub
    have := hs (.str ⟨w.toArray⟩) (by simp)
    cases this with
    | str h =>
      rw [strlen] at h
      omega
theorem c2_ints {b : Nat} {l : List Nat} (hl : l.length ≤ b) (hi : ∀ i ∈ l, i ≤ b) {n : Nat} : C2 b (n + 1) (.tup (l.map nt)) := by
  refine .tup (by simpa using hl) fun x hx => ?_
  obtain ⟨i, h, rfl⟩ := List.mem_map.mp hx
  exact .int (by have := hi i h; omega)
theorem pv_c2 {A : Au} (ok : A.Ok) (gb : GoodB A) (hn : A.n ≤ 5) : C2 25 3 (pv A) := by
  have hs := ok.s
  refine .tup (by simp) fun x hx => ?_
  simp only [List.mem_cons, List.not_mem_nil, or_false] at hx
  rcases hx with rfl | rfl | rfl
  · exact .int (by omega)
  · exact c2_ints (by have := gb.len; omega) fun i hi => by have := gb.lt i hi; omega
  · have hl : A.st.length ≤ 5 := hn
    refine .tup (by simp; omega) fun x hx => ?_
    obtain ⟨p, hp, rfl⟩ := List.mem_map.mp hx
    have := ok.st p hp
    refine .tup (by simp) fun x hx => ?_
    simp only [List.mem_cons, List.not_mem_nil, or_false] at hx
    rcases hx with rfl | rfl
    · exact .int (by omega)
    · exact .int (by omega)
theorem least_gb (A : Au) : GoodB A.least := by
  have hn : A.least.n = A.M.length := by simp [Au.least, Au.lm, Au.n]
  refine ⟨?_, fun g hg => ?_⟩
  · rw [hn]
    have := List.length_filter_le (fun k => decide (A.M.getD k 0 ∈ A.good)) (List.range A.M.length)
    simpa [Au.least, Au.lm] using this
  · rw [hn]
    simp [Au.least, Au.lm] at hg
    exact hg.1
theorem spOk : EncOk sp 1 where
  dat p := rfl
  dep p := by simp [PV.dep, depAll]
  eqv p q := by
    obtain ⟨a, b⟩ := p
    obtain ⟨c, d⟩ := q
    have := mvOk.eqv [a, b] [c, d]
    have e : eqP (sp (a, b)) (sp (c, d)) = eqP (mv [a, b]) (mv [c, d]) := rfl
    rw [e, this, Bool.eq_iff_iff]
    simp
  lf p := rfl
instance : DecidableEq Au := fun A B => decidable_of_iff (A.s = B.s ∧ A.good = B.good ∧ A.st = B.st) (by cases A; cases B; simp)
theorem eqP_pv (A B : Au) : eqP (pv A) (pv B) = decide (A = B) := by
  have h1 : eqP (pv A) (pv B) = (eqP (nt A.s) (nt B.s) && (eqP (.tup (A.good.map nt)) (.tup (B.good.map nt)) && (eqP (.tup (A.st.map sp)) (.tup (B.st.map sp)) && true))) := by
    simp only [pv, eqP, eqAll, nt]
  have h2 := ntOk.eqv A.s B.s
  have h3 := mvOk.eqv A.good B.good
  have h4 := spOk.tup.eqv A.st B.st
  simp only [mv] at h3
  rw [h1, h2, h3, h4, Bool.eq_iff_iff]
  obtain ⟨s, g, st⟩ := A
  obtain ⟨s2, g2, st2⟩ := B
  simp
theorem Dt.dep {n : Nat} {v : PV} (h : Dt n v) : v.dep ≤ n := by
  induction h with
  | tup _ _ ih => exact Nat.add_le_add_right ((depAll_le _ _).mpr ih) 1
  | lst _ _ ih => exact Nat.add_le_add_right ((depAll_le _ _).mpr ih) 1
  | _ => exact Nat.zero_le _
theorem cmp_eq_pv {A B : Au} {n : Nat} (hn : n ≤ 60) (hA : Dt n (pv A)) (hB : Dt n (pv B)) : cmpP .eq (pv A) (pv B) = some (decide (A = B)) := by
  have h : okEq (pv A) (pv B) = true := by
    have := Nat.le_trans (Nat.min_le_left (pv A).dep (pv B).dep) (Nat.le_trans hA.dep hn)
    simp only [okEq, hA.dat, hB.dat, this]
    rfl
  show (if okEq (pv A) (pv B) = true then some (eqP (pv A) (pv B)) else none) = _
  rw [if_pos h, eqP_pv]
/-- both judges of automata answer alike -/
theorem auto_same (k : Nat) {n : Nat} {v : PV} (h : Dt n v) (hp : Hs) : ∃ b, callF G (k + 4) 6 [v] hp = some ((false, .bl b), hp) ∧ callF G (k + 4) 31 [v] hp = some ((false, .bl b), hp) := by
  obtain ⟨r, e, b, rfl, hb⟩ := is_automaton_ok k h hp
  obtain ⟨r2, e2, b2, rfl, hb2⟩ := law_is_auto_ok k h hp
  have : b = b2 := by rw [Bool.eq_iff_iff, hb, hb2]
  subst this
  exact ⟨b, e, e2⟩
theorem judge_same (k : Nat) (A B : Au) (okA : A.Ok) (okB : B.Ok) (hA : A.n ≤ 5) (hB : B.n ≤ 5) {v : PV} (h : Okv v) (hp : Hs) : ∃ b, callF G (k + 4) 13 [pv A, pv B, v] hp = some ((false, .bl b), hp) ∧ callF G (k + 4) 38 [pv A, pv B, v] hp = some ((false, .bl b), hp) := by
  obtain ⟨n, hd⟩ := h.dt
  obtain ⟨r, e, b, rfl, hb⟩ := check_alike_ok k A B okA okB (by omega) (by omega) hd h.sm hp
  obtain ⟨r2, e2, b2, rfl, hb2⟩ := law_right_ok k A B okA okB (by omega) (by omega) hd h.sm hp
  have : b = b2 := by rw [Bool.eq_iff_iff, hb, hb2]
  subst this
  exact ⟨b, e, e2⟩
/-! ### all pairs, and all words of up to five signs -/
def Wp2 (n : Nat) : List (List Nat) := (List.range n).flatMap fun a => (List.range n).map fun b => [a, b]
theorem tuples_run (k : Nat) (hp : Hs) (n : Nat) (h : n = 1 ∨ n = 2 ∨ n = 3 ∨ n = 4 ∨ n = 5) : callF G (k + 1) 29 [.int n, .int 2] hp = some ((false, .lst ((Wp2 n).map mv)), hp) := by
  refine call_eq fn_law_tuples rfl rfl ?_
  refine Wp_map_eq (f := fun r => (r.1, r.2.2)) (b := (.rt (false, .lst ((Wp2 n).map mv)), hp)) ?_ ?_
  · rcases h with rfl | rfl | rfl | rfl | rfl <;> kernel_rfl
  · intro r h
    exact ⟨(congrArg Prod.fst h).symm, (congrArg Prod.snd h).symm⟩
def wds : Nat → List (List Nat)
  | 0 => [[]]
  | n + 1 => (wds n).flatMap fun w => [w ++ [97], w ++ [98]]
def W63 : List (List Nat) := wds 0 ++ (wds 1 ++ (wds 2 ++ (wds 3 ++ (wds 4 ++ wds 5))))
theorem texts_ok (k : Nat) (hp : Hs) : callF G (k + 1) 35 [.int 5] hp = some ((true, .lst (W63.map tx)), hp) := by
  refine call_eq fn_law_texts rfl rfl ?_
  refine Wp_map_eq (f := fun r => (r.1, r.2.2)) (b := (.rt (true, .lst (W63.map tx)), hp)) ?_ ?_
  · kernel_rfl
  · intro r h
    exact ⟨(congrArg Prod.fst h).symm, (congrArg Prod.snd h).symm⟩
theorem W63_ok : (∀ w ∈ W63, Au.Isw w ∧ w.length ≤ 5) := by
  have : W63.all (fun w => w.all (fun c => c == 97 || c == 98) && decide (w.length ≤ 5)) = true := by decide +kernel
  rw [List.all_eq_true] at this
  intro w hw
  have := this w hw
  simp at this
  exact ⟨fun c hc => this.1 c hc, this.2⟩
theorem W63_mono : W63.Pairwise fun u v => u.length ≤ v.length := by decide +kernel
theorem mem_wds : ∀ (n : Nat) (w : List Nat), Au.Isw w → w.length = n → w ∈ wds n
  | 0, w, _, h => by
    have : w = [] := List.eq_nil_of_length_eq_zero h
    subst this
    simp [wds]
  | n + 1, w, hw, h => by
    have hn : w ≠ [] := fun c => by simp [c] at h
    have ew := List.dropLast_concat_getLast hn
    have h1 := mem_wds n w.dropLast (fun c hc => hw c (List.dropLast_subset _ hc)) (by simp [h])
    have h2 := hw (w.getLast hn) (List.getLast_mem hn)
    rw [wds, List.mem_flatMap]
    refine ⟨_, h1, ?_⟩
    rcases h2 with h2 | h2
    · rw [h2] at ew
      simp [ew]
    · rw [h2] at ew
      simp [ew]
theorem mem_W63 {w : List Nat} (hw : Au.Isw w) (h : w.length ≤ 5) : w ∈ W63 := by
  have := mem_wds w.length w hw rfl
  unfold W63
  rcases (by omega : w.length = 0 ∨ w.length = 1 ∨ w.length = 2 ∨ w.length = 3 ∨ w.length = 4 ∨ w.length = 5) with e | e | e | e | e | e <;> rw [e] at this <;> simp [this]
/-- the words that tell two automata apart -/
def dif (A B : Au) (w : List Nat) : Bool := !decide (A.act A.s w ∈ A.good ↔ B.act B.s w ∈ B.good)
theorem dif_iff {A B : Au} {w : List Nat} : dif A B w = true ↔ ¬ Au.agr A B w := by simp [dif, Au.agr]
/-- the first word that tells them apart is a shortest one -/
theorem first_short {A B : Au} {w : List Nat} (hw : Au.Isw w) (hd : ¬ Au.agr A B w) (hs : ∀ u : List Nat, u.length < w.length → Au.agr A B u) {u : List Nat} {r : List (List Nat)} (h : W63.filter (dif A B) = u :: r) : w.length = u.length := by
  have hu : u ∈ W63.filter (dif A B) := by rw [h]; simp
  rw [List.mem_filter, dif_iff] at hu
  have h1 : w.length ≤ u.length := by
    apply Classical.byContradiction
    intro c
    exact hu.2 (hs u (by omega))
  have h5 := (W63_ok u hu.1).2
  have hm : w ∈ W63.filter (dif A B) := by
    rw [List.mem_filter, dif_iff]
    exact ⟨mem_W63 hw (by omega), hd⟩
  have hp := W63_mono.filter (dif A B)
  rw [h] at hp hm
  rcases List.mem_cons.mp hm with rfl | hm
  · rfl
  · have := (List.pairwise_cons.mp hp).1 w hm
    omega
end K90
set_option maxRecDepth 100000
namespace K90
open PySem (Str)
open MP MX AU
def nthS : Nat → MS → MS
  | 0, .cons s _ => s
  | n + 1, .cons _ r => nthS n r
  | _, _ => .nil
def dropS : Nat → MS → MS
  | 0, s => s
  | n + 1, .cons _ r => dropS n r
  | _, _ => .nil
theorem Wp_seq {gl : Nat → Option PV} {call : CallT} {wf : Nat} {s r : MS} {env : FEnv} {hp : Hs} {Q : Flow × FEnv × Hs → Prop} (P : FEnv → Hs → Prop)
    (h1 : Wp (exec gl call wf s env hp) fun x => x.1 = .nx ∧ P x.2.1 x.2.2) (h2 : ∀ env hp, P env hp → Wp (exec gl call wf r env hp) Q) : Wp (exec gl call wf (.cons s r) env hp) Q := by
  obtain ⟨⟨f, e, h⟩, he, h3, h4⟩ := h1
  simp only at h3 h4
  subst h3
  rw [exec_cons, he]
  exact h2 e h h4
def rp (k : Nat) : List PV := List.replicate k (.tup [.int 0, .int 0])
theorem mul100 : binP .mul (.tup [.tup [.int 0, .int 0]]) (.int 100) = some (false, .tup (rp 100)) := by rfl
theorem mul101 : binP .mul (.tup [.tup [.int 0, .int 0]]) (.int 101) = some (false, .tup (rp 101)) := by rfl
theorem slc2 (a b c : PV) : slcP (.tup [a, b, c]) none (some 2) = some (false, .tup [a, b]) := by rfl
theorem rep_dt (k : Nat) (hk : k ≤ 1000) : Dt 3 (.tup [.int 0, .tup [], .tup (rp k)]) := by
  refine .tup (by simp) fun x hx => ?_
  simp only [List.mem_cons, List.not_mem_nil, or_false] at hx
  rcases hx with rfl | rfl | rfl
  · exact .int _
  · exact .tup (by simp) (by simp)
  · refine .tup (by simp [rp]; omega) fun x hx => ?_
    rw [(List.mem_replicate.mp hx).2]
    exact .tup (by simp) fun y hy => by
      simp at hy
      subst hy
      exact .int _
theorem st4 (ns : List Int) {rows ds : List Nat} (hdl : ds.length = 60) (A B : Au) (cA : C2 25 3 (pv A)) (cB : C2 25 3 (pv B)) (a : Nat) (o1 o2 : Bool) :
    Wp (exec G.cst (callF G 19) WF (nthS 4 b_law) [some (false, .lst (ns.map PV.int)), some (o1, pl rows), some (o2, .lst (ds.map nt)), some (false, pv A), some (false, pv B), none, none, none, none, none, none, none, none, none, none, none] (Hp a)) fun r =>
      r.1 = .nx ∧ r.2.2 = Hp a ∧ ∃ (o1 o2 : Bool) (x5 : Option Rv), r.2.1 = [some (false, .lst (ns.map PV.int)), some (o1, pl rows), some (o2, .lst (ds.map nt)), some (false, pv A), some (false, pv B), x5, none, none, none, none, none, none, none, none, none, none] := by
  obtain ⟨u1, b1, e1⟩ := bend_ok2 (b := 25) (by decide) 3 15 (pv A) cA ds 3 (by omega) (by omega) (Hp a)
  obtain ⟨u2, b2, e2⟩ := bend_ok2 (b := 25) (by decide) 3 15 (pv B) cB ds 9 (by omega) (by omega) (Hp a)
  have c2 := bent_c2 (by decide) b2 cB
  obtain ⟨u3, b3, e3⟩ := bend_ok2 (b := 34) (by decide) 4 14 u2 c2 ds 15 (by omega) (by omega) (Hp a)
  have e1' : callF G 19 24 [pv A, .lst (ds.map nt), .int 3] (Hp a) = some ((false, u1), Hp a) := e1
  have e2' : callF G 19 24 [pv B, .lst (ds.map nt), .int 9] (Hp a) = some ((false, u2), Hp a) := e2
  have e3' : callF G 19 24 [u2, .lst (ds.map nt), .int 15] (Hp a) = some ((false, u3), Hp a) := e3
  have d1 := (bent_c2 (by decide) b1 cA).dt (by decide)
  have d3 := (bent_c2 (by decide) b3 c2).dt (by decide)
  simp only [nthS, b_law]
  simp -implicitDefEqProofs [-List.getD_eq_getElem?_getD, -List.map_map]
  refine Wp_of e1' ?_
  simp -implicitDefEqProofs [-List.getD_eq_getElem?_getD, -List.map_map]
  refine Wp_of e2' ?_
  simp -implicitDefEqProofs [-List.getD_eq_getElem?_getD, -List.map_map]
  refine Wp_of e3' ?_
  simp -implicitDefEqProofs [-List.getD_eq_getElem?_getD, -List.map_map, mul100, mul101, slc2]
  have dA := cA.dt (by decide)
  have dB := cB.dt (by decide)
  obtain ⟨m, dsub⟩ := dA.sub
  generalize hvs : ([PV.tup [PV.int A.s, _, _], _, _, _, _, _, _, _, _, _] : List PV) = vs
  have hok : ∀ v ∈ vs, ∃ n, Dt n v := by
    intro v hv
    rw [← hvs] at hv
    simp only [List.mem_cons, List.not_mem_nil, or_false] at hv
    rcases hv with rfl | rfl | rfl | rfl | rfl | rfl | rfl | rfl | rfl | rfl
    · exact ⟨_, dA⟩
    · exact ⟨_, dB⟩
    · exact ⟨_, d1⟩
    · exact ⟨_, d3⟩
    · exact ⟨_, .lst (by simp) dsub⟩
    · exact ⟨0, .non⟩
    · exact ⟨_, .tup (by simp) fun x hx => dsub x (by simp at hx ⊢; rcases hx with rfl | rfl <;> simp)⟩
    · exact ⟨_, rep_dt 0 (by decide)⟩
    · exact ⟨_, rep_dt 100 (by decide)⟩
    · exact ⟨_, rep_dt 101 (by decide)⟩
  clear hvs
  obtain ⟨I, iI⟩ := mkI4 (fun (done rest : List PV) (env : FEnv) (h : Hs) => h = Hp a ∧ ∃ (o1 o2 : Bool) (x5 : Option Rv), (∀ v ∈ rest, ∃ n, Dt n v) ∧
    env = [some (false, .lst (ns.map PV.int)), some (o1, pl rows), some (o2, .lst (ds.map nt)), some (false, pv A), some (false, pv B), x5, none, none, none, none, none, none, none, none, none, none])
  rw [show vs = vs.map id by simp]
  refine Wp_for (enc := id) I ?_ vs [] _ _ ((iI _ _ _ _).mpr ⟨rfl, false, false, none, hok, rfl⟩) ?_
  · intro done v rest env h hI
    obtain ⟨rfl, o1, o2, x5, hok, rfl⟩ := (iI _ _ _ _).mp hI
    obtain ⟨n, dv⟩ := hok v (by simp)
    obtain ⟨b, f1, f2⟩ := auto_same 15 dv (Hp a)
    simp -implicitDefEqProofs [-List.getD_eq_getElem?_getD, -List.map_map]
    refine Wp_of f1 ?_
    simp -implicitDefEqProofs [-List.getD_eq_getElem?_getD, -List.map_map]
    refine Wp_of f2 ?_
    simp -implicitDefEqProofs [-List.getD_eq_getElem?_getD, -List.map_map]
    refine Wp_of (is_bool_ok 18 _ _ _) ?_
    simp -implicitDefEqProofs [-List.getD_eq_getElem?_getD, -List.map_map]
    exact (iI _ _ _ _).mpr ⟨rfl, o1, o2, _, fun u hu => hok u (by simp [hu]), rfl⟩
  · intro env h hI
    obtain ⟨rfl, o1, o2, x5, hok, rfl⟩ := (iI _ _ _ _).mp hI
    simp -implicitDefEqProofs [-List.getD_eq_getElem?_getD, -List.map_map]
    cases o1 <;> cases o2 <;> simp
/-- the slots of the law -/
abbrev BE (ns : List Int) (rows ds : List Nat) (A B : Au) (o1 o2 : Bool) (t : List (Option Rv)) : FEnv := some (false, .lst (ns.map PV.int)) :: some (o1, pl rows) :: some (o2, .lst (ds.map nt)) :: some (false, pv A) :: some (false, pv B) :: t
theorem st5 (ns : List Int) (rows ds : List Nat) (A B : Au) (okA : A.Ok) (okB : B.Ok) (hA : A.n ≤ 5) (hB : B.n ≤ 5) (a : Nat) (o1 o2 : Bool) (t : List (Option Rv)) :
    Wp (exec G.cst (callF G 19) WF (nthS 5 b_law) (BE ns rows ds A B o1 o2 t) (Hp a)) fun r => r.1 = .nx ∧ r.2.2 = Hp a ∧ ∃ o1 o2, r.2.1 = BE ns rows ds A B o1 o2 t := by
  have lA := Au.least_ok okA
  have lB := Au.least_ok okB
  have nA := Au.least_n okA
  have nB := Au.least_n okB
  have dA := (pv_c2 lA (least_gb A) (by omega)).dt (by decide)
  have dB := (pv_c2 lB (least_gb B) (by omega)).dt (by decide)
  have eB := least_ok 17 B.least lB (by omega) (Hp a)
  rw [Au.least_least okB] at eB
  simp only [nthS, b_law]
  simp -implicitDefEqProofs [-List.getD_eq_getElem?_getD, -List.map_map]
  refine Wp_of (least_ok 17 A okA (by omega) (Hp a)) ?_
  simp -implicitDefEqProofs [-List.getD_eq_getElem?_getD, -List.map_map]
  refine Wp_of (law_least_ok 16 A okA (by omega) (Hp a)) ?_
  simp -implicitDefEqProofs [-List.getD_eq_getElem?_getD, -List.map_map]
  refine Wp_of (equal_self 14 3 dA (Hp a)) ?_
  simp -implicitDefEqProofs [-List.getD_eq_getElem?_getD, -List.map_map]
  refine Wp_of (least_ok 17 B okB (by omega) (Hp a)) ?_
  simp -implicitDefEqProofs [-List.getD_eq_getElem?_getD, -List.map_map]
  refine Wp_of eB ?_
  simp -implicitDefEqProofs [-List.getD_eq_getElem?_getD, -List.map_map]
  refine Wp_of (law_least_ok 16 B okB (by omega) (Hp a)) ?_
  simp -implicitDefEqProofs [-List.getD_eq_getElem?_getD, -List.map_map]
  refine Wp_of (equal_self 14 3 dB (Hp a)) ?_
  simp -implicitDefEqProofs [-List.getD_eq_getElem?_getD, -List.map_map]
  try cases o1 <;> cases o2 <;> simp
theorem st7 (ns : List Int) (rows ds : List Nat) (A B : Au) (okA : A.Ok) (okB : B.Ok) (a : Nat) (o1 o2 : Bool) (x5 : Option Rv) :
    Wp (exec G.cst (callF G 19) WF (nthS 7 b_law) (BE ns rows ds A B o1 o2 [x5, some (true, .lst []), none, none, none, none, none, none, none, none, none]) (Hp a)) fun r => r.1 = .nx ∧ r.2.2 = Hp a ∧ ∃ o1 o2 x5 x7 x12 x13, r.2.1 = BE ns rows ds A B o1 o2 [x5, some (true, .lst ((W63.filter (dif A B)).map tx)), x7, none, none, none, none, x12, x13, none, none] := by
  simp only [nthS, b_law]
  simp -implicitDefEqProofs [-List.getD_eq_getElem?_getD, -List.map_map]
  refine Wp_of (texts_ok 18 (Hp a)) ?_
  simp -implicitDefEqProofs [-List.getD_eq_getElem?_getD, -List.map_map]
  obtain ⟨I, iI⟩ := mkI4 (fun (done rest : List (List Nat)) (env : FEnv) (h : Hs) => h = Hp a ∧ ∃ (o1 o2 : Bool) (x5 x7 x12 x13 : Option Rv), done ++ rest = W63 ∧
    env = BE ns rows ds A B o1 o2 [x5, some (true, .lst ((done.filter (dif A B)).map tx)), x7, none, none, none, none, x12, x13, none, none])
  refine Wp_for (enc := tx) I ?_ W63 [] _ _ ((iI _ _ _ _).mpr ⟨rfl, o1, o2, x5, none, none, none, rfl, rfl⟩) ?_
  · intro done w rest env h hI
    obtain ⟨rfl, o1, o2, x5, x7, x12, x13, hd, rfl⟩ := (iI _ _ _ _).mp hI
    have hw := (W63_ok w (by rw [← hd]; simp)).1
    have hl : done.length ≤ 63 := by
      have := congrArg List.length hd
      have e : W63.length = 63 := by rfl
      rw [e] at this
      simp at this
      omega
    have hfl := List.length_filter_le (dif A B) done
    have hfl2 : (done.filter (dif A B)).length < 16777216 := by omega
    simp -implicitDefEqProofs [-List.getD_eq_getElem?_getD, -List.map_map]
    refine Wp_of (law_takes_ok 17 A okA w hw (Hp a)) ?_
    simp -implicitDefEqProofs [-List.getD_eq_getElem?_getD, -List.map_map]
    refine Wp_of (law_takes_ok 17 B okB w hw (Hp a)) ?_
    simp -implicitDefEqProofs [-List.getD_eq_getElem?_getD, -List.map_map]
    refine Wp_of (accepts_ok 17 A okA w hw (Hp a)) ?_
    simp -implicitDefEqProofs [-List.getD_eq_getElem?_getD, -List.map_map]
    refine Wp_of (is_bool_ok 18 _ _ _) ?_
    simp -implicitDefEqProofs [-List.getD_eq_getElem?_getD, -List.map_map]
    refine Wp_of (accepts_ok 17 B okB w hw (Hp a)) ?_
    simp -implicitDefEqProofs [-List.getD_eq_getElem?_getD, -List.map_map]
    refine Wp_of (is_bool_ok 18 _ _ _) ?_
    simp -implicitDefEqProofs [-List.getD_eq_getElem?_getD, -List.map_map]
    by_cases hag : (A.act A.s w ∈ A.good ↔ B.act B.s w ∈ B.good)
    · have hdf : dif A B w = false := by simp [dif, hag]
      refine Or.inl ⟨hag, (iI _ _ _ _).mpr ⟨rfl, o1, o2, x5, some (false, tx w), some (false, .bl (decide (A.act A.s w ∈ A.good))), some (false, .bl (decide (B.act B.s w ∈ B.good))), by simp [hd], ?_⟩⟩
      simp -implicitDefEqProofs [-List.getD_eq_getElem?_getD, -List.map_map, List.filter_append, hdf]
    · have hdf : dif A B w = true := by simp [dif, hag]
      refine Or.inr ⟨hag, hfl2, (iI _ _ _ _).mpr ⟨rfl, o1, o2, x5, some (false, tx w), some (false, .bl (decide (A.act A.s w ∈ A.good))), some (false, .bl (decide (B.act B.s w ∈ B.good))), by simp [hd], ?_⟩⟩
      simp -implicitDefEqProofs [-List.getD_eq_getElem?_getD, -List.map_map, List.filter_append, hdf]
  · intro env h hI
    obtain ⟨rfl, o1, o2, x5, x7, x12, x13, hd, rfl⟩ := (iI _ _ _ _).mp hI
    simp -implicitDefEqProofs [-List.getD_eq_getElem?_getD, -List.map_map]
    cases o1 <;> cases o2 <;> simp
end K90
set_option maxRecDepth 100000
namespace K90
open PySem (Str)
open MP MX AU
theorem told_c2 {A B : Au} (hA : A.n ≤ 5) (hB : B.n ≤ 5) {v : PV} (h : Told A B v) : C2 25 3 v := by
  have hm : A.n * B.n ≤ 25 := Nat.mul_le_mul hA hB
  have l1 : tW.length = 4 := by rfl
  have l2 : tP.length = 5 := by rfl
  rcases h with ⟨w, rfl, h1, h2, h3, h4⟩ | ⟨ps, rfl, h1, h2, h3⟩
  · refine .tup (by simp) fun x hx => ?_
    simp only [List.mem_cons, List.not_mem_nil, or_false] at hx
    rcases hx with rfl | rfl
    · exact .str (by show tW.length ≤ 25; omega)
    · exact .str (by rw [strlen]; omega)
  · refine .tup (by simp) fun x hx => ?_
    simp only [List.mem_cons, List.not_mem_nil, or_false] at hx
    rcases hx with rfl | rfl
    · exact .str (by show tP.length ≤ 25; omega)
    · refine .tup (by simp; omega) fun x hx => ?_
      obtain ⟨p, hp, rfl⟩ := List.mem_map.mp hx
      obtain ⟨a, b, rfl, ha, hb⟩ := h1.rng p hp
      exact c2_ints (by simp) fun i hi => by
        simp at hi
        omega
theorem ne_nil (us : List (List Nat)) : cmpP .ne (.lst (us.map tx)) (.lst []) = some (!us.isEmpty) := by
  have h : okEq (.lst (us.map tx)) (.lst []) = true := by
    have h1 : (PV.lst (us.map tx)).dat = true := txOk.datAll us
    have h2 : min (PV.lst (us.map tx)).dep (PV.lst []).dep ≤ 60 := Nat.le_trans (Nat.min_le_right _ _) (by decide)
    simp only [okEq, h1, h2]
    rfl
  show (if okEq (.lst (us.map tx)) (.lst []) = true then some (!eqP (.lst (us.map tx)) (.lst [])) else none) = _
  rw [if_pos h]
  cases us <;> rfl
theorem st8 (ns : List Int) (rows ds : List Nat) (A B : Au) (okA : A.Ok) (okB : B.Ok) (hA : A.n ≤ 5) (hB : B.n ≤ 5) (a : Nat) (o1 o2 : Bool) (x5 x6 x7 x12 x13 : Option Rv) :
    Wp (exec G.cst (callF G 19) WF (nthS 8 b_law) (BE ns rows ds A B o1 o2 [x5, x6, x7, none, none, none, none, x12, x13, none, none]) (Hp a)) fun r => r.1 = .nx ∧ r.2.2 = Hp a ∧ ∃ v, Told A B v ∧ r.2.1 = BE ns rows ds A B o1 o2 [x5, x6, x7, some (false, v), none, none, none, x12, x13, none, none] := by
  have hm : A.n * B.n ≤ 25 := Nat.mul_le_mul hA hB
  obtain ⟨r, e, v, rfl, hT⟩ := alike_paper_ok 18 A B okA okB (by omega) (Hp a)
  have hlf : v.lf = true := by
    rcases hT with ⟨w, rfl, _⟩ | ⟨ps, rfl, _⟩
    · rfl
    · have := mvOk.tup.lf ps
      simp at this
      simp [this]
  simp only [nthS, b_law]
  simp -implicitDefEqProofs [-List.getD_eq_getElem?_getD, -List.map_map]
  refine Wp_of e ?_
  simp -implicitDefEqProofs [-List.getD_eq_getElem?_getD, -List.map_map, hlf]
  exact hT
theorem st9 (ns : List Int) (rows ds : List Nat) (A B : Au) (okA : A.Ok) (okB : B.Ok) (hA : A.n ≤ 5) (hB : B.n ≤ 5) (a : Nat) (o1 o2 : Bool) {v : PV} (hT : Told A B v) (x5 x7 x12 x13 : Option Rv) :
    Wp (exec G.cst (callF G 19) WF (nthS 9 b_law) (BE ns rows ds A B o1 o2 [x5, some (true, .lst ((W63.filter (dif A B)).map tx)), x7, some (false, v), none, none, none, x12, x13, none, none]) (Hp a)) fun r => r.1 = .nx ∧ r.2.2 = Hp a ∧ ∃ o1 o2 x6, r.2.1 = BE ns rows ds A B o1 o2 [x5, x6, x7, some (false, v), none, none, none, x12, x13, none, none] := by
  have lA := Au.least_ok okA
  have lB := Au.least_ok okB
  have nA := Au.least_n okA
  have nB := Au.least_n okB
  have dA := (pv_c2 lA (least_gb A) (by omega)).dt (by decide)
  have dB := (pv_c2 lB (least_gb B) (by omega)).dt (by decide)
  have heq := cmp_eq_pv (by decide) dA dB
  have cv := told_c2 hA hB hT
  have hok : Okv v := ⟨3, cv.mono (by decide) (Nat.le_refl _)⟩
  obtain ⟨n, dv⟩ := hok.dt
  obtain ⟨r, e, b, rfl, hb⟩ := law_right_ok 15 A B okA okB (by omega) (by omega) dv hok.sm (Hp a)
  have hb := hb.mpr hT.right
  subst hb
  simp only [nthS, b_law]
  simp -implicitDefEqProofs [-List.getD_eq_getElem?_getD, -List.map_map]
  refine Wp_of e ?_
  simp -implicitDefEqProofs [-List.getD_eq_getElem?_getD, -List.map_map]
  have ln := Au.least_iff okA okB
  rcases hT with ⟨w, rfl, h1, h2, h3, h4⟩ | ⟨ps, rfl, h1, h2, h3⟩
  · have hne : ¬ A.least = B.least := fun c => h2 ((ln.mp c) w)
    have hpw : ¬ PySem.Str.ofString "word" = S "pairs" := tW_ne
    have hus : ∀ u r, W63.filter (dif A B) = u :: r → w.length = u.length := fun u r e => first_short h1 h2 h3 e
    have hn0 : cmpP .ne (.lst []) (.lst []) = some false := ne_nil []
    have hn1 : ∀ (u : List Nat) (r : List (List Nat)), cmpP .ne (.lst (.str ⟨u.toArray⟩ :: r.map tx)) (.lst []) = some true := fun u r => ne_nil (u :: r)
    have hul : ∀ u ∈ W63.filter (dif A B), u.length ≤ 5 := fun u hu => (W63_ok u (List.mem_filter.mp hu).1).2
    generalize W63.filter (dif A B) = us at hus hul ⊢
    simp -implicitDefEqProofs [-List.getD_eq_getElem?_getD, -List.map_map]
    refine Wp_of (law_least_ok 16 A okA (by omega) (Hp a)) ?_
    simp -implicitDefEqProofs [-List.getD_eq_getElem?_getD, -List.map_map]
    refine Wp_of (law_least_ok 16 B okB (by omega) (Hp a)) ?_
    simp -implicitDefEqProofs [-List.getD_eq_getElem?_getD, -List.map_map]
    refine Wp_of heq ?_
    cases us with
    | nil =>
      simp -implicitDefEqProofs [-List.getD_eq_getElem?_getD, -List.map_map, hne, hn0, hpw]
      cases o1 <;> cases o2 <;> simp
    | cons u r =>
      have h5 := hul u (by simp)
      have h6 := hus u r rfl
      simp -implicitDefEqProofs [-List.getD_eq_getElem?_getD, -List.map_map, hne, hn1, hpw, strlen, h6, show u.length ≤ 16777216 by omega]
      cases o1 <;> cases o2 <;> simp
  · have hyes : A.least = B.least := ln.mpr h2
    have hnil : W63.filter (dif A B) = [] := by
      rw [List.filter_eq_nil_iff]
      intro w _
      rw [dif_iff]
      exact fun c => c (h2 w)
    simp -implicitDefEqProofs [-List.getD_eq_getElem?_getD, -List.map_map]
    refine Wp_of (law_least_ok 16 A okA (by omega) (Hp a)) ?_
    simp -implicitDefEqProofs [-List.getD_eq_getElem?_getD, -List.map_map]
    refine Wp_of (law_least_ok 16 B okB (by omega) (Hp a)) ?_
    simp -implicitDefEqProofs [-List.getD_eq_getElem?_getD, -List.map_map]
    refine Wp_of heq ?_
    have hn0 : cmpP .ne (.lst []) (.lst []) = some false := ne_nil []
    simp -implicitDefEqProofs [-List.getD_eq_getElem?_getD, -List.map_map, hyes, hnil, hn0]
    cases o1 <;> cases o2 <;> simp
end K90
set_option maxRecDepth 100000
namespace K90
open PySem (Str)
open MP MX AU
theorem max_nat (m n : Nat) : (if (n : Int) > (m : Int) then (n : Int) else (m : Int)) = ((max m n : Nat) : Int) := by
  split <;> omega
theorem st10 (ns : List Int) (rows ds : List Nat) (A B : Au) (okA : A.Ok) (okB : B.Ok) (hA : A.n ≤ 5) (hB : B.n ≤ 5) (a : Nat) (o1 o2 : Bool) (x5 x6 x7 x8 x12 x13 : Option Rv) :
    Wp (exec G.cst (callF G 19) WF (nthS 10 b_law) (BE ns rows ds A B o1 o2 [x5, x6, x7, x8, none, none, none, x12, x13, none, none]) (Hp a)) fun r => r.1 = .nx ∧ r.2.2 = Hp a ∧ r.2.1 = BE ns rows ds A B o1 o2 [x5, x6, x7, x8, some (false, .tup ((Wp2 (max A.n B.n)).map mv)), none, none, x12, x13, none, none] := by
  have elA : A.st.length = A.n := rfl
  have elB : B.st.length = B.n := rfl
  have sA := okA.s
  have e := tuples_run 18 (Hp a) (max A.n B.n) (by omega)
  simp only [nthS, b_law]
  simp -implicitDefEqProofs [-List.getD_eq_getElem?_getD, -List.map_map, elA, elB]
  have hmx := max_nat A.n B.n
  simp -implicitDefEqProofs [-List.getD_eq_getElem?_getD, -List.map_map] at hmx
  rw [hmx]
  refine Wp_of e ?_
  simp -implicitDefEqProofs [-List.getD_eq_getElem?_getD, -List.map_map]
theorem wp2_okv {A B : Au} (hA : A.n ≤ 5) (hB : B.n ≤ 5) (p : List Nat → Bool) : C2 60 3 (.tup [.str tP, .tup (((Wp2 (max A.n B.n)).filter p).map mv)]) := by
  have hl : (Wp2 (max A.n B.n)).length ≤ 25 := by
    have : (Wp2 (max A.n B.n)).length = max A.n B.n * max A.n B.n := by
      unfold Wp2
      rw [List.length_flatMap]
      simp [List.map_const', List.sum_replicate_nat]
    rw [this]
    exact (show (5 : Nat) * 5 = 25 from rfl) ▸ Nat.mul_le_mul (show max A.n B.n ≤ 5 by omega) (show max A.n B.n ≤ 5 by omega)
  have hf := List.length_filter_le p (Wp2 (max A.n B.n))
  have l2 : tP.length = 5 := by rfl
  refine .tup (by simp) fun x hx => ?_
  simp only [List.mem_cons, List.not_mem_nil, or_false] at hx
  rcases hx with rfl | rfl
  · exact .str (by show tP.length ≤ 60; omega)
  · refine .tup (by simp; omega) fun x hx => ?_
    obtain ⟨q, hq, rfl⟩ := List.mem_map.mp hx
    have hq := (List.mem_filter.mp hq).1
    simp only [Wp2, List.mem_flatMap, List.mem_map, List.mem_range] at hq
    obtain ⟨i, hi, j, hj, rfl⟩ := hq
    exact c2_ints (by simp) fun k hk => by
      simp at hk
      omega
theorem okv_ps (t z : Str) (h1 : t.length ≤ 60) (h2 : z.length ≤ 60) : Okv (.tup [.str t, .str z]) := ⟨1, .tup (by simp) fun x hx => by
  simp only [List.mem_cons, List.not_mem_nil, or_false] at hx
  rcases hx with rfl | rfl
  · exact .str h1
  · exact .str h2⟩
theorem okv_pn (t : Str) (h1 : t.length ≤ 60) : Okv (.tup [.str t, .non]) := ⟨1, .tup (by simp) fun x hx => by
  simp only [List.mem_cons, List.not_mem_nil, or_false] at hx
  rcases hx with rfl | rfl
  · exact .str h1
  · exact .non⟩
/-- pairs of all kinds -/
theorem okv_pp (ps : List (List Nat)) (hl : ps.length ≤ 60) (hp : ∀ p ∈ ps, p.length = 2 ∧ ∀ i ∈ p, i ≤ 60) : C2 60 2 (.tup (ps.map mv)) ∧ C2 60 2 (.lst (ps.map mv)) := by
  have h : ∀ x ∈ ps.map mv, C2 60 1 x := fun x hx => by
    obtain ⟨p, h, rfl⟩ := List.mem_map.mp hx
    have := hp p h
    exact c2_ints (by omega) this.2
  exact ⟨.tup (by simpa using hl) h, .lst (by simpa using hl) h⟩
theorem okv_tp (v : PV) (h : C2 60 2 v) : Okv (.tup [.str tP, v]) := ⟨3, .tup (by simp) fun x hx => by
  simp only [List.mem_cons, List.not_mem_nil, or_false] at hx
  rcases hx with rfl | rfl
  · exact .str (by decide +kernel)
  · exact h⟩
theorem st11 (ns : List Int) (rows ds : List Nat) (A B : Au) (okA : A.Ok) (okB : B.Ok) (hA : A.n ≤ 5) (hB : B.n ≤ 5) (a : Nat) (o1 o2 : Bool) {v : PV} (hT : Told A B v) (x5 x6 x7 x12 x13 : Option Rv) :
    Wp (exec G.cst (callF G 19) WF (nthS 11 b_law) (BE ns rows ds A B o1 o2 [x5, x6, x7, some (false, v), some (false, .tup ((Wp2 (max A.n B.n)).map mv)), none, none, x12, x13, none, none]) (Hp a)) fun r => r.1 = .nx ∧ r.2.2 = Hp a ∧
      ∃ o1 o2 x5 x6 x7 x12 x13 vs, (vs.length = 10 ∧ lfAll vs = false) ∧ (∀ u ∈ vs, Okv u) ∧ r.2.1 = BE ns rows ds A B o1 o2 [x5, x6, x7, some (false, v), some (false, .tup ((Wp2 (max A.n B.n)).map mv)), some (true, .lst vs), none, x12, x13, none, none] := by
  have cv := told_c2 hA hB hT
  obtain ⟨xs, rfl, hlf⟩ : ∃ xs, v = .tup xs ∧ lfAll xs = true := by
    rcases hT with ⟨w, rfl, _⟩ | ⟨ps, rfl, _⟩
    · exact ⟨_, rfl, rfl⟩
    · have := mvOk.tup.lf ps
      simp at this
      exact ⟨_, rfl, by simp [this]⟩
  have sA := okA.s
  have sB := okB.s
  simp only [nthS, b_law]
  simp -implicitDefEqProofs [-List.getD_eq_getElem?_getD, -List.map_map, hlf]
  refine ⟨_, _, _, _, _, _, ⟨?_, ?_⟩, ?_, rfl, rfl, rfl, rfl, rfl, rfl⟩
  · rfl
  · simp [hlf]
  · intro u hu
    simp only [List.mem_cons, List.not_mem_nil, or_false] at hu
    have hS : ∀ x : String, x ∈ ["word", "pairs", "", "a", "bab", "c"] → (S x).length ≤ 60 := by
      intro x hx
      simp only [List.mem_cons, List.not_mem_nil, or_false] at hx
      rcases hx with rfl | rfl | rfl | rfl | rfl | rfl <;> decide +kernel
    rcases hu with rfl | rfl | rfl | rfl | rfl | rfl | rfl | rfl | rfl | rfl
    · exact ⟨3, cv.mono (by decide) (Nat.le_refl _)⟩
    · exact okv_tp _ (okv_pp [] (by simp) (by simp)).1
    · exact okv_tp _ (okv_pp [[A.s, B.s]] (by simp) (by simp; omega)).1
    · exact okv_ps _ _ (hS _ (by simp)) (hS _ (by simp))
    · exact okv_ps _ _ (hS _ (by simp)) (hS _ (by simp))
    · exact okv_ps _ _ (hS _ (by simp)) (hS _ (by simp))
    · exact okv_ps _ _ (hS _ (by simp)) (hS _ (by simp))
    · exact okv_pn _ (hS _ (by simp))
    · exact ⟨0, .non⟩
    · obtain ⟨h1, m, h2, h3⟩ := cv.sub
      exact ⟨m + 1, .lst (by omega) fun x hx => (h3 x hx).mono (by decide) (Nat.le_refl _)⟩
theorem st12 (ns : List Int) (rows ds : List Nat) (A B : Au) (okA : A.Ok) (okB : B.Ok) (hA : A.n ≤ 5) (hB : B.n ≤ 5) (a : Nat) (o1 o2 : Bool) (v : PV) {vs : List PV} (hvl : vs.length = 10) (hvf : lfAll vs = false) (hok : ∀ u ∈ vs, Okv u) (x5 x6 x7 x12 x13 : Option Rv) :
    Wp (exec G.cst (callF G 19) WF (nthS 12 b_law) (BE ns rows ds A B o1 o2 [x5, x6, x7, some (false, v), some (false, .tup ((Wp2 (max A.n B.n)).map mv)), some (true, .lst vs), none, x12, x13, none, none]) (Hp a)) fun r => r.1 = .nx ∧ r.2.2 = Hp a ∧
      ∃ o1 o2 x5 x6 x7 x9 x12 x13 vs, (vs.length = 12 ∧ lfAll vs = false) ∧ (∀ u ∈ vs, Okv u) ∧ r.2.1 = BE ns rows ds A B o1 o2 [x5, x6, x7, some (false, v), x9, some (true, .lst vs), none, x12, x13, none, none] := by
  have elA : A.st.length = A.n := rfl
  have elB : B.st.length = B.n := rfl
  simp only [nthS, b_law]
  simp -implicitDefEqProofs [-List.getD_eq_getElem?_getD, -List.map_map, elA, elB]
  refine Wp_of (lcE_filter (enc := mv) (p := fun q => decide (q.getD 0 0 < A.n) && decide (q.getD 1 0 < B.n)) (g := mv) fun q hq => ?_) ?_
  · simp only [Wp2, List.mem_flatMap, List.mem_map, List.mem_range] at hq
    obtain ⟨i, hi, j, hj, rfl⟩ := hq
    refine Wp_eq ?_
    by_cases h1 : i < A.n
    · by_cases h2 : j < B.n
      · simp -implicitDefEqProofs [-List.getD_eq_getElem?_getD, -List.map_map, elA, elB, h1, h2, List.getD]
      · simp -implicitDefEqProofs [-List.getD_eq_getElem?_getD, -List.map_map, elA, elB, h1, h2, List.getD]
    · simp -implicitDefEqProofs [-List.getD_eq_getElem?_getD, -List.map_map, elA, elB, h1, List.getD]
  have hp := wp2_okv hA hB (fun q => decide (q.getD 0 0 < A.n) && decide (q.getD 1 0 < B.n))
  have hfl := List.length_filter_le (fun q : List Nat => decide (q.getD 0 0 < A.n) && decide (q.getD 1 0 < B.n)) (Wp2 (max A.n B.n))
  generalize (Wp2 (max A.n B.n)).filter (fun q => decide (q.getD 0 0 < A.n) && decide (q.getD 1 0 < B.n)) = ps at hp hfl ⊢
  have hpl : ps.length ≤ 16777216 := by
    obtain ⟨_, m, _, h⟩ := hp.sub
    have := (h (.tup (ps.map mv)) (by simp)).sub.1
    simp at this
    omega
  have hpf := mvOk.lfAll ps
  have fin : ∀ u ∈ vs ++ [PV.tup [PV.str (S "words"), PV.str (S "a")], PV.tup [PV.str (S "pairs"), PV.tup (ps.map mv)]], Okv u := by
    intro u hu
    rcases List.mem_append.mp hu with hu | hu
    · exact hok u hu
    · simp only [List.mem_cons, List.not_mem_nil, or_false] at hu
      rcases hu with rfl | rfl
      · exact okv_ps _ _ (by decide +kernel) (by decide +kernel)
      · exact ⟨3, hp⟩
  simp -implicitDefEqProofs [-List.getD_eq_getElem?_getD, -List.map_map, hpl, hpf, hvf, show vs.length ≤ 16777214 by omega]
  exact ⟨_, _, _, _, _, _, _, ⟨by simp [hvl], by simp [hvf]⟩, fin, rfl, rfl, rfl, rfl, rfl, rfl, rfl⟩
theorem st13 (ns : List Int) (rows ds : List Nat) (A B : Au) (okA : A.Ok) (okB : B.Ok) (hA : A.n ≤ 5) (hB : B.n ≤ 5) (a : Nat) (o1 o2 : Bool) {v : PV} (hT : Told A B v) {vs : List PV} (hvl : vs.length = 12) (hvf : lfAll vs = false) (hok : ∀ u ∈ vs, Okv u) (x5 x6 x7 x9 x12 x13 : Option Rv) :
    Wp (exec G.cst (callF G 19) WF (nthS 13 b_law) (BE ns rows ds A B o1 o2 [x5, x6, x7, some (false, v), x9, some (true, .lst vs), none, x12, x13, none, none]) (Hp a)) fun r => r.1 = .nx ∧ r.2.2 = Hp a ∧
      ∃ o1 o2 x5 x6 x7 x9 x12 x13 vs, vs.length ≤ 16 ∧ (∀ u ∈ vs, Okv u) ∧ r.2.1 = BE ns rows ds A B o1 o2 [x5, x6, x7, some (false, v), x9, some (true, .lst vs), none, x12, x13, none, none] := by
  have hm : A.n * B.n ≤ 25 := Nat.mul_le_mul hA hB
  rcases hT with ⟨w, rfl, h1, h2, h3, h4⟩ | ⟨ps, rfl, h1, h2, h3⟩
  · have hpw : ¬ PySem.Str.ofString "word" = S "pairs" := tW_ne
    simp only [nthS, b_law]
    cases o1 <;> cases o2
    all_goals
      simp -implicitDefEqProofs [-List.getD_eq_getElem?_getD, -List.map_map, hpw]
      exact ⟨_, _, _, _, _, _, _, by omega, hok, rfl, rfl, rfl, rfl, rfl, rfl, rfl⟩
  · have hpp : PySem.Str.ofString "pairs" = S "pairs" := rfl
    have hpf := mvOk.lfAll ps
    have hin : ∀ p ∈ ps, p.length = 2 ∧ ∀ i ∈ p, i ≤ 60 := fun p hp => by
      obtain ⟨i, j, rfl, hi, hj⟩ := h1.rng p hp
      exact ⟨rfl, fun k hk => by
        simp at hk
        omega⟩
    have s1 : slcP (.tup (ps.map mv)) (some 1) none = some (false, .tup ((ps.map mv).drop 1)) := by
      have : slcP (.tup (ps.map mv)) (some ((1 : Nat) : Int)) none = _ := slc_from (ps.map mv) 1 (by
        cases ps with
        | nil => have := h1.start; simp at this
        | cons => simp)
      exact this
    simp only [nthS, b_law]
    simp -implicitDefEqProofs [-List.getD_eq_getElem?_getD, -List.map_map, hpp, s1, slc_l1, revP, hvf]
    have hpl : ps.length ≤ 25 := by omega
    have hx1 : ∀ x ∈ ps.map mv, C2 60 1 x := fun x hx => by
      obtain ⟨p, h, rfl⟩ := List.mem_map.mp hx
      have := hin p h
      exact c2_ints (by omega) this.2
    have hxl : (ps.map mv).length ≤ 25 := by simpa using hpl
    refine ⟨by omega, by omega, _, _, _, _, _, _, _, by simp [hvl], ?_, rfl, rfl, rfl, rfl, rfl, rfl, rfl⟩
    generalize ps.map mv = xs at hx1 hxl ⊢
    intro u hu
    rcases List.mem_append.mp hu with hu | hu
    · exact hok u hu
    · simp only [List.mem_cons, List.not_mem_nil, or_false] at hu
      rcases hu with rfl | rfl | rfl | rfl
      · exact okv_tp _ (.tup (by simp; omega) fun x hx => hx1 x (List.mem_of_mem_tail hx))
      · exact okv_tp _ (.tup (by simp; omega) fun x hx => hx1 x (by simpa using hx))
      · refine okv_tp _ (.tup (by simp; omega) fun x hx => ?_)
        rcases List.mem_append.mp hx with hx | hx
        · exact hx1 x hx
        · exact hx1 x (List.mem_of_mem_drop hx)
      · exact okv_tp _ (.lst (by omega) hx1)
end K90
set_option maxRecDepth 100000
namespace K90
open PySem (Str)
open MP MX AU
theorem rng_4 : rngP [.int 4] = some ((List.range 4).map nt) := rng_nt 4 (by decide)
theorem st14 (ns : List Int) {rows ds : List Nat} (hdl : ds.length = 60) (A B : Au) (hA : A.n ≤ 5) (hB : B.n ≤ 5) (a : Nat) (o1 o2 : Bool) {v : PV} (hT : Told A B v) {vs : List PV} (hvl : vs.length ≤ 16) (hok : ∀ u ∈ vs, Okv u) (x5 x6 x7 x9 x12 x13 : Option Rv) :
    Wp (exec G.cst (callF G 19) WF (nthS 14 b_law) (BE ns rows ds A B o1 o2 [x5, x6, x7, some (false, v), x9, some (true, .lst vs), none, x12, x13, none, none]) (Hp a)) fun r => r.1 = .nx ∧ r.2.2 = Hp a ∧
      ∃ o1 o2 x5 x6 x7 x9 x11 x12 x13 vs, vs.length ≤ 20 ∧ (∀ u ∈ vs, Okv u) ∧ r.2.1 = BE ns rows ds A B o1 o2 [x5, x6, x7, some (false, v), x9, some (true, .lst vs), x11, x12, x13, none, none] := by
  have cv := told_c2 hA hB hT
  simp only [nthS, b_law]
  simp -implicitDefEqProofs [-List.getD_eq_getElem?_getD, -List.map_map, rng_4]
  rw [← upTo_nt]
  obtain ⟨I, iI⟩ := mkI3 (fun (i : Nat) (env : FEnv) (h : Hs) => h = Hp a ∧ ∃ (o1 o2 : Bool) (x5 x6 x7 x9 x11 x12 x13 : Option Rv) (vs : List PV), vs.length ≤ 16 + i ∧ (∀ u ∈ vs, Okv u) ∧
    env = BE ns rows ds A B o1 o2 [x5, x6, x7, some (false, v), x9, some (true, .lst vs), x11, x12, x13, none, none])
  refine Wp_rng 4 I ((iI _ _ _).mpr ⟨rfl, o1, o2, x5, x6, x7, x9, none, x12, x13, vs, by omega, hok, rfl⟩) ?_ ?_
  · intro i env h hi hI
    obtain ⟨rfl, o1, o2, x5, x6, x7, x9, x11, x12, x13, vs, hvl, hok, rfl⟩ := (iI _ _ _).mp hI
    obtain ⟨u, hu, eu⟩ := bend_ok2 (b := 25) (by decide) 3 15 v cv ds (20 + 6 * i) (by omega) (by omega) (Hp a)
    have hou : Okv u := ⟨4, (bent_c2 (by decide) hu cv).mono (by decide) (Nat.le_refl _)⟩
    have mu : ∀ x : Int, binP .mul (.int 6) (.int x) = some (false, .int (6 * x)) := fun x => mul_l 6 x (by decide)
    have eu' : callF G 19 24 [v, .lst (ds.map nt), .int (20 + 6 * (i : Int))] (Hp a) = some ((false, u), Hp a) := eu
    have hvl2 : vs.length < 16777216 := by omega
    have fin : ∀ (o1 o2 : Bool) (x5 x6 x7 x9 x11 x12 x13 : Option Rv), I (i + 1) (BE ns rows ds A B o1 o2 [x5, x6, x7, some (false, v), x9, some (true, .lst (vs ++ [u])), x11, x12, x13, none, none]) (Hp a) := fun o1 o2 x5 x6 x7 x9 x11 x12 x13 =>
      (iI _ _ _).mpr ⟨rfl, o1, o2, x5, x6, x7, x9, x11, x12, x13, vs ++ [u], by simp; omega, fun w hw => by
        rcases List.mem_append.mp hw with hw | hw
        · exact hok w hw
        · simp at hw; subst hw; exact hou, rfl⟩
    by_cases hul : u.lf = true
    · simp -implicitDefEqProofs [-List.getD_eq_getElem?_getD, -List.map_map, mu]
      refine Wp_of eu' ?_
      simp -implicitDefEqProofs [-List.getD_eq_getElem?_getD, -List.map_map, hul, hvl2]
      exact fin _ _ _ _ _ _ _ _ _
    · simp -implicitDefEqProofs [-List.getD_eq_getElem?_getD, -List.map_map, mu]
      refine Wp_of eu' ?_
      simp -implicitDefEqProofs [-List.getD_eq_getElem?_getD, -List.map_map, hul, mu, ME.vars, frzV]
      refine Wp_of eu' ?_
      simp -implicitDefEqProofs [-List.getD_eq_getElem?_getD, -List.map_map, hvl2]
      exact fin _ _ _ _ _ _ _ _ _
  · intro env h hI
    obtain ⟨rfl, o1, o2, x5, x6, x7, x9, x11, x12, x13, vs, hvl, hok, rfl⟩ := (iI _ _ _).mp hI
    cases o1 <;> cases o2
    all_goals
      simp -implicitDefEqProofs [-List.getD_eq_getElem?_getD, -List.map_map]
      exact ⟨_, _, _, _, _, _, _, _, by omega, hok, rfl, rfl, rfl, rfl, rfl, rfl, rfl, rfl⟩
theorem st15 (ns : List Int) (rows ds : List Nat) (A B : Au) (okA : A.Ok) (okB : B.Ok) (hA : A.n ≤ 5) (hB : B.n ≤ 5) (a : Nat) (o1 o2 : Bool) {vs : List PV} (hok : ∀ u ∈ vs, Okv u) (x5 x6 x7 x8 x9 x11 x12 x13 x14 x15 : Option Rv) :
    Wp (exec G.cst (callF G 19) WF (nthS 15 b_law) (BE ns rows ds A B o1 o2 [x5, x6, x7, x8, x9, some (true, .lst vs), x11, x12, x13, x14, x15]) (Hp a)) fun r => r.1 = .nx ∧ r.2.2 = Hp a := by
  simp only [nthS, b_law]
  simp -implicitDefEqProofs [-List.getD_eq_getElem?_getD, -List.map_map]
  obtain ⟨I, iI⟩ := mkI4 (fun (done rest : List PV) (env : FEnv) (h : Hs) => h = Hp a ∧ ∃ (o1 o2 : Bool) (x5 x6 x7 x8 x9 x10 x11 x12 x13 x14 x15 : Option Rv), (∀ u ∈ rest, Okv u) ∧
    env = BE ns rows ds A B o1 o2 [x5, x6, x7, x8, x9, x10, x11, x12, x13, x14, x15])
  rw [show vs = vs.map id by simp]
  refine Wp_for (enc := id) I ?_ vs [] _ _ ((iI _ _ _ _).mpr ⟨rfl, o1, o2, x5, x6, x7, x8, x9, _, x11, x12, x13, x14, x15, hok, rfl⟩) ?_
  · intro done v rest env h hI
    obtain ⟨rfl, o1, o2, x5, x6, x7, x8, x9, x10, x11, x12, x13, x14, x15, hok, rfl⟩ := (iI _ _ _ _).mp hI
    obtain ⟨b, f1, f2⟩ := judge_same 15 A B okA okB hA hB (hok v (by simp)) (Hp a)
    simp -implicitDefEqProofs [-List.getD_eq_getElem?_getD, -List.map_map]
    refine Wp_of f1 ?_
    simp -implicitDefEqProofs [-List.getD_eq_getElem?_getD, -List.map_map]
    refine Wp_of f2 ?_
    simp -implicitDefEqProofs [-List.getD_eq_getElem?_getD, -List.map_map]
    refine Wp_of (is_bool_ok 18 _ _ _) ?_
    simp -implicitDefEqProofs [-List.getD_eq_getElem?_getD, -List.map_map]
    exact (iI _ _ _ _).mpr ⟨rfl, o1, o2, _, x6, x7, x8, x9, x10, x11, x12, x13, x14, x15, fun u hu => hok u (by simp [hu]), rfl⟩
  · intro env h hI
    obtain ⟨rfl, _⟩ := (iI _ _ _ _).mp hI
    simp -implicitDefEqProofs [-List.getD_eq_getElem?_getD, -List.map_map]
end K90
set_option maxRecDepth 100000
namespace K90
open PySem (Str)
open MP MX AU
theorem st6 (ns : List Int) (rows ds : List Nat) (A B : Au) (a : Nat) (o1 o2 : Bool) (x5 : Option Rv) :
    Wp (exec G.cst (callF G 19) WF (nthS 6 b_law) (BE ns rows ds A B o1 o2 [x5, none, none, none, none, none, none, none, none, none, none]) (Hp a)) fun r => r.1 = .nx ∧ r.2.2 = Hp a ∧ r.2.1 = BE ns rows ds A B o1 o2 [x5, some (true, .lst []), none, none, none, none, none, none, none, none, none] := by
  simp only [nthS, b_law]
  simp -implicitDefEqProofs [-List.getD_eq_getElem?_getD, -List.map_map]
theorem chain (i : Nat) (h : dropS i b_law = .cons (nthS i b_law) (dropS (i + 1) b_law)) {Q : Flow × FEnv × Hs → Prop} {env : FEnv} {hp : Hs} (P : FEnv → Hs → Prop)
    (h1 : Wp (exec G.cst (callF G 19) WF (nthS i b_law) env hp) fun x => x.1 = .nx ∧ P x.2.1 x.2.2) (h2 : ∀ env hp, P env hp → Wp (exec G.cst (callF G 19) WF (dropS (i + 1) b_law) env hp) Q) : Wp (exec G.cst (callF G 19) WF (dropS i b_law) env hp) Q := by
  rw [h]
  exact Wp_seq P h1 h2
theorem rest_ok (ns : List Int) {rows ds : List Nat} (hdl : ds.length = 60) (A B : Au) (okA : A.Ok) (okB : B.Ok) (gA : GoodB A) (gB : GoodB B) (hA : A.n ≤ 5) (hB : B.n ≤ 5) (a : Nat) (o1 o2 : Bool) :
    Wp (exec G.cst (callF G 19) WF (dropS 4 b_law) (BE ns rows ds A B o1 o2 [none, none, none, none, none, none, none, none, none, none, none]) (Hp a)) fun r => r.1 = .rt (false, .bl true) ∧ r.2.2 = Hp a := by
  refine chain 4 rfl (fun e h => h = Hp a ∧ ∃ o1 o2 x5, e = BE ns rows ds A B o1 o2 [x5, none, none, none, none, none, none, none, none, none, none]) (st4 ns hdl A B (pv_c2 okA gA hA) (pv_c2 okB gB hB) a o1 o2) ?_
  rintro _ _ ⟨rfl, o1, o2, x5, rfl⟩
  refine chain 5 rfl (fun e h => h = Hp a ∧ ∃ o1 o2, e = BE ns rows ds A B o1 o2 [x5, none, none, none, none, none, none, none, none, none, none]) (st5 ns rows ds A B okA okB hA hB a o1 o2 _) ?_
  rintro _ _ ⟨rfl, o1, o2, rfl⟩
  refine chain 6 rfl (fun e h => h = Hp a ∧ e = BE ns rows ds A B o1 o2 [x5, some (true, .lst []), none, none, none, none, none, none, none, none, none]) (st6 ns rows ds A B a o1 o2 x5) ?_
  rintro _ _ ⟨rfl, rfl⟩
  refine chain 7 rfl (fun e h => h = Hp a ∧ ∃ o1 o2 x5 x7 x12 x13, e = BE ns rows ds A B o1 o2 [x5, some (true, .lst ((W63.filter (dif A B)).map tx)), x7, none, none, none, none, x12, x13, none, none]) (st7 ns rows ds A B okA okB a o1 o2 x5) ?_
  rintro _ _ ⟨rfl, o1, o2, x5, x7, x12, x13, rfl⟩
  refine chain 8 rfl (fun e h => h = Hp a ∧ ∃ v, Told A B v ∧ e = BE ns rows ds A B o1 o2 [x5, some (true, .lst ((W63.filter (dif A B)).map tx)), x7, some (false, v), none, none, none, x12, x13, none, none]) (st8 ns rows ds A B okA okB hA hB a o1 o2 _ _ _ _ _) ?_
  rintro _ _ ⟨rfl, v, hT, rfl⟩
  refine chain 9 rfl (fun e h => h = Hp a ∧ ∃ o1 o2 x6, e = BE ns rows ds A B o1 o2 [x5, x6, x7, some (false, v), none, none, none, x12, x13, none, none]) (st9 ns rows ds A B okA okB hA hB a o1 o2 hT _ _ _ _) ?_
  rintro _ _ ⟨rfl, o1, o2, x6, rfl⟩
  refine chain 10 rfl (fun e h => h = Hp a ∧ e = BE ns rows ds A B o1 o2 [x5, x6, x7, some (false, v), some (false, .tup ((Wp2 (max A.n B.n)).map mv)), none, none, x12, x13, none, none]) (st10 ns rows ds A B okA okB hA hB a o1 o2 _ _ _ _ _ _) ?_
  rintro _ _ ⟨rfl, rfl⟩
  refine chain 11 rfl (fun e h => h = Hp a ∧ ∃ o1 o2 x5 x6 x7 x12 x13 vs, (vs.length = 10 ∧ lfAll vs = false) ∧ (∀ u ∈ vs, Okv u) ∧ e = BE ns rows ds A B o1 o2 [x5, x6, x7, some (false, v), some (false, .tup ((Wp2 (max A.n B.n)).map mv)), some (true, .lst vs), none, x12, x13, none, none]) (st11 ns rows ds A B okA okB hA hB a o1 o2 hT _ _ _ _ _) ?_
  rintro _ _ ⟨rfl, o1, o2, x5, x6, x7, x12, x13, vs, ⟨h1, h2⟩, h3, rfl⟩
  refine chain 12 rfl (fun e h => h = Hp a ∧ ∃ o1 o2 x5 x6 x7 x9 x12 x13 vs, (vs.length = 12 ∧ lfAll vs = false) ∧ (∀ u ∈ vs, Okv u) ∧ e = BE ns rows ds A B o1 o2 [x5, x6, x7, some (false, v), x9, some (true, .lst vs), none, x12, x13, none, none]) (st12 ns rows ds A B okA okB hA hB a o1 o2 v h1 h2 h3 _ _ _ _ _) ?_
  clear h1 h2 h3
  rintro _ _ ⟨rfl, o1, o2, x5, x6, x7, x9, x12, x13, vs, ⟨h1, h2⟩, h3, rfl⟩
  refine chain 13 rfl (fun e h => h = Hp a ∧ ∃ o1 o2 x5 x6 x7 x9 x12 x13 vs, vs.length ≤ 16 ∧ (∀ u ∈ vs, Okv u) ∧ e = BE ns rows ds A B o1 o2 [x5, x6, x7, some (false, v), x9, some (true, .lst vs), none, x12, x13, none, none]) (st13 ns rows ds A B okA okB hA hB a o1 o2 hT h1 h2 h3 _ _ _ _ _ _) ?_
  clear h1 h2 h3
  rintro _ _ ⟨rfl, o1, o2, x5, x6, x7, x9, x12, x13, vs, h1, h3, rfl⟩
  refine chain 14 rfl (fun e h => h = Hp a ∧ ∃ o1 o2 x5 x6 x7 x9 x11 x12 x13 vs, vs.length ≤ 20 ∧ (∀ u ∈ vs, Okv u) ∧ e = BE ns rows ds A B o1 o2 [x5, x6, x7, some (false, v), x9, some (true, .lst vs), x11, x12, x13, none, none]) (st14 ns hdl A B hA hB a o1 o2 hT h1 h3 _ _ _ _ _ _) ?_
  clear h1 h3
  rintro _ _ ⟨rfl, o1, o2, x5, x6, x7, x9, x11, x12, x13, vs, h1, h3, rfl⟩
  refine chain 15 rfl (fun _ h => h = Hp a) (st15 ns rows ds A B okA okB hA hB a o1 o2 h3 _ _ _ _ _ _ _ _ _ _) ?_
  rintro env _ rfl
  simp only [dropS, b_law]
  simp -implicitDefEqProofs [-List.getD_eq_getElem?_getD, -List.map_map]
theorem law_ok (ns : List Int) : ∃ hp1, callF G 20 39 [.lst (ns.map PV.int)] [] = some ((false, .bl true), hp1) := by
  obtain ⟨rows, o1, P, e1⟩ := pool_ok 17 ns
  have hw : Wp (exec G.cst (callF G 19) WF b_law ([some (false, .lst (ns.map PV.int))] ++ List.replicate 15 none) []) fun r => r.1 = .rt (false, .bl true) ∧ ∃ a, r.2.2 = Hp a := by
    have eb : b_law = .cons (nthS 0 b_law) (.cons (nthS 1 b_law) (.cons (nthS 2 b_law) (.cons (nthS 3 b_law) (dropS 4 b_law)))) := rfl
    rw [eb]
    generalize hlb : dropS 4 b_law = LB
    simp only [nthS, b_law]
    simp -implicitDefEqProofs [-List.getD_eq_getElem?_getD, -List.map_map]
    refine Wp_of e1 ?_
    have c0 := cell_ok 18 ns 0 (Hp 0)
    simp -implicitDefEqProofs [-List.getD_eq_getElem?_getD, -List.map_map] at c0
    simp -implicitDefEqProofs [-List.getD_eq_getElem?_getD, -List.map_map]
    refine Wp_of c0 ?_
    simp -implicitDefEqProofs [-List.getD_eq_getElem?_getD, -List.map_map]
    obtain ⟨ds, d1, d2, d3⟩ := draws_ok 18 (ns.getD 0 0 + 1) 60 (by decide) (Hp 0)
    refine Wp_of d3 ?_
    simp -implicitDefEqProofs [-List.getD_eq_getElem?_getD, -List.map_map]
    refine (auto_ok2 17 P 0 (by decide) 5 (by decide) (by decide)).mono ?_
    rintro _ ⟨A, a1, ⟨okA, gA⟩, hA, ha1, rfl⟩
    simp -implicitDefEqProofs [-List.getD_eq_getElem?_getD, -List.map_map]
    refine (auto_ok2 17 P a1 (by omega) 5 (by decide) (by decide)).mono ?_
    rintro _ ⟨C, a2, ⟨okC, gC⟩, hC, ha2, rfl⟩
    simp -implicitDefEqProofs [-List.getD_eq_getElem?_getD, -List.map_map]
    refine Wp_of (law_least_ok 16 A okA (by omega) (Hp a2)) ?_
    simp -implicitDefEqProofs [-List.getD_eq_getElem?_getD, -List.map_map]
    obtain ⟨p, hp2, ep⟩ := pick_ok 18 P a2 (by omega) 2 (by decide)
    refine Wp_of ep ?_
    have nA := Au.least_n okA
    have fin : ∀ (B : Au) (o1 o2 : Bool), B.Ok → GoodB B → B.n ≤ 5 → Wp (exec G.cst (callF G 19) WF LB (BE ns rows ds A B o1 o2 [none, none, none, none, none, none, none, none, none, none, none]) (Hp (a2 + 1))) fun r => r.1 = .rt (false, .bl true) ∧ ∃ a, r.2.2 = Hp a := by
      intro B o1 o2 okB gB hB
      rw [← hlb]
      exact (rest_ok ns d1 A B okA okB gA gB hA hB (a2 + 1) o1 o2).mono fun r h => ⟨h.1, _, h.2⟩
    rcases (by omega : p = 0 ∨ p = 1) with rfl | rfl
    · have hl := spOk.lfAll C.st
      simp -implicitDefEqProofs [-List.getD_eq_getElem?_getD, -List.map_map, hl]
      exact fin C _ _ okC gC hC
    · have hl := spOk.lfAll A.least.st
      simp -implicitDefEqProofs [-List.getD_eq_getElem?_getD, -List.map_map, hl]
      exact fin A.least _ _ (Au.least_ok okA) (least_gb A) (by omega)
  obtain ⟨⟨f, env, h⟩, e, h1, a, h2⟩ := hw
  rw [callF_def fn_law rfl rfl]
  show ((exec G.cst (callF G 19) WF b_law ([some (false, .lst (ns.map PV.int))] ++ List.replicate 15 none) []).bind (endF 0) |> fun x => ∃ hp1, x = some ((false, .bl true), hp1))
  rw [e]
  simp only at h1 h2
  subst h1 h2
  show ∃ hp1, some (trim 0 (false, .bl true) (Hp a)) = some ((false, .bl true), hp1)
  exact ⟨[], by rfl⟩
end K90
set_option maxRecDepth 100000
set_option maxHeartbeats 0
namespace K90
open PySem PySem.Spec PyProof.Rows L2 MP
abbrev R : PySem.W.OpenRow := PySem.W.OpenLaw.row PySem.Challenge.rw_backforth_k90_automata_alike
abbrev hk : PySem.W.Hook := hookM 5 (factsOf ds cf) (ds.map PDef.toD) fun _ => true
def ob (s : PySem.W.SharedT) : He.AlD × Bool := obsMG 5 (factsOf ds cf) (ds.map PDef.toD) (fun _ => true) (HandSHeadRun.getT s)
theorem ob_eq (s : PySem.W.SharedT) : ob s = hk.obs s.abs := obsMG_eq (HandSHeadRun.getT_eq s)
def loose0 : List PySem.Str := [S "is_whole", S "is_numbers", S "is_from", S "is_named", S "rises", S "is_items", S "is_automaton", S "state_behind", S "accepts", S "reached", S "alike_paper", S "is_word", S "is_pairs_of", S "check_alike", S "classes", S "least", S "_law_cell", S "_law_draws", S "_law_is_int", S "_law_is_bool"]
def loose1 : List PySem.Str := [S "_law_kind", S "_law_equal", S "_law_named", S "_law_numbers_in", S "_law_bend", S "_law_pool", S "_law_pick", S "_law_items", S "_law_pairs", S "_law_tuples", S "_law_unlike", S "_law_is_auto", S "_law_auto", S "_law_behind", S "_law_takes", S "_law_texts", S "_law_classes", S "_law_least", S "_law_right", S "SIGNS"]
def loose2 : List PySem.Str := [S "MOST_STATES"]
abbrev loose : List PySem.Str := loose0 ++ loose1 ++ loose2
theorem run (w : World) : HandSHeadRun.RunEq R (PySem.W.view R.prog [44]) hk ob 4000 loose w := by
  intro os
  kernel_rfl
/-- what the evaluator is to say of the law -/
def Says (k : Nat) : Prop := ∀ ns : List Int, ns.length ≤ 63 → (∀ z ∈ ns, Builtin.Int.intBits z ≤ 1048576) → ∃ hp1, callF G k 39 [.lst (ns.map PV.int)] [] = some ((false, .bl true), hp1)
end K90
open PySem PySem.W PySem.Calls PyProof.Rows
theorem K90_end (pu : K90.Says 20) : PySem.Challenge.rw_backforth_k90_automata_alike.Holds := by
  w_on; o_law
  refine HandSHeadRun.head_any (r := OpenLaw.row PySem.Challenge.rw_backforth_k90_automata_alike) (q := view (OpenLaw.row PySem.Challenge.rw_backforth_k90_automata_alike).prog [44]) (H := K90.hk) (ob := K90.ob) (M := 4000) (loose := K90.loose) (d := HandSHeadRun.topDef (OpenLaw.row PySem.Challenge.rw_backforth_k90_automata_alike).prog 44) (kwd := []) K90.ob_eq
    (by kernel_rfl) (fun s => by kernel_rfl) K90.run (by kernel_rfl) (by kernel_rfl) (by kernel_rfl) (by rfl) (by first | assumption | decide +kernel) (by decide +kernel) ⟨rfl, rfl, rfl, rfl, rfl, by decide +kernel⟩ ?hw ?hc
  case hw => w_witness2
  case hc =>
    refine MP.walk_ofM (l := PySem.Challenge.rw_backforth_k90_automata_alike) (n := 63) (k := 20) (x := "script") rfl (by decide) (by kernel_rfl) ⟨rfl, by decide, by decide⟩ ?F
    intro w mg fa h Y Gh hmg0
    obtain ⟨K, KX, c, nl, _⟩ := Y
    have hmg : mg K90.pb_law.nm = some (.ref fa) := by
      have e : (HandSHeadRun.topDef (OpenLaw.row PySem.Challenge.rw_backforth_k90_automata_alike).prog 44).name = K90.pb_law.nm := by kernel_rfl
      rw [← e]
      exact hmg0
    exact MP.law_fact (l := PySem.Challenge.rw_backforth_k90_automata_alike) (p := K90.pb_law) (f := 39) KX Gh c nl K90.bp_all K90.hd_all K90.ck_all (fun base KB GB => K90.cst_all KX Gh c) (by kernel_rfl) (by kernel_rfl) hmg pu
set_option maxRecDepth 100000
namespace K90
theorem says : Says 20 := fun ns _ _ => law_ok ns
end K90
theorem PySem.Challenge.cw_backforth_k90_automata_alike_holds : PySem.Challenge.rw_backforth_k90_automata_alike.Holds :=
  K90_end K90.says
