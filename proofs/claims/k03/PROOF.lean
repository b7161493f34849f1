import PyProof.Rows.All
import HandS.ForMost
import HandS.TupAny
import HandS.Style
import HandS.Flow
import HandS.Walk
import HandS.ExcOwn
import HandS.WordsExc
import HandS.Deep
import HandS.Wide
import HandS.Zip
import HandS.TupMul
import HandS.SortInts
import HandS.Conv
import HandS.IsInst
import HandS.Small
import HandS.RaiseMore
import HandS.Iter
import PyProof.Rows.StrRev
import HandS.Replace
import HandS.HeadHook2
import HandS.HeadEnd
import HandS.Codes
import HandS.HeadHook4
import HandS.Head0
import HandS.Head1
import HandS.Head2
import PySem.Challenge.RW_wordslaid_k03_whole_borders_and_periods
set_option Elab.async false
set_option linter.all false
set_option maxRecDepth 100000
set_option maxHeartbeats 0
/-! The pure evaluator: data by value, a small syntax, its meaning. -/
namespace Py
set_option autoImplicit false

/-- data -/
inductive D where
  | non | bl (b : Bool) | int (i : Int) | str (s : List Nat)
  | tup (l : List D) | lst (l : List D) | dct (l : List (D × D)) | set (l : List D)
  | rng (lo hi st : Int) | itr (l : List D) | scr (l : List D) | fn (f : Nat) | exc (c : Nat) (l : List D) | clo (k : Nat) (l : List (Option D))
  deriving Repr, Inhabited

def sz : Nat := 16777216

/-- plain data: what == is told of -/
def plainN : Nat → D → Bool
  | _, .non => true
  | _, .bl _ => true
  | _, .int _ => true
  | _, .str _ => true
  | n + 1, .tup l => l.all (plainN n)
  | n + 1, .lst l => l.all (plainN n)
  | _, _ => false
def plain (d : D) : Bool := plainN 40 d
def plainL (l : List D) : Bool := l.all plain
def b2i (b : Bool) : Int := if b then 1 else 0
mutual
def eqD : D → D → Bool
  | .non, .non => true
  | .bl a, .bl b => a == b
  | .bl a, .int j => b2i a == j
  | .int i, .bl b => i == b2i b
  | .int i, .int j => i == j
  | .str a, .str b => a == b
  | .tup a, .tup b => eqL a b
  | .lst a, .lst b => eqL a b
  | _, _ => false
def eqL : List D → List D → Bool
  | [], [] => true
  | a :: l, b :: m => eqD a b && eqL l m
  | _, _ => false
end
def ltS : List Nat → List Nat → Bool
  | [], [] => false
  | [], _ :: _ => true
  | _ :: _, [] => false
  | a :: l, b :: m => if a == b then ltS l m else Nat.blt a b
def ltD : D → D → Option Bool
  | .int i, .int j => some (decide (i < j))
  | .str a, .str b => some (ltS a b)
  | _, _ => none
/-- x put into a sorted row, behind what is not greater -/
def insD (x : D) : List D → Option (List D)
  | [] => some [x]
  | y :: l => match ltD x y with
    | some true => some (x :: y :: l)
    | some false => (insD x l).map (y :: ·)
    | none => none
def sortG : List D → List D → Option (List D)
  | [], acc => some acc
  | x :: l, acc => match insD x acc with
    | some a => sortG l a
    | none => none
def sortD (l : List D) : Option (List D) := sortG l []
def insK (x : D × D) : List (D × D) → Option (List (D × D))
  | [] => some [x]
  | y :: l => match ltD x.1 y.1 with
    | some true => some (x :: y :: l)
    | some false => (insK x l).map (y :: ·)
    | none => none
def sortKG : List (D × D) → List (D × D) → Option (List (D × D))
  | [], acc => some acc
  | x :: l, acc => match insK x acc with
    | some a => sortKG l a
    | none => none
def maxG : List D → D → Option D
  | [], m => some m
  | x :: l, m => match ltD m x with
    | some true => maxG l x
    | some false => maxG l m
    | none => none
def minG : List D → D → Option D
  | [], m => some m
  | x :: l, m => match ltD x m with
    | some true => minG l x
    | some false => minG l m
    | none => none
/-- a new object: a list, a dict, a set -/
def isNew : D → Bool
  | .lst _ => true | .dct _ => true | .set _ => true | _ => false
def notNew : Option D → Option D
  | some d => if isNew d then none else some d
  | none => none
def maxD : List D → Option D
  | [] => none
  | x :: l => notNew (maxG l x)
def minD : List D → Option D
  | [] => none
  | x :: l => notNew (minG l x)
def truth : D → Option Bool
  | .non => some false | .bl b => some b | .int i => some (i != 0) | .str s => some (!s.isEmpty)
  | .tup l => some (!l.isEmpty) | .lst l => some (!l.isEmpty) | .dct l => some (!l.isEmpty)
  | _ => none
def getK (k : D) : List (D × D) → Option D
  | [] => none
  | p :: l => if eqD p.1 k then some p.2 else getK k l
def putK (k v : D) : List (D × D) → List (D × D)
  | [] => [(k, v)]
  | p :: l => if eqD p.1 k then (p.1, v) :: l else p :: putK k v l
def memD (x : D) : List D → Bool
  | [] => false
  | y :: l => eqD y x || memD x l
/-- without those that came before -/
def uniq : List D → List D → List D
  | [], acc => acc
  | x :: l, acc => if memD x acc then uniq l acc else uniq l (acc ++ [x])
mutual
def keyOk : D → Bool
  | .non => true | .bl _ => true | .int _ => true | .str _ => true
  | .tup l => keyOkL l
  | _ => false
def keyOkL : List D → Bool
  | [] => true
  | d :: l => keyOk d && keyOkL l
end
def isPre : List Nat → List Nat → Bool
  | [], _ => true
  | _ :: _, [] => false
  | a :: l, b :: m => a == b && isPre l m
/-- the first place from k on at which x stands -/
def findS (x : List Nat) : List Nat → Nat → Option Nat
  | [], k => if x.isEmpty then some k else none
  | c :: l, k => if isPre x (c :: l) then some k else findS x l (k + 1)
def subS (x s : List Nat) : Bool := (findS x s 0).isSome
/-- how often x (not empty) stands apart; skip: signs of the last one still to pass -/
def countS (x : List Nat) : List Nat → Nat → Nat
  | [], _ => 0
  | _ :: l, skip + 1 => countS x l skip
  | c :: l, 0 => if isPre x (c :: l) then 1 + countS x l (x.length - 1) else countS x l 0
def clampI (i : Int) (n : Nat) : Nat := if i < 0 then (i + n).toNat else min i.toNat n
def cut {α : Type} (l : List α) (lo hi : Option Int) : List α :=
  let a := match lo with | none => 0 | some i => clampI i l.length
  let b := match hi with | none => l.length | some i => clampI i l.length
  (l.drop a).take (b - a)
def ixD (n : Nat) (i : Int) : Option Nat :=
  if 0 ≤ i then (if i < n then some i.toNat else none) else if 0 ≤ i + n then some (i + n).toNat else none
def atD {α : Type} (l : List α) (i : Int) : Option α := match ixD l.length i with
  | some j => l[j]?
  | none => none
def repL {α : Type} (l : List α) : Nat → List α
  | 0 => []
  | n + 1 => l ++ repL l n
def rngN (lo hi st : Int) : Nat :=
  if 0 < st then ((hi - lo + st - 1) / st).toNat else if st < 0 then ((lo - hi + (0 - st) - 1) / (0 - st)).toNat else 0
def rngG (st : Int) : Nat → Int → List D
  | 0, _ => []
  | n + 1, i => .int i :: rngG st n (i + st)
def rngL (lo hi st : Int) : List D := rngG st (rngN lo hi st) lo
def chars : List Nat → List D
  | [] => []
  | c :: l => .str [c] :: chars l
def items : D → Option (List D)
  | .lst l => some l
  | .tup l => some l
  | .str s => some (chars s)
  | .rng a b c => some (rngL a b c)
  | .dct l => some (l.map (·.1))
  | .itr l => some l
  | .scr l => some l
  | _ => none
def zipD : List D → List D → List D
  | a :: l, b :: m => .tup [a, b] :: zipD l m
  | _, _ => []
def zipD3 : List D → List D → List D → List D
  | a :: l, b :: m, c :: n => .tup [a, b, c] :: zipD3 l m n
  | _, _, _ => []
def enumD : Int → List D → List D
  | _, [] => []
  | i, a :: l => .tup [.int i, a] :: enumD (i + 1) l
def sumD : List D → Int → Option Int
  | [], a => some a
  | .int i :: l, a => sumD l (a + i)
  | .bl b :: l, a => sumD l (a + b2i b)
  | _ :: _, _ => none
def strsD : List D → Option (List (List Nat))
  | [] => some []
  | .str s :: l => (strsD l).map (s :: ·)
  | _ :: _ => none
def joinS (sep : List Nat) : List (List Nat) → List Nat
  | [] => []
  | [s] => s
  | s :: t :: l => s ++ (sep ++ joinS sep (t :: l))
def allD : List D → Option Bool
  | [] => some true
  | d :: l => match truth d with
    | some true => allD l
    | some false => some false
    | none => none
def anyD : List D → Option Bool
  | [] => some false
  | d :: l => match truth d with
    | some true => some true
    | some false => anyD l
    | none => none
def pairsD : List D → Option (List (D × D))
  | [] => some []
  | .tup [k, v] :: l => if keyOk k then (pairsD l).map ((k, v) :: ·) else none
  | _ :: _ => none
def mkDct : List (D × D) → List (D × D) → List (D × D)
  | [], acc => acc
  | p :: l, acc => mkDct l (putK p.1 p.2 acc)
def idxD (x : D) : List D → Nat → Option Nat
  | [], _ => none
  | y :: l, k => if eqD y x then some k else idxD x l (k + 1)
def cntD (x : D) : List D → Nat
  | [] => 0
  | y :: l => if eqD y x then 1 + cntD x l else cntD x l

/-! ### numbers -/
def two64 : Nat := 18446744073709551616
def mulOk (i j : Int) : Bool := Nat.blt i.natAbs two64 || Nat.blt j.natAbs two64 || Nat.blt (i.natAbs.log2 + j.natAbs.log2) 500000
def divOk (j : Int) : Bool := !(j == 0) && (Nat.blt j.natAbs 1073741824 || (decide (0 < j) && Nat.blt j.natAbs.log2 8000))
def leI (k : Nat) : Int → Bool
  | .ofNat n => Nat.ble n k
  | .negSucc _ => false
theorem leI_iff {k : Nat} {i : Int} : leI k i = true ↔ 0 ≤ i ∧ i ≤ k := by
  cases i with
  | ofNat n =>
    show Nat.ble n k = true ↔ _
    rw [Nat.ble_eq, Int.ofNat_eq_natCast]; omega
  | negSucc n =>
    show false = true ↔ _
    have := Int.negSucc_lt_zero n
    constructor
    · intro h; exact absurd h (by decide)
    · intro h; omega
def powOk (i j : Int) : Bool := leI 1000000 j && Nat.blt i.natAbs two64
def ofDigit (n : Nat) : Nat := 48 + n
def natS : Nat → Nat → List Nat → List Nat
  | 0, _, acc => acc
  | f + 1, n, acc => if n < 10 then ofDigit n :: acc else natS f (n / 10) (ofDigit (n % 10) :: acc)
def strI (i : Int) : List Nat := if i < 0 then 45 :: natS 1000 i.natAbs [] else natS 1000 i.natAbs []

inductive Op where | add | sub | mul | fdiv | mod | pow | bxor
  deriving Repr, DecidableEq
inductive Cm where | eq | ne | lt | le | gt | ge | isin | notin | is_ | isnot
  deriving Repr, DecidableEq
/-- by cases on the sign: the kernel must not count down from a great literal -/
def smallI : Int → Bool
  | .ofNat n => Nat.blt n 4611686018427387904
  | .negSucc n => Nat.blt n 4611686018427387904
theorem smallI_iff {i : Int} : smallI i = true ↔ -4611686018427387904 ≤ i ∧ i < 4611686018427387904 := by
  cases i with
  | ofNat n =>
    show Nat.blt n 4611686018427387904 = true ↔ _
    rw [Nat.blt_eq, Int.ofNat_eq_natCast]; omega
  | negSucc n =>
    show Nat.blt n 4611686018427387904 = true ↔ _
    rw [Nat.blt_eq, Int.negSucc_eq]; omega
def lenOk (n : Nat) : Bool := Nat.ble n sz
def binD : Op → D → D → Option D
  | .add, .int i, .int j => some (.int (i + j))
  | .add, .int i, .bl j => some (.int (i + b2i j))
  | .add, .str a, .str b => if lenOk (a.length + b.length) then some (.str (a ++ b)) else none
  | .add, .tup a, .tup b => if lenOk (a.length + b.length) then some (.tup (a ++ b)) else none
  | .add, .lst a, .lst b => if lenOk (a.length + b.length) then some (.lst (a ++ b)) else none
  | .sub, .int i, .int j => some (.int (i - j))
  | .mul, .int i, .int j => if mulOk i j then some (.int (i * j)) else none
  | .mul, .str a, .int j => if smallI j && lenOk (a.length * j.toNat) then some (.str (repL a j.toNat)) else none
  | .mul, .tup a, .int j => if !a.isEmpty && decide (2 ≤ j) && decide (j ≤ 1000) && Nat.ble a.length 1000 then some (.tup (repL a j.toNat)) else none
  | .mul, .lst a, .int j => if smallI j && lenOk (a.length * j.toNat) then some (.lst (repL a j.toNat)) else none
  | .fdiv, .int i, .int j => if divOk j then some (.int (i.fdiv j)) else none
  | .mod, .int i, .int j => if j == 0 then none else some (.int (i.fmod j))
  | .pow, .int i, .int j => if powOk i j then some (.int (i ^ j.toNat)) else none
  | .bxor, .bl i, .bl j => some (.bl (i != j))
  | _, _, _ => none
def inD (x : D) : D → Option Bool
  | .str s => match x with | .str y => some (subS y s) | _ => none
  | .tup l => if plain x && plainL l then some (memD x l) else none
  | .lst l => if plain x && plainL l then some (memD x l) else none
  | .dct l => if keyOk x then some (getK x l).isSome else none
  | .set l => if keyOk x then some (memD x l) else none
  | _ => none
def isD : D → D → Option Bool
  | .non, .non => some true
  | .bl _, .non => some false
  | .int _, .non => some false
  | .str _, .non => some false
  | .tup _, .non => some false
  | .lst _, .non => some false
  | .dct _, .non => some false
  | .bl a, .bl b => some (a == b)
  | _, _ => none
def cmpD : Cm → D → D → Option Bool
  | .eq, a, b => if plain a && plain b then some (eqD a b) else none
  | .ne, a, b => if plain a && plain b then some (!eqD a b) else none
  | .lt, a, b => ltD a b
  | .gt, a, b => ltD b a
  | .le, a, b => (ltD b a).map (!·)
  | .ge, a, b => (ltD a b).map (!·)
  | .isin, a, b => inD a b
  | .notin, a, b => (inD a b).map (!·)
  | .is_, a, b => isD a b
  | .isnot, a, b => (isD a b).map (!·)

/-! ### built-in functions and methods on values -/
inductive Bi where
  | len | abs | int | bool | str | max | min | sum | all | any | sorted | list | tuple | set | dict | range
  deriving Repr, DecidableEq
inductive Me where
  | join | index | get | get2 | count | endswith | startswith | values | copy | find | split
  deriving Repr, DecidableEq
def lenD : D → Option Nat
  | .str s => some s.length | .tup l => some l.length | .lst l => some l.length | .dct l => some l.length | .set l => some l.length
  | .rng a b c => some (rngN a b c)
  | _ => none
def seqD : D → Option (List D)
  | .set l => sortD l
  | d => items d
def intsD : List D → Option (List Int)
  | [] => some []
  | .int i :: l => (intsD l).map (i :: ·)
  | _ => none
def blsD : List D → Option (List Bool)
  | [] => some []
  | .bl i :: l => (blsD l).map (i :: ·)
  | _ => none
def maxI : List Int → Option Int
  | [] => none
  | i :: l => some (l.foldl (fun m x => if m < x then x else m) i)
def minI : List Int → Option Int
  | [] => none
  | i :: l => some (l.foldl (fun m x => if x < m then x else m) i)
def insI (x : Int) : List Int → List Int
  | [] => [x]
  | y :: l => if x < y then x :: y :: l else y :: insI x l
def sortI : List Int → List Int → List Int
  | [], acc => acc
  | x :: l, acc => sortI l (insI x acc)
def bLen : List D → Option D
  | [d] => (lenD d).map fun (n : Nat) => .int n
  | _ => none
def bAbs : List D → Option D
  | [.int i] => some (.int (if i < 0 then -i else i))
  | _ => none
def bInt : List D → Option D
  | [.int i] => some (.int i)
  | [.bl b] => some (.int (b2i b))
  | _ => none
def bBool : List D → Option D
  | [.int i] => some (.bl (i != 0))
  | [.bl b] => some (.bl b)
  | [.lst l] => some (.bl (!l.isEmpty))
  | _ => none
def bStr : List D → Option D
  | [.str s] => some (.str s)
  | _ => none
def bMax : List D → Option D
  | [.lst l] => (intsD l).bind fun ns => (maxI ns).map .int
  | [.int i, .int j] => some (.int (if j > i then j else i))
  | _ => none
def bMin : List D → Option D
  | [.lst l] => (intsD l).bind fun ns => (minI ns).map .int
  | [.int i, .int j] => some (.int (if j < i then j else i))
  | _ => none
def bSum : List D → Option D
  | [.lst l] => (intsD l).map fun ns => .int ns.sum
  | _ => none
def bAll : List D → Option D
  | [.lst l] => (blsD l).map fun bs => .bl (bs.all id)
  | _ => none
def bAny : List D → Option D
  | [.lst l] => (blsD l).map fun bs => .bl (bs.any id)
  | _ => none
def bSorted : List D → Option D
  | [.lst l] => (intsD l).map fun ns => .lst ((sortI ns []).map .int)
  | _ => none
def bList : List D → Option D
  | [.lst l] => some (.lst l)
  | [.tup l] => some (.lst l)
  | [.scr l] => some (.lst l)
  | _ => none
def bTuple : List D → Option D
  | [.lst l] => some (.tup l)
  | [.tup l] => some (.tup l)
  | _ => none
def biD (b : Bi) (ds : List D) : Option D := match b with
  | .len => bLen ds | .abs => bAbs ds | .int => bInt ds | .bool => bBool ds | .str => bStr ds | .max => bMax ds | .min => bMin ds | .sum => bSum ds
  | .all => bAll ds | .any => bAny ds | .sorted => bSorted ds | .list => bList ds | .tuple => bTuple ds
  | _ => none
def mJoin : D → List D → Option D
  | .str s, [.lst l] => (strsD l).bind fun ss => if lenOk ((ss.map List.length).sum + ss.length * s.length) then some (.str (joinS s ss)) else none
  | .str s, [.tup l] => (strsD l).bind fun ss => if lenOk ((ss.map List.length).sum + ss.length * s.length) then some (.str (joinS s ss)) else none
  | _, _ => none
def mIndex : D → List D → Option D
  | .str s, [.str x] => (findS x s 0).map fun (n : Nat) => .int n
  | .lst l, [x] => if plain x && plainL l then (idxD x l 0).map fun (n : Nat) => .int n else none
  | .tup l, [x] => if plain x && plainL l then (idxD x l 0).map fun (n : Nat) => .int n else none
  | _, _ => none
def mCount : D → List D → Option D
  | .str s, [.str x] => if x.isEmpty then none else some (.int (countS x s 0))
  | .lst l, [x] => if plain x && plainL l then some (.int (cntD x l)) else none
  | .tup l, [x] => if plain x && plainL l then some (.int (cntD x l)) else none
  | _, _ => none
def mStarts : D → List D → Option D
  | .str s, [.str x] => some (.bl (isPre x s))
  | _, _ => none
def mEnds : D → List D → Option D
  | .str s, [.str x] => some (.bl (isPre x.reverse s.reverse))
  | _, _ => none
def meD (m : Me) (d : D) (ds : List D) : Option D := match m with
  | .join => mJoin d ds | .index => mIndex d ds | .count => mCount d ds | .startswith => mStarts d ds | .endswith => mEnds d ds
  | _ => none
/-- which receivers have the method -/
def meOk (_ : Me) : D → Bool
  | .str _ => true
  | _ => false
inductive Ty where | int | str | bool | tuple | list | dict | none | exc (c : Nat)
  deriving Repr, DecidableEq

/-! ### the syntax -/
inductive Pat where
  | nm (i : Nat) | tp (l : List Pat)
  deriving Repr, Inhabited
mutual
inductive E where
  | cst (d : D) | var (i : Nat)
  | bin (op : Op) (a b : E) | neg (a : E) | not (a : E)
  | cmp (op : Cm) (a b : E) | cmp2 (o p : Cm) (a b c : E)
  | and (a b : E) | or (a b : E) | ite (t : T) (a b : E)
  | tup (l : List E) | lst (l : List E) | dct (l : List E)
  | idx (a i : E) | slc (a lo hi : E) | rev (a : E) | nil
  | call (f : Nat) (l : List E) | calli (f i : Nat) (l : List E) | cal0 (i : Nat) (l : List E)
  | bi (b : Bi) (l : List E) | me (m : Me) (o : E) (l : List E)
  | comp (own : List Nat) (p : Pat) (it : E) (c : T) (e : E)
  | comp2 (own : List Nat) (p : Pat) (it : E) (c : T) (p2 : Pat) (own2 : List Nat) (it2 : E) (c2 : T) (e : E)
  | rng1 (a : E) | rng2 (a b : E) | rng3 (a b c : E) | zip (a b : E) | zip3 (a b c : E) | enum (a : E) | its (a : E) | vals (a : E)
  | lrg1 (tp : Bool) (a : E) | lrg2 (tp : Bool) (a b : E) | lrg3 (tp : Bool) (a b c : E)
  | isi (a : E) (t : Ty) | isiT (a : E) (ts : List Ty)
  | sortK (own : Nat) (k : E) (a : E)
  | pop (i : Nat) | popAt (i : Nat) (e : E) | popD (i : Nat) (k e : E)
  | attr (a : E) (n : Nat)
  | lam (k : Nat) (caps : List Nat)
  deriving Repr
/-- a test -/
inductive T where
  | and (a b : T) | or (a b : T) | not (a : T) | cmp (op : Cm) (a b : E) | cmp2 (o p : Cm) (a b c : E) | tru (e : E) | yes
  deriving Repr
end
instance : Inhabited E := ⟨.nil⟩
instance : Inhabited T := ⟨.yes⟩
inductive S where
  | set (i : Nat) (e : E) | setP (l : List Nat) (es : List E) | unp (p : Pat) (e : E)
  | put (i : Nat) (k e : E) | put2 (i : Nat) (k k2 e : E) | app (i : Nat) (e : E) | add (i : Nat) (e : E) | upd (i : Nat) (e : E)
  | exp (e : E) | ife (t : T) (a b : List S) | fors (p : Pat) (it : E) (b : List S) | whl (t : T) (b : List S)
  | ret (e : E) | rai (c : Nat) (l : List E) | tryS (b : List S) (c : Nat) (i : Option Nat) (h : List S) (h2 : Option (Nat × Option Nat × List S))
  | pass | brk | cnt
  deriving Repr, Inhabited

/-! ### which names an expression changes -/
mutual
def muts (j : Nat) : E → Bool
  | .bin _ a b => muts j a || muts j b
  | .neg a => muts j a | .not a => muts j a
  | .cmp _ a b => muts j a || muts j b
  | .cmp2 _ _ a b c => muts j a || muts j b || muts j c
  | .and a b => muts j a || muts j b
  | .or a b => muts j a || muts j b
  | .ite t a b => mutsT j t || muts j a || muts j b
  | .tup l => mutsL j l | .lst l => mutsL j l | .dct l => mutsL j l
  | .idx a i => muts j a || muts j i
  | .slc a lo hi => muts j a || muts j lo || muts j hi
  | .rev a => muts j a
  | .call _ l => mutsL j l
  | .calli _ i l => mutsL j l || i == j
  | .cal0 _ l => mutsL j l
  | .bi _ l => mutsL j l
  | .me _ o l => muts j o || mutsL j l
  | .comp _ _ it c e => muts j it || mutsT j c || muts j e
  | .comp2 _ _ it c _ _ it2 c2 e => muts j it || mutsT j c || muts j it2 || mutsT j c2 || muts j e
  | .rng1 a => muts j a | .rng2 a b => muts j a || muts j b | .rng3 a b c => muts j a || muts j b || muts j c
  | .zip a b => muts j a || muts j b
  | .zip3 a b c => muts j a || muts j b || muts j c
  | .enum a => muts j a | .its a => muts j a | .vals a => muts j a
  | .lrg1 _ a => muts j a | .lrg2 _ a b => muts j a || muts j b | .lrg3 _ a b c => muts j a || muts j b || muts j c
  | .isi a _ => muts j a | .isiT a _ => muts j a
  | .sortK _ k a => muts j k || muts j a
  | .pop i => i == j
  | .popAt i e => i == j || muts j e
  | .popD i k e => i == j || muts j k || muts j e
  | .attr a _ => muts j a
  | _ => false
def mutsT (j : Nat) : T → Bool
  | .and a b => mutsT j a || mutsT j b
  | .or a b => mutsT j a || mutsT j b
  | .not a => mutsT j a
  | .cmp _ a b => muts j a || muts j b
  | .cmp2 _ _ a b c => muts j a || muts j b || muts j c
  | .tru e => muts j e
  | .yes => false
def mutsL (j : Nat) : List E → Bool
  | [] => false
  | e :: l => muts j e || mutsL j l
end
/-- a, looked at, is not changed while b is reckoned -/
def pkOk (a b : E) : Bool := match a with
  | .var i => !muts i b
  | _ => true
def pkOkL : List E → Bool
  | [] => true
  | .var i :: l => !mutsL i l && pkOkL l
  | _ :: l => pkOkL l

/-! ### states -/
inductive Fl where | shr | own | io
  deriving Repr, DecidableEq, Inhabited
abbrev Cell := Option (Fl × D)
abbrev Env := List Cell
def get : Env → Nat → Cell
  | [], _ => none
  | c :: _, 0 => c
  | _ :: ρ, n + 1 => get ρ n
def put : Env → Nat → Cell → Env
  | [], _, _ => []
  | _ :: ρ, 0, c => c :: ρ
  | a :: ρ, n + 1, c => a :: put ρ n c
inductive M (α : Type) where
  | ok (a : α) (ρ : Env) | ex (c : Nat) (l : List D) (ρ : Env) | st
  deriving Repr, Inhabited
def M.bind {α β : Type} (m : M α) (k : α → Env → M β) : M β := match m with
  | .ok a ρ => k a ρ
  | .ex c l ρ => .ex c l ρ
  | .st => .st
/-- what an expression gives: whether it is an own new object, the value -/
abbrev RV := Bool × D
def fin (ρ : Env) : Option D → M RV
  | some d => .ok (isNew d, d) ρ
  | none => .st
def finS (ρ : Env) : Option D → M RV
  | some d => .ok (false, d) ρ
  | none => .st
def finB (ρ : Env) : Option Bool → M RV
  | some b => .ok (false, .bl b) ρ
  | none => .st
/-- a name read: what is one's own is shared from now on -/
def rdE (i : Nat) (ρ : Env) : M RV := match get ρ i with
  | some (.shr, d) => .ok (false, d) ρ
  | some (.own, d) => .ok (false, d) (put ρ i (some (.shr, d)))
  | _ => .st
/-- a name looked at -/
def rdP (i : Nat) (ρ : Env) : M RV := match get ρ i with
  | some (_, d) => .ok (false, d) ρ
  | none => .st
/-- one's own list -/
def rdL (i : Nat) (ρ : Env) : M RV := match get ρ i with
  | some (.own, .lst l) => .ok (false, .lst l) ρ
  | some (.io, .lst l) => .ok (false, .lst l) ρ
  | _ => .st
def pk (e : E) (r : Env → M RV) (ρ : Env) : M RV := match e with
  | .var i => rdP i ρ
  | _ => r ρ
inductive CR where
  | ok (fr : Bool) (d : D) (io : Option D) | ex (c : Nat) (l : List D) | st
  deriving Repr, Inhabited
structure Cl where
  run : Nat → List D → CR
  io : Nat → Bool
  lam : Nat → List (Option D) → List D → CR
  sub : Nat → Nat → Bool
  N : Nat
/-- a def called with its first argument's place handed in -/
def callIo (C : Cl) (f i : Nat) (ds : List D) (ρ : Env) : M RV := match get ρ i with
  | some (.shr, _) => .st
  | some (fl, c) => match C.run f (c :: ds) with
    | .ok fr d (some c') => .ok (fr, d) (put ρ i (some (fl, c')))
    | _ => .st
  | none => .st
def callN (r : CR) (ρ : Env) : M RV := match r with
  | .ok fr d _ => .ok (fr, d) ρ
  | .ex c l => .ex c l ρ
  | .st => .st
def callV (C : Cl) (ds : List D) (ρ : Env) : D → M RV
  | .fn f => if C.io f then .st else callN (C.run f ds) ρ
  | .clo k env => callN (C.lam k env ds) ρ
  | _ => .st
mutual
def bindP : Pat → D → Env → Option Env
  | .nm i, d, ρ => some (put ρ i (some (.shr, d)))
  | .tp ps, .tup l, ρ => bindL ps l ρ
  | _, _, _ => none
def bindL : List Pat → List D → Env → Option Env
  | [], [], ρ => some ρ
  | p :: ps, d :: l, ρ => match bindP p d ρ with
    | some ρ => bindL ps l ρ
    | none => none
  | _, _, _ => none
end
def bnd (p : Pat) (d : D) (ρ : Env) : M Unit := match bindP p d ρ with
  | some ρ => .ok () ρ
  | none => .st
mutual
def pslots : Pat → List Nat
  | .nm i => [i]
  | .tp l => pslotsL l
def pslotsL : List Pat → List Nat
  | [] => []
  | p :: l => pslots p ++ pslotsL l
end
def clr : List Nat → Env → Env
  | [], ρ => ρ
  | i :: l, ρ => clr l (put ρ i none)
def okOwn : List Nat → Env → Bool
  | [], _ => true
  | i :: l, ρ => (match get ρ i with
    | some (.shr, _) => true
    | none => true
    | _ => false) && okOwn l ρ
/-- the slots of l as they were in ρ₀ -/
def rst : List Nat → Env → Env → Env
  | [], _, ρ => ρ
  | i :: l, ρ₀, ρ => rst l ρ₀ (put ρ i (get ρ₀ i))
/-- a comprehension's loop: each item kept or not -/
def cmpL (f : D → Env → M (Option D)) : List D → List D → Env → M (List D)
  | [], acc, ρ => .ok acc.reverse ρ
  | d :: l, acc, ρ => (f d ρ).bind fun o ρ => match o with
    | some y => cmpL f l (y :: acc) ρ
    | none => cmpL f l acc ρ
/-- .. with an inner loop -/
def cmpL2 (f : D → List D → Env → M (List D)) : List D → List D → Env → M (List D)
  | [], acc, ρ => .ok acc ρ
  | d :: l, acc, ρ => (f d acc ρ).bind fun acc ρ => cmpL2 f l acc ρ
def noEx {α : Type} : M α → M α
  | .ex _ _ _ => .st
  | m => m
def capE : List Nat → Env → Option (List (Option D))
  | [], _ => some []
  | i :: l, ρ => match get ρ i with
    | some (.shr, d) => (capE l ρ).map (some d :: ·)
    | none => (capE l ρ).map (none :: ·)
    | some (.own, _) => none
    | some (.io, _) => none
def isTy (C : Cl) : Ty → D → Option Bool
  | .exc c, .exc k _ => some (C.sub k c)
  | .exc _, .non => some false
  | .exc _, .bl _ => some false
  | .exc _, .int _ => some false
  | .exc _, .str _ => some false
  | .exc _, .tup _ => some false
  | .exc _, .lst _ => some false
  | .exc _, _ => none
  | _, .exc _ _ => none
  | _, .fn _ => none
  | _, .clo _ _ => none
  | _, .rng _ _ _ => none
  | _, .set _ => none
  | _, .itr _ => none
  | _, .scr _ => none
  | .int, d => some (match d with | .int _ => true | .bl _ => true | _ => false)
  | .str, d => some (match d with | .str _ => true | _ => false)
  | .bool, d => some (match d with | .bl _ => true | _ => false)
  | .tuple, d => some (match d with | .tup _ => true | _ => false)
  | .list, d => some (match d with | .lst _ => true | _ => false)
  | .dict, d => some (match d with | .dct _ => true | _ => false)
  | .none, d => some (match d with | .non => true | _ => false)
def isTyA (C : Cl) (d : D) : List Ty → Option Bool
  | [] => some false
  | t :: l => match isTy C t d with
    | some true => some true
    | some false => isTyA C d l
    | none => none
def lastD : List D → Option D
  | [] => none
  | [d] => some d
  | _ :: l => lastD l
def idxV : D → D → Option D
  | .lst l, .int i => atD l i
  | .tup l, .int i => atD l i
  | .str s, .int i => (atD s i).map fun c => .str [c]
  | .dct l, k => if keyOk k then getK k l else none
  | _, _ => none
def slcV (d : D) (lo hi : Option Int) : Option D := match d with
  | .lst l => some (.lst (cut l lo hi))
  | .tup l => some (.tup (cut l lo hi))
  | .str s => some (.str (cut s lo hi))
  | _ => none
def revV : D → Option D
  | .lst l => some (.lst l.reverse)
  | .tup l => some (.tup l.reverse)
  | .str s => some (.str s.reverse)
  | _ => none
def attrV : D → Nat → Option D
  | .exc _ l, n => l[n]?
  | _, _ => none
def tst {β : Type} (d : D) (ρ : Env) (a b : Env → M β) : M β := match truth d with
  | some true => a ρ
  | some false => b ρ
  | none => .st
def ofO {α : Type} (o : Option α) (ρ : Env) : M α := match o with
  | some a => .ok a ρ
  | none => .st
def pairUp : List D → Option (List (D × D))
  | [] => some []
  | k :: v :: l => if keyOk k then (pairUp l).map ((k, v) :: ·) else none
  | _ => none
def partI (x : RV) (ρ : Env) : M (Option Int) := match x.2 with
  | .int i => .ok (some i) ρ
  | .itr _ => .ok none ρ
  | _ => .st
def itI (x : RV) (ρ : Env) : M (List D) := match x.2 with
  | .lst l => .ok l ρ
  | .tup l => .ok l ρ
  | .str s => .ok (chars s) ρ
  | .dct l => .ok (l.map (·.1)) ρ
  | .itr l => .ok l ρ
  | _ => .st
def rngV1 : D → Option D
  | .int n => if smallI n then some (.itr (rngL 0 n 1)) else none
  | _ => none
def rngV2 : D → D → Option D
  | .int a, .int b => if smallI a && smallI b then some (.itr (rngL a b 1)) else none
  | _, _ => none
/-- downwards only -/
def rngV3 : D → D → D → Option D
  | .int a, .int b, .int c => if smallI a && smallI b && c == -1 then some (.itr (rngL a b (-1))) else none
  | _, _, _ => none
def lrgV3 (tp : Bool) : D → D → D → Option D
  | .int a, .int b, .int c => if smallI a && smallI b && c == -1 && lenOk (rngN a b (-1)) then some (if tp then .tup (rngL a b (-1)) else .lst (rngL a b (-1))) else none
  | _, _, _ => none
def lrgV (tp : Bool) : D → D → Option D
  | .int a, .int b => if smallI a && smallI b && lenOk (rngN a b 1) then some (if tp then .tup (rngL a b 1) else .lst (rngL a b 1)) else none
  | _, _ => none
def zipV : D → D → Option D
  | .lst l, .lst m => some (.itr (zipD l m))
  | .tup l, .tup m => some (.itr (zipD l m))
  | _, _ => none
def zipV3 (x y z : D) : Option D := match items x, items y, items z with
  | some l, some m, some n => some (.itr (zipD3 l m n))
  | _, _, _ => none
def enumV : D → Option D
  | .lst l => some (.itr (enumD 0 l))
  | .str s => some (.itr (enumD 0 (chars s)))
  | _ => none
def itsV : D → Option D
  | .dct l => some (.itr (l.map fun p => .tup [p.1, p.2]))
  | _ => none
def valsV : D → Option D
  | .dct l => some (.itr (l.map (·.2)))
  | _ => none

mutual
def evE (C : Cl) : E → Env → M RV
  | .cst d, ρ => .ok (false, d) ρ
  | .var i, ρ => rdE i ρ
  | .bin op a b, ρ => (pk a (evE C a) ρ).bind fun x ρ => (pk b (evE C b) ρ).bind fun y ρ => fin ρ (binD op x.2 y.2)
  | .neg a, ρ => (evE C a ρ).bind fun x ρ => match x.2 with | .int i => .ok (false, .int (-i)) ρ | _ => .st
  | .not a, ρ => (pk a (evE C a) ρ).bind fun x ρ => finB ρ ((truth x.2).map (!·))
  | .cmp op a b, ρ => (pk a (evE C a) ρ).bind fun x ρ => (pk b (evE C b) ρ).bind fun y ρ => finB ρ (cmpD op x.2 y.2)
  | .cmp2 o p a b c, ρ => (pk a (evE C a) ρ).bind fun x ρ => (pk b (evE C b) ρ).bind fun y ρ => match cmpD o x.2 y.2 with
    | some true => (pk c (evE C c) ρ).bind fun z ρ => finB ρ (cmpD p y.2 z.2)
    | some false => .ok (false, .bl false) ρ
    | none => .st
  | .and a b, ρ => (evE C a ρ).bind fun x ρ => tst x.2 ρ (evE C b) fun ρ => .ok (false, x.2) ρ
  | .or a b, ρ => (evE C a ρ).bind fun x ρ => tst x.2 ρ (fun ρ => .ok (false, x.2) ρ) (evE C b)
  | .ite t a b, ρ => (evT C t ρ).bind fun k ρ => if k then evE C a ρ else evE C b ρ
  | .tup l, ρ => (evEs C l ρ).bind fun ds ρ => .ok (false, .tup ds) ρ
  | .lst l, ρ => (evEs C l ρ).bind fun ds ρ => .ok (true, .lst ds) ρ
  | .dct l, ρ => (evEs C l ρ).bind fun ds ρ => (ofO (pairUp ds) ρ).bind fun ps ρ => .ok (true, .dct (mkDct ps [])) ρ
  | .idx a i, ρ => (pk a (evE C a) ρ).bind fun x ρ => (evE C i ρ).bind fun y ρ => finS ρ (idxV x.2 y.2)
  | .slc a lo hi, ρ => (pk a (evE C a) ρ).bind fun x ρ => ((evE C lo ρ).bind partI).bind fun l ρ => ((evE C hi ρ).bind partI).bind fun h ρ => fin ρ (slcV x.2 l h)
  | .rev a, ρ => (pk a (evE C a) ρ).bind fun x ρ => fin ρ (revV x.2)
  | .nil, ρ => .ok (false, .itr []) ρ
  | .call f l, ρ => (evEs C l ρ).bind fun ds ρ => callN (C.run f ds) ρ
  | .calli f i l, ρ => (rdP i ρ).bind fun _ ρ => (evEs C l ρ).bind fun ds ρ => callIo C f i ds ρ
  | .cal0 i l, ρ => (evEs C l ρ).bind fun ds ρ => match get ρ i with
    | some (.shr, d) => callV C ds ρ d
    | _ => .st
  | .bi b l, ρ => (evPs C l ρ).bind fun ds ρ => fin ρ (biD b ds)
  | .me m o l, ρ => (pk o (evE C o) ρ).bind fun x ρ => if meOk m x.2 then (evPs C l ρ).bind fun ds ρ => finS ρ (meD m x.2 ds) else .st
  | .comp own p it c e, ρ => ((evE C it ρ).bind itI).bind fun ds ρ =>
    (noEx (cmpL (fun d ρ => (bnd p d (clr own ρ)).bind fun _ ρ => (evT C c ρ).bind fun b ρ => if b then (evE C e ρ).bind fun x ρ => .ok (some x.2) ρ else .ok none ρ) ds [] ρ)).bind fun ys ρ2 =>
      if lenOk ys.length && okOwn own ρ then .ok (true, .lst ys) (rst own ρ ρ2) else .st
  | .comp2 own p it c p2 own2 it2 c2 e, ρ => ((evE C it ρ).bind itI).bind fun ds ρ =>
    (noEx (cmpL2 (fun d acc ρ => (bnd p d (clr own (clr own2 ρ))).bind fun _ ρ => (evT C c ρ).bind fun b ρ => if b then
        ((evE C it2 ρ).bind itI).bind fun es ρ => cmpL2 (fun d acc ρ => (bnd p2 d (clr own2 ρ)).bind fun _ ρ => (evT C c2 ρ).bind fun b ρ => if b then (evE C e ρ).bind fun x ρ => .ok (acc ++ [x.2]) ρ else .ok acc ρ) es acc ρ
      else .ok acc ρ) ds [] ρ)).bind fun ys ρ2 =>
      if lenOk ys.length && okOwn own ρ && okOwn own2 ρ then .ok (true, .lst ys) (rst own2 ρ (rst own ρ ρ2)) else .st
  | .rng1 a, ρ => (evE C a ρ).bind fun x ρ => finS ρ (rngV1 x.2)
  | .rng2 a b, ρ => (evE C a ρ).bind fun x ρ => (evE C b ρ).bind fun y ρ => finS ρ (rngV2 x.2 y.2)
  | .rng3 a b c, ρ => (evE C a ρ).bind fun x ρ => (evE C b ρ).bind fun y ρ => (evE C c ρ).bind fun z ρ => finS ρ (rngV3 x.2 y.2 z.2)
  | .zip a b, ρ => (evE C a ρ).bind fun x ρ => (evE C b ρ).bind fun y ρ => finS ρ (zipV x.2 y.2)
  | .zip3 a b c, ρ => (evE C a ρ).bind fun x ρ => (evE C b ρ).bind fun y ρ => (evE C c ρ).bind fun z ρ => finS ρ (zipV3 x.2 y.2 z.2)
  | .enum a, ρ => (evE C a ρ).bind fun x ρ => finS ρ (enumV x.2)
  | .its a, ρ => (evE C a ρ).bind fun x ρ => finS ρ (itsV x.2)
  | .vals a, ρ => (evE C a ρ).bind fun x ρ => finS ρ (valsV x.2)
  | .lrg1 tp a, ρ => (evE C a ρ).bind fun x ρ => fin ρ (lrgV tp (.int 0) x.2)
  | .lrg2 tp a b, ρ => (evE C a ρ).bind fun x ρ => (evE C b ρ).bind fun y ρ => fin ρ (lrgV tp x.2 y.2)
  | .lrg3 tp a b c, ρ => (evE C a ρ).bind fun x ρ => (evE C b ρ).bind fun y ρ => (evE C c ρ).bind fun z ρ => fin ρ (lrgV3 tp x.2 y.2 z.2)
  | .isi a t, ρ => (pk a (evE C a) ρ).bind fun x ρ => finB ρ (isTy C t x.2)
  | .isiT a ts, ρ => (pk a (evE C a) ρ).bind fun x ρ => finB ρ (isTyA C x.2 ts)
  | .sortK own k a, ρ => (pk a (evE C a) ρ).bind fun x ρ => (ofO (seqD x.2) ρ).bind fun ds ρ =>
    (noEx (cmpL (fun d ρ => (evE C k (put ρ own (some (.shr, d)))).bind fun x ρ => .ok (some x.2) ρ) ds [] ρ)).bind fun ks ρ2 =>
      fin (rst [own] ρ ρ2) ((sortKG (ks.zip ds) []).map fun l => .lst (l.map (·.2)))
  | .pop i, ρ => match get ρ i with
    | some (.own, .lst l) => (match lastD l with
      | some d => .ok (false, d) (put ρ i (some (.own, .lst l.dropLast)))
      | none => .st)
    | _ => .st
  | .popAt i e, ρ => (rdP i ρ).bind fun _ ρ => (evE C e ρ).bind fun x ρ => match get ρ i, x.2 with
    | some (.own, .lst l), .int j => (match ixD l.length j with
      | some n => (match l[n]? with
        | some d => .ok (false, d) (put ρ i (some (.own, .lst (l.eraseIdx n))))
        | none => .st)
      | none => .st)
    | _, _ => .st
  | .popD _ _ _, _ => .st
  | .attr a n, ρ => (evE C a ρ).bind fun x ρ => finS ρ (attrV x.2 n)
  | .lam k caps, ρ => match capE caps ρ with
    | some env => .ok (false, .clo k env) ρ
    | none => .st
def evEs (C : Cl) : List E → Env → M (List D)
  | [], ρ => .ok [] ρ
  | e :: l, ρ => (evE C e ρ).bind fun x ρ => (evEs C l ρ).bind fun xs ρ => .ok (x.2 :: xs) ρ
def evPs (C : Cl) : List E → Env → M (List D)
  | [], ρ => .ok [] ρ
  | e :: l, ρ => (pk e (evE C e) ρ).bind fun x ρ => (evPs C l ρ).bind fun xs ρ => .ok (x.2 :: xs) ρ
/-- a test -/
def evT (C : Cl) : T → Env → M Bool
  | .and a b, ρ => (evT C a ρ).bind fun k ρ => if k then evT C b ρ else .ok false ρ
  | .or a b, ρ => (evT C a ρ).bind fun k ρ => if k then .ok true ρ else evT C b ρ
  | .not a, ρ => (evT C a ρ).bind fun k ρ => .ok (!k) ρ
  | .cmp op a b, ρ => (pk a (evE C a) ρ).bind fun x ρ => (pk b (evE C b) ρ).bind fun y ρ => ofO (cmpD op x.2 y.2) ρ
  | .cmp2 o p a b c, ρ => (pk a (evE C a) ρ).bind fun x ρ => (pk b (evE C b) ρ).bind fun y ρ => match cmpD o x.2 y.2 with
    | some true => (pk c (evE C c) ρ).bind fun z ρ => ofO (cmpD p y.2 z.2) ρ
    | some false => .ok false ρ
    | none => .st
  | .tru e, ρ => (pk e (evE C e) ρ).bind fun x ρ => ofO (truth x.2) ρ
  | .yes, ρ => .ok true ρ
end
inductive Fw where | nx | rt (fr : Bool) (d : D) | bk | ct
  deriving Repr, Inhabited
def forL (f : D → Env → M Fw) : List D → Env → M Fw
  | [], ρ => .ok .nx ρ
  | d :: l, ρ => (f d ρ).bind fun w ρ => match w with
    | .nx => forL f l ρ
    | .ct => forL f l ρ
    | .bk => .ok .nx ρ
    | .rt fr d => .ok (.rt fr d) ρ
def whlL (t : Env → M Bool) (f : Env → M Fw) : Nat → Env → M Fw
  | 0, _ => .st
  | n + 1, ρ => (t ρ).bind fun k ρ => if k then ((f ρ).bind fun w ρ => match w with
    | .nx => whlL t f n ρ
    | .ct => whlL t f n ρ
    | .bk => .ok .nx ρ
    | .rt fr d => .ok (.rt fr d) ρ) else .ok .nx ρ
/-- a value stored at a name -/
def sto (i : Nat) (x : RV) (ρ : Env) : Env := put ρ i (some (if x.1 then .own else .shr, x.2))
def stoL : List Nat → List RV → Env → Option Env
  | [], [], ρ => some ρ
  | i :: l, x :: xs, ρ => stoL l xs (sto i x ρ)
  | _, _, _ => none
def setSome : Option Nat → Cell → Env → Env
  | some i, c, ρ => put ρ i c
  | none, _, ρ => ρ
def putV (c : D) (k v : D) : Option D := match c with
  | .lst l => match k with
    | .int j => (ixD l.length j).map fun n => .lst (l.set n v)
    | _ => none
  | .dct l => if keyOk k then some (.dct (putK k v l)) else none
  | _ => none
def appV (c v : D) : Option D := match c with
  | .lst l => if Nat.blt l.length sz then some (.lst (l ++ [v])) else none
  | _ => none
def addV (c v : D) : Option D := match c with
  | .set l => if keyOk v then some (.set (if memD v l then l else l ++ [v])) else none
  | _ => none
def updV (c v : D) : Option D := match c, v with
  | .dct l, .dct m => some (.dct (mkDct m l))
  | _, _ => none
/-- what is one's own is changed -/
def chg (i : Nat) (ρ : Env) (f : D → Option D) : M Fw := match get ρ i with
  | some (.shr, _) => .st
  | some (fl, c) => (match f c with
    | some c' => .ok .nx (put ρ i (some (fl, c')))
    | none => .st)
  | none => .st
def evRs (C : Cl) : List E → Env → M (List RV)
  | [], ρ => .ok [] ρ
  | e :: l, ρ => (evE C e ρ).bind fun x ρ => (evRs C l ρ).bind fun xs ρ => .ok (x :: xs) ρ
/-- return x: what is one's own goes out as such -/
def retE (C : Cl) (e : E) (ρ : Env) : M RV := match e with
  | .var i => match get ρ i with
    | some (.own, d) => .ok (true, d) (put ρ i none)
    | _ => evE C e ρ
  | _ => evE C e ρ
mutual
def evS (C : Cl) : S → Env → M Fw
  | .set i e, ρ => (evE C e ρ).bind fun x ρ => .ok .nx (sto i x ρ)
  | .setP is es, ρ => (evRs C es ρ).bind fun xs ρ => (ofO (stoL is xs ρ) ρ).bind fun ρ' _ => .ok .nx ρ'
  | .unp p e, ρ => (evE C e ρ).bind fun x ρ => (bnd p x.2 ρ).bind fun _ ρ => .ok .nx ρ
  | .put i k e, ρ => (evE C e ρ).bind fun x ρ => (rdP i ρ).bind fun _ ρ => (evE C k ρ).bind fun y ρ => chg i ρ fun c => putV c y.2 x.2
  | .put2 i k k2 e, ρ => (evE C e ρ).bind fun x ρ => (evE C k ρ).bind fun y ρ => (evE C k2 ρ).bind fun z ρ => chg i ρ fun c => putV c (.tup [y.2, z.2]) x.2
  | .app i e, ρ => (rdL i ρ).bind fun _ ρ => (evE C e ρ).bind fun x ρ => chg i ρ fun c => appV c x.2
  | .add i e, ρ => (rdP i ρ).bind fun _ ρ => (evE C e ρ).bind fun x ρ => chg i ρ fun c => addV c x.2
  | .upd i e, ρ => (rdP i ρ).bind fun _ ρ => (pk e (evE C e) ρ).bind fun x ρ => chg i ρ fun c => updV c x.2
  | .exp e, ρ => (evE C e ρ).bind fun _ ρ => .ok .nx ρ
  | .ife t a b, ρ => (evT C t ρ).bind fun k ρ => if k then evSs C a ρ else evSs C b ρ
  | .fors p it b, ρ => ((evE C it ρ).bind itI).bind fun ds ρ => forL (fun d ρ => (bnd p d ρ).bind fun _ ρ => evSs C b ρ) ds ρ
  | .whl t b, ρ => whlL (evT C t) (evSs C b) C.N ρ
  | .ret e, ρ => (retE C e ρ).bind fun x ρ => .ok (.rt x.1 x.2) ρ
  | .rai c l, ρ => (evEs C l ρ).bind fun ds ρ => .ex c ds ρ
  | .tryS b c i h h2, ρ => match evSs C b ρ with
    | .ex k l ρ => if C.sub k c then (evSs C h (setSome i (some (.shr, .exc k l)) ρ)).bind fun w ρ => .ok w (setSome i none ρ)
      else (match h2 with
        | some (c2, i2, hb) => if C.sub k c2 then (evSs C hb (setSome i2 (some (.shr, .exc k l)) ρ)).bind fun w ρ => .ok w (setSome i2 none ρ) else .ex k l ρ
        | none => .ex k l ρ)
    | m => m
  | .pass, ρ => .ok .nx ρ
  | .brk, ρ => .ok .bk ρ
  | .cnt, ρ => .ok .ct ρ
def evSs (C : Cl) : List S → Env → M Fw
  | [], ρ => .ok .nx ρ
  | s :: l, ρ => (evS C s ρ).bind fun w ρ => match w with
    | .nx => evSs C l ρ
    | .rt fr d => .ok (.rt fr d) ρ
    | .bk => .ok .bk ρ
    | .ct => .ok .ct ρ
end

/-! ### defs -/
structure FD where
  np : Nat
  io : Bool
  dfl : List D
  slots : Nat
  body : List S
  deriving Repr, Inhabited
structure LD where
  np : Nat
  body : E
  slots : Nat
  deriving Repr, Inhabited
structure Tb where
  fd : Nat → Option FD
  ld : Nat → Option LD
  sub : Nat → Nat → Bool
  N : Nat
def cellsOf : List D → Env
  | [] => []
  | d :: l => some (.shr, d) :: cellsOf l
def startE (io : Bool) (ds : List D) (slots : Nat) : Env := match io, ds with
  | true, d :: l => some (.io, d) :: (cellsOf l ++ List.replicate (slots - ds.length) none)
  | _, _ => cellsOf ds ++ List.replicate (slots - ds.length) none
def fill (np : Nat) (ds dfl : List D) : List D := ds ++ dfl.drop (dfl.length - (np - ds.length))
def ioOf (io : Bool) (ρ : Env) : Option (Option D) := if io then (match get ρ 0 with
  | some (.io, d) => some (some d)
  | _ => none) else some none
def endF (fd : FD) : M Fw → CR
  | .ok .nx ρ => (match ioOf fd.io ρ with | some o => .ok false .non o | none => .st)
  | .ok (.rt fr d) ρ => (match ioOf fd.io ρ with | some o => .ok fr d o | none => .st)
  | .ex c l _ => if fd.io then .st else .ex c l
  | _ => .st
def runF (C : Cl) (fd : FD) (ds : List D) : CR :=
  if (fill fd.np ds fd.dfl).length == fd.np then endF fd (evSs C fd.body (startE fd.io (fill fd.np ds fd.dfl) fd.slots)) else .st
def ofCap : List (Option D) → Env
  | [] => []
  | some d :: l => some (.shr, d) :: ofCap l
  | none :: l => none :: ofCap l
def endL : M RV → CR
  | .ok x _ => .ok x.1 x.2 none
  | .ex c l _ => .ex c l
  | .st => .st
/-- a lambda: what it captured, then its parameters -/
def runL (C : Cl) (ld : LD) (env : List (Option D)) (ds : List D) : CR :=
  if ds.length == ld.np then endL (evE C ld.body (ofCap env ++ (cellsOf ds ++ List.replicate (ld.slots - env.length - ds.length) none))) else .st
def ioT (T : Tb) (f : Nat) : Bool := match T.fd f with | some fd => fd.io | none => false
/-- the table's defs, d calls deep -/
def clOf (T : Tb) : Nat → Cl
  | 0 => ⟨fun _ _ => .st, ioT T, fun _ _ _ => .st, T.sub, T.N⟩
  | d + 1 => ⟨fun f ds => match T.fd f with | some fd => runF (clOf T d) fd ds | none => .st, ioT T,
      fun k env ds => match T.ld k with | some ld => runL (clOf T d) ld env ds | none => .st, T.sub, T.N⟩
def evCall (T : Tb) (d f : Nat) (ds : List D) : CR := (clOf T d).run f ds
end Py

/-! Soundness of the pure evaluator over HandS: what data is in the heap. -/
namespace Py
open PySem PySem.Spec PyProof.Rows L2

abbrev St := L2.St
/-- a def's frame: the heap at its entry, what is kept from it, the place that it may change, where the text's defs stand -/
structure Kx where
  K : PySem.W.Frag
  FA : Nat → Option Addr
  CA : Nat → Option Addr
  CF : Nat → Str
structure Ax where
  g : Kx
  H0 : Hp
  B : Addr → Prop
  io : Option Addr
def KL (K : PySem.W.Frag) (a : Addr) (xs : List V) : Prop :=
  ∃ (o : Obj) (its : Array Value) (n : Nat), K.lookup a = some o ∧ o.cls = .type "list" ∧ o.dict = none ∧ o.data = .seq its n ∧ its.size ≤ sizeLine ∧ Vals xs its.toList
def KT (K : PySem.W.Frag) (a : Addr) (xs : List V) : Prop :=
  ∃ (o : Obj) (its : Array Value) (n : Nat), K.lookup a = some o ∧ o.cls = .type "tuple" ∧ o.data = .seq its n ∧ its.size ≤ sizeLine ∧ Vals xs its.toList
def LAt (K : PySem.W.Frag) (W : Addr → Prop) (H : Hp) (a : Addr) (xs : List V) : Prop := (¬ W a ∧ Rd H a (.lst xs)) ∨ KL K a xs
def TAt (K : PySem.W.Frag) (W : Addr → Prop) (H : Hp) (a : Addr) (xs : List V) : Prop := (¬ W a ∧ Rd H a (.tup xs)) ∨ KT K a xs
def okS (s : List Nat) : Prop := s.length ≤ sz ∧ ∀ c, c ∈ s → c < 1114112
section
variable (G : Kx)
mutual
/-- the value v bears the data d; nothing of it lies at the places W -/
def Rep (W : Addr → Prop) (H : Hp) : D → V → Prop
  | .non, v => v = .non
  | .bl b, v => v = .bl b
  | .int i, v => v = .int i
  | .str s, v => v = .str ⟨s.toArray⟩ ∧ okS s
  | .tup l, v => ∃ a xs, v = .ref a ∧ TAt G.K W H a xs ∧ Reps W H l xs
  | .lst l, v => ∃ a xs, v = .ref a ∧ (¬ W a ∧ H a = some (.lst xs)) ∧ Reps W H l xs
  | .scr l, v => ∃ a xs, v = .ref a ∧ LAt G.K W H a xs ∧ Reps W H l xs
  | .fn f, v => ∃ a, G.FA f = some a ∧ v = .ref a
  | _, _ => False
def Reps (W : Addr → Prop) (H : Hp) : List D → List V → Prop
  | [], vs => vs = []
  | d :: l, vs => ∃ v r, vs = v :: r ∧ Rep W H d v ∧ Reps W H l r
end
/-- the data d stands at the place a, its parts elsewhere -/
def OwnR (W : Addr → Prop) (H : Hp) (d : D) (a : Addr) : Prop := match d with
  | .lst l => ∃ xs, H a = some (.lst xs) ∧ Reps G W H l xs
  | _ => False
end
section
variable (A : Ax)
def SlotR (W : Addr → Prop) (H : Hp) : Fl → D → V → Prop
  | .shr, d, v => Rep A.g W H d v
  | .own, d, v => ∃ a, v = .ref a ∧ W a ∧ A.H0 a = none ∧ OwnR A.g W H d a
  | .io, d, v => ∃ a, v = .ref a ∧ A.io = some a ∧ W a ∧ OwnR A.g W H d a
/-- the state: the slots' values bear the environment -/
structure SI (W : Addr → Prop) (H : Hp) (σ : St) (ρ : Env) : Prop where
  len : ρ.length = σ.length
  slot : ∀ i fl d, get ρ i = some (fl, d) → ∃ v, σ[i]? = some (some v) ∧ SlotR A W H fl d v
  dist : ∀ i j fl d fl' d' a, get ρ i = some (fl, d) → get ρ j = some (fl', d') → fl ≠ .shr → fl' ≠ .shr → σ[i]? = some (some (.ref a)) → σ[j]? = some (some (.ref a)) → i = j
  bw : ∀ a, A.B a → W a
  b0 : ∀ a, A.B a → A.H0 a ≠ none
  base : ∀ a o, A.H0 a = some o → A.io ≠ some a → H a = some o
  iok : ∀ a, A.io = some a → ∃ o, H a = some o
  wt : ∀ a, W a → ∃ o, H a = some o
  ioB : ∀ a, A.io = some a → A.B a
end
def Ext (H H' : Hp) : Prop := ∀ a o, H a = some o → H' a = some o
theorem Ext.refl (H : Hp) : Ext H H := fun _ _ h => h
theorem Ext.trans {H H1 H2 : Hp} (a : Ext H H1) (b : Ext H1 H2) : Ext H H2 := fun x o h => b x o (a x o h)
theorem Ext.new {H : Hp} {p : Addr} {o : HO} (h : H p = none) : Ext H (upd H p o) := fun a u e => by
  rw [upd_ne (ne_of_none e h)]; exact e
def Wp (W : Addr → Prop) (p : Addr) : Addr → Prop := fun a => W a ∨ a = p
/-- what is not at W, stays and does not come to W -/
def Kp (W : Addr → Prop) (H : Hp) (W' : Addr → Prop) (H' : Hp) : Prop := ∀ a o, ¬ W a → H a = some o → ¬ W' a ∧ H' a = some o
theorem Kp.refl (W : Addr → Prop) (H : Hp) : Kp W H W H := fun _ _ n h => ⟨n, h⟩
theorem Kp.trans {W W1 W2 : Addr → Prop} {H H1 H2 : Hp} (a : Kp W H W1 H1) (b : Kp W1 H1 W2 H2) : Kp W H W2 H2 := fun x o n h => let ⟨n1, h1⟩ := a x o n h; b x o n1 h1
theorem Kp.rd {W W' : Addr → Prop} {H H' : Hp} (k : Kp W H W' H') {a : Addr} {u : HO} (n : ¬ W a) (r : Rd H a u) : ¬ W' a ∧ Rd H' a u := by
  rcases r with h | ⟨o, h⟩
  · obtain ⟨n1, h1⟩ := k a _ n h
    exact ⟨n1, .inl h1⟩
  · obtain ⟨n1, h1⟩ := k a _ n h
    exact ⟨n1, .inr ⟨o, h1⟩⟩
section
variable {G : Kx} {W W' : Addr → Prop} {H H' : Hp}
theorem LAt.kp (k : Kp W H W' H') {a : Addr} {xs : List V} (h : LAt G.K W H a xs) : LAt G.K W' H' a xs := by
  rcases h with ⟨n, r⟩ | h
  · exact .inl (k.rd n r)
  · exact .inr h
theorem TAt.kp (k : Kp W H W' H') {a : Addr} {xs : List V} (h : TAt G.K W H a xs) : TAt G.K W' H' a xs := by
  rcases h with ⟨n, r⟩ | h
  · exact .inl (k.rd n r)
  · exact .inr h
theorem LAt.sq {a : Addr} {xs : List V} (h : LAt G.K W H a xs) : SqL G.K H a xs := by
  rcases h with ⟨n, r⟩ | h
  · exact .inl r
  · exact .inr h
theorem TAt.sq {a : Addr} {xs : List V} (h : TAt G.K W H a xs) : SqT G.K H a xs := by
  rcases h with ⟨n, r⟩ | h
  · exact .inl r
  · exact .inr h
mutual
theorem Rep.kp (k : Kp W H W' H') : ∀ (d : D) (v : V), Rep G W H d v → Rep G W' H' d v
  | .non, v, h => h
  | .bl b, v, h => h
  | .int i, v, h => h
  | .str s, v, h => h
  | .tup l, v, h => by
    simp only [Rep] at h ⊢
    obtain ⟨a, xs, e, t, r⟩ := h
    exact ⟨a, xs, e, t.kp k, Reps.kp k l xs r⟩
  | .lst l, v, h => by
    simp only [Rep] at h ⊢
    obtain ⟨a, xs, e, t, r⟩ := h
    exact ⟨a, xs, e, k a _ t.1 t.2, Reps.kp k l xs r⟩
  | .scr l, v, h => by
    simp only [Rep] at h ⊢
    obtain ⟨a, xs, e, t, r⟩ := h
    exact ⟨a, xs, e, t.kp k, Reps.kp k l xs r⟩
  | .fn f, v, h => h
  | .rng lo hi st, v, h => by simp only [Rep] at h
  | .dct l, v, h => by simp only [Rep] at h
  | .set l, v, h => by simp only [Rep] at h
  | .itr l, v, h => by simp only [Rep] at h
  | .exc c l, v, h => by simp only [Rep] at h
  | .clo c l, v, h => by simp only [Rep] at h
theorem Reps.kp (k : Kp W H W' H') : ∀ (l : List D) (vs : List V), Reps G W H l vs → Reps G W' H' l vs
  | [], vs, h => h
  | d :: l, vs, h => by
    simp only [Reps] at h ⊢
    obtain ⟨v, r, e, h1, h2⟩ := h
    exact ⟨v, r, e, Rep.kp k d v h1, Reps.kp k l r h2⟩
end
theorem Reps.length : ∀ {l : List D} {vs : List V}, Reps G W H l vs → l.length = vs.length
  | [], vs, h => by simp only [Reps] at h; subst h; rfl
  | d :: l, vs, h => by
    simp only [Reps] at h
    obtain ⟨v, r, rfl, h1, h2⟩ := h
    simp [Reps.length h2]
theorem Reps.nil : Reps G W H [] [] := by simp [Reps]
theorem Reps.cons {d : D} {v : V} {l : List D} {vs : List V} (a : Rep G W H d v) (b : Reps G W H l vs) : Reps G W H (d :: l) (v :: vs) := by
  simp only [Reps]; exact ⟨v, vs, rfl, a, b⟩
theorem Reps.append : ∀ {l m : List D} {vs ws : List V}, Reps G W H l vs → Reps G W H m ws → Reps G W H (l ++ m) (vs ++ ws)
  | [], m, vs, ws, h, g => by simp only [Reps] at h; subst h; exact g
  | d :: l, m, vs, ws, h, g => by
    simp only [Reps] at h
    obtain ⟨v, r, rfl, h1, h2⟩ := h
    exact Reps.cons h1 (Reps.append h2 g)
theorem Reps.take : ∀ (n : Nat) {l : List D} {vs : List V}, Reps G W H l vs → Reps G W H (l.take n) (vs.take n)
  | 0, l, vs, h => by simpa using Reps.nil
  | n + 1, [], vs, h => by simp only [Reps] at h; subst h; simpa using Reps.nil
  | n + 1, d :: l, vs, h => by
    simp only [Reps] at h
    obtain ⟨v, r, rfl, h1, h2⟩ := h
    exact Reps.cons h1 (Reps.take n h2)
theorem Reps.drop : ∀ (n : Nat) {l : List D} {vs : List V}, Reps G W H l vs → Reps G W H (l.drop n) (vs.drop n)
  | 0, l, vs, h => h
  | n + 1, [], vs, h => by simp only [Reps] at h; subst h; simpa using Reps.nil
  | n + 1, d :: l, vs, h => by
    simp only [Reps] at h
    obtain ⟨v, r, rfl, h1, h2⟩ := h
    exact Reps.drop n h2
theorem Reps.reverse {l : List D} {vs : List V} (h : Reps G W H l vs) : Reps G W H l.reverse vs.reverse := by
  induction l generalizing vs with
  | nil => simp only [Reps] at h; subst h; simpa using Reps.nil
  | cons d l ih =>
    simp only [Reps] at h
    obtain ⟨v, r, rfl, h1, h2⟩ := h
    rw [List.reverse_cons, List.reverse_cons]
    exact (ih h2).append (Reps.cons h1 Reps.nil)
theorem Reps.rep {l : List D} {vs : List V} (h : Reps G W H l vs) : ∀ n : Nat, Reps G W H (repL l n) (List.replicate n vs).flatten
  | 0 => by simpa [repL] using Reps.nil
  | n + 1 => by
    rw [List.replicate_succ, List.flatten_cons]
    exact h.append (Reps.rep h n)
theorem Reps.get : ∀ {l : List D} {vs : List V} {i : Nat} {d : D}, Reps G W H l vs → l[i]? = some d → ∃ v, vs[i]? = some v ∧ Rep G W H d v
  | [], vs, i, d, h, e => by simp at e
  | c :: l, vs, i, d, h, e => by
    simp only [Reps] at h
    obtain ⟨v, r, rfl, h1, h2⟩ := h
    cases i with
    | zero => simp at e; subst e; exact ⟨v, by simp, h1⟩
    | succ i => 
      obtain ⟨w, e1, h3⟩ := Reps.get (i := i) h2 (by simpa using e)
      exact ⟨w, by simpa using e1, h3⟩
theorem Reps.set {d : D} {v : V} (g : Rep G W H d v) : ∀ {l : List D} {vs : List V} (i : Nat), Reps G W H l vs → Reps G W H (l.set i d) (vs.set i v)
  | [], vs, i, h => by simp only [Reps] at h; subst h; simpa using Reps.nil
  | c :: l, vs, i, h => by
    simp only [Reps] at h
    obtain ⟨w, r, rfl, h1, h2⟩ := h
    cases i with
    | zero => exact Reps.cons g h2
    | succ i => exact Reps.cons h1 (Reps.set g i h2)
theorem Reps.eraseIdx : ∀ {l : List D} {vs : List V} (i : Nat), Reps G W H l vs → Reps G W H (l.eraseIdx i) (vs.eraseIdx i)
  | [], vs, i, h => by simp only [Reps] at h; subst h; simpa using Reps.nil
  | c :: l, vs, i, h => by
    simp only [Reps] at h
    obtain ⟨w, r, rfl, h1, h2⟩ := h
    cases i with
    | zero => exact h2
    | succ i => exact Reps.cons h1 (Reps.eraseIdx i h2)
theorem Reps.inv_cons {d : D} {l : List D} {vs : List V} (h : Reps G W H (d :: l) vs) : ∃ v r, vs = v :: r ∧ Rep G W H d v ∧ Reps G W H l r := by
  simpa only [Reps] using h
theorem Reps.inv_nil {vs : List V} (h : Reps G W H [] vs) : vs = [] := by simpa only [Reps] using h
theorem OwnR.kp (k : Kp W H W' H') {d : D} {a : Addr} (e : ∀ o, H a = some o → H' a = some o) (h : OwnR G W H d a) : OwnR G W' H' d a := by
  unfold OwnR at h ⊢
  cases d <;> try exact h
  obtain ⟨xs, h1, h2⟩ := h
  exact ⟨xs, e _ h1, h2.kp k⟩
theorem OwnR.some {d : D} {a : Addr} (h : OwnR G W H d a) : ∃ o, H a = some o ∧ Mut (some o) := by
  unfold OwnR at h
  cases d <;> try exact h.elim
  obtain ⟨xs, h1, h2⟩ := h
  exact ⟨_, h1, trivial⟩
/-- what is looked at: its parts are not at W -/
def TopR (G : Kx) (W : Addr → Prop) (H : Hp) (d : D) (v : V) : Prop := match d with
  | .lst l => ∃ a xs, v = .ref a ∧ H a = some (.lst xs) ∧ Reps G W H l xs
  | d => Rep G W H d v
theorem Rep.top {d : D} {v : V} (h : Rep G W H d v) : TopR G W H d v := by
  unfold TopR
  cases d <;> try exact h
  simp only [Rep] at h
  obtain ⟨a, xs, e, t, r⟩ := h
  exact ⟨a, xs, e, t.2, r⟩
theorem OwnR.top {d : D} {a : Addr} (h : OwnR G W H d a) : TopR G W H d (.ref a) := by
  unfold OwnR at h
  unfold TopR
  cases d <;> try exact h.elim
  obtain ⟨xs, h1, h2⟩ := h
  exact ⟨a, xs, rfl, h1, h2⟩
end
section
variable {A : Ax} {W W' : Addr → Prop} {H H' : Hp}
theorem SlotR.top {fl : Fl} {d : D} {v : V} (h : SlotR A W H fl d v) : TopR A.g W H d v := by
  cases fl with
  | shr => exact Rep.top h
  | own => obtain ⟨a, rfl, _, _, h⟩ := h; exact h.top
  | io => obtain ⟨a, rfl, _, _, h⟩ := h; exact h.top
end

/-! ### environments -/
theorem get_put_same : ∀ {ρ : Env} {i : Nat} {c : Cell}, i < ρ.length → get (put ρ i c) i = c
  | [], i, c, h => by simp at h
  | a :: ρ, 0, c, h => rfl
  | a :: ρ, i + 1, c, h => get_put_same (ρ := ρ) (by simpa using h)
theorem get_put_ne : ∀ {ρ : Env} {i j : Nat} {c : Cell}, j ≠ i → get (put ρ i c) j = get ρ j
  | [], i, j, c, h => rfl
  | a :: ρ, 0, 0, c, h => absurd rfl h
  | a :: ρ, 0, j + 1, c, h => rfl
  | a :: ρ, i + 1, 0, c, h => rfl
  | a :: ρ, i + 1, j + 1, c, h => get_put_ne (ρ := ρ) (by omega)
theorem put_length : ∀ {ρ : Env} {i : Nat} {c : Cell}, (put ρ i c).length = ρ.length
  | [], i, c => rfl
  | a :: ρ, 0, c => rfl
  | a :: ρ, i + 1, c => by simp [put, put_length (ρ := ρ)]
theorem get_lt : ∀ {ρ : Env} {i : Nat} {x : Fl × D}, get ρ i = some x → i < ρ.length
  | [], i, x, h => by simp [get] at h
  | a :: ρ, 0, x, h => by simp
  | a :: ρ, i + 1, x, h => by simpa using get_lt (ρ := ρ) h
theorem get_put {ρ : Env} {i j : Nat} {c : Cell} (h : i < ρ.length) : get (put ρ i c) j = if j = i then c else get ρ j := by
  by_cases e : j = i
  · subst e; rw [if_pos rfl, get_put_same h]
  · rw [if_neg e, get_put_ne e]

/-! ### frames -/
/-- an expression's effect: what is not changed stays; the names that may be changed are told by mu -/
structure Frm (mu : Nat → Bool) (σ : St) (W : Addr → Prop) (H : Hp) (ρ : Env) (W' : Addr → Prop) (H' : Hp) (ρ' : Env) : Prop where
  hp : ∀ a o, H a = some o → (∀ j fl d, mu j = true → get ρ j = some (fl, d) → fl ≠ .shr → σ[j]? ≠ some (some (.ref a))) → H' a = some o
  so : ∀ a o, H a = some o → ∃ o', H' a = some o'
  ww : ∀ a, W' a → W a ∨ H a = none
  wl : ∀ a, W a → (∀ j fl d, get ρ j = some (fl, d) → fl ≠ .shr → σ[j]? ≠ some (some (.ref a))) → W' a
  fl : ∀ j fl d, get ρ' j = some (fl, d) → fl ≠ .shr → ∃ d0, get ρ j = some (fl, d0)
  same : ∀ j fl d, mu j = false → get ρ j = some (fl, d) → ∃ fl', get ρ' j = some (fl', d)
section
variable {A : Ax} {mu mu' mu2 : Nat → Bool} {σ : St} {W W' W1 W2 : Addr → Prop} {H H' H1 H2 : Hp} {ρ ρ' ρ1 ρ2 : Env}
theorem Frm.refl : Frm mu σ W H ρ W H ρ := ⟨fun _ _ h _ => h, fun _ _ h => ⟨_, h⟩, fun _ h => .inl h, fun _ w _ => w, fun _ _ d h _ => ⟨d, h⟩, fun _ fl _ _ h => ⟨fl, h⟩⟩
theorem Frm.trans (a : Frm mu σ W H ρ W1 H1 ρ1) (b : Frm mu2 σ W1 H1 ρ1 W2 H2 ρ2) (h1 : ∀ j, mu j = true → mu' j = true) (h2 : ∀ j, mu2 j = true → mu' j = true) : Frm mu' σ W H ρ W2 H2 ρ2 where
  hp := fun x o h k => b.hp x o (a.hp x o h fun j fl d m => k j fl d (h1 j m)) fun j fl d m g n => by
    obtain ⟨d0, g0⟩ := a.fl j fl d g n
    exact k j fl d0 (h2 j m) g0 n
  so := fun x o h => by
    obtain ⟨o1, q⟩ := a.so x o h
    exact b.so x o1 q
  ww := fun x w => by
    rcases b.ww x w with w | n
    · exact a.ww x w
    · refine .inr ?_
      cases q : H x with
      | none => rfl
      | some o =>
        obtain ⟨o1, q1⟩ := a.so x o q
        rw [n] at q1; cases q1
  wl := fun x w k => b.wl x (a.wl x w k) fun j fl d g n => by
    obtain ⟨d0, g0⟩ := a.fl j fl d g n
    exact k j fl d0 g0 n
  fl := fun j fl d g n => by
    obtain ⟨d0, g0⟩ := b.fl j fl d g n
    exact a.fl j fl d0 g0 n
  same := fun j fl d m g => by
    have m1 : mu j = false := by
      cases q : mu j with
      | false => rfl
      | true => rw [h1 j q] at m; cases m
    have m2 : mu2 j = false := by
      cases q : mu2 j with
      | false => rfl
      | true => rw [h2 j q] at m; cases m
    obtain ⟨fl1, g1⟩ := a.same j fl d m1 g
    exact b.same j fl1 d m2 g1
theorem Frm.mono (a : Frm mu σ W H ρ W1 H1 ρ1) (h1 : ∀ j, mu j = true → mu' j = true) : Frm mu' σ W H ρ W1 H1 ρ1 := a.trans (mu2 := mu) Frm.refl h1 h1
/-- only new things were made -/
theorem Frm.ext (e : Ext H H1) (w : ∀ a, W1 a → W a ∨ H a = none) (w1 : ∀ a, W a → W1 a) : Frm mu σ W H ρ W1 H1 ρ := ⟨fun a o h _ => e a o h, fun a o h => ⟨o, e a o h⟩, w, fun a q _ => w1 a q, fun _ _ d h _ => ⟨d, h⟩, fun _ fl _ _ h => ⟨fl, h⟩⟩
theorem Frm.kp (f : Frm mu σ W H ρ W1 H1 ρ1) (S : SI A W H σ ρ) : Kp W H W1 H1 := fun a o n h => by
  refine ⟨fun w => ?_, f.hp a o h fun j fl d m g ns e => ?_⟩
  · rcases f.ww a w with w | w
    · exact n w
    · rw [h] at w; cases w
  · obtain ⟨v, e1, r⟩ := S.slot j fl d g
    rw [e] at e1; cases e1
    cases fl with
    | shr => exact ns rfl
    | own => obtain ⟨b, e2, w, _⟩ := r; cases e2; exact n w
    | io => obtain ⟨b, e2, _, w, _⟩ := r; cases e2; exact n w

theorem SlotR.kp (k : Kp W H W' H') (ww : ∀ a, W a → W' a) {fl : Fl} {d : D} {v : V} (e : ∀ a o, fl ≠ .shr → v = .ref a → H a = some o → H' a = some o) (h : SlotR A W H fl d v) : SlotR A W' H' fl d v := by
  cases fl with
  | shr => exact Rep.kp k d v h
  | own => obtain ⟨a, rfl, w, n, h⟩ := h; exact ⟨a, rfl, ww a w, n, h.kp k fun o q => e a o (by decide) rfl q⟩
  | io => obtain ⟨a, rfl, n, w, h⟩ := h; exact ⟨a, rfl, n, ww a w, h.kp k fun o q => e a o (by decide) rfl q⟩
/-- only new things -/
theorem SI.ext (S : SI A W H σ ρ) (e : Ext H H') (w1 : ∀ a, W a → W' a) (w2 : ∀ a, W' a → W a ∨ H a = none) (w3 : ∀ a, W' a → ∃ o, H' a = some o) : SI A W' H' σ ρ := by
  have k : Kp W H W' H' := fun a o n h => ⟨fun w => (w2 a w).elim n (fun q => by rw [h] at q; cases q), e a o h⟩
  exact ⟨S.len, fun i fl d g => let ⟨v, e1, r⟩ := S.slot i fl d g; ⟨v, e1, r.kp k w1 fun a o _ _ q => e a o q⟩, S.dist, fun a b => w1 a (S.bw a b), S.b0, fun a o h n => e a o (S.base a o h n), fun a h => let ⟨o, q⟩ := S.iok a h; ⟨o, e a o q⟩, w3, S.ioB⟩
theorem SI.ext' (S : SI A W H σ ρ) (e : Ext H H') : SI A W H' σ ρ := S.ext e (fun _ h => h) (fun _ h => .inl h) fun a h => let ⟨o, q⟩ := S.wt a h; ⟨o, e a o q⟩
theorem SI.new {p : Addr} (S : SI A W H σ ρ) (e : Ext H H') (hp : H p = none) (hp' : ∃ o, H' p = some o) : SI A (Wp W p) H' σ ρ := S.ext e (fun _ h => .inl h) (fun a h => h.elim .inl fun q => by subst q; exact .inr hp) fun a h => h.elim (fun h => let ⟨o, q⟩ := S.wt a h; ⟨o, e a o q⟩) fun q => by subst q; exact hp'
theorem Kp.ext (e : Ext H H') : Kp W H W H' := fun a o n h => ⟨n, e a o h⟩
theorem Kp.new {p : Addr} (e : Ext H H') (hp : H p = none) : Kp W H (Wp W p) H' := fun a o n h => ⟨fun w => w.elim n (fun q => by subst q; rw [hp] at h; cases h), e a o h⟩
/-- the empty heap holds nothing at what the entry lacks -/
theorem SI.h0 (S : SI A W H σ ρ) {p : Addr} (h : H p = none) : A.H0 p = none := by
  cases q : A.H0 p with
  | none => rfl
  | some o =>
    by_cases hi : A.io = some p
    · obtain ⟨o, q⟩ := S.iok p hi; rw [h] at q; cases q
    · rw [S.base p o q hi] at h; cases h
theorem SI.top (S : SI A W H σ ρ) {i : Nat} {fl : Fl} {d : D} (g : get ρ i = some (fl, d)) : ∃ v, σ[i]? = some (some v) ∧ TopR A.g W H d v := by
  obtain ⟨v, e, r⟩ := S.slot i fl d g
  exact ⟨v, e, r.top⟩
/-- what an expression gives -/
def RR (A : Ax) (Hs : Hp) (W : Addr → Prop) (H : Hp) (σ : St) (ρ : Env) (x : RV) (v : V) : Prop := if x.1 = true then
    ∃ p, v = .ref p ∧ Hs p = none ∧ W p ∧ A.H0 p = none ∧ OwnR A.g W H x.2 p ∧ ∀ j fl d, get ρ j = some (fl, d) → fl ≠ .shr → σ[j]? ≠ some (some (.ref p))
  else Rep A.g W H x.2 v
theorem OwnR.rep {d : D} {p : Addr} (h : OwnR A.g W H d p) (k : Kp W H W' H) (n : ¬ W' p) : Rep A.g W' H d (.ref p) := by
  unfold OwnR at h
  cases d <;> try exact h.elim
  obtain ⟨xs, h1, h2⟩ := h
  simp only [Rep]
  exact ⟨p, xs, rfl, ⟨n, h1⟩, h2.kp k⟩
def Wm (W : Addr → Prop) (p : Addr) : Addr → Prop := fun a => W a ∧ a ≠ p
theorem Kp.less {p : Addr} : Kp W H (Wm W p) H := fun a o n h => ⟨fun w => n w.1, h⟩
/-- p is no longer one's own -/
theorem SI.less (S : SI A W H σ ρ) {p : Addr} (h0 : A.H0 p = none) (np : ∀ j fl d, get ρ j = some (fl, d) → fl ≠ .shr → σ[j]? ≠ some (some (.ref p))) : SI A (Wm W p) H σ ρ := by
  refine ⟨S.len, fun i fl d g => ?_, S.dist, fun a b => ⟨S.bw a b, fun q => by subst q; exact S.b0 _ b h0⟩, S.b0, S.base, S.iok, fun a q => S.wt a q.1, S.ioB⟩
  obtain ⟨v, e, r⟩ := S.slot i fl d g
  refine ⟨v, e, ?_⟩
  cases fl with
  | shr => exact Rep.kp Kp.less d v r
  | own => 
    obtain ⟨a, rfl, w, n, h⟩ := r
    exact ⟨a, rfl, ⟨w, fun q => by subst q; exact np i .own d g (by decide) e⟩, n, h.kp Kp.less fun _ q => q⟩
  | io => 
    obtain ⟨a, rfl, n, w, h⟩ := r
    exact ⟨a, rfl, n, ⟨w, fun q => by subst q; exact np i .io d g (by decide) e⟩, h.kp Kp.less fun _ q => q⟩
/-- a value as a shared one -/
theorem RR.shr {Hs : Hp} {x : RV} {v : V} (S : SI A W H σ ρ) (h : RR A Hs W H σ ρ x v) : ∃ W', SI A W' H σ ρ ∧ Kp W H W' H ∧ (∀ a, W' a → W a) ∧ (∀ a, W a → Hs a ≠ none → W' a) ∧ Rep A.g W' H x.2 v := by
  unfold RR at h
  split at h
  · obtain ⟨p, rfl, hs, w, n, o, np⟩ := h
    exact ⟨Wm W p, S.less n np, Kp.less, fun a q => q.1, fun a q nn => ⟨q, fun z => nn (by rw [z]; exact hs)⟩, o.rep Kp.less fun q => q.2 rfl⟩
  · exact ⟨W, S, Kp.refl W H, fun _ q => q, fun _ q _ => q, h⟩
theorem RR.rep {Hs : Hp} {d : D} {v : V} (h : Rep A.g W H d v) : RR A Hs W H σ ρ (false, d) v := h
theorem RR.back {Hs Hr : Hp} {x : RV} {v : V} (f : ∀ a o, Hr a = some o → ∃ o', Hs a = some o') (h : RR A Hs W H σ ρ x v) : RR A Hr W H σ ρ x v := by
  unfold RR at h ⊢
  by_cases hx : x.1 = true
  · rw [if_pos hx] at h ⊢
    obtain ⟨p, e, hs, r⟩ := h
    refine ⟨p, e, ?_, r⟩
    cases q : Hr p with
    | none => rfl
    | some o => obtain ⟨o', z⟩ := f p o q; rw [hs] at z; cases z
  · rw [if_neg hx] at h ⊢
    exact h
/-- names -/
theorem rdE_some {i : Nat} {x : RV} (h : rdE i ρ = .ok x ρ') : (get ρ i = some (.shr, x.2) ∧ ρ' = ρ ∨ get ρ i = some (.own, x.2) ∧ ρ' = put ρ i (some (.shr, x.2))) ∧ x.1 = false := by
  unfold rdE at h
  split at h
  · rename_i d g; cases h; exact ⟨.inl ⟨g, rfl⟩, rfl⟩
  · rename_i d g; cases h; exact ⟨.inr ⟨g, rfl⟩, rfl⟩
  · cases h
theorem SI.freeze (S : SI A W H σ ρ) {i : Nat} {d : D} (g : get ρ i = some (.own, d)) : ∃ v W', σ[i]? = some (some v) ∧ SI A W' H σ (put ρ i (some (.shr, d))) ∧ Rep A.g W' H d v ∧ Frm mu σ W H ρ W' H (put ρ i (some (.shr, d))) := by
  obtain ⟨v, e, p, rfl, w, n, o⟩ := S.slot i _ _ g
  have hi := get_lt g
  have gp : ∀ j fl d', get (put ρ i (some (.shr, d))) j = some (fl, d') → (j = i ∧ fl = .shr ∧ d' = d) ∨ (j ≠ i ∧ get ρ j = some (fl, d')) := fun j fl d' q => by
    rw [get_put hi] at q
    by_cases q2 : j = i
    · rw [if_pos q2] at q; cases q; exact .inl ⟨q2, rfl, rfl⟩
    · rw [if_neg q2] at q; exact .inr ⟨q2, q⟩
  have R : Rep A.g (Wm W p) H d (.ref p) := o.rep Kp.less fun q => q.2 rfl
  refine ⟨.ref p, Wm W p, e, ⟨by rw [put_length]; exact S.len, fun j fl d' q => ?_, fun j k fl d1 fl' d2 a g1 g2 n1 n2 => ?_, fun a b => ⟨S.bw a b, fun q => by subst q; exact S.b0 _ b n⟩, S.b0, S.base, S.iok, fun a q => S.wt a q.1, S.ioB⟩, R, ⟨fun a o h _ => h, fun a o h => ⟨o, h⟩, fun a h => .inl h.1, fun a w k => ⟨w, fun z => by subst z; exact k i .own d g (by decide) e⟩, fun j fl d' q ns => ?_, fun j fl d' _ q => ?_⟩⟩
  · rcases gp j fl d' q with ⟨rfl, rfl, rfl⟩ | ⟨hj, q⟩
    · exact ⟨_, e, R⟩
    · obtain ⟨v, e2, r⟩ := S.slot j fl d' q
      refine ⟨v, e2, ?_⟩
      cases fl with
      | shr => exact Rep.kp Kp.less d' v r
      | own => 
        obtain ⟨a, rfl, w, n, h⟩ := r
        exact ⟨a, rfl, ⟨w, fun z => by subst z; exact hj (S.dist j i _ _ _ _ _ q g (by decide) (by decide) e2 e)⟩, n, h.kp Kp.less fun _ q => q⟩
      | io => 
        obtain ⟨a, rfl, n, w, h⟩ := r
        exact ⟨a, rfl, n, ⟨w, fun z => by subst z; exact hj (S.dist j i _ _ _ _ _ q g (by decide) (by decide) e2 e)⟩, h.kp Kp.less fun _ q => q⟩
  · rcases gp j fl d1 g1 with ⟨_, rfl, _⟩ | ⟨_, g1⟩
    · exact absurd rfl n1
    · rcases gp k fl' d2 g2 with ⟨_, rfl, _⟩ | ⟨_, g2⟩
      · exact absurd rfl n2
      · exact S.dist j k fl d1 fl' d2 a g1 g2 n1 n2
  · rcases gp j fl d' q with ⟨_, rfl, _⟩ | ⟨_, q⟩
    · exact absurd rfl ns
    · exact ⟨d', q⟩
  · rw [get_put hi]
    by_cases q2 : j = i
    · subst q2; rw [if_pos rfl]; rw [g] at q; cases q; exact ⟨_, rfl⟩
    · rw [if_neg q2]; exact ⟨fl, q⟩
end
end Py

/-! What an expression's reading is, by the evaluator. -/
namespace Py
open PySem PySem.Spec PyProof.Rows L2

theorem M.bind_ok {α β : Type} {m : M α} {f : α → Env → M β} {y : β} {ρ : Env} (h : m.bind f = .ok y ρ) : ∃ x ρ1, m = .ok x ρ1 ∧ f x ρ1 = .ok y ρ := by
  cases m with
  | ok x ρ1 => exact ⟨x, ρ1, rfl, h⟩
  | ex c l ρ1 => cases h
  | st => cases h
/-- what is wanted of an exception -/
abbrev XW := Nat → List D → St → (Addr → Prop) → Hp → Env → Prop
/-- an outcome of the evaluator, and what is wanted behind it -/
def Ot {α : Type} (A : Ax) (xw : XW) (mu : Nat → Bool) (σ : St) (W : Addr → Prop) (H : Hp) (ρ : Env) (m : M α) (k : α → Env → (Addr → Prop) → Hp → Prop) : Prop :=
  (∃ x ρ', m = .ok x ρ' ∧ ∀ W' H', SI A W' H' σ ρ' → Frm mu σ W H ρ W' H' ρ' → k x ρ' W' H') ∨
  (∃ c l ρ', m = .ex c l ρ' ∧ ∀ W' H', SI A W' H' σ ρ' → Frm mu σ W H ρ W' H' ρ' → xw c l σ W' H' ρ')
section
variable {α β : Type} {A : Ax} {xw : XW} {mu mu1 mu2 : Nat → Bool} {σ : St} {W : Addr → Prop} {H : Hp} {ρ : Env} {m : M α} {k k' : α → Env → (Addr → Prop) → Hp → Prop}
theorem Ot.imp (h : Ot A xw mu σ W H ρ m k) (f : ∀ x ρ' W' H', SI A W' H' σ ρ' → Frm mu σ W H ρ W' H' ρ' → k x ρ' W' H' → k' x ρ' W' H') : Ot A xw mu σ W H ρ m k' := by
  rcases h with ⟨x, ρ', e, h⟩ | h
  · exact .inl ⟨x, ρ', e, fun W' H' S F => f x ρ' W' H' S F (h W' H' S F)⟩
  · exact .inr h
theorem Ot.bind {f : α → Env → M β} {k : β → Env → (Addr → Prop) → Hp → Prop} (h : Ot A xw mu σ W H ρ (m.bind f) k) (h1 : ∀ j, mu1 j = true → mu j = true) (h2 : ∀ j, mu2 j = true → mu j = true) :
    Ot A xw mu1 σ W H ρ m fun x ρ1 W1 H1 => Ot A xw mu2 σ W1 H1 ρ1 (f x ρ1) k := by
  cases m with
  | ok x ρ1 =>
    refine .inl ⟨x, ρ1, rfl, fun W1 H1 S1 F1 => ?_⟩
    rcases h with ⟨y, ρ', e, h⟩ | ⟨c, l, ρ', e, h⟩
    · exact .inl ⟨y, ρ', e, fun W' H' S F => h W' H' S (F1.trans F h1 h2)⟩
    · exact .inr ⟨c, l, ρ', e, fun W' H' S F => h W' H' S (F1.trans F h1 h2)⟩
  | ex c l ρ1 =>
    rcases h with ⟨y, ρ', e, h⟩ | ⟨c', l', ρ', e, h⟩
    · cases e
    · cases e
      exact .inr ⟨c, l, ρ1, rfl, fun W' H' S F => h W' H' S (F.mono h1)⟩
  | st =>
    rcases h with ⟨y, ρ', e, h⟩ | ⟨c', l', ρ', e, h⟩ <;> cases e
theorem Ot.ok {a : α} (h : Ot A xw mu σ W H ρ (.ok a ρ) k) {W' : Addr → Prop} {H' : Hp} (S : SI A W' H' σ ρ) (F : Frm mu σ W H ρ W' H' ρ) : k a ρ W' H' := by
  rcases h with ⟨x, ρ', e, h⟩ | ⟨c, l, ρ', e, h⟩
  · cases e; exact h W' H' S F
  · cases e
theorem Ot.ok' {a : α} {ρ' : Env} (h : Ot A xw mu σ W H ρ (.ok a ρ') k) {W' : Addr → Prop} {H' : Hp} (S : SI A W' H' σ ρ') (F : Frm mu σ W H ρ W' H' ρ') : k a ρ' W' H' := by
  rcases h with ⟨x, ρ2, e, h⟩ | ⟨c, l, ρ2, e, h⟩
  · cases e; exact h W' H' S F
  · cases e
theorem Ot.st {P : Prop} (h : Ot A xw mu σ W H ρ .st k) : P := by
  rcases h with ⟨x, ρ', e, h⟩ | ⟨c, l, ρ', e, h⟩ <;> cases e
/-- a new value or a value that was there -/
def NwR (G : Kx) (fr : Bool) (W : Addr → Prop) (H H' : Hp) (d : D) (v : V) : Prop := if fr = true then ∃ p, v = .ref p ∧ H p = none ∧ OwnR G (Wp W p) H' d p else Rep G W H' d v
abbrev NewR (G : Kx) (W : Addr → Prop) (H H' : Hp) (d : D) (v : V) : Prop := NwR G (isNew d) W H H' d v
theorem NwR.rr {fr : Bool} {d : D} {v : V} {H' : Hp} (S : SI A W H σ ρ) (e : Ext H H') (h : NwR A.g fr W H H' d v) : ∃ W', SI A W' H' σ ρ ∧ Frm mu σ W H ρ W' H' ρ ∧ RR A H W' H' σ ρ (fr, d) v := by
  unfold NwR at h
  split at h
  · rename_i hd
    obtain ⟨p, rfl, hp, o⟩ := h
    refine ⟨Wp W p, S.new e hp (let ⟨o, q, _⟩ := o.some; ⟨o, q⟩), Frm.ext e (fun a w => w.elim .inl fun q => by subst q; exact .inr hp) (fun _ w => .inl w), ?_⟩
    unfold RR
    rw [if_pos (show (fr, d).1 = true from hd)]
    refine ⟨p, rfl, hp, .inr rfl, S.h0 hp, o, fun j fl d' g n q => ?_⟩
    obtain ⟨v, e1, r⟩ := S.slot j fl d' g
    rw [q] at e1; cases e1
    cases fl with
    | shr => exact n rfl
    | own => obtain ⟨a, z, _, _, o⟩ := r; cases z; obtain ⟨o', q, _⟩ := o.some; rw [hp] at q; cases q
    | io => obtain ⟨a, z, _, _, o⟩ := r; cases z; obtain ⟨o', q, _⟩ := o.some; rw [hp] at q; cases q
  · rename_i hd
    refine ⟨W, S.ext' e, Frm.ext e (fun a w => .inl w) (fun _ w => w), ?_⟩
    unfold RR
    rw [if_neg (show ¬ (fr, d).1 = true from hd)]
    exact h
theorem Ot.fin {o : Option D} {k : RV → Env → (Addr → Prop) → Hp → Prop} (h : Ot A xw mu σ W H ρ (fin ρ o) k) : ∃ d, o = some d ∧ ∀ W' H', SI A W' H' σ ρ → Frm mu σ W H ρ W' H' ρ → k (isNew d, d) ρ W' H' := by
  cases o with
  | none => exact Ot.st h
  | some d => exact ⟨d, rfl, fun W' H' S F => Ot.ok h S F⟩
theorem Ot.finS {o : Option D} {k : RV → Env → (Addr → Prop) → Hp → Prop} (h : Ot A xw mu σ W H ρ (finS ρ o) k) : ∃ d, o = some d ∧ ∀ W' H', SI A W' H' σ ρ → Frm mu σ W H ρ W' H' ρ → k (false, d) ρ W' H' := by
  cases o with
  | none => exact Ot.st h
  | some d => exact ⟨d, rfl, fun W' H' S F => Ot.ok h S F⟩
theorem Ot.finB {o : Option Bool} {k : RV → Env → (Addr → Prop) → Hp → Prop} (h : Ot A xw mu σ W H ρ (finB ρ o) k) : ∃ d, o = some d ∧ ∀ W' H', SI A W' H' σ ρ → Frm mu σ W H ρ W' H' ρ → k (false, .bl d) ρ W' H' := by
  cases o with
  | none => exact Ot.st h
  | some d => exact ⟨d, rfl, fun W' H' S F => Ot.ok h S F⟩
end

/-! ### readings -/
def tE (A : Ax) (xw : XW) (C : Cl) (t : E) : TE := fun σ H Q => ∃ W ρ, SI A W H σ ρ ∧ Ot A xw (fun j => muts j t) σ W H ρ (evE C t ρ) fun x ρ' W' H' => ∀ v, RR A H W' H' σ ρ' x v → Q v H'
/-- a value that was looked at: it is a name's, or it is shared -/
def PV (A : Ax) (t : E) (W : Addr → Prop) (H : Hp) (σ : St) (ρ : Env) (d : D) (v : V) : Prop := (∃ i fl, t = .var i ∧ σ[i]? = some (some v) ∧ get ρ i = some (fl, d)) ∨ Rep A.g W H d v
def tPk (A : Ax) (xw : XW) (C : Cl) (t : E) : TE := fun σ H Q => ∃ W ρ, SI A W H σ ρ ∧ Ot A xw (fun j => muts j t) σ W H ρ (pk t (evE C t) ρ) fun x ρ' W' H' => ∀ v, PV A t W' H' σ ρ' x.2 v → Q v H'
def tEs (A : Ax) (xw : XW) (C : Cl) (ts : List E) : TA := fun σ H Q => ∃ W ρ, SI A W H σ ρ ∧ Ot A xw (fun j => mutsL j ts) σ W H ρ (evEs C ts ρ) fun ds ρ' W' H' => ∀ vs, Reps A.g W' H' ds vs → Q vs H'
def TopRs (G : Kx) (W : Addr → Prop) (H : Hp) : List D → List V → Prop
  | [], vs => vs = []
  | d :: l, vs => ∃ v r, vs = v :: r ∧ TopR G W H d v ∧ TopRs G W H l r
def tPs (A : Ax) (xw : XW) (C : Cl) (ts : List E) : TA := fun σ H Q => ∃ W ρ, SI A W H σ ρ ∧ Ot A xw (fun j => mutsL j ts) σ W H ρ (evPs C ts ρ) fun ds ρ' W' H' => ∀ vs, TopRs A.g W' H' ds vs → Q vs H'
section
variable {X : Cx} {A : Ax} {xw : XW} {C : Cl} {e a b c : Expr} {t u : E} {pos : Pos}
theorem _root_.L2.PE.imp {t t' : TE} (h : PE X e t) (f : ∀ σ H Q, t' σ H Q → t σ H Q) : PE X e t' := ⟨fun pins s σ H Q I q => h.run pins s σ H Q I (f σ H Q q)⟩
theorem _root_.L2.PT.imp {t t' : TT} (h : PT X e t) (f : ∀ σ H Q, t' σ H Q → t σ H Q) : PT X e t' := ⟨fun pins s σ H Q I q => h.run pins s σ H Q I (f σ H Q q)⟩
theorem _root_.L2.PW.imp {t t' : TT} (h : PW X e t) (f : ∀ σ H Q, t' σ H Q → t σ H Q) : PW X e t' := ⟨fun whole pins s σ H Q I q => h.run whole pins s σ H Q I (f σ H Q q)⟩
theorem _root_.L2.PA.imp {es : List Expr} {t t' : TA} (h : PA X es t) (f : ∀ σ H Q, t' σ H Q → t σ H Q) : PA X es t' := ⟨fun pp pins s σ H Q I q => h.run pp pins s σ H Q I (f σ H Q q)⟩
theorem _root_.L2.PS.imp {st : Stmt} {t t' : TS} (h : PS X st t) (f : ∀ D σ H, t' D σ H → t D σ H) : PS X st t' := ⟨fun pins s σ H Q I q => h.run pins s σ H Q I (f Q σ H q)⟩
theorem _root_.L2.PSs.imp {st : List Stmt} {t t' : TS} (h : PSs X st t) (f : ∀ D σ H, t' D σ H → t D σ H) : PSs X st t' := ⟨fun pins s σ H Q I q => h.run pins s σ H Q I (f Q σ H q)⟩
theorem PV.top {W : Addr → Prop} {H : Hp} {σ : St} {ρ : Env} {d : D} {v : V} (S : SI A W H σ ρ) (h : PV A t W H σ ρ d v) : TopR A.g W H d v := by
  rcases h with ⟨i, fl, rfl, e, g⟩ | h
  · obtain ⟨w, e1, r⟩ := S.top g
    rw [e] at e1; cases e1; exact r
  · exact h.top
theorem PV.keep {W W' : Addr → Prop} {H H' : Hp} {σ : St} {ρ ρ' : Env} {mu : Nat → Bool} {d : D} {v : V} (S : SI A W H σ ρ) (F : Frm mu σ W H ρ W' H' ρ') (hm : ∀ i, t = .var i → mu i = false) (h : PV A t W H σ ρ d v) : PV A t W' H' σ ρ' d v := by
  rcases h with ⟨i, fl, rfl, e, g⟩ | h
  · obtain ⟨fl', g'⟩ := F.same i fl d (hm i rfl) g
    exact .inl ⟨i, fl', rfl, e, g'⟩
  · exact .inr (h.kp (F.kp S))
theorem pk_ok (h : pkOk t u = true) : ∀ i, t = .var i → muts i u = false := by
  rintro i rfl
  simpa [pkOk] using h
theorem or1 {p q : Nat → Bool} : ∀ j, p j = true → (p j || q j) = true := fun j h => by simp [h]
theorem or2 {p q : Nat → Bool} : ∀ j, q j = true → (p j || q j) = true := fun j h => by simp [h]

theorem Frm.cut {σ : St} {W W1 W2 : Addr → Prop} {H H1 : Hp} {ρ ρ1 : Env} {mu : Nat → Bool} (F : Frm mu σ W H ρ W1 H1 ρ1) (S : SI A W H σ ρ) (l2 : ∀ a, W2 a → W1 a) (l3 : ∀ a, W1 a → H a ≠ none → W2 a) : Frm mu σ W H ρ W2 H1 ρ1 :=
  ⟨F.hp, F.so, fun a w => F.ww a (l2 a w), fun a w k => l3 a (F.wl a w k) (by obtain ⟨o, q⟩ := S.wt a w; rw [q]; intro z; cases z), F.fl, F.same⟩

/-! ### names and constants -/
theorem pe_cst {d : D} {v : V} (h : PE X e (tC v)) (r : ∀ W H, Rep A.g W H d v) : PE X e (tE A xw C (.cst d)) := h.imp fun σ H Q ⟨W, ρ, S, o⟩ => Ot.ok o S Frm.refl v (RR.rep (r W H))
theorem pe_name {i : Nat} (h : PE X e (tVar i)) : PE X e (tE A xw C (.var i)) := h.imp fun σ H Q ⟨W, ρ, S, o⟩ => by
  have o : Ot A xw _ σ W H ρ (rdE i ρ) _ := o
  unfold rdE at o
  split at o
  · rename_i d g
    obtain ⟨v, e1, r⟩ := S.slot i _ _ g
    exact ⟨v, e1, Ot.ok o S Frm.refl v (RR.rep r)⟩
  · rename_i d g
    obtain ⟨v, W', e1, S', r, F⟩ := S.freeze (mu := fun j => muts j (.var i)) g
    exact ⟨v, e1, Ot.ok' o S' F v (RR.rep r)⟩
  · exact Ot.st o
/-- looked at -/
theorem pe_pk (h : PE X e (tE A xw C t)) (hv : ∀ i, t = .var i → PE X e (tVar i)) : PE X e (tPk A xw C t) := by
  by_cases hi : ∃ i, t = .var i
  · obtain ⟨i, rfl⟩ := hi
    refine (hv i rfl).imp fun σ H Q ⟨W, ρ, S, o⟩ => ?_
    have o : Ot A xw _ σ W H ρ (rdP i ρ) _ := o
    unfold rdP at o
    split at o
    · rename_i fl d g
      obtain ⟨v, e1, r⟩ := S.slot i _ _ g
      exact ⟨v, e1, Ot.ok o S Frm.refl v (.inl ⟨i, fl, rfl, e1, g⟩)⟩
    · exact Ot.st o
  · refine h.imp fun σ H Q ⟨W, ρ, S, o⟩ => ⟨W, ρ, S, ?_⟩
    have ep : pk t (evE C t) ρ = evE C t ρ := by
      cases t <;> first | rfl | exact absurd ⟨_, rfl⟩ hi
    rw [ep] at o
    rcases o with ⟨x, ρ', e1, o⟩ | o
    · refine .inl ⟨x, ρ', e1, fun W1 H1 S1 F1 v r => ?_⟩
      obtain ⟨W2, S2, K2, l2, l3, r2⟩ := r.shr S1
      exact o W2 H1 S2 (F1.cut S l2 l3) v (.inr r2)
    · exact .inr o
/-- as a shared value -/
theorem Ot.shr {Q : VK} {σ : St} {W : Addr → Prop} {H : Hp} {ρ : Env} {mu : Nat → Bool} {m : M RV} (S : SI A W H σ ρ) (o : Ot A xw mu σ W H ρ m fun x ρ' W' H' => ∀ v, Rep A.g W' H' x.2 v → Q v H') : Ot A xw mu σ W H ρ m fun x ρ' W' H' => ∀ v, RR A H W' H' σ ρ' x v → Q v H' := by
  rcases o with ⟨x, ρ', e1, o⟩ | o
  · refine .inl ⟨x, ρ', e1, fun W1 H1 S1 F1 v r => ?_⟩
    obtain ⟨W2, S2, K2, l2, l3, r2⟩ := r.shr S1
    exact o W2 H1 S2 (F1.cut S l2 l3) v r2
  · exact .inr o

theorem Ot.back {Q : VK} {σ : St} {W : Addr → Prop} {H Hr : Hp} {ρ : Env} {mu : Nat → Bool} {m : M RV} (f : ∀ a o, Hr a = some o → ∃ o', H a = some o') (o : Ot A xw mu σ W H ρ m fun x ρ' W' H' => ∀ v, RR A Hr W' H' σ ρ' x v → Q v H') : Ot A xw mu σ W H ρ m fun x ρ' W' H' => ∀ v, RR A H W' H' σ ρ' x v → Q v H' :=
  o.imp fun x ρ' W' H' _ _ h v r => h v (r.back f)
/-! ### operators -/
/-- an operator by values -/
def rBin (G : Kx) (op : Op) : R2 := fun x y H Q => ∃ (W : Addr → Prop) (dx dy d : D), (∀ a, W a → ∃ o, H a = some o) ∧ TopR G W H dx x ∧ TopR G W H dy y ∧ binD op dx dy = some d ∧ ∀ v H', Ext H H' → NewR G W H H' d v → Q v H'
def rCmp (G : Kx) (op : Cm) : R2 := fun x y H Q => ∃ W dx dy k, TopR G W H dx x ∧ TopR G W H dy y ∧ cmpD op dx dy = some k ∧ ∀ H', Ext H H' → Q (.bl k) H'
theorem pe_bin {op : Operator} {o : Op} (ho : OpR X (binaryOp op) (rBin A.g o)) (ha : PE X a (tPk A xw C t)) (hb : PE X b (tPk A xw C u)) (hp : pkOk t u = true) : PE X (.BinOp a op b pos) (tE A xw C (.bin o t u)) := by
  refine (pe_op ho ha hb).imp fun σ H Q ⟨W, ρ, S, h⟩ => ⟨W, ρ, S, ?_⟩
  have h := Ot.bind (mu1 := fun j => muts j t) (mu2 := fun j => muts j u) h or1 or2
  refine h.imp fun x ρ1 W1 H1 S1 F1 h v pv => ⟨W1, ρ1, S1, ?_⟩
  refine (Ot.bind (mu1 := fun j => muts j u) (mu2 := fun j => muts j u) h (fun _ z => z) fun _ z => z).imp fun y ρ2 W2 H2 S2 F2 h2 w pw => ?_
  obtain ⟨d, e, h2⟩ := Ot.fin h2
  refine ⟨W2, x.2, y.2, d, S2.wt, (pv.keep S1 F2 (pk_ok hp)).top S2, pw.top S2, e, fun z H' ex nw => ?_⟩
  obtain ⟨W', S', F', r⟩ := nw.rr (mu := fun j => muts j u) S2 ex
  exact h2 W' H' S' F' z (r.back fun a o q => by obtain ⟨o1, q1⟩ := F1.so a o q; exact F2.so a o1 q1)
theorem pe_cmpE {op : CmpOp} {o : Cm} (ho : OpR X (compareOp op) (rCmp A.g o)) (ha : PE X a (tPk A xw C t)) (hb : PE X b (tPk A xw C u)) (hm : behindInMarks op b = false) (hp : pkOk t u = true) : PE X (.Compare a [op] [b] pos) (tE A xw C (.cmp o t u)) := by
  refine (pe_cmpR ho ha hb hm).imp fun σ H Q ⟨W, ρ, S, h⟩ => ⟨W, ρ, S, ?_⟩
  have h := Ot.bind (mu1 := fun j => muts j t) (mu2 := fun j => muts j u) h or1 or2
  refine h.imp fun x ρ1 W1 H1 S1 F1 h v pv => ⟨W1, ρ1, S1, ?_⟩
  refine (Ot.bind (mu1 := fun j => muts j u) (mu2 := fun j => muts j u) h (fun _ z => z) fun _ z => z).imp fun y ρ2 W2 H2 S2 F2 h2 w pw => ?_
  obtain ⟨d, e, h2⟩ := Ot.finB h2
  exact ⟨W2, x.2, y.2, d, (pv.keep S1 F2 (pk_ok hp)).top S2, pw.top S2, e, fun H' ex => h2 W2 H' (S2.ext' ex) (Frm.ext ex (fun _ w => .inl w) fun _ w => w) _ rfl⟩
theorem pe_cmp2E {op op' : CmpOp} {o o' : Cm} {u' : E} (ho : OpR X (compareOp op) (rCmp A.g o)) (ho' : OpR X (compareOp op') (rCmp A.g o')) (ha : PE X a (tPk A xw C t)) (hb : PE X b (tPk A xw C u)) (hc : PE X c (tPk A xw C u')) (hm : lastMarks [op, op'] [b, c] = false) (hp : pkOk t u = true) (hp2 : pkOk u u' = true) :
    PE X (.Compare a [op, op'] [b, c] pos) (tE A xw C (.cmp2 o o' t u u')) := by
  refine (pe_chain ho ho' ha hb hc hm).imp fun σ H Q ⟨W, ρ, S, h⟩ => ⟨W, ρ, S, ?_⟩
  have h := Ot.bind (mu1 := fun j => muts j t) (mu2 := fun j => muts j u || muts j u') h (fun j q => by simp [muts, q]) (fun j q => by simp only [muts, Bool.or_eq_true] at q ⊢; rcases q with q | q <;> simp [q])
  refine h.imp fun x ρ1 W1 H1 S1 F1 h v pv => ⟨W1, ρ1, S1, ?_⟩
  refine (Ot.bind (mu1 := fun j => muts j u) (mu2 := fun j => muts j u') h or1 or2).imp fun y ρ2 W2 H2 S2 F2 h2 w pw => ?_
  have tx := (pv.keep S1 F2 (pk_ok hp)).top S2
  have ty := pw.top S2
  split at h2
  · rename_i e
    refine ⟨W2, x.2, y.2, true, tx, ty, e, fun H3 ex => ⟨true, rfl, ?_⟩⟩
    rw [if_pos rfl]
    have S3 := S2.ext' ex
    have F3 : Frm (fun j => muts j u') σ W2 H2 ρ2 W2 H3 ρ2 := Frm.ext ex (fun _ w => .inl w) fun _ w => w
    refine ⟨W2, ρ2, S3, ?_⟩
    have h3 := Ot.bind (mu1 := fun j => muts j u') (mu2 := fun j => muts j u') h2 (fun _ z => z) fun _ z => z
    have pw3 := pw.keep S2 F3 (pk_ok hp2)
    rcases h3 with ⟨z, ρ3, e3, h3⟩ | ⟨c', l', ρ3, e3, h3⟩
    · refine .inl ⟨z, ρ3, e3, fun W4 H4 S4 F4 q pq => ?_⟩
      obtain ⟨k, e5, h5⟩ := Ot.finB (h3 W4 H4 S4 (F3.trans F4 (fun _ z => z) fun _ z => z))
      exact ⟨W4, y.2, z.2, k, (pw3.keep S3 F4 (pk_ok hp2)).top S4, pq.top S4, e5, fun H' ex => h5 W4 H' (S4.ext' ex) (Frm.ext ex (fun _ w => .inl w) fun _ w => w) _ rfl⟩
    · exact .inr ⟨c', l', ρ3, e3, fun W4 H4 S4 F4 => h3 W4 H4 S4 (F3.trans F4 (fun _ z => z) fun _ z => z)⟩
  · rename_i e
    refine ⟨W2, x.2, y.2, false, tx, ty, e, fun H3 ex => ⟨false, rfl, ?_⟩⟩
    rw [if_neg (by decide)]
    exact Ot.ok h2 (S2.ext' ex) (Frm.ext ex (fun _ w => .inl w) fun _ w => w) _ rfl
  · exact Ot.st h2
theorem rep_bl {G : Kx} {W : Addr → Prop} {H : Hp} {k : Bool} {v : V} (h : Rep G W H (.bl k) v) : v = .bl k := by simpa only [Rep] using h
theorem top_int {G : Kx} {W : Addr → Prop} {H : Hp} {k : Int} {v : V} (h : TopR G W H (.int k) v) : v = .int k := by simpa only [TopR, Rep] using h
theorem rep_int {G : Kx} {W : Addr → Prop} {H : Hp} {k : Int} {v : V} (h : Rep G W H (.int k) v) : v = .int k := by simpa only [Rep] using h
theorem pe_negE (ha : PE X a (tE A xw C t)) : PE X (.UnaryOp .USub a pos) (tE A xw C (.neg t)) := by
  refine (pe_un un_neg ha).imp fun σ H Q ⟨W, ρ, S, h⟩ => ⟨W, ρ, S, Ot.shr S ?_⟩
  refine (Ot.bind (mu1 := fun j => muts j t) (mu2 := fun j => muts j t) h (fun _ z => z) fun _ z => z).imp fun x ρ1 W1 H1 S1 F1 h v r => ?_
  split at h
  · rename_i i e
    rw [e] at r
    exact ⟨i, rep_int r, Ot.ok h S1 Frm.refl _ rfl⟩
  · exact Ot.st h
/-! ### tests -/
def tT (A : Ax) (xw : XW) (C : Cl) (t : T) : TT := fun σ H Q => ∃ W ρ, SI A W H σ ρ ∧ Ot A xw (fun j => mutsT j t) σ W H ρ (evT C t ρ) fun k ρ' W' H' => Q k H'
theorem szLine : (sz : Nat) = sizeLine := by rw [sizeLine_eq]; rfl
theorem tru_of {W : Addr → Prop} {H : Hp} {d : D} {v : V} {k : Bool} {K : PySem.W.Frag} (hK : A.g.K = K) (h : TopR A.g W H d v) (e : truth d = some k) : TruV K v H k := by
  subst hK
  cases d <;> simp only [truth] at e <;> try cases e
  · simp only [TopR, Rep] at h; subst h; rfl
  · simp only [TopR, Rep] at h; subst h; rfl
  · simp only [TopR, Rep] at h; subst h; rfl
  · rename_i s
    simp only [TopR, Rep] at h
    obtain ⟨rfl, hz⟩ := h
    refine ⟨by rw [← szLine]; simpa [Str.length] using hz.1, ?_⟩
    cases s <;> simp [Str.length]
    omega
  · rename_i l
    simp only [TopR, Rep] at h
    obtain ⟨a, xs, rfl, t, r⟩ := h
    refine .inr (.inl ⟨xs, t.sq, ?_⟩)
    have := r.length
    cases l <;> cases xs <;> simp at this ⊢
  · rename_i l
    simp only [TopR] at h
    obtain ⟨a, xs, rfl, t, r⟩ := h
    refine .inl ⟨xs, SqL.of t, ?_⟩
    have := r.length
    cases l <;> cases xs <;> simp at this ⊢
  · simp only [TopR, Rep] at h
theorem Ot.ofO {α : Type} {σ : St} {W : Addr → Prop} {H : Hp} {ρ : Env} {mu : Nat → Bool} {o : Option α} {k : α → Env → (Addr → Prop) → Hp → Prop} (h : Ot A xw mu σ W H ρ (ofO o ρ) k) : ∃ d, o = some d ∧ ∀ W' H', SI A W' H' σ ρ → Frm mu σ W H ρ W' H' ρ → k d ρ W' H' := by
  cases o with
  | none => exact Ot.st h
  | some d => exact ⟨d, rfl, fun W' H' S F => Ot.ok h S F⟩
theorem pt_tru (hK : A.g.K = X.K) (ha : PE X a (tPk A xw C t)) (he : ∀ whole, isTrue a X.env whole = (do let v ← whole; standAt a.pos; holding [v] (truthy v))) : PT X a (tT A xw C (.tru t)) := by
  refine (pt_truth ha he).imp fun σ H Q ⟨W, ρ, S, h⟩ => ⟨W, ρ, S, ?_⟩
  refine (Ot.bind (mu1 := fun j => muts j t) (mu2 := fun j => muts j t) h (fun _ z => z) fun _ z => z).imp fun x ρ1 W1 H1 S1 F1 h v pv => ?_
  obtain ⟨k, e, h⟩ := Ot.ofO h
  exact ⟨k, tru_of hK (pv.top S1) e, h W1 H1 S1 Frm.refl⟩
theorem pt_notE {t : T} (ha : PT X a (tT A xw C t)) : PT X (.UnaryOp .Not a pos) (tT A xw C (.not t)) := by
  refine (pt_not ha).imp fun σ H Q ⟨W, ρ, S, h⟩ => ⟨W, ρ, S, ?_⟩
  refine (Ot.bind (mu1 := fun j => mutsT j t) (mu2 := fun j => mutsT j t) h (fun _ z => z) fun _ z => z).imp fun x ρ1 W1 H1 S1 F1 h => ?_
  exact Ot.ok h S1 Frm.refl
theorem pw_andE {rest : List Expr} {t u : T} (ha : PT X a (tT A xw C t)) (hb : PW X (.BoolOp .And (b :: rest) pos) (tT A xw C u)) : PW X (.BoolOp .And (a :: b :: rest) pos) (tT A xw C (.and t u)) := by
  refine (pw_and ha hb).imp fun σ H Q ⟨W, ρ, S, h⟩ => ⟨W, ρ, S, ?_⟩
  refine (Ot.bind (mu1 := fun j => mutsT j t) (mu2 := fun j => mutsT j u) h or1 or2).imp fun x ρ1 W1 H1 S1 F1 h => ?_
  cases x with
  | true => exact ⟨W1, ρ1, S1, h⟩
  | false => exact Ot.ok h S1 Frm.refl
theorem pw_orE {rest : List Expr} {t u : T} (ha : PT X a (tT A xw C t)) (hb : PW X (.BoolOp .Or (b :: rest) pos) (tT A xw C u)) : PW X (.BoolOp .Or (a :: b :: rest) pos) (tT A xw C (.or t u)) := by
  refine (pw_or ha hb).imp fun σ H Q ⟨W, ρ, S, h⟩ => ⟨W, ρ, S, ?_⟩
  refine (Ot.bind (mu1 := fun j => mutsT j t) (mu2 := fun j => mutsT j u) h or1 or2).imp fun x ρ1 W1 H1 S1 F1 h => ?_
  cases x with
  | true => exact Ot.ok h S1 Frm.refl
  | false => exact ⟨W1, ρ1, S1, h⟩
theorem pt_cmpE {op : CmpOp} {o : Cm} (ho : OpR X (compareOp op) (rCmp A.g o)) (ha : PE X a (tPk A xw C t)) (hb : PE X b (tPk A xw C u)) (hm : behindInMarks op b = false) (hp : pkOk t u = true) : PT X (.Compare a [op] [b] pos) (tT A xw C (.cmp o t u)) := by
  refine (pt_cmpR ho ha hb hm).imp fun σ H Q ⟨W, ρ, S, h⟩ => ⟨W, ρ, S, ?_⟩
  have h := Ot.bind (mu1 := fun j => muts j t) (mu2 := fun j => muts j u) h or1 or2
  refine h.imp fun x ρ1 W1 H1 S1 F1 h v pv => ⟨W1, ρ1, S1, ?_⟩
  refine (Ot.bind (mu1 := fun j => muts j u) (mu2 := fun j => muts j u) h (fun _ z => z) fun _ z => z).imp fun y ρ2 W2 H2 S2 F2 h2 w pw => ?_
  obtain ⟨d, e, h2⟩ := Ot.ofO h2
  exact ⟨W2, x.2, y.2, d, (pv.keep S1 F2 (pk_ok hp)).top S2, pw.top S2, e, fun H' ex => ⟨d, rfl, h2 W2 H' (S2.ext' ex) (Frm.ext ex (fun _ w => .inl w) fun _ w => w)⟩⟩
theorem pt_cmp2E {op op' : CmpOp} {o o' : Cm} {u' : E} (ho : OpR X (compareOp op) (rCmp A.g o)) (ho' : OpR X (compareOp op') (rCmp A.g o')) (ha : PE X a (tPk A xw C t)) (hb : PE X b (tPk A xw C u)) (hc : PE X c (tPk A xw C u')) (hm : lastMarks [op, op'] [b, c] = false) (hp : pkOk t u = true) (hp2 : pkOk u u' = true) :
    PT X (.Compare a [op, op'] [b, c] pos) (tT A xw C (.cmp2 o o' t u u')) := by
  refine (pt_chain ho ho' ha hb hc hm).imp fun σ H Q ⟨W, ρ, S, h⟩ => ⟨W, ρ, S, ?_⟩
  have h := Ot.bind (mu1 := fun j => muts j t) (mu2 := fun j => muts j u || muts j u') h (fun j q => by simp [mutsT, q]) (fun j q => by simp only [mutsT, Bool.or_eq_true] at q ⊢; rcases q with q | q <;> simp [q])
  refine h.imp fun x ρ1 W1 H1 S1 F1 h v pv => ⟨W1, ρ1, S1, ?_⟩
  refine (Ot.bind (mu1 := fun j => muts j u) (mu2 := fun j => muts j u') h or1 or2).imp fun y ρ2 W2 H2 S2 F2 h2 w pw => ?_
  have tx := (pv.keep S1 F2 (pk_ok hp)).top S2
  have ty := pw.top S2
  split at h2
  · rename_i e
    refine ⟨W2, x.2, y.2, true, tx, ty, e, fun H3 ex => ⟨true, rfl, ?_⟩⟩
    rw [if_pos rfl]
    have S3 := S2.ext' ex
    have F3 : Frm (fun j => muts j u') σ W2 H2 ρ2 W2 H3 ρ2 := Frm.ext ex (fun _ w => .inl w) fun _ w => w
    refine ⟨W2, ρ2, S3, ?_⟩
    have h3 := Ot.bind (mu1 := fun j => muts j u') (mu2 := fun j => muts j u') h2 (fun _ z => z) fun _ z => z
    have pw3 := pw.keep S2 F3 (pk_ok hp2)
    rcases h3 with ⟨z, ρ3, e3, h3⟩ | ⟨c', l', ρ3, e3, h3⟩
    · refine .inl ⟨z, ρ3, e3, fun W4 H4 S4 F4 q pq => ?_⟩
      obtain ⟨k, e5, h5⟩ := Ot.ofO (h3 W4 H4 S4 (F3.trans F4 (fun _ z => z) fun _ z => z))
      exact ⟨W4, y.2, z.2, k, (pw3.keep S3 F4 (pk_ok hp2)).top S4, pq.top S4, e5, fun H' ex => ⟨k, rfl, h5 W4 H' (S4.ext' ex) (Frm.ext ex (fun _ w => .inl w) fun _ w => w)⟩⟩
    · exact .inr ⟨c', l', ρ3, e3, fun W4 H4 S4 F4 => h3 W4 H4 S4 (F3.trans F4 (fun _ z => z) fun _ z => z)⟩
  · rename_i e
    refine ⟨W2, x.2, y.2, false, tx, ty, e, fun H3 ex => ⟨false, rfl, ?_⟩⟩
    rw [if_neg (by decide)]
    exact ⟨false, rfl, Ot.ok h2 (S2.ext' ex) (Frm.ext ex (fun _ w => .inl w) fun _ w => w)⟩
  · exact Ot.st h2
theorem pe_iteE {k : T} (hc : PT X c (tT A xw C k)) (ha : PE X a (tE A xw C t)) (hb : PE X b (tE A xw C u)) : PE X (.IfExp c a b pos) (tE A xw C (.ite k t u)) := by
  refine (pe_ifExp hc ha hb).imp fun σ H Q ⟨W, ρ, S, h⟩ => ⟨W, ρ, S, ?_⟩
  refine (Ot.bind (mu1 := fun j => mutsT j k) (mu2 := fun j => muts j t || muts j u) h (fun j q => by simp [muts, q]) (fun j q => by simp only [muts, Bool.or_eq_true] at q ⊢; rcases q with q | q <;> simp [q])).imp fun x ρ1 W1 H1 S1 F1 h => ?_
  have h := Ot.back F1.so h
  cases x with
  | true =>
    refine ⟨W1, ρ1, S1, ?_⟩
    rcases h with ⟨z, ρ3, e3, h3⟩ | ⟨c', l', ρ3, e3, h3⟩
    · exact .inl ⟨z, ρ3, e3, fun W4 H4 S4 F4 => h3 W4 H4 S4 (F4.mono or1)⟩
    · exact .inr ⟨c', l', ρ3, e3, fun W4 H4 S4 F4 => h3 W4 H4 S4 (F4.mono or1)⟩
  | false =>
    refine ⟨W1, ρ1, S1, ?_⟩
    rcases h with ⟨z, ρ3, e3, h3⟩ | ⟨c', l', ρ3, e3, h3⟩
    · exact .inl ⟨z, ρ3, e3, fun W4 H4 S4 F4 => h3 W4 H4 S4 (F4.mono or2)⟩
    · exact .inr ⟨c', l', ρ3, e3, fun W4 H4 S4 F4 => h3 W4 H4 S4 (F4.mono or2)⟩
/-- the frame of a part of an expression -/
theorem Ot.mono {α : Type} {σ : St} {W : Addr → Prop} {H : Hp} {ρ : Env} {mu mu' : Nat → Bool} {m : M α} {k : α → Env → (Addr → Prop) → Hp → Prop} (h : Ot A xw mu σ W H ρ m k) (le : ∀ j, mu' j = true → mu j = true) : Ot A xw mu' σ W H ρ m k := by
  rcases h with ⟨z, ρ3, e3, h3⟩ | ⟨c', l', ρ3, e3, h3⟩
  · exact .inl ⟨z, ρ3, e3, fun W4 H4 S4 F4 => h3 W4 H4 S4 (F4.mono le)⟩
  · exact .inr ⟨c', l', ρ3, e3, fun W4 H4 S4 F4 => h3 W4 H4 S4 (F4.mono le)⟩
theorem pe_notE (hK : A.g.K = X.K) (ha : PE X a (tPk A xw C t)) : PE X (.UnaryOp .Not a pos) (tE A xw C (.not t)) := by
  refine (pe_notT ha).imp fun σ H Q ⟨W, ρ, S, h⟩ => ⟨W, ρ, S, ?_⟩
  refine (Ot.bind (mu1 := fun j => muts j t) (mu2 := fun j => muts j t) h (fun _ z => z) fun _ z => z).imp fun x ρ1 W1 H1 S1 F1 h v pv => ?_
  obtain ⟨k, e, h⟩ := Ot.finB h
  cases q : truth x.2 with
  | none => rw [q] at e; cases e
  | some b =>
    rw [q] at e; cases e
    exact ⟨b, tru_of hK (pv.top S1) q, h W1 H1 S1 Frm.refl _ rfl⟩
theorem pe_andE {rest : List Expr} (hK : A.g.K = X.K) (ha : PE X a (tE A xw C t)) (hb : PE X (.BoolOp .And (b :: rest) pos) (tE A xw C u)) : PE X (.BoolOp .And (a :: b :: rest) pos) (tE A xw C (.and t u)) := by
  refine (pe_andT ha hb).imp fun σ H Q ⟨W, ρ, S, h⟩ => ⟨W, ρ, S, ?_⟩
  refine Ot.shr S ((Ot.bind (mu1 := fun j => muts j t) (mu2 := fun j => muts j u) h or1 or2).imp fun x ρ1 W1 H1 S1 F1 h v r => ?_)
  unfold tst at h
  split at h
  · rename_i e
    refine ⟨true, tru_of hK r.top e, ?_⟩
    rw [if_pos rfl]
    exact ⟨W1, ρ1, S1, Ot.back F1.so h⟩
  · rename_i e
    refine ⟨false, tru_of hK r.top e, ?_⟩
    rw [if_neg (by decide)]
    exact Ot.ok h S1 Frm.refl v r
  · exact Ot.st h
theorem pe_orE {rest : List Expr} (hK : A.g.K = X.K) (ha : PE X a (tE A xw C t)) (hb : PE X (.BoolOp .Or (b :: rest) pos) (tE A xw C u)) : PE X (.BoolOp .Or (a :: b :: rest) pos) (tE A xw C (.or t u)) := by
  refine (pe_orT ha hb).imp fun σ H Q ⟨W, ρ, S, h⟩ => ⟨W, ρ, S, ?_⟩
  refine Ot.shr S ((Ot.bind (mu1 := fun j => muts j t) (mu2 := fun j => muts j u) h or1 or2).imp fun x ρ1 W1 H1 S1 F1 h v r => ?_)
  unfold tst at h
  split at h
  · rename_i e
    refine ⟨true, tru_of hK r.top e, ?_⟩
    rw [if_pos rfl]
    exact Ot.ok h S1 Frm.refl v r
  · rename_i e
    refine ⟨false, tru_of hK r.top e, ?_⟩
    rw [if_neg (by decide)]
    exact ⟨W1, ρ1, S1, Ot.back F1.so h⟩
  · exact Ot.st h

/-! ### argument lists, displays -/
theorem pa_nilE : PA X [] (tEs A xw C []) := pa_nil.imp fun σ H Q ⟨W, ρ, S, h⟩ => Ot.ok h S Frm.refl [] Reps.nil
theorem pa_consE {es : List Expr} {ts : List E} (ha : PE X e (tE A xw C t)) (hr : PA X es (tEs A xw C ts)) (hs : starEach (e :: es) X.env = (false, eval e X.env) :: starEach es X.env) : PA X (e :: es) (tEs A xw C (t :: ts)) := by
  refine (pa_cons ha hr hs).imp fun σ H Q ⟨W, ρ, S, h⟩ => ⟨W, ρ, S, Ot.shr S ?_⟩
  refine (Ot.bind (mu1 := fun j => muts j t) (mu2 := fun j => mutsL j ts) h or1 or2).imp fun x ρ1 W1 H1 S1 F1 h v r => ⟨W1, ρ1, S1, ?_⟩
  refine (Ot.bind (mu1 := fun j => mutsL j ts) (mu2 := fun j => mutsL j ts) h (fun _ z => z) fun _ z => z).imp fun ds ρ2 W2 H2 S2 F2 h vs rs => ?_
  exact Ot.ok h S2 Frm.refl (v :: vs) (Reps.cons (r.kp (F2.kp S1)) rs)
theorem ps_nilE : PA X [] (tPs A xw C []) := pa_nil.imp fun σ H Q ⟨W, ρ, S, h⟩ => Ot.ok h S Frm.refl [] rfl
theorem ps_consE {es : List Expr} {ts : List E} (ha : PE X e (tPk A xw C t)) (hr : PA X es (tPs A xw C ts)) (hs : starEach (e :: es) X.env = (false, eval e X.env) :: starEach es X.env) (hp : ∀ i, t = .var i → mutsL i ts = false) : PA X (e :: es) (tPs A xw C (t :: ts)) := by
  refine (pa_cons ha hr hs).imp fun σ H Q ⟨W, ρ, S, h⟩ => ⟨W, ρ, S, ?_⟩
  refine (Ot.bind (mu1 := fun j => muts j t) (mu2 := fun j => mutsL j ts) h or1 or2).imp fun x ρ1 W1 H1 S1 F1 h v r => ⟨W1, ρ1, S1, ?_⟩
  refine (Ot.bind (mu1 := fun j => mutsL j ts) (mu2 := fun j => mutsL j ts) h (fun _ z => z) fun _ z => z).imp fun ds ρ2 W2 H2 S2 F2 h vs rs => ?_
  exact Ot.ok h S2 Frm.refl (v :: vs) ⟨v, vs, rfl, (r.keep S1 F2 hp).top S2, rs⟩
theorem evEs_length {C : Cl} : ∀ {l : List E} {ρ ρ' : Env} {ds : List D}, evEs C l ρ = .ok ds ρ' → ds.length = l.length
  | [], ρ, ρ', ds, h => by simp only [evEs] at h; cases h; rfl
  | e :: l, ρ, ρ', ds, h => by
    simp only [evEs] at h
    obtain ⟨x, ρ1, h1, h⟩ := M.bind_ok h
    obtain ⟨y, ρ2, h2, h⟩ := M.bind_ok h
    cases h
    simp [evEs_length h2]
theorem pe_tupE {es : List Expr} {ts : List E} {n : Nat} (h : PA X es (tEs A xw C ts)) (hz : ts.length ≤ 1000) : PE X (.Tuple es n pos) (tE A xw C (.tup ts)) := by
  refine (pe_tup h).imp fun σ H Q ⟨W, ρ, S, h⟩ => ⟨W, ρ, S, ?_⟩
  have h := Ot.bind (mu1 := fun j => mutsL j ts) (mu2 := fun j => mutsL j ts) h (fun _ z => z) fun _ z => z
  rcases h with ⟨ds, ρ1, e, h⟩ | h
  · refine .inl ⟨ds, ρ1, e, fun W1 H1 S1 F1 vs r => ⟨?_, fun p hp => ?_⟩⟩
    · rw [← r.length, evEs_length e, sizeLine_eq]; omega
    · have ex : Ext H1 (upd H1 p (.tup vs)) := Ext.new hp
      have h2 := Ot.ok (h W1 H1 S1 F1) (S1.ext' ex) (Frm.ext ex (fun _ w => .inl w) fun _ w => w)
      refine h2 _ (RR.rep ?_)
      simp only [Rep]
      have nw : ¬ W1 p := fun w => by obtain ⟨o, q⟩ := S1.wt p w; rw [hp] at q; cases q
      exact ⟨p, vs, rfl, .inl ⟨nw, .inl upd_same⟩, r.kp (Kp.ext ex)⟩
  · exact .inr h
end
end Py

/-! Displays, items, slices, calls. -/
namespace Py
open PySem PySem.Spec PyProof.Rows L2
section
variable {X : Cx} {A : Ax} {xw : XW} {C : Cl} {e a b c : Expr} {t u : E} {pos : Pos}
theorem pe_lstE {es : List Expr} {ts : List E} (h : PA X es (tEs A xw C ts)) (hz : ts.length ≤ 1000) : PE X (.List es pos) (tE A xw C (.lst ts)) := by
  refine (pe_lst h).imp fun σ H Q ⟨W, ρ, S, h⟩ => ⟨W, ρ, S, ?_⟩
  have h := Ot.bind (mu1 := fun j => mutsL j ts) (mu2 := fun j => mutsL j ts) h (fun _ z => z) fun _ z => z
  rcases h with ⟨ds, ρ1, e, h⟩ | h
  · refine .inl ⟨ds, ρ1, e, fun W1 H1 S1 F1 vs r => ⟨?_, fun p hp => ?_⟩⟩
    · rw [← r.length, evEs_length e, sizeLine_eq]; omega
    · have ex : Ext H1 (upd H1 p (.lst vs)) := Ext.new hp
      have nw : NwR A.g true W1 H1 (upd H1 p (.lst vs)) (.lst ds) (.ref p) := by
        unfold NwR
        rw [if_pos rfl]
        exact ⟨p, rfl, hp, vs, upd_same, r.kp (Kp.new ex hp)⟩
      obtain ⟨W', S', F', rr⟩ := nw.rr (mu := fun j => mutsL j ts) S1 ex
      exact Ot.ok (h W1 H1 S1 F1) S' F' _ (rr.back F1.so)
  · exact .inr h
/-- an item by values -/
def rIdx (G : Kx) : R2 := fun x y H Q => ∃ W dx dy d, TopR G W H dx x ∧ TopR G W H dy y ∧ idxV dx dy = some d ∧ ∀ v, Rep G W H d v → Q v H
theorem pe_idxE (ho : IxR X (rIdx A.g)) (ha : PE X a (tPk A xw C t)) (hb : PE X b (tE A xw C u)) (hp : pkOk t u = true) (hs : PlainIx b) : PE X (.Subscript a b pos) (tE A xw C (.idx t u)) := by
  refine (pe_ix ho ha hb hs).imp fun σ H Q ⟨W, ρ, S, h⟩ => ⟨W, ρ, S, ?_⟩
  refine (Ot.bind (mu1 := fun j => muts j t) (mu2 := fun j => muts j u) h or1 or2).imp fun x ρ1 W1 H1 S1 F1 h v pv => ⟨W1, ρ1, S1, Ot.shr S1 ?_⟩
  refine (Ot.bind (mu1 := fun j => muts j u) (mu2 := fun j => muts j u) h (fun _ z => z) fun _ z => z).imp fun y ρ2 W2 H2 S2 F2 h2 w pw => ?_
  obtain ⟨d, e, h2⟩ := Ot.finS h2
  exact ⟨W2, x.2, y.2, d, (pv.keep S1 F2 (pk_ok hp)).top S2, pw.top, e, fun z r => h2 W2 H2 S2 Frm.refl z (RR.rep r)⟩
/-- a slice by values -/
def rSlc (G : Kx) : V → Option Int → Option Int → Hp → VK → Prop := fun x lo hi H Q => ∃ (W : Addr → Prop) (dx d : D), (∀ a, W a → ∃ o, H a = some o) ∧ TopR G W H dx x ∧ slcV dx lo hi = some d ∧ ∀ v H', Ext H H' → NewR G W H H' d v → Q v H'
/-- a slice's part -/
def tO (A : Ax) (xw : XW) (C : Cl) (t : E) : TO := fun σ H Q => ∃ W ρ, SI A W H σ ρ ∧ Ot A xw (fun j => muts j t) σ W H ρ ((evE C t ρ).bind partI) fun o ρ' W' H' => Q o H'
theorem po_noneE : PO X none (tO A xw C .nil) := ⟨fun pins s σ H Q I ⟨W, ρ, S, h⟩ => po_none.run pins s σ H Q I (Ot.ok h S Frm.refl)⟩
theorem po_someE (ha : PE X a (tE A xw C t)) : PO X (some a) (tO A xw C t) := by
  refine ⟨fun pins s σ H Q I ⟨W, ρ, S, h⟩ => (po_some ha).run pins s σ H Q I ⟨W, ρ, S, Ot.shr S ?_⟩⟩
  have h := Ot.bind (mu1 := fun j => muts j t) (mu2 := fun j => muts j t) h (fun _ z => z) fun _ z => z
  rcases h with ⟨x, ρ1, e, h⟩ | h
  · refine .inl ⟨x, ρ1, e, fun W1 H1 S1 F1 v r => ?_⟩
    have h : Ot A xw (fun j => muts j t) σ W1 H1 ρ1 (partI x ρ1) fun o ρ' W' H' => Q o H' := h W1 H1 S1 F1
    unfold partI at h
    split at h
    · rename_i i q
      rw [q] at r
      exact ⟨i, rep_int r, Ot.ok h S1 Frm.refl⟩
    · rename_i q; rw [q] at r; simp only [Rep] at r
    · exact Ot.st h
  · exact .inr h
theorem pe_slcE {lo hi : Option Expr} {l h : E} {p2 : Pos} (ho : SlR X (rSlc A.g)) (ha : PE X a (tPk A xw C t)) (hl : PO X lo (tO A xw C l)) (hh : PO X hi (tO A xw C h)) (hp : pkOk t l = true) (hp2 : pkOk t h = true) :
    PE X (.Subscript a (.Slice lo hi none p2) pos) (tE A xw C (.slc t l h)) := by
  refine (pe_slice ho ha hl hh).imp fun σ H Q ⟨W, ρ, S, o⟩ => ⟨W, ρ, S, ?_⟩
  refine (Ot.bind (mu1 := fun j => muts j t) (mu2 := fun j => muts j l || muts j h) o (fun j q => by simp [muts, q]) (fun j q => by simp only [muts, Bool.or_eq_true] at q ⊢; rcases q with q | q <;> simp [q])).imp fun x ρ1 W1 H1 S1 F1 o v pv => ⟨W1, ρ1, S1, ?_⟩
  refine (Ot.bind (mu1 := fun j => muts j l) (mu2 := fun j => muts j h) o or1 or2).imp fun lo ρ2 W2 H2 S2 F2 o => ⟨W2, ρ2, S2, ?_⟩
  refine (Ot.bind (mu1 := fun j => muts j h) (mu2 := fun j => muts j h) o (fun _ z => z) fun _ z => z).imp fun hi ρ3 W3 H3 S3 F3 o => ?_
  obtain ⟨d, e, o⟩ := Ot.fin o
  refine ⟨W3, x.2, d, S3.wt, ((pv.keep S1 F2 (pk_ok hp)).keep S2 F3 (pk_ok hp2)).top S3, e, fun z H' ex nw => ?_⟩
  obtain ⟨W', S', F', r⟩ := nw.rr (mu := fun j => muts j h) S3 ex
  exact o W' H' S' F' z (r.back fun a o q => by obtain ⟨o1, q1⟩ := F1.so a o q; obtain ⟨o2, q2⟩ := F2.so a o1 q1; exact F3.so a o2 q2)

/-! ### built-in functions and methods -/
def rBi (G : Kx) (b : Bi) : List V → Hp → VK → Prop := fun vs H Q => ∃ (W : Addr → Prop) (ds : List D) (d : D), (∀ a, W a → ∃ o, H a = some o) ∧ TopRs G W H ds vs ∧ biD b ds = some d ∧ ∀ v H', Ext H H' → NewR G W H H' d v → Q v H'
theorem pe_biB {id : String} {x : Str} {p : Pos} {es : List Expr} {ts : List E} {bi : Bi} (hc : CallR X (.builtin id) (rBi A.g bi)) (hg : Gl X x) (hm : X.mg x = none) (hv : bootBuiltins x = some (.builtin id)) (ha : PA X (e :: es) (tPs A xw C ts))
    (hn : x ≠ "__name__") (hdb : (x == ("__debug__" : Str)) = false) (he : starEach (e :: es) X.env = (false, eval e X.env) :: starEach es X.env) (hpl : (backTo pos (starEach es X.env)).any (·.1) = false) :
    PE X (.Call (.Name x p) (e :: es) [] pos) (tE A xw C (.bi bi ts)) := by
  refine (pe_callB hc hg hm hv ha hn hdb he hpl).imp fun σ H Q ⟨W, ρ, S, h⟩ => ⟨W, ρ, S, ?_⟩
  refine (Ot.bind (mu1 := fun j => mutsL j ts) (mu2 := fun j => mutsL j ts) h (fun _ z => z) fun _ z => z).imp fun ds ρ1 W1 H1 S1 F1 h vs r => ?_
  obtain ⟨d, e, h⟩ := Ot.fin h
  refine ⟨W1, ds, d, S1.wt, r, e, fun z H' ex nw => ?_⟩
  obtain ⟨W', S', F', r⟩ := nw.rr (mu := fun j => mutsL j ts) S1 ex
  exact h W' H' S' F' z (r.back F1.so)
theorem pe_biT {T : String} {x : Str} {p : Pos} {es : List Expr} {ts : List E} {bi : Bi} (hc : CallR X (.type T) (rBi A.g bi)) (hg : Gl X x) (hm : X.mg x = none) (hv : bootBuiltins x = some (.type T)) (ha : PA X (e :: es) (tPs A xw C ts))
    (hn : x ≠ "__name__") (hdb : (x == ("__debug__" : Str)) = false) (he : starEach (e :: es) X.env = (false, eval e X.env) :: starEach es X.env) (hpl : (backTo pos (starEach es X.env)).any (·.1) = false) :
    PE X (.Call (.Name x p) (e :: es) [] pos) (tE A xw C (.bi bi ts)) := by
  refine (pe_callTy hc hg hm hv ha hn hdb he hpl).imp fun σ H Q ⟨W, ρ, S, h⟩ => ⟨W, ρ, S, ?_⟩
  refine (Ot.bind (mu1 := fun j => mutsL j ts) (mu2 := fun j => mutsL j ts) h (fun _ z => z) fun _ z => z).imp fun ds ρ1 W1 H1 S1 F1 h vs r => ?_
  obtain ⟨d, e, h⟩ := Ot.fin h
  refine ⟨W1, ds, d, S1.wt, r, e, fun z H' ex nw => ?_⟩
  obtain ⟨W', S', F', r⟩ := nw.rr (mu := fun j => mutsL j ts) S1 ex
  exact h W' H' S' F' z (r.back F1.so)
/-- a method of a built-in type, by values -/
def rMe (G : Kx) (m : Me) : V → List V → Hp → VK → Prop := fun x vs H Q => ∃ W dx ds d, TopR G W H dx x ∧ TopRs G W H ds vs ∧ meD m dx ds = some d ∧ ∀ v H', Ext H H' → Rep G W H' d v → Q v H'

/-! ### calls -/
def PayR (G : Kx) (c : Nat) (l : List D) (d : Option Addr) (H : Hp) : Prop := d = none ∨ ∃ dx v x, d = some dx ∧ l = [x] ∧ H dx = some (.xd [(G.CF c, v)]) ∧ Rep G (fun _ => False) H x v
/-- an exception's class and data -/
def ExcR (G : Kx) (c : Nat) (l : List D) (cls : Value) (d : Option Addr) (H : Hp) : Prop := ∃ a, G.CA c = some a ∧ cls = .ref a ∧ PayR G c l d H
/-- what a def's call promises: run tells its outcome -/
def spF (G : Kx) (run : List D → CR) (io : Bool) (np : Nat) : Sp := fun vs H Q E => vs.length = np ∧ ∃ (B : Addr → Prop), (∀ a, B a → ∃ o, H a = some o) ∧
  ((io = false ∧ ∃ ds, Reps G B H ds vs ∧ ((∃ fr r, run ds = .ok fr r none ∧ ∀ v H', Ext H H' → NwR G fr B H H' r v → Q v H') ∨
      ∃ c l, run ds = .ex c l ∧ ∀ cls d H', Ext H H' → ExcR G c l cls d H' → E cls d H')) ∨
   (io = true ∧ ∃ a vs' d ds' fr r c, vs = .ref a :: vs' ∧ B a ∧ OwnR G B H d a ∧ Reps G B H ds' vs' ∧ run (d :: ds') = .ok fr r (some c) ∧
      ∀ v H' W', (∀ b o, H b = some o → b ≠ a → H' b = some o) → (∀ b, B b → W' b) → (∀ b, W' b → B b ∨ H b = none) → (∀ b, W' b → ∃ o, H' b = some o) → OwnR G W' H' c a →
        (if fr = true then ∃ p, v = .ref p ∧ H p = none ∧ W' p ∧ OwnR G W' H' r p else Rep G W' H' r v) → Q v H'))
/-- where exceptions go: what is wanted of them -/
def wx (A : Ax) (xw : XW) : WX := fun cls d σ H => ∃ c l W ρ, ExcR A.g c l cls d H ∧ SI A W H σ ρ ∧ xw c l σ W H ρ
variable {k : Nat} {f : Addr} {fd : FuncData} {ps : List Str} {x : Str} {p : Pos} {es : List Expr} {ts : List E}
theorem pe_callS0 {sp : Sp} {CX : CXT} {E : St → XK} (F : FnOk X.prog X.w X.K X.mg X.base CX k f fd ps sp) (hr : Room k X.A) (hg : Gl X x) (hm : X.mg x = some (.ref f)) (hk : PySem.W.keepIn X.K (.ref f) = true) (hb : Binds X.K fd ps []) (hx : ∀ σ, PassesAt CX X σ (E σ))
    (hdb : (x == ("__debug__" : Str)) = false) : PE X (.Call (.Name x p) [] [] pos) (tCallS sp E tNil) := by
  refine ⟨fun pins s σ H Q I h => ?_⟩
  refine wpAny_Call_Name_kw (ld_glob I hg hm ?_ hdb)
  exact PySem.W.callWith_K0 I.kIn hk (run_fnS (us := []) F hr hb (hx σ) I .nil h)
/-- what stands behind a call of a def that changes nothing -/
theorem call_out {i : Nat} {σ : St} {W : Addr → Prop} {H : Hp} {ρ : Env} {Q : VK} {ds : List D} {vs : List V} {mu : Nat → Bool} {np : Nat} (S : SI A W H σ ρ) (r : Reps A.g W H ds vs) (hl : vs.length = np)
    (hio : ∀ fr d o, C.run i ds = .ok fr d o → o = none)
    (h : Ot A xw mu σ W H ρ (callN (C.run i ds) ρ) fun x ρ' W' H' => ∀ v, RR A H W' H' σ ρ' x v → Q v H') : spF A.g (C.run i) false np vs H Q (WE (wx A xw) σ) := by
  refine ⟨hl, W, S.wt, .inl ⟨rfl, ds, r, ?_⟩⟩
  cases q : C.run i ds with
  | ok fr d o =>
    have ho := hio _ _ _ q
    subst ho
    rw [q] at h
    refine .inl ⟨fr, d, rfl, fun v H' ex nw => ?_⟩
    obtain ⟨W', S', F', rr⟩ := nw.rr (mu := mu) S ex
    exact Ot.ok (a := (fr, d)) h S' F' v rr
  | ex c l =>
    rw [q] at h
    refine .inr ⟨c, l, rfl, fun cls d H' ex er => ?_⟩
    rcases h with ⟨x, ρ', e, h⟩ | ⟨c', l', ρ', e, h⟩
    · cases e
    · cases e
      exact ⟨c, l, W, ρ, er, S.ext' ex, h W H' (S.ext' ex) (Frm.ext ex (fun _ w => .inl w) fun _ w => w)⟩
  | st => rw [q] at h; exact Ot.st h
theorem pe_callE {i np : Nat} (F : FnOk X.prog X.w X.K X.mg X.base (L2.CX X.prog X.w) k f fd ps (spF A.g (C.run i) false np)) (hr : Room k X.A) (hg : Gl X x) (hm : X.mg x = some (.ref f)) (hk : PySem.W.keepIn X.K (.ref f) = true) (hb : Binds X.K fd ps [])
    (tk : Takes X (wx A xw)) (hio2 : ∀ ds fr d o, C.run i ds = .ok fr d o → o = none) (hl : ts.length = np)
    (ha : PA X (e :: es) (tEs A xw C ts)) (hdb : (x == ("__debug__" : Str)) = false) (he : starEach (e :: es) X.env = (false, eval e X.env) :: starEach es X.env) (hpl : (backTo pos (starEach es X.env)).any (·.1) = false) :
    PE X (.Call (.Name x p) (e :: es) [] pos) (tE A xw C (.call i ts)) := by
  refine (pe_callS F hr hg hm hk hb (fun σ => passAt tk σ) ha hdb he hpl).imp fun σ H Q ⟨W, ρ, S, h⟩ => ⟨W, ρ, S, ?_⟩
  have h := Ot.bind (mu1 := fun j => mutsL j ts) (mu2 := fun j => mutsL j ts) h (fun _ z => z) fun _ z => z
  rcases h with ⟨ds, ρ1, e2, h⟩ | h
  · refine .inl ⟨ds, ρ1, e2, fun W1 H1 S1 F1 vs r => ?_⟩
    exact call_out S1 r (by rw [← r.length, evEs_length e2, hl]) (hio2 ds) (Ot.back F1.so (h W1 H1 S1 F1))
  · exact .inr h
theorem pe_call0E {i : Nat} (F : FnOk X.prog X.w X.K X.mg X.base (L2.CX X.prog X.w) k f fd ps (spF A.g (C.run i) false 0)) (hr : Room k X.A) (hg : Gl X x) (hm : X.mg x = some (.ref f)) (hk : PySem.W.keepIn X.K (.ref f) = true) (hb : Binds X.K fd ps [])
    (tk : Takes X (wx A xw)) (hio2 : ∀ ds fr d o, C.run i ds = .ok fr d o → o = none) (hdb : (x == ("__debug__" : Str)) = false) : PE X (.Call (.Name x p) [] [] pos) (tE A xw C (.call i [])) := by
  refine (pe_callS0 F hr hg hm hk hb (fun σ => passAt tk σ) hdb).imp fun σ H Q ⟨W, ρ, S, h⟩ => ?_
  exact call_out S Reps.nil rfl (hio2 []) h
theorem get_put_cases {ρ : Env} {i j : Nat} {c : Cell} {x : Fl × D} (h : i < ρ.length) (q : get (put ρ i c) j = some x) : (j = i ∧ c = some x) ∨ (j ≠ i ∧ get ρ j = some x) := by
  rw [get_put h] at q
  by_cases e : j = i
  · rw [if_pos e] at q; exact .inl ⟨e, q⟩
  · rw [if_neg e] at q; exact .inr ⟨e, q⟩
/-- behind the change of what stands at one's own place -/
theorem SI.chg {σ : St} {W W' : Addr → Prop} {H H' : Hp} {ρ : Env} {i : Nat} {fl : Fl} {d c : D} {a : Addr} {mu : Nat → Bool} (S : SI A W H σ ρ) (g : get ρ i = some (fl, d)) (nf : fl ≠ .shr) (e : σ[i]? = some (some (.ref a))) (hm : mu i = true)
    (k1 : ∀ b o, H b = some o → b ≠ a → H' b = some o) (k2 : ∀ b, W b → W' b) (k3 : ∀ b, W' b → W b ∨ H b = none) (k4 : ∀ b, W' b → ∃ o, H' b = some o) (o : OwnR A.g W' H' c a) :
    SI A W' H' σ (put ρ i (some (fl, c))) ∧ Frm mu σ W H ρ W' H' (put ρ i (some (fl, c))) := by
  have hi := get_lt g
  have wa : W a := by
    obtain ⟨v, e1, r⟩ := S.slot i fl d g
    rw [e] at e1; cases e1
    cases fl with
    | shr => exact absurd rfl nf
    | own => obtain ⟨b, z, w, _⟩ := r; cases z; exact w
    | io => obtain ⟨b, z, _, w, _⟩ := r; cases z; exact w
  have kp : Kp W H W' H' := fun b o n h => ⟨fun w => (k3 b w).elim n (fun q => by rw [h] at q; cases q), k1 b o h fun z => n (z ▸ wa)⟩
  refine ⟨⟨by rw [put_length]; exact S.len, fun j fl' d' q => ?_, fun j l fl1 d1 fl2 d2 b g1 g2 n1 n2 => ?_, fun b h => k2 b (S.bw b h), S.b0, fun b o' h n => k1 b o' (S.base b o' h n) fun z => ?_, fun b h => ?_, k4, S.ioB⟩,
    ⟨fun b o' h n => k1 b o' h (fun z => n i fl d hm g nf (z ▸ e)), fun b o' h => ?_, k3, fun b w _ => k2 b w, fun j fl' d' q n => ?_, fun j fl' d' m q => ?_⟩⟩
  · rcases get_put_cases hi q with ⟨rfl, q5⟩ | ⟨hj, q⟩
    · cases q5
      obtain ⟨v, e1, r⟩ := S.slot j fl d g
      rw [e] at e1; cases e1
      refine ⟨_, e, ?_⟩
      cases fl with
      | shr => exact absurd rfl nf
      | own => obtain ⟨b, z, w, n, _⟩ := r; cases z; exact ⟨_, rfl, k2 _ w, n, o⟩
      | io => obtain ⟨b, z, n, w, _⟩ := r; cases z; exact ⟨_, rfl, n, k2 _ w, o⟩
    · obtain ⟨v, e1, r⟩ := S.slot j fl' d' q
      exact ⟨v, e1, r.kp kp k2 fun b o' n z h => k1 b o' h fun z2 => hj (S.dist j i _ _ _ _ a q g n nf (by rw [e1, z, z2]) e)⟩
  · rcases get_put_cases hi g1 with ⟨rfl, q1⟩ | ⟨h1, q1⟩
    · cases q1
      rcases get_put_cases hi g2 with ⟨rfl, q2⟩ | ⟨h2, q2⟩
      · exact fun _ _ => rfl
      · exact S.dist j l _ _ _ _ b g q2 nf n2
    · rcases get_put_cases hi g2 with ⟨rfl, q2⟩ | ⟨h2, q2⟩
      · cases q2
        exact S.dist j l _ _ _ _ b q1 g n1 nf
      · exact S.dist j l _ _ _ _ b q1 q2 n1 n2
  · obtain ⟨v, e1, r⟩ := S.slot i fl d g
    rw [e] at e1; cases e1
    cases fl with
    | shr => exact absurd rfl nf
    | own => obtain ⟨b, z2, w, n2, _⟩ := r; cases z2; rw [z, n2] at h; cases h
    | io => obtain ⟨b, z2, n2, w, _⟩ := r; cases z2; exact n (z ▸ n2)
  · exact k4 b (k2 b (S.bw b (S.ioB b h)))
  · by_cases z : b = a
    · obtain ⟨o2, q, _⟩ := o.some; exact ⟨o2, z ▸ q⟩
    · exact ⟨o', k1 b o' h z⟩
  · rcases get_put_cases hi q with ⟨rfl, q5⟩ | ⟨hj, q⟩
    · cases q5; exact ⟨d, g⟩
    · exact ⟨d', q⟩
  · rw [get_put hi]
    by_cases z : j = i
    · subst z; rw [hm] at m; cases m
    · rw [if_neg z]; exact ⟨fl', q⟩
end
end Py

/-! Targets, what is walked, comprehensions. -/
namespace Py
open PySem PySem.Spec PyProof.Rows L2
section
variable {X : Cx} {A : Ax} {xw : XW} {C : Cl} {e a b c : Expr} {t u : E} {pos : Pos}
/-! ### a call that changes what its first argument names -/
theorem pe_calliE {k np : Nat} {f : Addr} {fd : FuncData} {ps : List Str} {x : Str} {p p2 : Pos} {es : List Expr} {ts : List E} {i j : Nat} {y : Str} (F : FnOk X.prog X.w X.K X.mg X.base (L2.CX X.prog X.w) k f fd ps (spF A.g (C.run i) true np)) (hr : Room k X.A) (hg : Gl X x) (hm : X.mg x = some (.ref f)) (hk : PySem.W.keepIn X.K (.ref f) = true) (hb : Binds X.K fd ps [])
    (tk : Takes X (wx A xw)) (hl : ts.length + 1 = np) (hv : PE X (.Name y p2) (tVar j))
    (ha : PA X es (tEs A xw C ts)) (hdb : (x == ("__debug__" : Str)) = false) (he : starEach (.Name y p2 :: es) X.env = (false, eval (.Name y p2) X.env) :: starEach es X.env) (hpl : (backTo pos (starEach es X.env)).any (·.1) = false) :
    PE X (.Call (.Name x p) (.Name y p2 :: es) [] pos) (tE A xw C (.calli i j ts)) := by
  refine (pe_callS F hr hg hm hk hb (fun σ => passAt tk σ) (pa_cons hv ha he) hdb he hpl).imp fun σ H Q ⟨W, ρ, S, h⟩ => ?_
  have h : Ot A xw (fun l => muts l (.calli i j ts)) σ W H ρ ((rdP j ρ).bind fun _ ρ => (evEs C ts ρ).bind fun ds ρ => callIo C i j ds ρ) _ := h
  cases g : get ρ j with
  | none =>
    have e1 : rdP j ρ = .st := by unfold rdP; rw [g]
    rw [e1] at h; exact Ot.st h
  | some fd0 =>
    obtain ⟨fl, d⟩ := fd0
    have e1 : rdP j ρ = .ok (false, d) ρ := by unfold rdP; rw [g]
    rw [e1] at h
    have h : Ot A xw (fun l => muts l (.calli i j ts)) σ W H ρ ((evEs C ts ρ).bind fun ds ρ => callIo C i j ds ρ) _ := h
    obtain ⟨v0, ev, _⟩ := S.slot j fl d g
    refine ⟨v0, ev, W, ρ, S, ?_⟩
    have h := Ot.bind (mu1 := fun l => mutsL l ts) (mu2 := fun l => muts l (.calli i j ts)) h (fun l q => by simp [muts, q]) (fun _ z => z)
    rcases h with ⟨ds, ρ1, e2, h⟩ | h
    · refine .inl ⟨ds, ρ1, e2, fun W1 H1 S1 F1 vs r => ?_⟩
      have h : Ot A xw (fun l => muts l (.calli i j ts)) σ W1 H1 ρ1 (callIo C i j ds ρ1) _ := Ot.back F1.so (h W1 H1 S1 F1)
      have ht : (v0 :: vs).length = np := by rw [List.length_cons, ← r.length, evEs_length e2, hl]
      unfold callIo at h
      split at h
      · exact Ot.st h
      · rename_i fl1 c nf g1
        obtain ⟨v1, ev1, r1⟩ := S1.slot j fl1 c g1
        rw [ev] at ev1; cases ev1
        have ha : ∃ a, v0 = .ref a ∧ W1 a ∧ OwnR A.g W1 H1 c a := by
          cases fl1 with
          | shr => exact absurd rfl nf
          | own => obtain ⟨a, z, w, _, o⟩ := r1; exact ⟨a, z, w, o⟩
          | io => obtain ⟨a, z, _, w, o⟩ := r1; exact ⟨a, z, w, o⟩
        obtain ⟨a, rfl, wa, oa⟩ := ha
        split at h
        · rename_i fr r' c' q
          refine ⟨ht, W1, S1.wt, .inr ⟨rfl, a, vs, c, ds, fr, r', c', rfl, wa, oa, r, q, fun v H' W' k1 k2 k3 k4 o rr => ?_⟩⟩
          obtain ⟨S', F'⟩ := S1.chg (mu := fun l => muts l (.calli i j ts)) g1 nf ev (by simp [muts]) k1 k2 k3 k4 o
          refine Ot.ok' h S' F' v ?_
          unfold RR
          cases fr with
          | false => exact rr
          | true =>
            obtain ⟨p, rfl, hp, wp, op⟩ := rr
            refine ⟨p, rfl, hp, wp, S1.h0 hp, op, fun l fl' d' q n z => ?_⟩
            obtain ⟨d0, g0⟩ := F'.fl l fl' d' q n
            obtain ⟨v2, e3, r2⟩ := S1.slot l fl' d0 g0
            rw [z] at e3; cases e3
            cases fl' with
            | shr => exact n rfl
            | own => obtain ⟨b, z, _, _, o⟩ := r2; cases z; obtain ⟨o', q, _⟩ := o.some; rw [hp] at q; cases q
            | io => obtain ⟨b, z, _, _, o⟩ := r2; cases z; obtain ⟨o', q, _⟩ := o.some; rw [hp] at q; cases q
        · exact Ot.st h
      · exact Ot.st h
    · exact .inr h

/-! ### targets -/
def tG (A : Ax) (p : Pat) : TG := fun v σ H Q => ∃ W ρ d ρ', SI A W H σ ρ ∧ Rep A.g W H d v ∧ bindP p d ρ = some ρ' ∧ ∀ σ', SI A W H σ' ρ' → σ'.length = σ.length → (∀ j, j ∉ pslots p → σ'[j]? = σ[j]?) → Q σ' H
def tGs (A : Ax) (ps : List Pat) : TGs := fun vs σ H Q => ∃ W ρ ds ρ', SI A W H σ ρ ∧ Reps A.g W H ds vs ∧ bindL ps ds ρ = some ρ' ∧ ∀ σ', SI A W H σ' ρ' → σ'.length = σ.length → (∀ j, j ∉ pslotsL ps → σ'[j]? = σ[j]?) → Q σ' H
theorem _root_.L2.PG.imp {g g' : TG} (h : PG X e g) (f : ∀ v σ H Q, g' v σ H Q → g v σ H Q) : PG X e g' := ⟨fun pins s σ H v u Q I r q => h.run pins s σ H v u Q I r (f v σ H Q q)⟩
theorem _root_.L2.PGs.imp {es : List Expr} {g g' : TGs} (h : PGs X es g) (f : ∀ v σ H Q, g' v σ H Q → g v σ H Q) : PGs X es g' := ⟨fun pins s σ H v u Q I r q => h.run pins s σ H v u Q I r (f v σ H Q q)⟩
/-- a shared value comes into a slot -/
theorem SI.setShr {σ : St} {W : Addr → Prop} {H : Hp} {ρ : Env} {i : Nat} {d : D} {v : V} (S : SI A W H σ ρ) (r : Rep A.g W H d v) : SI A W H (σ.set i (some v)) (put ρ i (some (.shr, d))) := by
  by_cases hi : i < ρ.length
  · refine ⟨by rw [put_length, List.length_set]; exact S.len, fun j fl d' q => ?_, fun j l fl1 d1 fl2 d2 b g1 g2 n1 n2 e1 e2 => ?_, S.bw, S.b0, S.base, S.iok, S.wt, S.ioB⟩
    · rcases get_put_cases hi q with ⟨rfl, q5⟩ | ⟨hj, q⟩
      · cases q5
        exact ⟨v, by rw [List.getElem?_set_self (by rw [← S.len]; exact hi)], r⟩
      · obtain ⟨w, e, r⟩ := S.slot j fl d' q
        exact ⟨w, by rw [List.getElem?_set_ne (Ne.symm hj)]; exact e, r⟩
    · rcases get_put_cases hi g1 with ⟨_, q1⟩ | ⟨h1, q1⟩
      · cases q1; exact absurd rfl n1
      · rcases get_put_cases hi g2 with ⟨_, q2⟩ | ⟨h2, q2⟩
        · cases q2; exact absurd rfl n2
        · rw [List.getElem?_set_ne (Ne.symm h1)] at e1
          rw [List.getElem?_set_ne (Ne.symm h2)] at e2
          exact S.dist j l _ _ _ _ b q1 q2 n1 n2 e1 e2
  · have e1 : put ρ i (some (.shr, d)) = ρ := by
      have : ∀ (ρ : Env) i, ¬ i < ρ.length → put ρ i (some (.shr, d)) = ρ := by
        intro ρ
        induction ρ with
        | nil => intro i _; rfl
        | cons a ρ ih =>
          intro i h
          cases i with
          | zero => simp at h
          | succ i => simp only [put]; rw [ih i (by simpa using h)]
      exact this ρ i hi
    have e2 : σ.set i (some v) = σ := List.set_eq_of_length_le (by rw [← S.len]; omega)
    rw [e1, e2]; exact S
theorem pg_nameE {i : Nat} (h : PG X e (gName i)) : PG X e (tG A (.nm i)) := h.imp fun v σ H Q ⟨W, ρ, d, ρ', S, r, eb, k⟩ => by
  simp only [bindP, Option.some.injEq] at eb
  subst eb
  exact k _ (S.setShr r) (by rw [List.length_set]) fun j hj => by
    rw [List.getElem?_set_ne]
    intro z; subst z; exact hj (by simp [pslots])
theorem pgs_nilE : PGs X [] (tGs A []) := pgs_nil.imp fun vs σ H Q ⟨W, ρ, ds, ρ', S, r, eb, k⟩ => by
  cases ds with
  | nil => 
    simp only [bindL, Option.some.injEq] at eb; subst eb
    exact ⟨r.inv_nil, k σ S rfl fun _ _ => rfl⟩
  | cons d ds => simp only [bindL] at eb; cases eb
theorem pgs_consE {es : List Expr} {p : Pat} {ps : List Pat} (h1 : PG X e (tG A p)) (h2 : PGs X es (tGs A ps)) (hs : (assignEach (e :: es) X.env).map (·.2) = assign e X.env :: (assignEach es X.env).map (·.2)) : PGs X (e :: es) (tGs A (p :: ps)) :=
  (pgs_cons h1 h2 hs).imp fun vs σ H Q ⟨W, ρ, ds, ρ', S, r, eb, k⟩ => by
    cases ds with
    | nil => simp only [bindL] at eb; cases eb
    | cons d ds =>
      obtain ⟨v, vs', rfl, rv, rs⟩ := r.inv_cons
      simp only [bindL] at eb
      split at eb
      · rename_i ρ1 e1
        refine ⟨v, vs', rfl, W, ρ, d, ρ1, S, rv, e1, fun σ1 S1 l1 n1 => ⟨W, ρ1, ds, ρ', S1, rs, eb, fun σ2 S2 l2 n2 => ?_⟩⟩
        refine k σ2 S2 (l2.trans l1) fun j hj => ?_
        simp only [pslotsL, List.mem_append, not_or] at hj
        exact (n2 j hj.2).trans (n1 j hj.1)
      · cases eb
theorem bindL_length : ∀ {ps : List Pat} {ds : List D} {ρ ρ' : Env}, bindL ps ds ρ = some ρ' → ds.length = ps.length
  | [], [], _, _, _ => rfl
  | [], d :: ds, _, _, h => by simp only [bindL] at h; cases h
  | p :: ps, [], _, _, h => by simp only [bindL] at h; cases h
  | p :: ps, d :: ds, ρ, ρ', h => by
    simp only [bindL] at h
    split at h
    · simp [bindL_length h]
    · cases h
theorem pg_tupE {es : List Expr} {k n : Nat} {ps : List Pat} (hc : X.calm = true) (hK : A.g.K = X.K) (h : PGs X es (tGs A ps)) (hn : (assignEach es X.env).length = n) (hst : (assignEach es X.env).findIdx? (·.1) = none) (hp : ps.length = n) : PG X (.Tuple es k pos) (tG A (.tp ps)) :=
  (pg_tup hc h hn hst).imp fun v σ H Q ⟨W, ρ, d, ρ', S, r, eb, k⟩ => by
    cases d <;> simp only [bindP] at eb <;> try cases eb
    rename_i l
    simp only [Rep] at r
    obtain ⟨a, xs, rfl, ta, rs⟩ := r
    exact ⟨a, xs, rfl, hK ▸ ta.sq, by rw [← rs.length, bindL_length eb, hp], W, ρ, l, ρ', S, rs, eb, fun σ' S' l' n' => k σ' S' l' fun j hj => n' j (by simpa [pslots] using hj)⟩

/-! ### what is walked -/
/-- the walk J yields the data ds, from the state W, H on -/
def WkD (G : Kx) (W : Addr → Prop) (H : Hp) (J : It) (ds : List D) : Prop := ∃ P : (Addr → Prop) → Hp → Prop, P W H ∧ (∀ W1 H1 W2 H2, P W1 H1 → Kp W1 H1 W2 H2 → P W2 H2) ∧
  (∀ W1 H1 i, P W1 H1 → i < ds.length → J.go i H1) ∧ (∀ W1 H1, P W1 H1 → J.stop ds.length H1) ∧
  (∀ W1 H1 i x H2, P W1 H1 → (∀ a, W1 a → ∃ o, H1 a = some o) → i < ds.length → J.yld i H1 x H2 → Ext H1 H2 ∧ ∃ d, ds[i]? = some d ∧ Rep G W1 H2 d x)
def tI (A : Ax) (xw : XW) (C : Cl) (t : E) : TI := fun σ H R => ∃ W ρ, SI A W H σ ρ ∧ Ot A xw (fun j => muts j t) σ W H ρ ((evE C t ρ).bind itI) fun ds ρ' W' H' => ∀ J, WkD A.g W' H' J ds → R J H'
theorem wk_list {G : Kx} {W : Addr → Prop} {H : Hp} {a : Addr} {xs : List V} {ds : List D} (h : ¬ W a ∧ H a = some (.lst xs)) (r : Reps G W H ds xs) : WkD G W H (Itl G.K a) ds := by
  have hl := r.length
  refine ⟨fun W1 H1 => (¬ W1 a ∧ H1 a = some (.lst xs)) ∧ Reps G W1 H1 ds xs, ⟨h, r⟩, fun W1 H1 W2 H2 p k => ⟨k a _ p.1.1 p.1.2, p.2.kp k⟩, fun W1 H1 i p hi => ?_, fun W1 H1 p => ?_, fun W1 H1 i x H2 p wt hi y => ?_⟩
  · exact (walk_list (K := G.K) (a := a) (xs := xs)).goes i H1 (by omega) (SqL.of p.1.2)
  · rw [hl]; exact (walk_list (K := G.K) (a := a) (xs := xs)).stops H1 (SqL.of p.1.2)
  · obtain ⟨rfl, hx⟩ := (walk_list (K := G.K) (a := a) (xs := xs)).yields i H1 x H2 (by omega) (SqL.of p.1.2) y
    refine ⟨Ext.refl _, ds[i], by simp [hi], ?_⟩
    obtain ⟨v, e1, r1⟩ := p.2.get (i := i) (d := ds[i]) (by simp [hi])
    rw [hx] at e1; cases e1; exact r1
theorem wk_tup {G : Kx} {W : Addr → Prop} {H : Hp} {a : Addr} {xs : List V} {ds : List D} (h : TAt G.K W H a xs) (r : Reps G W H ds xs) : WkD G W H (Itt G.K a) ds := by
  have hl := r.length
  refine ⟨fun W1 H1 => TAt G.K W1 H1 a xs ∧ Reps G W1 H1 ds xs, ⟨h, r⟩, fun W1 H1 W2 H2 p k => ⟨p.1.kp k, p.2.kp k⟩, fun W1 H1 i p hi => ?_, fun W1 H1 p => ?_, fun W1 H1 i x H2 p wt hi y => ?_⟩
  · exact (walk_tup (K := G.K) (a := a) (xs := xs)).goes i H1 (by omega) p.1.sq
  · rw [hl]; exact (walk_tup (K := G.K) (a := a) (xs := xs)).stops H1 p.1.sq
  · obtain ⟨rfl, hx⟩ := (walk_tup (K := G.K) (a := a) (xs := xs)).yields i H1 x H2 (by omega) p.1.sq y
    refine ⟨Ext.refl _, ds[i], by simp [hi], ?_⟩
    obtain ⟨v, e1, r1⟩ := p.2.get (i := i) (d := ds[i]) (by simp [hi])
    rw [hx] at e1; cases e1; exact r1
theorem chars_length : ∀ s : List Nat, (chars s).length = s.length
  | [] => rfl
  | c :: s => by simp [chars, chars_length s]
theorem chars_get : ∀ (s : List Nat) (i : Nat), (chars s)[i]? = (s[i]?).map fun c => D.str [c]
  | [], i => by simp [chars]
  | c :: s, 0 => by simp [chars]
  | c :: s, i + 1 => by simp [chars, chars_get s i]
theorem rep_str {G : Kx} {W : Addr → Prop} {H : Hp} {s : List Nat} {v : V} (h : Rep G W H (.str s) v) : v = .str ⟨s.toArray⟩ ∧ okS s := by simpa only [Rep] using h
theorem Rep.str {G : Kx} {W : Addr → Prop} {H : Hp} {s : List Nat} (h : okS s) : Rep G W H (.str s) (.str ⟨s.toArray⟩) := by simp only [Rep]; exact ⟨trivial, h⟩
theorem wk_str {G : Kx} {W : Addr → Prop} {H : Hp} {s : List Nat} (ho : okS s) : WkD G W H (Its ⟨s.toArray⟩) (chars s) := by
  have hl := chars_length s
  refine ⟨fun _ _ => True, trivial, fun _ _ _ _ _ _ => trivial, fun W1 H1 i p hi => ?_, fun W1 H1 p => ?_, fun W1 H1 i x H2 p wt hi y => ?_⟩
  · exact (walk_str (z := ⟨s.toArray⟩)).goes i H1 (by simpa [hl] using hi) trivial
  · have := (walk_str (z := ⟨s.toArray⟩)).stops H1 trivial
    rw [hl]; simpa using this
  · obtain ⟨rfl, c, hc, rfl⟩ := (walk_str (z := ⟨s.toArray⟩)).yields i H1 x H2 (by simpa [hl] using hi) trivial y
    have hc : s[i]? = some c := by simpa using hc
    refine ⟨Ext.refl _, .str [c], ?_, Rep.str ⟨by simp [sz], fun x hx => by simp at hx; subst hx; exact ho.2 _ (List.mem_of_getElem? hc)⟩⟩
    rw [chars_get]
    rw [hc]; rfl
theorem rngG_length (st : Int) : ∀ (n : Nat) (i : Int), (rngG st n i).length = n
  | 0, i => rfl
  | n + 1, i => by simp [rngG, rngG_length st n]
theorem rngG_get (st : Int) : ∀ (n : Nat) (i : Int) (k : Nat), k < n → (rngG st n i)[k]? = some (.int (i + k * st))
  | 0, i, k, h => by omega
  | n + 1, i, 0, h => by simp [rngG]
  | n + 1, i, k + 1, h => by
    simp only [rngG, List.getElem?_cons_succ]
    rw [rngG_get st n (i + st) k (by omega)]
    congr 2
    rw [show ((k + 1 : Nat) : Int) = (k : Int) + 1 from rfl, Int.add_mul]
    omega
theorem rngN_one (lo hi : Int) : rngN lo hi 1 = (hi - lo).toNat := by
  unfold rngN
  rw [if_pos (by decide)]
  congr 1
  rw [Int.ediv_one]; omega
theorem wk_range {G : Kx} {W : Addr → Prop} {H : Hp} {lo hi : Int} : WkD G W H (Itr lo (hi - lo).toNat) (rngL lo hi 1) := by
  have hl : (rngL lo hi 1).length = (hi - lo).toNat := by rw [rngL, rngG_length, rngN_one]
  refine ⟨fun _ _ => True, trivial, fun _ _ _ _ _ _ => trivial, fun W1 H1 i p h => ?_, fun W1 H1 p => ?_, fun W1 H1 i x H2 p wt h y => ?_⟩
  · exact (walk_range (lo := lo) (n := (hi - lo).toNat)).goes i H1 (by omega) trivial
  · have := (walk_range (lo := lo) (n := (hi - lo).toNat)).stops H1 trivial
    rw [hl]; exact this
  · obtain ⟨rfl, rfl⟩ := (walk_range (lo := lo) (n := (hi - lo).toNat)).yields i H1 x H2 (by omega) trivial y
    refine ⟨Ext.refl _, .int (lo + i), ?_, by simp only [Rep]⟩
    rw [rngL, rngN_one, rngG_get _ _ _ _ (by omega)]
    congr 2; omega
/-- a list, a tuple or a text -/
theorem pi_seqE {tg : Expr} (hK : A.g.K = X.K) (ha : PE X a (tE A xw C t)) : PI X tg a (tI A xw C t) := by
  refine ⟨fun pins s σ H R I ⟨W, ρ, S, h⟩ => ?_⟩
  have h := Ot.bind (mu1 := fun j => muts j t) (mu2 := fun j => muts j t) h (fun _ z => z) fun _ z => z
  rcases h with ⟨x, ρ1, e, h⟩ | h
  · cases q : x.2 with
    | lst l =>
      refine (pi_list ha).run pins s σ H R I ⟨W, ρ, S, Ot.shr S (.inl ⟨x, ρ1, e, fun W1 H1 S1 F1 v r => ?_⟩)⟩
      have h : Ot A xw (fun j => muts j t) σ W1 H1 ρ1 (itI x ρ1) _ := h W1 H1 S1 F1
      unfold itI at h; rw [q] at h r
      simp only [Rep] at r
      obtain ⟨a, xs, rfl, la, rs⟩ := r
      exact ⟨a, rfl, ⟨xs, SqL.of la.2⟩, Ot.ok h S1 Frm.refl _ (by rw [← hK]; exact wk_list la rs)⟩
    | tup l =>
      refine (pi_tup ha).run pins s σ H R I ⟨W, ρ, S, Ot.shr S (.inl ⟨x, ρ1, e, fun W1 H1 S1 F1 v r => ?_⟩)⟩
      have h : Ot A xw (fun j => muts j t) σ W1 H1 ρ1 (itI x ρ1) _ := h W1 H1 S1 F1
      unfold itI at h; rw [q] at h r
      simp only [Rep] at r
      obtain ⟨a, xs, rfl, la, rs⟩ := r
      exact ⟨a, rfl, ⟨xs, hK ▸ la.sq⟩, Ot.ok h S1 Frm.refl _ (by rw [← hK]; exact wk_tup la rs)⟩
    | str l =>
      refine (pi_str ha).run pins s σ H R I ⟨W, ρ, S, Ot.shr S (.inl ⟨x, ρ1, e, fun W1 H1 S1 F1 v r => ?_⟩)⟩
      have h : Ot A xw (fun j => muts j t) σ W1 H1 ρ1 (itI x ρ1) _ := h W1 H1 S1 F1
      unfold itI at h; rw [q] at h r
      obtain ⟨rfl, hz⟩ := rep_str r
      exact ⟨⟨l.toArray⟩, rfl, Ot.ok h S1 Frm.refl _ (wk_str hz)⟩
    | _ =>
      refine (pi_list ha).run pins s σ H R I ⟨W, ρ, S, Ot.shr S (.inl ⟨x, ρ1, e, fun W1 H1 S1 F1 v r => ?_⟩)⟩
      rw [q] at r
      have h : Ot A xw (fun j => muts j t) σ W1 H1 ρ1 (itI x ρ1) _ := h W1 H1 S1 F1
      unfold itI at h; rw [q] at h
      first
        | (simp only [Rep] at r; done)
        | exact Ot.st h
  · exact (pi_list ha).run pins s σ H R I ⟨W, ρ, S, .inr h⟩
theorem pi_rangeE1 {tg : Expr} {p : Pos} (hg : Gl X "range") (hm : X.mg "range" = none) (ha : PE X a (tE A xw C t)) (hs1 : starEach [a] X.env = (false, eval a X.env) :: starEach [] X.env) (hs : starEach [a] X.env = [(false, eval a X.env)]) : PI X tg (.Call (.Name "range" p) [a] [] pos) (tI A xw C (.rng1 t)) := by
  refine ⟨fun pins s σ H R I ⟨W, ρ, S, h⟩ => (pi_range1 hg hm (pa_cons ha pa_nil hs1) hs).run pins s σ H R I ⟨W, ρ, S, Ot.shr S ?_⟩⟩
  have h := Ot.bind (mu1 := fun j => muts j t) (mu2 := fun j => muts j t) (Ot.bind (mu1 := fun j => muts j t) (mu2 := fun j => muts j t) h (fun _ z => z) fun _ z => z) (fun _ z => z) fun _ z => z
  refine h.imp fun x ρ1 W1 H1 S1 F1 h v r => ?_
  obtain ⟨d, e, h⟩ := Ot.finS h
  cases q : x.2 <;> rw [q] at e <;> simp only [rngV1] at e <;> try cases e
  rename_i n
  split at e
  · rename_i hb
    cases e
    rw [q] at r
    obtain rfl := rep_int r
    simp only [smallI_iff, Bool.and_eq_true, decide_eq_true_eq] at hb
    have w := wk_range (G := A.g) (W := W1) (H := H1) (lo := 0) (hi := n)
    rw [Int.sub_zero] at w
    exact ⟨n, rfl, by omega, by omega, Ot.ok (h W1 H1 S1 Frm.refl) S1 Frm.refl _ w⟩
  · cases e
theorem pi_rangeE2 {tg : Expr} {p : Pos} (hg : Gl X "range") (hm : X.mg "range" = none) (ha : PE X a (tE A xw C t)) (hb : PE X b (tE A xw C u)) (hs1 : starEach [a, b] X.env = (false, eval a X.env) :: starEach [b] X.env) (hs2 : starEach [b] X.env = (false, eval b X.env) :: starEach [] X.env)
    (hs : starEach [a, b] X.env = [(false, eval a X.env), (false, eval b X.env)]) : PI X tg (.Call (.Name "range" p) [a, b] [] pos) (tI A xw C (.rng2 t u)) := by
  refine ⟨fun pins s σ H R I ⟨W, ρ, S, h⟩ => (pi_range2 hg hm (pa_cons ha (pa_cons hb pa_nil hs2) hs1) hs hs2).run pins s σ H R I ⟨W, ρ, S, Ot.shr S ?_⟩⟩
  have h := Ot.bind (mu1 := fun j => muts j t) (mu2 := fun j => muts j u) (Ot.bind (mu1 := fun j => muts j (.rng2 t u)) (mu2 := fun j => muts j (.rng2 t u)) h (fun _ z => z) fun _ z => z) or1 or2
  refine h.imp fun x ρ1 W1 H1 S1 F1 h v r => ⟨W1, ρ1, S1, Ot.shr S1 ?_⟩
  have h := Ot.bind (mu1 := fun j => muts j u) (mu2 := fun j => muts j u) h (fun _ z => z) fun _ z => z
  refine h.imp fun y ρ2 W2 H2 S2 F2 h w r2 => ?_
  obtain ⟨d, e, h⟩ := Ot.finS h
  cases q : x.2 <;> rw [q] at e <;> simp only [rngV2] at e <;> try cases e
  rename_i n
  cases q2 : y.2 <;> rw [q2] at e <;> simp only [rngV2] at e <;> try cases e
  rename_i m
  split at e
  · rename_i hb
    cases e
    rw [q] at r; rw [q2] at r2
    obtain rfl := rep_int r
    obtain rfl := rep_int r2
    simp only [smallI_iff, Bool.and_eq_true, decide_eq_true_eq] at hb
    exact ⟨n, m, rfl, by omega, Ot.ok (h W2 H2 S2 Frm.refl) S2 (Frm.mono Frm.refl (mu' := fun j => muts j (.rng2 t u)) or2) _ wk_range⟩
  · cases e

theorem rngN_down (lo hi : Int) : rngN lo hi (-1) = (lo - hi).toNat := by
  unfold rngN
  rw [if_neg (by decide), if_pos (by decide)]
  congr 1
  rw [show (0 : Int) - -1 = 1 by decide, Int.ediv_one]; omega
theorem wk_rangeD {G : Kx} {W : Addr → Prop} {H : Hp} {lo hi : Int} : WkD G W H (Itc lo (-1) (lo - hi).toNat) (rngL lo hi (-1)) := by
  have hl : (rngL lo hi (-1)).length = (lo - hi).toNat := by rw [rngL, rngG_length, rngN_down]
  refine ⟨fun _ _ => True, trivial, fun _ _ _ _ _ _ => trivial, fun W1 H1 i p h => ?_, fun W1 H1 p => ?_, fun W1 H1 i x H2 p wt h y => ?_⟩
  · show i < (lo - hi).toNat
    omega
  · show (lo - hi).toNat ≤ _
    omega
  · obtain ⟨rfl, rfl⟩ := y
    refine ⟨Ext.refl _, .int (lo + (i : Nat) * (-1)), ?_, by simp only [Rep]⟩
    rw [rngL, rngN_down, rngG_get _ _ _ _ (by omega)]
theorem rngV3_ok {x y z d : D} (h : rngV3 x y z = some d) : ∃ a b, x = .int a ∧ y = .int b ∧ z = .int (-1) ∧ (-4611686018427387904 ≤ a ∧ a < 4611686018427387904) ∧ (-4611686018427387904 ≤ b ∧ b < 4611686018427387904) ∧ d = .itr (rngL a b (-1)) := by
  unfold rngV3 at h
  split at h
  · split at h
    · rename_i a b c hb
      simp only [smallI_iff, Bool.and_eq_true, beq_iff_eq] at hb
      obtain ⟨⟨h1, h2⟩, rfl⟩ := hb
      cases h
      exact ⟨a, b, rfl, rfl, rfl, h1, h2, rfl⟩
    · cases h
  · cases h
theorem or31 {p q r : Nat → Bool} : ∀ j, p j = true → (p j || q j || r j) = true := fun j h => by simp [h]
theorem or32 {p q r : Nat → Bool} : ∀ j, q j = true → (p j || q j || r j) = true := fun j h => by simp [h]
theorem or33 {p q r : Nat → Bool} : ∀ j, r j = true → (p j || q j || r j) = true := fun j h => by simp [h]
theorem or3b {p q r : Nat → Bool} : ∀ j, (q j || r j) = true → (p j || q j || r j) = true := fun j h => by
  cases h1 : q j <;> simp_all
theorem pi_rangeE3 {tg : Expr} {p : Pos} {d : Expr} {v : E} (hg : Gl X "range") (hm : X.mg "range" = none) (ha : PE X a (tE A xw C t)) (hb : PE X b (tE A xw C u)) (hd : PE X d (tE A xw C v))
    (hs1 : starEach [a, b, d] X.env = (false, eval a X.env) :: starEach [b, d] X.env) (hs2 : starEach [b, d] X.env = (false, eval b X.env) :: starEach [d] X.env) (hs3 : starEach [d] X.env = (false, eval d X.env) :: starEach [] X.env)
    (hpl : (backTo pos (starEach [b, d] X.env)).any (·.1) = false) : PI X tg (.Call (.Name "range" p) [a, b, d] [] pos) (tI A xw C (.rng3 t u v)) := by
  refine ⟨fun pins s σ H R I ⟨W, ρ, S, h⟩ => (pi_range3 hg hm (pa_cons ha (pa_cons hb (pa_cons hd pa_nil hs3) hs2) hs1) hs1 hpl).run pins s σ H R I ⟨W, ρ, S, Ot.shr S ?_⟩⟩
  have h := Ot.bind (mu1 := fun j => muts j t) (mu2 := fun j => muts j u || muts j v) (Ot.bind (mu1 := fun j => muts j (.rng3 t u v)) (mu2 := fun j => muts j (.rng3 t u v)) h (fun _ z => z) fun _ z => z) or31 or3b
  refine h.imp fun x ρ1 W1 H1 S1 F1 h w r => ⟨W1, ρ1, S1, Ot.shr S1 ?_⟩
  have h := Ot.bind (mu1 := fun j => muts j u) (mu2 := fun j => muts j v) h or1 or2
  refine h.imp fun y ρ2 W2 H2 S2 F2 h w' r2 => ⟨W2, ρ2, S2, Ot.shr S2 ?_⟩
  have h := Ot.bind (mu1 := fun j => muts j v) (mu2 := fun j => muts j v) h (fun _ z => z) fun _ z => z
  refine h.imp fun z ρ3 W3 H3 S3 F3 h w'' r3 => ?_
  obtain ⟨dd, e, h⟩ := Ot.finS h
  obtain ⟨n, m, q, q2, q3, h1, h2, rfl⟩ := rngV3_ok e
  rw [q] at r; rw [q2] at r2; rw [q3] at r3
  obtain rfl := rep_int r
  obtain rfl := rep_int r2
  obtain rfl := rep_int r3
  exact ⟨n, m, -1, _, rfl, RgC.neg (by omega) (by omega) (by omega) (by omega), Ot.ok (h W3 H3 S3 Frm.refl) S3 (Frm.mono Frm.refl (mu' := fun j => muts j (.rng3 t u v)) or33) _ wk_rangeD⟩

/-! ### comprehensions -/
theorem get_clr : ∀ (l : List Nat) (ρ : Env) (j : Nat), get (clr l ρ) j = if j ∈ l then none else get ρ j
  | [], ρ, j => by simp [clr]
  | i :: l, ρ, j => by
    simp only [clr]
    rw [get_clr l]
    by_cases h : j ∈ l
    · simp [h]
    · simp only [h, if_false, List.mem_cons, or_false]
      by_cases e : j = i
      · subst e
        rw [if_pos rfl]
        by_cases hl : j < ρ.length
        · exact get_put_same hl
        · cases q : get (put ρ j none) j with
          | none => rfl
          | some x => have := get_lt q; rw [put_length] at this; exact absurd this hl
      · rw [if_neg e, get_put_ne e]
theorem clr_length : ∀ (l : List Nat) (ρ : Env), (clr l ρ).length = ρ.length
  | [], ρ => rfl
  | i :: l, ρ => by simp only [clr]; rw [clr_length l, put_length]
theorem rst_length : ∀ (l : List Nat) (ρ₀ ρ : Env), (rst l ρ₀ ρ).length = ρ.length
  | [], _, ρ => rfl
  | i :: l, ρ₀, ρ => by simp only [rst]; rw [rst_length l, put_length]
theorem get_rst : ∀ (l : List Nat) (ρ₀ ρ : Env) (j : Nat), j < ρ.length → get (rst l ρ₀ ρ) j = if j ∈ l then get ρ₀ j else get ρ j
  | [], ρ₀, ρ, j, _ => by simp [rst]
  | i :: l, ρ₀, ρ, j, hj => by
    simp only [rst]
    rw [get_rst l ρ₀ _ j (by rw [put_length]; exact hj)]
    by_cases h : j ∈ l
    · simp [h]
    · simp only [h, if_false, List.mem_cons, or_false]
      by_cases e : j = i
      · subst e; rw [if_pos rfl, get_put_same hj]
      · rw [if_neg e, get_put_ne e]
theorem okOwn_get : ∀ {l : List Nat} {ρ : Env} {j : Nat} {fl : Fl} {d : D}, okOwn l ρ = true → j ∈ l → get ρ j = some (fl, d) → fl = .shr
  | i :: l, ρ, j, fl, d, h, hj, g => by
    simp only [okOwn, Bool.and_eq_true] at h
    rcases List.mem_cons.mp hj with rfl | hj
    · have h1 := h.1
      rw [g] at h1
      cases fl <;> first | rfl | (simp at h1)
    · exact okOwn_get h.2 hj g
theorem SI.wipe {σ : St} {W : Addr → Prop} {H : Hp} {ρ : Env} {own : List Nat} (S : SI A W H σ ρ) : SI A W H (wipe σ own) (clr own ρ) := by
  have gc : ∀ j x, get (clr own ρ) j = some x → j ∉ own ∧ get ρ j = some x := fun j x q => by
    rw [get_clr] at q
    by_cases h : j ∈ own
    · rw [if_pos h] at q; cases q
    · rw [if_neg h] at q; exact ⟨h, q⟩
  refine ⟨by rw [clr_length, wipe_length]; exact S.len, fun j fl d q => ?_, fun j l fl1 d1 fl2 d2 b g1 g2 n1 n2 e1 e2 => ?_, S.bw, S.b0, S.base, S.iok, S.wt, S.ioB⟩
  · obtain ⟨h, q⟩ := gc j _ q
    obtain ⟨v, e, r⟩ := S.slot j fl d q
    exact ⟨v, by rw [wipe_out h]; exact e, r⟩
  · obtain ⟨h1, q1⟩ := gc j _ g1
    obtain ⟨h2, q2⟩ := gc l _ g2
    rw [wipe_out h1] at e1
    rw [wipe_out h2] at e2
    exact S.dist j l _ _ _ _ b q1 q2 n1 n2 e1 e2
theorem wipe_get {σ : St} : ∀ {vs : List Nat} {j : Nat}, j ∈ vs → j < σ.length → (wipe σ vs)[j]? = some none
  | v :: vs, j, h, hl => by
    simp only [L2.wipe]
    by_cases e : j = v
    · subst e; rw [List.getElem?_set_self (by rw [wipe_length]; exact hl)]
    · rw [List.getElem?_set_ne (Ne.symm e)]
      exact wipe_get ((List.mem_cons.mp h).resolve_left e) hl
theorem wipe_eq {σ σ' : St} {own : List Nat} (hl : σ'.length = (wipe σ own).length) (h : ∀ j, j ∉ own → σ'[j]? = (wipe σ own)[j]?) : wipe σ' own = wipe σ own := by
  apply List.ext_getElem?
  intro j
  have hl2 : σ'.length = σ.length := by rw [hl, wipe_length]
  by_cases hj : j ∈ own
  · by_cases hjl : j < σ.length
    · rw [wipe_get hj hjl, wipe_get hj (by rw [hl2]; exact hjl)]
    · rw [List.getElem?_eq_none_iff.mpr (by rw [wipe_length]; omega), List.getElem?_eq_none_iff.mpr (by rw [wipe_length]; omega)]
  · rw [wipe_out hj, h j hj]
/-- what stands at a private place that no slot names is changed -/
theorem SI.priv {σ : St} {W : Addr → Prop} {H : Hp} {ρ : Env} {p : Addr} {o : HO} (S : SI A W H σ ρ) (w : W p) (h0 : A.H0 p = none) (nd : ∀ j fl d, get ρ j = some (fl, d) → fl ≠ .shr → σ[j]? ≠ some (some (.ref p))) : SI A W (upd H p o) σ ρ := by
  have kp : Kp W H W (upd H p o) := fun b o' n h => ⟨n, by rw [upd_ne (fun z => by subst z; exact n w)]; exact h⟩
  refine ⟨S.len, fun j fl d q => ?_, S.dist, S.bw, S.b0, fun b o' h n => ?_, fun b h => ?_, fun b h => ?_, S.ioB⟩
  · obtain ⟨v, e, r⟩ := S.slot j fl d q
    exact ⟨v, e, r.kp kp (fun _ z => z) fun a o' n z h => by rw [upd_ne (fun z2 => nd j fl d q n (by rw [e, z, z2]))]; exact h⟩
  · rw [upd_ne (fun z => by subst z; rw [h0] at h; cases h)]; exact S.base b o' h n
  · obtain ⟨o', q⟩ := S.iok b h
    by_cases z : b = p
    · exact ⟨o, by rw [z]; exact upd_same⟩
    · exact ⟨o', by rw [upd_ne z]; exact q⟩
  · obtain ⟨o', q⟩ := S.wt b h
    by_cases z : b = p
    · exact ⟨o, by rw [z]; exact upd_same⟩
    · exact ⟨o', by rw [upd_ne z]; exact q⟩
theorem Frm.priv {mu : Nat → Bool} {σ : St} {W W' : Addr → Prop} {H H' : Hp} {ρ ρ' : Env} {p : Addr} {o : HO} (F : Frm mu σ W H ρ W' H' ρ') (hp : H p = none) : Frm mu σ W H ρ W' (upd H' p o) ρ' :=
  ⟨fun a o' h k => by rw [upd_ne (ne_of_none h hp)]; exact F.hp a o' h k, fun a o' h => by rw [upd_ne (ne_of_none h hp)]; exact F.so a o' h, F.ww, F.wl, F.fl, F.same⟩
theorem cmpL_len {f : D → Env → M (Option D)} : ∀ {ds acc : List D} {ρ ρ' : Env} {ys : List D}, cmpL f ds acc ρ = .ok ys ρ' → acc.length ≤ ys.length
  | [], acc, ρ, ρ', ys, h => by simp only [cmpL] at h; cases h; simp
  | d :: ds, acc, ρ, ρ', ys, h => by
    simp only [cmpL] at h
    obtain ⟨o, ρ1, e, h⟩ := M.bind_ok h
    cases o with
    | none => exact cmpL_len h
    | some y => have := cmpL_len h; simp at this; omega
theorem noEx_ok {α : Type} {m : M α} {a : α} {ρ : Env} (h : noEx m = .ok a ρ) : m = .ok a ρ := by
  cases m <;> simp only [noEx] at h <;> first | exact h | cases h
theorem Ot.get {α : Type} {σ : St} {W : Addr → Prop} {H : Hp} {ρ : Env} {mu : Nat → Bool} {m : M α} {k : α → Env → (Addr → Prop) → Hp → Prop} (h : Ot A xw mu σ W H ρ m k) (nx : ∀ c l ρ', m ≠ .ex c l ρ') : ∃ x ρ', m = .ok x ρ' ∧ ∀ W' H', SI A W' H' σ ρ' → Frm mu σ W H ρ W' H' ρ' → k x ρ' W' H' := by
  rcases h with h | ⟨c, l, ρ', e, h⟩
  · exact h
  · exact absurd e (nx c l ρ')
/-- the wish of a comprehension's block -/
def xw0 : XW := fun _ _ _ _ _ _ => False
theorem Frm.blk {mu mub : Nat → Bool} {σ0 σ2 : St} {W W5 : Addr → Prop} {H H5 : Hp} {ρ0 ρb ρ2 : Env} {vs : List Nat} (F : Frm mu σ2 W H ρb W5 H5 ρ2) (ha : ∀ j, j ∉ vs → get ρb j = get ρ0 j) (hs : ∀ j, j ∉ vs → σ2[j]? = σ0[j]?)
    (hb : ∀ j fl d, j ∈ vs → get ρb j = some (fl, d) → fl = .shr) (le : ∀ j, mu j = true → mub j = true) (hv : ∀ j, j ∈ vs → mub j = true) : Frm mub σ0 W H ρ0 W5 H5 (clr vs ρ2) := by
  have gc : ∀ j x, get (clr vs ρ2) j = some x → j ∉ vs ∧ get ρ2 j = some x := fun j x q => by
    rw [get_clr] at q
    by_cases h : j ∈ vs
    · rw [if_pos h] at q; cases q
    · rw [if_neg h] at q; exact ⟨h, q⟩
  have nv : ∀ j fl d, get ρb j = some (fl, d) → fl ≠ .shr → j ∉ vs := fun j fl d g n hj => n (hb j fl d hj g)
  refine ⟨fun a o h k => F.hp a o h fun j fl d m g n => ?_, F.so, F.ww, fun a w k => F.wl a w fun j fl d g n => ?_, fun j fl d g n => ?_, fun j fl d m g => ?_⟩
  · have hj := nv j fl d g n
    rw [hs j hj]
    exact k j fl d (le j m) (by rw [← ha j hj]; exact g) n
  · have hj := nv j fl d g n
    rw [hs j hj]
    exact k j fl d (by rw [← ha j hj]; exact g) n
  · obtain ⟨hj, g⟩ := gc j _ g
    obtain ⟨d0, g0⟩ := F.fl j fl d g n
    exact ⟨d0, by rw [← ha j hj]; exact g0⟩
  · have hj : j ∉ vs := fun z => by rw [hv j z] at m; cases m
    have m2 : mu j = false := by
      cases q : mu j with
      | false => rfl
      | true => rw [le j q] at m; cases m
    obtain ⟨fl', g'⟩ := F.same j fl d m2 (by rw [ha j hj]; exact g)
    exact ⟨fl', by rw [get_clr, if_neg hj]; exact g'⟩
mutual
theorem bindP_get : ∀ {p : Pat} {d : D} {ρ ρ' : Env}, bindP p d ρ = some ρ' → (∀ j, j ∉ pslots p → get ρ' j = get ρ j) ∧ (∀ j fl d', get ρ' j = some (fl, d') → fl = .shr ∨ get ρ j = some (fl, d'))
  | .nm i, d, ρ, ρ', h => by
    simp only [bindP, Option.some.injEq] at h
    subst h
    refine ⟨fun j hj => get_put_ne fun z => hj (by simp [pslots, z]), fun j fl d' g => ?_⟩
    have hi : j < ρ.length := by have := get_lt g; rwa [put_length] at this
    by_cases e : j = i
    · subst e; rw [get_put_same hi] at g; cases g; exact .inl rfl
    · rw [get_put_ne e] at g; exact .inr g
  | .tp ps, d, ρ, ρ', h => by
    cases d <;> simp only [bindP] at h <;> try cases h
    obtain ⟨h1, h2⟩ := bindL_get h
    exact ⟨fun j hj => h1 j (by simpa [pslots] using hj), h2⟩
theorem bindL_get : ∀ {ps : List Pat} {ds : List D} {ρ ρ' : Env}, bindL ps ds ρ = some ρ' → (∀ j, j ∉ pslotsL ps → get ρ' j = get ρ j) ∧ (∀ j fl d', get ρ' j = some (fl, d') → fl = .shr ∨ get ρ j = some (fl, d'))
  | [], [], ρ, ρ', h => by
    simp only [bindL, Option.some.injEq] at h; subst h
    exact ⟨fun _ _ => rfl, fun _ _ _ g => .inr g⟩
  | [], d :: ds, ρ, ρ', h => by simp only [bindL] at h; cases h
  | p :: ps, [], ρ, ρ', h => by simp only [bindL] at h; cases h
  | p :: ps, d :: ds, ρ, ρ', h => by
    simp only [bindL] at h
    split at h
    · rename_i ρ1 e1
      obtain ⟨a1, a2⟩ := bindP_get e1
      obtain ⟨b1, b2⟩ := bindL_get h
      refine ⟨fun j hj => ?_, fun j fl d' g => ?_⟩
      · simp only [pslotsL, List.mem_append, not_or] at hj
        exact (b1 j hj.2).trans (a1 j hj.1)
      · rcases b2 j fl d' g with q | q
        · exact .inl q
        · exact a2 j fl d' q
    · cases h
end
theorem pe_compT {elt tg iter : Expr} {ifs : List Expr} {scope : Scope} {own : List (Str × Nat)} {wi : TI} {g : TG} {tt : TT} {te : TE} {p : Pat} {it e : E} {c : T}
    (hsub : ∀ j ∈ pslots p, j ∈ own.map (·.2)) : ∀ σ H Q, tE A xw C (.comp (own.map (·.2)) p it c e) σ H Q → tLc (tI A xw C it) (tG A p) (tT A xw0 C c) (tE A xw0 C e) (own.map (·.2)) σ H Q := by
  intro σ H Q ⟨W, ρ, S, h⟩
  generalize hown : own.map (·.2) = vs at h hsub ⊢
  refine ⟨W, ρ, S, ?_⟩
  have h : Ot A xw (fun j => muts j (.comp vs p it c e)) σ W H ρ (((evE C it ρ).bind itI).bind _) _ := h
  refine (Ot.bind (mu1 := fun j => muts j it) (mu2 := fun j => muts j (.comp vs p it c e)) h (fun j q => by simp [muts, q]) (fun _ z => z)).imp fun ds ρ1 W1 H1 S1 F1 h J hw dl hD => ?_
  have h := Ot.back F1.so h
  obtain ⟨P, hP, hk, hgo, hstop, hy⟩ := hw
  -- the evaluator's loop
  have hm : ∃ ys ρf, cmpL (fun d ρ => (bnd p d (clr vs ρ)).bind fun _ ρ => (evT C c ρ).bind fun b ρ => if b then (evE C e ρ).bind fun x ρ => .ok (some x.2) ρ else .ok none ρ) ds [] ρ1 = .ok ys ρf ∧ lenOk ys.length = true ∧ okOwn vs ρ1 = true ∧
      ∀ W' H', SI A W' H' σ (rst vs ρ1 ρf) → Frm (fun j => muts j (.comp vs p it c e)) σ W1 H1 ρ1 W' H' (rst vs ρ1 ρf) → ∀ v, RR A H1 W' H' σ (rst vs ρ1 ρf) (true, .lst ys) v → Q v H' := by
    have nx : ∀ (m : M (List D)) (ys : List D) (ρf : Env), m = .ok ys ρf → True := fun _ _ _ _ => trivial
    rcases h with ⟨x, ρ', e1, h⟩ | ⟨c', l', ρ', e1, h⟩
    · obtain ⟨ys, ρf, e2, e3⟩ := M.bind_ok e1
      refine ⟨ys, ρf, noEx_ok e2, ?_⟩
      by_cases hz : (lenOk ys.length && okOwn vs ρ1) = true
      · rw [if_pos hz] at e3
        cases e3
        simp only [Bool.and_eq_true] at hz
        exact ⟨hz.1, hz.2, h⟩
      · rw [if_neg hz] at e3; cases e3
    · exfalso
      generalize cmpL _ ds [] ρ1 = m at e1
      cases m with
      | ok ys ρf =>
        simp only [noEx, M.bind] at e1
        by_cases hz : (lenOk ys.length && okOwn vs ρ1) = true
        · rw [if_pos hz] at e1; cases e1
        · rw [if_neg hz] at e1; cases e1
      | ex _ _ _ => cases e1
      | st => cases e1
  clear h
  obtain ⟨ys, ρf, hrun, hlen, hown2, hQ⟩ := hm
  have hlen : ys.length ≤ sizeLine := by rw [← szLine]; simpa [lenOk] using hlen
  generalize hf : (fun d ρ => (bnd p d (clr vs ρ)).bind fun _ ρ => (evT C c ρ).bind fun b ρ => if b then (evE C e ρ).bind fun x ρ => M.ok (some x.2) ρ else M.ok none ρ) = f at hrun
  have hD0 : A.H0 dl = none := S1.h0 hD
  -- the invariant
  let mub : Nat → Bool := fun j => muts j (.comp vs p it c e) || vs.contains j
  let Inv : Nat → Hp → Prop := fun i H' => ∃ W' ρ' acc xs, SI A W' H' (wipe σ vs) (clr vs ρ') ∧ W' dl ∧ P W' H' ∧ H' dl = some (.lst xs) ∧ Reps A.g W' H' acc.reverse xs ∧
    Frm mub (wipe σ vs) W1 H1 (clr vs ρ1) W' H' (clr vs ρ') ∧ cmpL f (ds.drop i) acc ρ' = .ok ys ρf
  have nD : ∀ {W' : Addr → Prop} {H' : Hp} {ρ' : Env}, Frm mub (wipe σ vs) W1 H1 (clr vs ρ1) W' H' ρ' → ∀ j fl d, get ρ' j = some (fl, d) → fl ≠ .shr → (wipe σ vs)[j]? ≠ some (some (.ref dl)) := by
    intro W' H' ρ' F j fl d q n z
    obtain ⟨d0, g0⟩ := F.fl j fl d q n
    obtain ⟨v2, e3, r2⟩ := (S1.wipe (own := vs)).slot j fl d0 g0
    rw [z] at e3; cases e3
    cases fl with
    | shr => exact n rfl
    | own => obtain ⟨b, z, _, _, o⟩ := r2; cases z; obtain ⟨o', q, _⟩ := o.some; rw [hD] at q; cases q
    | io => obtain ⟨b, z, _, _, o⟩ := r2; cases z; obtain ⟨o', q, _⟩ := o.some; rw [hD] at q; cases q
  have h0 : Inv 0 (upd H1 dl (.lst [])) := by
    have ex : Ext H1 (upd H1 dl (.lst [])) := Ext.new hD
    have S2 : SI A (Wp W1 dl) (upd H1 dl (.lst [])) (wipe σ vs) (clr vs ρ1) := (S1.wipe (own := vs)).new ex hD ⟨_, upd_same⟩
    exact ⟨Wp W1 dl, ρ1, [], [], S2, .inr rfl, hk _ _ _ _ hP (Kp.new ex hD), upd_same, Reps.nil, Frm.ext ex (fun a w => w.elim .inl fun q => by subst q; exact .inr hD) (fun _ w => .inl w), hrun⟩
  refine ⟨fun i m H' => m = ds.length - i ∧ i ≤ ds.length ∧ Inv i H', ⟨ds.length, by simp, Nat.zero_le _, h0⟩, ?_⟩
  rintro i m H' ⟨rfl, hi, W', ρ', acc, xs, S', wD, hP', hx, hr, F', hrun'⟩
  by_cases hlt : i < ds.length
  · refine .inr ⟨hgo W' H' i hP' hlt, Inv (i + 1), fun H'' p' => ⟨ds.length - (i + 1), by omega, rfl, hlt, p'⟩, fun x H2 yl => ?_⟩
    obtain ⟨ex2, d, hd, rd⟩ := hy W' H' i x H2 hP' S'.wt hlt yl
    have hdrop : ds.drop i = d :: ds.drop (i + 1) := by
      rw [List.drop_eq_getElem_cons hlt]
      congr 1
      rw [List.getElem?_eq_getElem hlt] at hd
      exact Option.some.inj hd
    rw [hdrop] at hrun'
    simp only [cmpL] at hrun'
    obtain ⟨o, ρ2, e1, hrun2⟩ := M.bind_ok hrun'
    rw [← hf] at e1
    obtain ⟨_, ρb, eb, e2⟩ := M.bind_ok e1
    obtain ⟨b, ρc, ec, e3⟩ := M.bind_ok e2
    have ebp : bindP p d (clr vs ρ') = some ρb := by
      unfold bnd at eb
      split at eb
      · cases eb; assumption
      · cases eb
    have S2 : SI A W' H2 (wipe σ vs) (clr vs ρ') := S'.ext' ex2
    refine ⟨W', clr vs ρ', d, ρb, S2, rd, ebp, fun σ2 S3 l3 n3 => ⟨wipe_eq l3 fun j hj => n3 j fun z => hj (hsub j z), W', ρb, S3, .inl ⟨b, ρc, ec, fun W4 H4 S4 F4 => ?_⟩⟩⟩
    obtain ⟨bg1, bg2⟩ := bindP_get ebp
    have hab : ∀ j, j ∉ vs → get ρb j = get (clr vs ρ') j := fun j hj => bg1 j fun z => hj (hsub j z)
    have hbb : ∀ j fl d, j ∈ vs → get ρb j = some (fl, d) → fl = .shr := fun j fl d hj g => by
      rcases bg2 j fl d g with q | q
      · exact q
      · rw [get_clr, if_pos hj] at q; cases q
    have hss : ∀ j, j ∉ vs → σ2[j]? = (L2.wipe σ vs)[j]? := fun j hj => n3 j fun z => hj (hsub j z)
    have hwe := wipe_eq l3 fun j hj => hss j hj
    have hvb : ∀ j, j ∈ vs → mub j = true := fun j hj => by simp [mub, hj]
    -- a turn's end
    have turn : ∀ {W5 : Addr → Prop} {H5 : Hp} {ρe : Env} {mu : Nat → Bool}, SI A W5 H5 σ2 ρe → Frm mu σ2 W' H2 ρb W5 H5 ρe → (∀ j, mu j = true → mub j = true) →
        SI A W5 H5 (L2.wipe σ vs) (clr vs ρe) ∧ Frm mub (L2.wipe σ vs) W1 H1 (clr vs ρ1) W5 H5 (clr vs ρe) ∧ W5 dl ∧ P W5 H5 ∧ H5 dl = some (.lst xs) ∧ Kp W' H' W5 H5 := by
      intro W5 H5 ρe mu S5 F5 le
      have Fa : Frm mub (L2.wipe σ vs) W' H2 (clr vs ρ') W5 H5 (clr vs ρe) := F5.blk hab hss hbb le hvb
      have Fb : Frm mub (L2.wipe σ vs) W' H' (clr vs ρ') W5 H5 (clr vs ρe) := (Frm.ext (mu := mub) ex2 (fun _ w => .inl w) fun _ w => w).trans Fa (fun _ z => z) fun _ z => z
      have S6 : SI A W5 H5 (L2.wipe σ vs) (clr vs ρe) := by rw [← hwe]; exact S5.wipe
      have kp := Fb.kp S'
      exact ⟨S6, F'.trans Fb (fun _ z => z) fun _ z => z, Fb.wl dl wD (nD F'), hk _ _ _ _ hP' kp, Fb.hp dl _ hx fun j fl d m => nD F' j fl d, kp⟩
    cases b with
    | false =>
      simp only [Bool.false_eq_true, if_false] at e3 ⊢
      cases e3
      obtain ⟨S6, F6, w6, p6, x6, k6⟩ := turn S4 F4 (fun j q => by simp only [mub, muts, q, Bool.or_true, Bool.true_or])
      exact ⟨W4, ρ2, acc, xs, S6, w6, p6, x6, hr.kp k6, F6, hrun2⟩
    | true =>
      simp only [if_true] at e3 ⊢
      obtain ⟨y, ρe, ee, e4⟩ := M.bind_ok e3
      cases e4
      refine ⟨W4, ρc, S4, Ot.shr S4 (.inl ⟨y, ρ2, ee, fun W5 H5 S5 F5 v rv => ?_⟩)⟩
      obtain ⟨S6, F6, w6, p6, x6, k6⟩ := turn S5 (F4.trans F5 (mu' := fun j => mutsT j c || muts j e) or1 or2) (fun j q => by simp only [Bool.or_eq_true] at q; simp only [mub, muts]; rcases q with q | q <;> simp [q])
      have hl := hr.length
      have hl2 := cmpL_len hrun2
      simp only [List.length_reverse, List.length_cons] at hl hl2
      have kp : Kp W5 H5 W5 (upd H5 dl (.lst (xs ++ [v]))) := fun b o' n h => ⟨n, by rw [upd_ne (fun z => by subst z; exact n w6)]; exact h⟩
      refine ⟨xs, x6, by omega, W5, ρ2, y.2 :: acc, xs ++ [v], S6.priv w6 hD0 (nD F6), w6, hk _ _ _ _ p6 kp, upd_same, ?_, F6.priv hD, hrun2⟩
      rw [List.reverse_cons]
      exact ((hr.kp k6).append (Reps.cons rv Reps.nil)).kp kp
  · have ei : i = ds.length := by omega
    refine .inl ⟨by rw [ei]; exact hstop W' H' hP', ?_⟩
    rw [ei, List.drop_length] at hrun'
    simp only [cmpL] at hrun'
    cases hrun'
    have hlw : ρf.length = σ.length := by have := S'.len; rwa [clr_length, wipe_length] at this
    have gr : ∀ j, j < ρf.length → get (rst vs ρ1 ρf) j = if j ∈ vs then get ρ1 j else get ρf j := fun j hj => get_rst vs ρ1 ρf j hj
    have gl : ∀ j x, get (rst vs ρ1 ρf) j = some x → j < ρf.length := fun j x g => by have := get_lt g; rwa [rst_length] at this
    have kp := F'.kp S1.wipe
    have Sf : SI A W' H' σ (rst vs ρ1 ρf) := by
      refine ⟨by rw [rst_length]; exact hlw, fun j fl d g => ?_, fun j l fl1 d1 fl2 d2 b g1 g2 n1 n2 e1 e2 => ?_, S'.bw, S'.b0, S'.base, S'.iok, S'.wt, S'.ioB⟩
      · have hj := gl j _ g
        rw [gr j hj] at g
        by_cases h : j ∈ vs
        · rw [if_pos h] at g
          obtain rfl := okOwn_get hown2 h g
          obtain ⟨v, e, r⟩ := S1.slot j _ d g
          exact ⟨v, e, Rep.kp kp d v r⟩
        · rw [if_neg h] at g
          obtain ⟨v, e, r⟩ := S'.slot j fl d (by rw [get_clr, if_neg h]; exact g)
          rw [wipe_out h] at e
          exact ⟨v, e, r⟩
      · have hj := gl j _ g1
        have hl := gl l _ g2
        rw [gr j hj] at g1
        rw [gr l hl] at g2
        have h1 : j ∉ vs := fun h => by rw [if_pos h] at g1; exact n1 (okOwn_get hown2 h g1)
        have h2 : l ∉ vs := fun h => by rw [if_pos h] at g2; exact n2 (okOwn_get hown2 h g2)
        rw [if_neg h1] at g1
        rw [if_neg h2] at g2
        exact S'.dist j l _ _ _ _ b (by rw [get_clr, if_neg h1]; exact g1) (by rw [get_clr, if_neg h2]; exact g2) n1 n2 (by rw [wipe_out h1]; exact e1) (by rw [wipe_out h2]; exact e2)
    have Ff : Frm (fun j => muts j (.comp vs p it c e)) σ W1 H1 ρ1 W' H' (rst vs ρ1 ρf) := by
      refine ⟨fun a o h k => F'.hp a o h fun j fl d m g n => ?_, F'.so, F'.ww, fun a w k => F'.wl a w fun j fl d g n => ?_, fun j fl d g n => ?_, fun j fl d m g => ?_⟩
      · rw [get_clr] at g
        by_cases h : j ∈ vs
        · rw [if_pos h] at g; cases g
        · rw [if_neg h] at g
          rw [wipe_out h]
          exact k j fl d (by simpa [mub, h] using m) g n
      · rw [get_clr] at g
        by_cases h : j ∈ vs
        · rw [if_pos h] at g; cases g
        · rw [if_neg h] at g
          rw [wipe_out h]
          exact k j fl d g n
      · have hj := gl j _ g
        rw [gr j hj] at g
        by_cases h : j ∈ vs
        · rw [if_pos h] at g; exact absurd (okOwn_get hown2 h g) n
        · rw [if_neg h] at g
          obtain ⟨d0, g0⟩ := F'.fl j fl d (by rw [get_clr, if_neg h]; exact g) n
          rw [get_clr, if_neg h] at g0
          exact ⟨d0, g0⟩
      · have hj : j < ρf.length := by rw [hlw, ← S1.len]; exact get_lt g
        rw [gr j hj]
        by_cases h : j ∈ vs
        · rw [if_pos h]; exact ⟨fl, g⟩
        · rw [if_neg h]
          obtain ⟨fl', g'⟩ := F'.same j fl d (by simp [mub, h, m]) (by rw [get_clr, if_neg h]; exact g)
          rw [get_clr, if_neg h] at g'
          exact ⟨fl', g'⟩
    refine hQ W' H' Sf Ff (.ref dl) ?_
    unfold RR
    rw [if_pos rfl]
    refine ⟨dl, rfl, hD, wD, hD0, ⟨xs, hx, hr⟩, fun j fl d g n z => ?_⟩
    have hj := gl j _ g
    rw [gr j hj] at g
    have h1 : j ∉ vs := fun h => by rw [if_pos h] at g; exact n (okOwn_get hown2 h g)
    rw [if_neg h1] at g
    exact nD F' j fl d (by rw [get_clr, if_neg h1]; exact g) n (by rw [wipe_out h1]; exact z)
end
end Py

/-! Statements. -/
namespace Py
open PySem PySem.Spec PyProof.Rows L2
/-- a statement's outcome, and what is wanted behind it -/
def OtS (A : Ax) (xw : XW) (W : Addr → Prop) (H : Hp) (m : M Fw) (D : Ends) : Prop := match m with
  | .ok w ρ' => ∀ σ' W' H', SI A W' H' σ' ρ' → Kp W H W' H' → (match w with
    | .nx => D.nx σ' H'
    | .bk => D.bk σ' H'
    | .ct => D.ct σ' H'
    | .rt fr d => ∀ v, RR A A.H0 W' H' σ' ρ' (fr, d) v → D.rt v H')
  | .ex c l ρ' => ∀ σ' W' H', SI A W' H' σ' ρ' → xw c l σ' W' H' ρ'
  | .st => False
def tS (A : Ax) (xw : XW) (run : Env → M Fw) : TS := fun D σ H => ∃ W ρ, SI A W H σ ρ ∧ OtS A xw W H (run ρ) D
section
variable {X : Cx} {A : Ax} {xw : XW} {C : Cl} {e a b c : Expr} {t u : E} {pos : Pos}
theorem OtS.kp {W W1 : Addr → Prop} {H H1 : Hp} {m : M Fw} {D : Ends} (h : OtS A xw W H m D) (k : Kp W H W1 H1) : OtS A xw W1 H1 m D := by
  cases m with
  | ok w ρ' => exact fun σ' W' H' S k' => h σ' W' H' S (k.trans k')
  | ex c l ρ' => exact h
  | st => exact h
theorem OtS.bind {α : Type} {mu : Nat → Bool} {σ : St} {W : Addr → Prop} {H : Hp} {ρ : Env} {m : M α} {f : α → Env → M Fw} {D : Ends} (S : SI A W H σ ρ) (h : OtS A xw W H (m.bind f) D) :
    Ot A xw mu σ W H ρ m fun x ρ1 W1 H1 => OtS A xw W1 H1 (f x ρ1) D := by
  cases m with
  | ok x ρ1 => exact .inl ⟨x, ρ1, rfl, fun W1 H1 S1 F1 => OtS.kp h (F1.kp S)⟩
  | ex c l ρ1 => exact .inr ⟨c, l, ρ1, rfl, fun W1 H1 S1 F1 => h σ W1 H1 S1⟩
  | st => exact h.elim
theorem OtS.nx {W : Addr → Prop} {H : Hp} {ρ : Env} {D : Ends} (h : OtS A xw W H (.ok .nx ρ) D) {σ' : St} {W' : Addr → Prop} {H' : Hp} (S : SI A W' H' σ' ρ) (k : Kp W H W' H') : D.nx σ' H' := h σ' W' H' S k
/-- one's own new value comes into a slot -/
theorem SI.setOwn {Hs : Hp} {σ : St} {W : Addr → Prop} {H : Hp} {ρ : Env} {i : Nat} {x : RV} {v : V} (S : SI A W H σ ρ) (r : RR A Hs W H σ ρ x v) : SI A W H (σ.set i (some v)) (sto i x ρ) := by
  unfold sto
  unfold RR at r
  by_cases hx : x.1 = true
  · rw [if_pos hx] at r
    rw [if_pos hx]
    obtain ⟨p, rfl, _, w, n, o, np⟩ := r
    by_cases hi : i < ρ.length
    · refine ⟨by rw [put_length, List.length_set]; exact S.len, fun j fl d' q => ?_, fun j l fl1 d1 fl2 d2 b g1 g2 n1 n2 e1 e2 => ?_, S.bw, S.b0, S.base, S.iok, S.wt, S.ioB⟩
      · rcases get_put_cases hi q with ⟨rfl, q5⟩ | ⟨hj, q⟩
        · cases q5
          exact ⟨_, by rw [List.getElem?_set_self (by rw [← S.len]; exact hi)], p, rfl, w, n, o⟩
        · obtain ⟨w, e, r⟩ := S.slot j fl d' q
          exact ⟨w, by rw [List.getElem?_set_ne (Ne.symm hj)]; exact e, r⟩
      · rcases get_put_cases hi g1 with ⟨h1, q1⟩ | ⟨h1, q1⟩
        · subst h1
          rw [List.getElem?_set_self (by rw [← S.len]; exact hi)] at e1
          cases e1
          rcases get_put_cases hi g2 with ⟨h2, q2⟩ | ⟨h2, q2⟩
          · exact h2.symm
          · rw [List.getElem?_set_ne (Ne.symm h2)] at e2
            exact absurd e2 (np l _ _ q2 n2)
        · rw [List.getElem?_set_ne (Ne.symm h1)] at e1
          rcases get_put_cases hi g2 with ⟨h2, q2⟩ | ⟨h2, q2⟩
          · subst h2
            rw [List.getElem?_set_self (by rw [← S.len]; exact hi)] at e2
            cases e2
            exact absurd e1 (np j _ _ q1 n1)
          · rw [List.getElem?_set_ne (Ne.symm h2)] at e2
            exact S.dist j l _ _ _ _ b q1 q2 n1 n2 e1 e2
    · have e1 : put ρ i (some (.own, x.2)) = ρ := by
        have : ∀ (ρ : Env) i, ¬ i < ρ.length → put ρ i (some (.own, x.2)) = ρ := by
          intro ρ
          induction ρ with
          | nil => intro i _; rfl
          | cons a ρ ih =>
            intro i h
            cases i with
            | zero => simp at h
            | succ i => simp only [put]; rw [ih i (by simpa using h)]
        exact this ρ i hi
      have e2 : σ.set i (some (V.ref p)) = σ := List.set_eq_of_length_le (by rw [← S.len]; omega)
      rw [e1, e2]; exact S
  · rw [if_neg hx] at r
    rw [if_neg hx]
    exact S.setShr r
/-- a name stored -/
theorem ps_setE' {i : Nat} {st : Stmt} (h : PS X st (tAsg (tE A xw C t) (gName i))) : PS X st (tS A xw (evS C (.set i t))) := h.imp fun D σ H ⟨W, ρ, S, h⟩ => by
  have h : OtS A xw W H ((evE C t ρ).bind fun x ρ => .ok .nx (sto i x ρ)) D := h
  refine ⟨W, ρ, S, (OtS.bind (mu := fun j => muts j t) S h).imp fun x ρ1 W1 H1 S1 F1 h v r => ?_⟩
  exact OtS.nx h (S1.setOwn r) (Kp.refl _ _)
theorem ps_expE (he : PE X e (tE A xw C t)) (hs : swapsWith e none pos.line X.env = pure false) : PS X (.Expr e pos) (tS A xw (evS C (.exp t))) := (ps_expr he hs).imp fun D σ H ⟨W, ρ, S, h⟩ => by
  have h : OtS A xw W H ((evE C t ρ).bind fun _ ρ => .ok .nx ρ) D := h
  refine ⟨W, ρ, S, (OtS.bind (mu := fun j => muts j t) S h).imp fun x ρ1 W1 H1 S1 F1 h v r => ?_⟩
  exact OtS.nx h S1 (Kp.refl _ _)
theorem ps_passE : PS X (.Pass pos) (tS A xw (evS C .pass)) := ps_pass.imp fun D σ H ⟨W, ρ, S, h⟩ => OtS.nx h S (Kp.refl _ _)
theorem ps_brkE : PS X (.Break pos) (tS A xw (evS C .brk)) := ps_break.imp fun D σ H ⟨W, ρ, S, h⟩ => h σ W H S (Kp.refl _ _)
theorem ps_cntE : PS X (.Continue pos) (tS A xw (evS C .cnt)) := ps_continue.imp fun D σ H ⟨W, ρ, S, h⟩ => h σ W H S (Kp.refl _ _)
theorem pss_nilE : PSs X [] (tS A xw (evSs C [])) := pss_nil.imp fun D σ H ⟨W, ρ, S, h⟩ => OtS.nx h S (Kp.refl _ _)
theorem pss_consE {st : Stmt} {rest : List Stmt} {s : S} {l : List S} (h1 : PS X st (tS A xw (evS C s))) (h2 : PSs X rest (tS A xw (evSs C l))) : PSs X (st :: rest) (tS A xw (evSs C (s :: l))) :=
  (pss_cons h1 h2).imp fun D σ H ⟨W, ρ, Si, h⟩ => by
    refine ⟨W, ρ, Si, ?_⟩
    have h : OtS A xw W H ((evS C s ρ).bind fun w ρ => match w with
      | .nx => evSs C l ρ
      | .rt fr d => .ok (.rt fr d) ρ
      | .bk => .ok .bk ρ
      | .ct => .ok .ct ρ) D := h
    generalize evS C s ρ = m at h
    cases m with
    | ok w ρ1 =>
      cases w with
      | nx => exact fun σ' W' H' S' k => ⟨W', ρ1, S', OtS.kp h k⟩
      | rt fr d => exact h
      | bk => exact h
      | ct => exact h
    | ex c l ρ1 => exact h
    | st => exact h
theorem ps_ifE {p q : List Stmt} {k : T} {x y : List S} (hc : PT X c (tT A xw C k)) (ha : PSs X p (tS A xw (evSs C x))) (hb : PSs X q (tS A xw (evSs C y))) : PS X (.If c p q pos) (tS A xw (evS C (.ife k x y))) :=
  (ps_if hc ha hb).imp fun D σ H ⟨W, ρ, S, h⟩ => by
    have h : OtS A xw W H ((evT C k ρ).bind fun k ρ => if k then evSs C x ρ else evSs C y ρ) D := h
    refine ⟨W, ρ, S, (OtS.bind (mu := fun j => mutsT j k) S h).imp fun b ρ1 W1 H1 S1 F1 h => ?_⟩
    cases b with
    | true => exact ⟨W1, ρ1, S1, h⟩
    | false => exact ⟨W1, ρ1, S1, h⟩
/-- a slot emptied -/
theorem SI.gone {σ : St} {W : Addr → Prop} {H : Hp} {ρ : Env} {i : Nat} (S : SI A W H σ ρ) : SI A W H σ (put ρ i none) := by
  have gp : ∀ j x, get (put ρ i none) j = some x → j ≠ i ∧ get ρ j = some x := fun j x q => by
    have hj : j < ρ.length := by have := get_lt q; rwa [put_length] at this
    by_cases e : j = i
    · subst e; rw [get_put_same hj] at q; cases q
    · rw [get_put_ne e] at q; exact ⟨e, q⟩
  exact ⟨by rw [put_length]; exact S.len, fun j fl d q => S.slot j fl d (gp j _ q).2, fun j l fl1 d1 fl2 d2 b g1 g2 n1 n2 => S.dist j l _ _ _ _ b (gp j _ g1).2 (gp l _ g2).2 n1 n2, S.bw, S.b0, S.base, S.iok, S.wt, S.ioB⟩
theorem RR.h0 {Hs : Hp} {σ : St} {W : Addr → Prop} {H : Hp} {ρ : Env} {x : RV} {v : V} (r : RR A Hs W H σ ρ x v) : RR A A.H0 W H σ ρ x v := by
  unfold RR at r ⊢
  by_cases hx : x.1 = true
  · rw [if_pos hx] at r ⊢
    obtain ⟨p, e, h1, w, h2, q⟩ := r
    exact ⟨p, e, h2, w, h2, q⟩
  · rw [if_neg hx] at r ⊢
    exact r
theorem ps_retE (he : PE X e (tE A xw C t)) (hv : ∀ i, t = .var i → PE X e (tVar i)) : PS X (.Return (some e) pos) (tS A xw (evS C (.ret t))) := by
  have gen : PS X (.Return (some e) pos) (tS A xw fun ρ => (evE C t ρ).bind fun x ρ => .ok (.rt x.1 x.2) ρ) := (ps_ret he).imp fun D σ H ⟨W, ρ, S, h⟩ => by
    refine ⟨W, ρ, S, (OtS.bind (mu := fun j => muts j t) S h).imp fun x ρ1 W1 H1 S1 F1 h v r => ?_⟩
    exact h σ W1 H1 S1 (Kp.refl _ _) v r.h0
  by_cases hi : ∃ i, t = .var i
  · obtain ⟨i, rfl⟩ := hi
    refine ⟨fun pins s σ H D I ⟨W, ρ, S, h⟩ => ?_⟩
    have h : OtS A xw W H ((retE C (.var i) ρ).bind fun x ρ => .ok (.rt x.1 x.2) ρ) D := h
    simp only [retE] at h
    split at h
    · rename_i d g
      refine (ps_ret (hv i rfl)).run pins s σ H D I ?_
      obtain ⟨v, ev, p, rfl, w, n, o⟩ := S.slot i .own d g
      refine ⟨_, ev, h σ W H S.gone (Kp.refl _ _) _ ?_⟩
      unfold RR
      rw [if_pos rfl]
      refine ⟨p, rfl, n, w, n, o, fun j fl d' q nf z => ?_⟩
      have hj : j < ρ.length := by have := get_lt q; rwa [put_length] at this
      by_cases e : j = i
      · subst e; rw [get_put_same hj] at q; cases q
      · rw [get_put_ne e] at q
        exact e (S.dist j i _ _ _ _ p q g nf (by decide) z ev)
    · exact gen.run pins s σ H D I ⟨W, ρ, S, h⟩
  · refine gen.imp fun D σ H ⟨W, ρ, S, h⟩ => ⟨W, ρ, S, ?_⟩
    have h : OtS A xw W H ((retE C t ρ).bind fun x ρ => .ok (.rt x.1 x.2) ρ) D := h
    have ep : retE C t ρ = evE C t ρ := by cases t <;> first | rfl | exact absurd ⟨_, rfl⟩ hi
    rw [ep] at h
    exact h
theorem ps_retNE : PS X (.Return none pos) (tS A xw (evS C (.ret (.cst .non)))) := ps_retN.imp fun D σ H ⟨W, ρ, S, h⟩ => by
  have h : OtS A xw W H (.ok (.rt false .non) ρ) D := h
  exact h σ W H S (Kp.refl _ _) .non (by unfold RR; rw [if_neg (by decide)]; simp only [Rep])
/-! ### loops -/
theorem ps_forE' {tg iter : Expr} {body : List Stmt} {p : Pat} {l : List S} (hp : PassesOwn (model X.prog X.w) X.A X.env X.xe) (hc : X.calm = true) (hi : PI X tg iter (tI A xw C t)) (hg : PG X tg (tG A p)) (hb : PSs X body (tS A xw (evSs C l))) (hs : ∀ x, foldedSetIterable iter X.env x = pure x) :
    PS X (.For tg iter body [] pos) (tS A xw (evS C (.fors p t l))) := (ps_for hp hc hi hg hb hs).imp fun D σ H ⟨W, ρ, S, h⟩ => by
  have h : OtS A xw W H (((evE C t ρ).bind itI).bind fun ds ρ => forL (fun d ρ => (bnd p d ρ).bind fun _ ρ => evSs C l ρ) ds ρ) D := h
  refine ⟨W, ρ, S, (OtS.bind (mu := fun j => muts j t) S h).imp fun ds ρ1 W1 H1 S1 F1 h J hw => ?_⟩
  obtain ⟨P, hP, hk, hgo, hstop, hy⟩ := hw
  let Inv : Nat → St → Hp → Prop := fun i σ' H' => ∃ W' ρ', SI A W' H' σ' ρ' ∧ P W' H' ∧ OtS A xw W' H' (forL (fun d ρ => (bnd p d ρ).bind fun _ ρ => evSs C l ρ) (ds.drop i) ρ') D
  refine ⟨fun i m σ' H' => m = ds.length - i ∧ i ≤ ds.length ∧ Inv i σ' H', ⟨ds.length, by simp, Nat.zero_le _, W1, ρ1, S1, hP, h⟩, ?_⟩
  rintro i m σ' H' ⟨rfl, hi, W', ρ', S', hP', h'⟩
  by_cases hlt : i < ds.length
  · refine .inr ⟨hgo W' H' i hP' hlt, Inv (i + 1), fun σ'' H'' p' => ⟨ds.length - (i + 1), by omega, rfl, hlt, p'⟩, fun x H2 yl => ?_⟩
    obtain ⟨ex2, d, hd, rd⟩ := hy W' H' i x H2 hP' S'.wt hlt yl
    have hdrop : ds.drop i = d :: ds.drop (i + 1) := by
      rw [List.drop_eq_getElem_cons hlt]
      congr 1
      rw [List.getElem?_eq_getElem hlt] at hd
      exact Option.some.inj hd
    rw [hdrop] at h'
    simp only [forL] at h'
    have S2 : SI A W' H2 σ' ρ' := S'.ext' ex2
    cases eb : bindP p d ρ' with
    | none =>
      have e2 : bnd p d ρ' = .st := by unfold bnd; rw [eb]
      rw [e2] at h'; exact h'.elim
    | some ρb =>
      have e2 : bnd p d ρ' = .ok () ρb := by unfold bnd; rw [eb]
      rw [e2] at h'
      refine ⟨W', ρ', d, ρb, S2, rd, eb, fun σ2 S3 l3 n3 => ⟨W', ρb, S3, ?_⟩⟩
      have h' : OtS A xw W' H2 ((evSs C l ρb).bind fun w ρ => match w with
        | .nx => forL (fun d ρ => (bnd p d ρ).bind fun _ ρ => evSs C l ρ) (ds.drop (i + 1)) ρ
        | .ct => forL (fun d ρ => (bnd p d ρ).bind fun _ ρ => evSs C l ρ) (ds.drop (i + 1)) ρ
        | .bk => .ok .nx ρ
        | .rt fr d => .ok (.rt fr d) ρ) D := OtS.kp h' (Kp.ext ex2)
      generalize evSs C l ρb = m at h'
      cases m with
      | ok w ρe =>
        cases w with
        | nx => exact fun σe We He Se ke => ⟨We, ρe, Se, hk _ _ _ _ hP' ((Kp.ext ex2).trans ke), OtS.kp h' ke⟩
        | ct => exact fun σe We He Se ke => ⟨We, ρe, Se, hk _ _ _ _ hP' ((Kp.ext ex2).trans ke), OtS.kp h' ke⟩
        | bk => exact h'
        | rt fr d => exact h'
      | ex c l ρe => exact h'
      | st => exact h'
  · have ei : i = ds.length := by omega
    refine .inl ⟨by rw [ei]; exact hstop W' H' hP', ?_⟩
    rw [ei, List.drop_length] at h'
    exact OtS.nx h' S' (Kp.refl _ _)
theorem ps_whlE {body : List Stmt} {k : T} {l : List S} (hp : PassesOwn (model X.prog X.w) X.A X.env X.xe) (hc : PT X c (tT A xw C k)) (hb : PSs X body (tS A xw (evSs C l))) : PS X (.While c body [] pos) (tS A xw (evS C (.whl k l))) :=
  (ps_while hp hc hb).imp fun D σ H ⟨W, ρ, S, h⟩ => by
    have h : OtS A xw W H (whlL (evT C k) (evSs C l) C.N ρ) D := h
    refine ⟨fun m σ' H' => ∃ W' ρ', SI A W' H' σ' ρ' ∧ OtS A xw W' H' (whlL (evT C k) (evSs C l) m ρ') D, ⟨C.N, W, ρ, S, h⟩, ?_⟩
    rintro m σ' H' ⟨W', ρ', S', h'⟩
    cases m with
    | zero => exact h'.elim
    | succ m =>
      simp only [whlL] at h'
      refine ⟨W', ρ', S', (OtS.bind (mu := fun j => mutsT j k) S' h').imp fun b ρ1 W1 H1 S1 F1 h => ?_⟩
      cases b with
      | false =>
        simp only [Bool.false_eq_true, if_false] at h ⊢
        exact OtS.nx h S1 (Kp.refl _ _)
      | true =>
        simp only [if_true] at h ⊢
        refine ⟨fun σ2 H2 => ∃ W2 ρ2, SI A W2 H2 σ2 ρ2 ∧ OtS A xw W2 H2 (whlL (evT C k) (evSs C l) m ρ2) D, fun σ2 H2 q => ⟨m, Nat.lt_succ_self m, q⟩, W1, ρ1, S1, ?_⟩
        generalize evSs C l ρ1 = r at h
        cases r with
        | ok w ρe =>
          cases w with
          | nx => exact fun σe We He Se ke => ⟨We, ρe, Se, OtS.kp h ke⟩
          | ct => exact fun σe We He Se ke => ⟨We, ρe, Se, OtS.kp h ke⟩
          | bk => exact h
          | rt fr d => exact h
        | ex c l ρe => exact h
        | st => exact h
/-! ### stores to places, append -/
theorem ixD_ixN (n : Nat) (i : Int) : ixD n i = ixN n i := by
  unfold ixD ixN
  split
  · rfl
  · split <;> split <;> first | rfl | omega
/-- the place that a name's own value stands at -/
theorem SI.own_at {σ : St} {W : Addr → Prop} {H : Hp} {ρ : Env} {i : Nat} {fl : Fl} {d : D} (S : SI A W H σ ρ) (g : get ρ i = some (fl, d)) (nf : fl ≠ .shr) : ∃ p, σ[i]? = some (some (.ref p)) ∧ W p ∧ OwnR A.g W H d p := by
  obtain ⟨v, e, r⟩ := S.slot i fl d g
  cases fl with
  | shr => exact absurd rfl nf
  | own => obtain ⟨a, rfl, w, _, o⟩ := r; exact ⟨a, e, w, o⟩
  | io => obtain ⟨a, rfl, _, w, o⟩ := r; exact ⟨a, e, w, o⟩
/-- behind the change of one's own list -/
theorem SI.chgL {σ : St} {W : Addr → Prop} {H : Hp} {ρ : Env} {i : Nat} {fl : Fl} {d : D} {l : List D} {p : Addr} {xs : List V} (S : SI A W H σ ρ) (g : get ρ i = some (fl, d)) (nf : fl ≠ .shr) (e : σ[i]? = some (some (.ref p))) (w : W p) (r : Reps A.g W H l xs) :
    SI A W (upd H p (.lst xs)) σ (put ρ i (some (fl, .lst l))) ∧ Kp W H W (upd H p (.lst xs)) := by
  have kp : Kp W H W (upd H p (.lst xs)) := fun b o' n h => ⟨n, by rw [upd_ne (fun z => by subst z; exact n w)]; exact h⟩
  obtain ⟨S', F'⟩ := S.chg (mu := fun _ => true) (W' := W) (H' := upd H p (.lst xs)) (c := .lst l) g nf e rfl (fun b o h n => by rw [upd_ne n]; exact h) (fun _ z => z) (fun _ z => .inl z) (fun b h => by
    obtain ⟨o', q⟩ := S.wt b h
    by_cases z : b = p
    · exact ⟨.lst xs, by rw [z]; exact upd_same⟩
    · exact ⟨o', by rw [upd_ne z]; exact q⟩) ⟨xs, upd_same, r.kp kp⟩
  exact ⟨S', kp⟩
theorem OtS.chg {W : Addr → Prop} {H : Hp} {i : Nat} {ρ : Env} {f : D → Option D} {D : Ends} (h : OtS A xw W H (chg i ρ f) D) : ∃ fl c c', get ρ i = some (fl, c) ∧ fl ≠ .shr ∧ f c = some c' ∧ OtS A xw W H (.ok .nx (put ρ i (some (fl, c')))) D := by
  unfold Py.chg at h
  split at h
  · exact h.elim
  · rename_i fl c nf g
    split at h
    · rename_i c' e; exact ⟨fl, c, c', g, nf, e, h⟩
    · exact h.elim
  · exact h.elim
theorem OtS.rdP {α : Type} {W : Addr → Prop} {H : Hp} {i : Nat} {ρ : Env} {f : RV → Env → M Fw} {D : Ends} (h : OtS A xw W H ((rdP i ρ).bind f) D) : ∃ fl d, get ρ i = some (fl, d) ∧ OtS A xw W H (f (false, d) ρ) D := by
  unfold Py.rdP at h
  split at h
  · rename_i fl d g; exact ⟨fl, d, g, h⟩
  · exact h.elim
theorem ps_putE {i : Nat} {y : Expr} {p2 : Pos} (hy : PE X y (tVar i)) (he : PE X e (tE A xw C t)) (hk : PE X a (tE A xw C u)) (ha : ∀ v, assign (.Subscript y a p2) X.env v = (do let ov ← holding [v] (eval y X.env); let iv ← holding [v, ov] (eval a X.env); standAt p2; holding [v, ov, iv] (setItem ov iv v); release [v, ov, iv] []))
    (hs : swapsWithSole [.Subscript y a p2] e pos.line X.env = pure false) (hw : swappedStores [.Subscript y a p2] e X.env = pure none) : PS X (.Assign [.Subscript y a p2] e pos) (tS A xw (evS C (.put i u t))) := by
  refine (ps_asg he (pg_sub hy hk set_list ha) hs hw).imp fun D σ H ⟨W, ρ, S, h⟩ => ?_
  have h : OtS A xw W H ((evE C t ρ).bind fun x ρ => (rdP i ρ).bind fun _ ρ => (evE C u ρ).bind fun y ρ => chg i ρ fun c => putV c y.2 x.2) D := h
  refine ⟨W, ρ, S, Ot.shr S ((OtS.bind (mu := fun j => muts j t) S h).imp fun x ρ1 W1 H1 S1 F1 h v r => ?_)⟩
  obtain ⟨fl0, d0, g0, h⟩ := OtS.rdP (α := Unit) h
  obtain ⟨v0, ev0, _⟩ := S1.slot i fl0 d0 g0
  refine ⟨v0, ev0, W1, ρ1, S1, Ot.shr S1 ((OtS.bind (mu := fun j => muts j u) S1 h).imp fun z ρ2 W2 H2 S2 F2 h w rz => ?_)⟩
  obtain ⟨fl, c, c', g, nf, e, h⟩ := OtS.chg h
  obtain ⟨p, ep, wp, op⟩ := S2.own_at g nf
  rw [ev0] at ep; cases ep
  cases c <;> try exact op.elim
  rename_i l
  obtain ⟨xs, hx, rs⟩ := op
  simp only [putV] at e
  split at e
  · rename_i j ez
    rw [ez] at rz
    obtain rfl := rep_int rz
    cases en : ixD l.length j with
    | none => rw [en] at e; cases e
    | some n =>
      rw [en] at e
      simp only [Option.map_some, Option.some.injEq] at e
      subst e
      obtain ⟨S', kp⟩ := S2.chgL g nf ev0 wp (rs.set (r.kp (F2.kp S1)) n)
      exact ⟨p, xs, j, n, rfl, rfl, hx, by rw [← rs.length, ← ixD_ixN]; exact en, OtS.nx h S' kp⟩
  · cases e
theorem ps_appE {i : Nat} {y : Expr} {p2 apos : Pos} (hK : A.g.K = X.K) (hy : PE X y (tVar i)) (he : PE X e (tE A xw C t)) (hbase : attributeBase y "append" X.env (eval y X.env) = eval y X.env)
    (hfew : ((backTo pos (starEach [e] X.env)).all (fun x => !x.1) && (backToKw pos (keywordEach [] X.env)).all (fun x => x.1.isSome) && decide ([e].length + ([] : List Keyword).length + (if ([] : List Keyword).isEmpty then 0 else 1) < 30)) = true)
    (hline : (apos.endLine == pos.line) = true) (hs : starEach [e] X.env = (false, eval e X.env) :: starEach [] X.env) (hplain : (backTo pos (starEach [] X.env)).any (·.1) = false)
    (hsw : swapsWith (.Call (.Attribute y "append" apos) [e] [] pos) none p2.line X.env = pure false) : PS X (.Expr (.Call (.Attribute y "append" apos) [e] [] pos) p2) (tS A xw (evS C (.app i t))) := by
  refine (ps_expr (pe_bm PySem.F.plainAttrs_list PySem.F.slot_list_append PySem.F.type_list_append mt_append hy (pa_cons he pa_nil hs) hbase hfew hline hs hplain) hsw).imp fun D σ H ⟨W, ρ, S, h⟩ => ?_
  have h : OtS A xw W H ((rdL i ρ).bind fun _ ρ => (evE C t ρ).bind fun x ρ => chg i ρ fun c => appV c x.2) D := h
  have hg : ∃ fl l, get ρ i = some (fl, .lst l) ∧ fl ≠ .shr ∧ OtS A xw W H ((evE C t ρ).bind fun x ρ => chg i ρ fun c => appV c x.2) D := by
    unfold rdL at h
    split at h
    · rename_i l g; exact ⟨_, l, g, by decide, h⟩
    · rename_i l g; exact ⟨_, l, g, by decide, h⟩
    · exact h.elim
  obtain ⟨fl0, l0, g0, nf0, h⟩ := hg
  obtain ⟨p0, ev0, _, xs0, hx0, _⟩ := S.own_at g0 nf0
  refine ⟨_, ev0, .inl ⟨rfl, xs0, hK ▸ SqL.of hx0⟩, W, ρ, S, ?_⟩
  refine Ot.shr S ((OtS.bind (mu := fun j => muts j t) S h).imp fun x ρ1 W1 H1 S1 F1 h v r => ?_)
  obtain ⟨fl, c, c', g, nf, e, h⟩ := OtS.chg h
  obtain ⟨p, ep, wp, op⟩ := S1.own_at g nf
  rw [ev0] at ep; cases ep
  cases c <;> try exact op.elim
  rename_i l
  obtain ⟨xs, hx, rs⟩ := op
  simp only [appV] at e
  split at e
  · rename_i hz
    cases e
    obtain ⟨S', kp⟩ := S1.chgL g nf ev0 wp (rs.append (Reps.cons r Reps.nil))
    refine ⟨p0, xs, v, rfl, rfl, hx, ?_, OtS.nx h S' kp⟩
    rw [← rs.length, ← szLine]
    simpa [Nat.blt_eq] using hz
  · cases e
theorem ps_unpE {tg : Expr} {p : Pat} (he : PE X e (tE A xw C t)) (hg : PG X tg (tG A p)) (hs : swapsWithSole [tg] e pos.line X.env = pure false) (hw : swappedStores [tg] e X.env = pure none) (h1 : (assignEach [tg] X.env).map (·.2) = [assign tg X.env]) :
    PS X (.Assign [tg] e pos) (tS A xw (evS C (.unp p t))) := (ps_asg he hg hs hw h1).imp fun D σ H ⟨W, ρ, S, h⟩ => by
  have h : OtS A xw W H ((evE C t ρ).bind fun x ρ => (bnd p x.2 ρ).bind fun _ ρ => .ok .nx ρ) D := h
  refine ⟨W, ρ, S, Ot.shr S ((OtS.bind (mu := fun j => muts j t) S h).imp fun x ρ1 W1 H1 S1 F1 h v r => ?_)⟩
  cases eb : bindP p x.2 ρ1 with
  | none =>
    have e2 : bnd p x.2 ρ1 = .st := by unfold bnd; rw [eb]
    rw [e2] at h; exact h.elim
  | some ρb =>
    have e2 : bnd p x.2 ρ1 = .ok () ρb := by unfold bnd; rw [eb]
    rw [e2] at h
    exact ⟨W1, ρ1, x.2, ρb, S1, r, eb, fun σ2 S3 l3 n3 => OtS.nx h S3 (Kp.refl _ _)⟩
/-- a value kept while others are reckoned -/
theorem RR.keep {mu : Nat → Bool} {σ : St} {W W' : Addr → Prop} {Hs H H' : Hp} {ρ ρ' : Env} {x : RV} {v : V} (S : SI A W H σ ρ) (F : Frm mu σ W H ρ W' H' ρ') (r : RR A Hs W H σ ρ x v) : RR A Hs W' H' σ ρ' x v := by
  unfold RR at r ⊢
  by_cases hx : x.1 = true
  · rw [if_pos hx] at r ⊢
    obtain ⟨p, e, h1, w, h2, o, np⟩ := r
    obtain ⟨o1, q, _⟩ := o.some
    exact ⟨p, e, h1, F.wl p w np, h2, o.kp (F.kp S) (fun o' h => F.hp p o' h fun j fl d _ g n => np j fl d g n), fun j fl d g n => by obtain ⟨d0, g0⟩ := F.fl j fl d g n; exact np j fl d0 g0 n⟩
  · rw [if_neg hx] at r ⊢
    exact r.kp (F.kp S)
/-- behind the storing of another value -/
theorem RR.past {σ : St} {W : Addr → Prop} {H Hr : Hp} {ρ : Env} {i : Nat} {x y : RV} {v w : V} (q : RR A Hr W H σ ρ y w) (hd : x.1 = true → y.1 = true → v ≠ w) (hi : i < σ.length) (hl : ρ.length = σ.length) : RR A Hr W H (σ.set i (some v)) (sto i x ρ) y w := by
  unfold RR at q ⊢
  by_cases hy : y.1 = true
  · rw [if_pos hy] at q ⊢
    obtain ⟨p, e, h1, w', h2, o, np⟩ := q
    refine ⟨p, e, h1, w', h2, o, fun j fl d g n z => ?_⟩
    unfold sto at g
    rcases get_put_cases (by rw [hl]; exact hi) g with ⟨rfl, g5⟩ | ⟨hj, g5⟩
    · rw [List.getElem?_set_self hi] at z
      cases z
      by_cases hx : x.1 = true
      · exact hd hx hy e.symm
      · rw [if_neg hx] at g5; cases g5; exact n rfl
    · rw [List.getElem?_set_ne (Ne.symm hj)] at z
      exact np j fl d g5 n z
  · rw [if_neg hy] at q ⊢
    exact q
theorem RR.apart {σ : St} {W W' : Addr → Prop} {H H' Hs : Hp} {ρ ρ' : Env} {x y : RV} {v w : V} (r : RR A Hs W H σ ρ x v) (q : RR A H W' H' σ ρ' y w) : x.1 = true → y.1 = true → v ≠ w := fun hx hy z => by
  unfold RR at r q
  rw [if_pos hx] at r
  rw [if_pos hy] at q
  obtain ⟨p, e, _, _, _, o, _⟩ := r
  obtain ⟨p', e', h, _⟩ := q
  obtain ⟨o1, q1, _⟩ := o.some
  rw [e, e'] at z; cases z
  rw [h] at q1; cases q1
theorem stoL2 {i j : Nat} {x y : RV} {ρ : Env} : stoL [i, j] [x, y] ρ = some (sto j y (sto i x ρ)) := rfl
theorem get_none_put {ρ : Env} {i : Nat} {c : Cell} (h : ¬ i < ρ.length) : put ρ i c = ρ := by
  induction ρ generalizing i with
  | nil => rfl
  | cons a ρ ih =>
    cases i with
    | zero => simp at h
    | succ i => simp only [put]; rw [ih (by simpa using h)]
theorem sto_length {i : Nat} {x : RV} {ρ : Env} : (sto i x ρ).length = ρ.length := put_length
/-- several values, kept apart -/
def RRs (A : Ax) (Hs : Hp) (W : Addr → Prop) (H : Hp) (σ : St) (ρ : Env) : List RV → List V → Prop
  | [], vs => vs = []
  | x :: xs, vs => ∃ v r, vs = v :: r ∧ RR A Hs W H σ ρ x v ∧ RRs A Hs W H σ ρ xs r ∧ ∀ (y : RV) w, (∃ k : Nat, xs[k]? = some y ∧ r[k]? = some w) → x.1 = true → y.1 = true → v ≠ w
def setL (σ : St) : List Nat → List V → St
  | i :: is, v :: vs => setL (σ.set i (some v)) is vs
  | _, _ => σ
def tRs (A : Ax) (xw : XW) (C : Cl) (ts : List E) : TA := fun σ H Q => ∃ W ρ, SI A W H σ ρ ∧ Ot A xw (fun j => mutsL j ts) σ W H ρ (evRs C ts ρ) fun xs ρ' W' H' => ∀ vs, RRs A H W' H' σ ρ' xs vs → Q vs H'
theorem RRs.back {Hs Hr : Hp} {σ : St} {W : Addr → Prop} {H : Hp} {ρ : Env} (f : ∀ a o, Hr a = some o → ∃ o', Hs a = some o') : ∀ {xs : List RV} {vs : List V}, RRs A Hs W H σ ρ xs vs → RRs A Hr W H σ ρ xs vs
  | [], vs, h => h
  | x :: xs, vs, h => by
    obtain ⟨v, r, e, h1, h2, h3⟩ := h
    exact ⟨v, r, e, h1.back f, RRs.back f h2, h3⟩
theorem RRs.get {Hs : Hp} {σ : St} {W : Addr → Prop} {H : Hp} {ρ : Env} : ∀ {xs : List RV} {vs : List V} {k : Nat} {y : RV} {w : V}, RRs A Hs W H σ ρ xs vs → xs[k]? = some y → vs[k]? = some w → RR A Hs W H σ ρ y w
  | [], vs, k, y, w, h, e1, e2 => by simp at e1
  | x :: xs, vs, k, y, w, h, e1, e2 => by
    obtain ⟨v, r, rfl, h1, h2, h3⟩ := h
    cases k with
    | zero => simp at e1 e2; subst e1; subst e2; exact h1
    | succ k => exact RRs.get h2 (by simpa using e1) (by simpa using e2)
theorem RRs.len {Hs : Hp} {σ : St} {W : Addr → Prop} {H : Hp} {ρ : Env} : ∀ {xs : List RV} {vs : List V}, RRs A Hs W H σ ρ xs vs → xs.length = vs.length
  | [], vs, h => by have h : vs = [] := h; subst h; rfl
  | x :: xs, vs, h => by obtain ⟨v, r, rfl, h1, h2, h3⟩ := h; simp [RRs.len h2]
theorem RRs.past {Hs : Hp} {σ : St} {W : Addr → Prop} {H : Hp} {ρ : Env} {i : Nat} {x : RV} {v : V} (hl : ρ.length = σ.length) : ∀ {xs : List RV} {vs : List V}, RRs A Hs W H σ ρ xs vs → (∀ (y : RV) w, (∃ k : Nat, xs[k]? = some y ∧ vs[k]? = some w) → x.1 = true → y.1 = true → v ≠ w) → RRs A Hs W H (σ.set i (some v)) (sto i x ρ) xs vs
  | [], vs, h, _ => h
  | y :: xs, vs, h, hd => by
    obtain ⟨w, r, rfl, h1, h2, h3⟩ := h
    refine ⟨w, r, rfl, ?_, RRs.past hl h2 fun z u ⟨k, q⟩ => hd z u ⟨k + 1, by simpa using q⟩, h3⟩
    by_cases hi : i < σ.length
    · exact h1.past (hd y w ⟨0, by simp⟩) hi hl
    · have e1 : sto i x ρ = ρ := get_none_put (by rw [hl]; exact hi)
      have e2 : σ.set i (some v) = σ := List.set_eq_of_length_le (by omega)
      rw [e1, e2]; exact h1
theorem SI.setAll {Hs : Hp} {W : Addr → Prop} {H : Hp} : ∀ {is : List Nat} {xs : List RV} {vs : List V} {σ : St} {ρ ρ' : Env}, SI A W H σ ρ → RRs A Hs W H σ ρ xs vs → stoL is xs ρ = some ρ' → SI A W H (Py.setL σ is vs) ρ'
  | [], [], vs, σ, ρ, ρ', S, r, e => by
    simp only [stoL, Option.some.injEq] at e
    subst e
    have r : vs = [] := r
    subst r; exact S
  | i :: is, x :: xs, vs, σ, ρ, ρ', S, r, e => by
    obtain ⟨v, q, rfl, h1, h2, h3⟩ := r
    simp only [stoL] at e
    exact SI.setAll (is := is) (xs := xs) (vs := q) (σ := σ.set i (some v)) (ρ := sto i x ρ) (S.setOwn h1) (h2.past S.len h3) e
  | [], x :: xs, vs, σ, ρ, ρ', S, r, e => by simp only [stoL] at e; cases e
  | i :: is, [], vs, σ, ρ, ρ', S, r, e => by simp only [stoL] at e; cases e
theorem RRs.ext {Hs : Hp} {σ : St} {W : Addr → Prop} {H H2 : Hp} {ρ : Env} (S : SI A W H σ ρ) (ex : Ext H H2) : ∀ {xs : List RV} {vs : List V}, RRs A Hs W H σ ρ xs vs → RRs A Hs W H2 σ ρ xs vs
  | [], vs, h => h
  | x :: xs, vs, h => by
    obtain ⟨v, r, e, h1, h2, h3⟩ := h
    exact ⟨v, r, e, h1.keep S (Frm.ext (mu := fun _ => true) ex (fun _ w => .inl w) fun _ w => w), h2.ext S ex, h3⟩
theorem rs_nilE : PA X [] (tRs A xw C []) := pa_nil.imp fun σ H Q ⟨W, ρ, S, h⟩ => Ot.ok h S Frm.refl [] rfl
theorem rs_consE {es : List Expr} {ts : List E} (ha : PE X e (tE A xw C t)) (hr : PA X es (tRs A xw C ts)) (hs : starEach (e :: es) X.env = (false, eval e X.env) :: starEach es X.env) : PA X (e :: es) (tRs A xw C (t :: ts)) := by
  refine (pa_cons ha hr hs).imp fun σ H Q ⟨W, ρ, S, h⟩ => ⟨W, ρ, S, ?_⟩
  have h : Ot A xw (fun j => mutsL j (t :: ts)) σ W H ρ ((evE C t ρ).bind fun x ρ => (evRs C ts ρ).bind fun xs ρ => .ok (x :: xs) ρ) _ := h
  refine (Ot.bind (mu1 := fun j => muts j t) (mu2 := fun j => mutsL j ts) h or1 or2).imp fun x ρ1 W1 H1 S1 F1 h v r => ⟨W1, ρ1, S1, ?_⟩
  refine (Ot.bind (mu1 := fun j => mutsL j ts) (mu2 := fun j => mutsL j ts) h (fun _ z => z) fun _ z => z).imp fun xs ρ2 W2 H2 S2 F2 h vs rs => ?_
  refine Ot.ok h S2 Frm.refl (v :: vs) ⟨v, vs, rfl, r.keep S1 F2, rs.back F1.so, fun y w ⟨k, e1, e2⟩ => r.apart (rs.get e1 e2)⟩
theorem evRs_length {C : Cl} : ∀ {l : List E} {ρ ρ' : Env} {ds : List RV}, evRs C l ρ = .ok ds ρ' → ds.length = l.length
  | [], ρ, ρ', ds, h => by simp only [evRs] at h; cases h; rfl
  | e :: l, ρ, ρ', ds, h => by
    simp only [evRs] at h
    obtain ⟨x, ρ1, h1, h⟩ := M.bind_ok h
    obtain ⟨y, ρ2, h2, h⟩ := M.bind_ok h
    cases h
    simp [evRs_length h2]
/-- the reading of several stores at once -/
theorem ps_setPE {is : List Nat} {ts : List E} {st : Stmt} (h : PS X st fun D σ H => tRs A xw C ts σ H fun vs H1 => vs.length = ts.length ∧ ∀ H2, Ext H1 H2 → D.nx (setL σ is vs) H2) : PS X st (tS A xw (evS C (.setP is ts))) := by
  refine h.imp fun D σ H ⟨W, ρ, S, h⟩ => ⟨W, ρ, S, ?_⟩
  have h : OtS A xw W H ((evRs C ts ρ).bind fun xs ρ => (ofO (stoL is xs ρ) ρ).bind fun ρ' _ => .ok .nx ρ') D := h
  have h := OtS.bind (mu := fun j => mutsL j ts) S h
  rcases h with ⟨xs, ρ1, e, h⟩ | h
  · refine .inl ⟨xs, ρ1, e, fun W1 H1 S1 F1 vs r => ⟨by rw [← r.len, evRs_length e], fun H2 ex => ?_⟩⟩
    have h : OtS A xw W1 H1 ((ofO (stoL is xs ρ1) ρ1).bind fun ρ' _ => .ok .nx ρ') D := h W1 H1 S1 F1
    cases q : stoL is xs ρ1 with
    | none => rw [q] at h; exact h.elim
    | some ρ2 =>
      rw [q] at h
      have h : OtS A xw W1 H1 (.ok .nx ρ2) D := h
      have S2 := S1.ext' ex
      have r2 : RRs A H W1 H2 σ ρ1 xs vs := by
        exact r.ext S1 ex
      exact OtS.nx h (S2.setAll r2 q) (Kp.ext ex)
  · exact .inr h
theorem ps_par2E {i j : Nat} {st : Stmt} {ts : List E} {es : List Expr} (ha : PA X es (tRs A xw C ts)) (hz : ts.length = 2) (h : ∀ ta, PA X es ta → PS X st (tPar i j ta)) : PS X st (tS A xw (evS C (.setP [i, j] ts))) :=
  ps_setPE ((h _ ha).imp fun D σ H ⟨W, ρ, S, h⟩ => ⟨W, ρ, S, h.imp fun xs ρ1 W1 H1 S1 F1 h vs r => by
    obtain ⟨h1, h2⟩ := h vs r
    rw [hz] at h1
    match vs, h1 with
    | [v, w], _ => exact ⟨v, w, rfl, h2 H1 (Ext.refl _)⟩⟩)
theorem ps_par3E {i j k : Nat} {st : Stmt} {ts : List E} {es : List Expr} (ha : PA X es (tRs A xw C ts)) (hz : ts.length = 3) (h : ∀ ta, PA X es ta → PS X st (tPar3 i j k ta)) : PS X st (tS A xw (evS C (.setP [i, j, k] ts))) :=
  ps_setPE ((h _ ha).imp fun D σ H ⟨W, ρ, S, h⟩ => ⟨W, ρ, S, h.imp fun xs ρ1 W1 H1 S1 F1 h vs r => by
    obtain ⟨h1, h2⟩ := h vs r
    rw [hz] at h1
    match vs, h1 with
    | [u, v, w], _ => exact ⟨u, v, w, rfl, h2 H1 (Ext.refl _)⟩⟩)
def gNames : List Nat → TGs
  | [] => gNil
  | i :: is => gCons (gName i) (gNames is)
theorem gNames_of {D : St → Hp → Prop} {H : Hp} : ∀ {is : List Nat} {vs : List V} {σ : St}, vs.length = is.length → D (setL σ is vs) H → gNames is vs σ H D
  | [], [], σ, _, h => ⟨rfl, h⟩
  | i :: is, v :: vs, σ, hl, h => ⟨v, vs, rfl, gNames_of (is := is) (by simpa using hl) h⟩
  | [], v :: vs, σ, hl, _ => by simp at hl
  | i :: is, [], σ, hl, _ => by simp at hl
theorem ps_parNE {is : List Nat} {ts : List E} {es tgs : List Expr} {k1 k2 : Nat} {p1 p2 : Pos} (hK : A.g.K = X.K) (hc : X.calm = true) (ha : PA X es (tRs A xw C ts)) (hz : ts.length = is.length) (hz2 : ts.length ≤ 1000) (hg : PGs X tgs (gNames is)) (hn : (assignEach tgs X.env).length = is.length) (hst : (assignEach tgs X.env).findIdx? (·.1) = none)
    (hs : swapsWithSole [.Tuple tgs k1 p1] (.Tuple es k2 p2) pos.line X.env = pure false) (hw : swappedStores [.Tuple tgs k1 p1] (.Tuple es k2 p2) X.env = pure none) (h1 : (assignEach [.Tuple tgs k1 p1] X.env).map (·.2) = [assign (.Tuple tgs k1 p1) X.env]) : PS X (.Assign [.Tuple tgs k1 p1] (.Tuple es k2 p2) pos) (tS A xw (evS C (.setP is ts))) :=
  ps_setPE ((ps_asg (pe_tup ha) (pg_tup hc hg hn hst) hs hw h1).imp fun D σ H ⟨W, ρ, S, h⟩ => ⟨W, ρ, S, h.imp fun xs ρ1 W1 H1 S1 F1 h vs r => by
    obtain ⟨h1, h2⟩ := h vs r
    refine ⟨by rw [h1, sizeLine_eq]; omega, fun p hp => ⟨p, vs, rfl, SqT.of upd_same, by rw [h1, hz], gNames_of (by rw [h1, hz]) (h2 _ (Ext.new hp))⟩⟩⟩)
end
end Py

/-! Defs. -/
namespace Py
open PySem PySem.Spec PyProof.Rows L2

theorem get_append_left : ∀ {ρ r : Env} {i : Nat}, i < ρ.length → get (ρ ++ r) i = get ρ i
  | [], r, i, h => by simp at h
  | c :: ρ, r, 0, h => rfl
  | c :: ρ, r, i + 1, h => get_append_left (ρ := ρ) (by simpa using h)
theorem get_append_right : ∀ {ρ r : Env} {i : Nat}, ρ.length ≤ i → get (ρ ++ r) i = get r (i - ρ.length)
  | [], r, i, h => by simp
  | c :: ρ, r, 0, h => by simp at h
  | c :: ρ, r, i + 1, h => by
    have := get_append_right (ρ := ρ) (r := r) (i := i) (by simpa using h)
    simpa [get] using this
theorem get_replicate : ∀ (n i : Nat), get (List.replicate n none) i = none
  | 0, i => by simp [get]
  | n + 1, 0 => by simp [List.replicate_succ, get]
  | n + 1, i + 1 => by simp [List.replicate_succ, get, get_replicate n i]
theorem cellsOf_length : ∀ ds : List D, (cellsOf ds).length = ds.length
  | [] => rfl
  | d :: l => by simp [cellsOf, cellsOf_length l]
theorem get_cellsOf : ∀ {ds : List D} {i : Nat} {x : Fl × D}, get (cellsOf ds) i = some x → x.1 = .shr ∧ ds[i]? = some x.2
  | [], i, x, h => by simp [cellsOf, get] at h
  | d :: l, 0, x, h => by simp [cellsOf, get] at h; subst h; simp
  | d :: l, i + 1, x, h => by
    have := get_cellsOf (ds := l) (i := i) (x := x) (by simpa [cellsOf, get] using h)
    simpa using this
theorem get_rest {ds : List D} {n i : Nat} {x : Fl × D} (h : get (cellsOf ds ++ List.replicate n none) i = some x) : x.1 = .shr ∧ ds[i]? = some x.2 := by
  by_cases hi : i < (cellsOf ds).length
  · rw [get_append_left hi] at h; exact get_cellsOf h
  · rw [get_append_right (by omega), get_replicate] at h; cases h
theorem start_get {N : List Str} {vs : List V} {i : Nat} {v : V} (h : vs[i]? = some v) : (L2.start N vs)[i]? = some (some v) := by
  have hi : i < vs.length := by
    by_cases q : i < vs.length
    · exact q
    · rw [List.getElem?_eq_none_iff.mpr (by omega)] at h; cases h
  unfold L2.start
  rw [List.getElem?_append_left (by simpa using hi), List.getElem?_map, h]; rfl
theorem start_len {N : List Str} {vs : List V} (h : vs.length ≤ N.length) : (L2.start N vs).length = N.length := by
  unfold L2.start
  rw [List.length_append, List.length_map, List.length_replicate]; omega
/-- the state at a def's entry -/
theorem SI.enter {G : Kx} {H : Hp} {B : Addr → Prop} {N : List Str} {ds : List D} {vs : List V} (hB : ∀ a, B a → ∃ o, H a = some o) (r : Reps G B H ds vs) (hl : ds.length ≤ N.length) :
    SI ⟨G, H, B, none⟩ B H (L2.start N vs) (startE false ds N.length) := by
  have hl2 : vs.length ≤ N.length := by rw [← r.length]; exact hl
  refine ⟨?_, fun i fl d g => ?_, fun i j fl d fl' d' a g g' n n' => ?_, fun a h => h, fun a h => ?_, fun a o h _ => h, fun a h => (nomatch h), hB, fun a h => (nomatch h)⟩
  · rw [start_len hl2]
    show (cellsOf ds ++ List.replicate (N.length - ds.length) none).length = _
    rw [List.length_append, cellsOf_length, List.length_replicate]; omega
  · obtain ⟨e1, e2⟩ := get_rest g
    have e1 : fl = .shr := e1
    subst e1
    obtain ⟨v, e3, rv⟩ := r.get e2
    exact ⟨v, start_get e3, rv⟩
  · obtain ⟨e1, _⟩ := get_rest g
    exact absurd e1 n
  · obtain ⟨o, q⟩ := hB a h
    show H a ≠ none
    rw [q]; intro z; cases z
theorem SI.startIo {G : Kx} {H : Hp} {B : Addr → Prop} {N : List Str} {d0 : D} {ds : List D} {vs : List V} {a : Addr} (hB : ∀ a, B a → ∃ o, H a = some o) (ba : B a) (o : OwnR G B H d0 a) (r : Reps G B H ds vs) (hl : ds.length + 1 ≤ N.length) :
    SI ⟨G, H, B, some a⟩ B H (L2.start N (.ref a :: vs)) (startE true (d0 :: ds) N.length) := by
  have hl2 : (V.ref a :: vs).length ≤ N.length := by rw [List.length_cons, ← r.length]; exact hl
  have gg : ∀ i (x : Fl × D), get (startE true (d0 :: ds) N.length) i = some x → (i = 0 ∧ x = (.io, d0)) ∨ (0 < i ∧ x.1 = .shr ∧ ds[i - 1]? = some x.2) := fun i x g => by
    have g : get (some (Fl.io, d0) :: (cellsOf ds ++ List.replicate (N.length - (d0 :: ds).length) none)) i = some x := g
    cases i with
    | zero => exact .inl ⟨rfl, (Option.some.inj g).symm⟩
    | succ i => exact .inr ⟨Nat.succ_pos i, get_rest (i := i) g⟩
  refine ⟨?_, fun i fl d g => ?_, fun i j fl d fl' d' b g g' n n' => ?_, fun a h => h, fun a h => ?_, fun a o h _ => h, fun b h => ?_, hB, fun b h => ?_⟩
  · rw [start_len hl2]
    show (some (Fl.io, d0) :: (cellsOf ds ++ List.replicate (N.length - (d0 :: ds).length) none)).length = _
    rw [List.length_cons, List.length_append, cellsOf_length, List.length_replicate, List.length_cons]; omega
  · rcases gg i _ g with ⟨rfl, e⟩ | ⟨hi, e1, e2⟩
    · cases e
      exact ⟨.ref a, start_get rfl, a, rfl, rfl, ba, o⟩
    · have e1 : fl = .shr := e1
      subst e1
      obtain ⟨v, e3, rv⟩ := r.get e2
      refine ⟨v, start_get ?_, rv⟩
      cases i with
      | zero => omega
      | succ i => simpa using e3
  · rcases gg i _ g with ⟨rfl, e⟩ | ⟨hi, e1, e2⟩
    · rcases gg j _ g' with ⟨rfl, e⟩ | ⟨hi, e1, e2⟩
      · exact fun _ _ => rfl
      · exact absurd e1 n'
    · exact absurd e1 n
  · obtain ⟨o, q⟩ := hB a h
    show H a ≠ none
    rw [q]; intro z; cases z
  · cases h
    exact hB _ ba
  · cases h; exact ba
/-- the wish of a def about exceptions -/
def xwF (G : Kx) (E : XK) : XW := fun c l _ _ H' _ => ∀ cls d, ExcR G c l cls d H' → E cls d H'
theorem Rep.anti {G : Kx} {W W' : Addr → Prop} {H : Hp} (h : ∀ a, W' a → W a) {d : D} {v : V} (r : Rep G W H d v) : Rep G W' H d v := r.kp fun a o n q => ⟨fun z => n (h a z), q⟩
theorem Reps.anti {G : Kx} {W W' : Addr → Prop} {H : Hp} (h : ∀ a, W' a → W a) {d : List D} {v : List V} (r : Reps G W H d v) : Reps G W' H d v := r.kp fun a o n q => ⟨fun z => n (h a z), q⟩
theorem OwnR.anti {G : Kx} {W W' : Addr → Prop} {H : Hp} (h : ∀ a, W' a → W a) {d : D} {p : Addr} (r : OwnR G W H d p) : OwnR G W' H d p := r.kp (fun a o n q => ⟨fun z => n (h a z), q⟩) fun _ q => q
/-- THE RULE: a def's promise by its body -/
theorem def_ok {P : Program} {w : World} {K : PySem.W.Frag} {mg : Str → Option Value} {base : Heap} {x qual : Str} {st : Stmt} {f : Addr} {fdt : FuncData} {N ps : List Str} {k : Nat} {G : Kx} {C : Cl} {fd : FD} {run : List D → CR}
    (F : Fun K x qual st f fdt) (S : FnScope N ps (defScope st)) (hnp : ps.length = fd.np) (hsl : fd.slots = N.length) (hdf : fd.dfl = []) (hrun : ∀ ds, run ds = runF C fd ds) (hio : fd.io = true → 0 < fd.np)
    (body : ∀ (cdv : Value) (A : Around) (outer : List PySem.Env) (s : Shared) (H : Hp) (E : XK) (Ax : Ax), Ax.g = G → Ax.H0 = H → Room k (A.deeper (envOfC qual (defScope st) s.heap.objs.size f cdv)) →
      Takes (cxOf (L2.CX P w) P w K mg base N qual (defScope st) f cdv A outer s H E) (wx Ax (xwF G E)) →
      PSs (cxOf (L2.CX P w) P w K mg base N qual (defScope st) f cdv A outer s H E) (defBody st) (tS Ax (xwF G E) (evSs C fd.body))) :
    FnOk P w K mg base (L2.CX P w) (k + 1) f fdt ps (spF G run fd.io fd.np) := by
  have hpl : ps.length ≤ N.length := by have := congrArg List.length S.pre; rw [List.length_take] at this; omega
  refine F.okX S (fun vs H Q E h => by rw [hnp]; exact h.1) fun cdv A outer s H vs Q E hr ⟨hl, B, hB, h⟩ => ?_
  have tk : Takes (cxOf (L2.CX P w) P w K mg base N qual (defScope st) f cdv A outer s H E) fun cls d _ H' => E cls d H' := takes_of rfl rfl rfl rfl
  have ef : ∀ ds, fill fd.np ds fd.dfl = ds := fun ds => by rw [hdf]; unfold fill; simp
  rcases h with ⟨eio, ds, r, h⟩ | ⟨eio, a, vs', d0, ds, fr, rv, c, rfl, ba, o, r, er, h⟩
  · have hds : ds.length = fd.np := by rw [r.length, hl]
    have tk2 : Takes (cxOf (L2.CX P w) P w K mg base N qual (defScope st) f cdv A outer s H E) (wx ⟨G, H, B, none⟩ (xwF G E)) := tk.imp fun cls d σ H' ⟨c, l, W, ρ, er, _, h⟩ => h cls d er
    refine ⟨_, body cdv A outer s H E ⟨G, H, B, none⟩ rfl rfl hr tk2, B, _, SI.enter hB r (by omega), ?_⟩
    have e1 : run ds = endF fd (evSs C fd.body (startE false ds N.length)) := by
      rw [hrun]; unfold runF; rw [ef, hds, if_pos (by simp), eio, hsl]
    rw [e1] at h
    have ei : ∀ ρ, ioOf fd.io ρ = some none := fun ρ => by unfold ioOf; rw [eio]; rfl
    generalize evSs C fd.body (startE false ds N.length) = m at h
    have exS : ∀ {σ' : St} {W' : Addr → Prop} {H' : Hp} {ρ' : Env}, SI ⟨G, H, B, none⟩ W' H' σ' ρ' → Ext H H' := fun S' a o q => S'.base a o q (fun z => nomatch z)
    cases m with
    | st => rcases h with ⟨fr, rv, e, _⟩ | ⟨c, l, e, _⟩ <;> simp only [endF] at e <;> cases e
    | ex c l ρ' =>
      simp only [endF, eio, Bool.false_eq_true, if_false] at h
      rcases h with ⟨fr, rv, e, _⟩ | ⟨c', l', e, h⟩
      · cases e
      · cases e
        exact fun σ' W' H' S' cls d er => h cls d H' (exS S') er
    | ok w' ρ' =>
      cases w' with
      | nx =>
        simp only [endF, ei] at h
        rcases h with ⟨fr, rv, e, h⟩ | ⟨c', l', e, h⟩
        · cases e
          exact fun σ' W' H' S' k' => h .non H' (exS S') (by unfold NwR; rw [if_neg (by decide)]; simp only [Rep])
        · cases e
      | rt fr' d' =>
        simp only [endF, ei] at h
        rcases h with ⟨fr, rv, e, h⟩ | ⟨c', l', e, h⟩
        · cases e
          refine fun σ' W' H' S' k' v rr => h v H' (exS S') ?_
          unfold RR at rr
          unfold NwR
          cases fr' with
          | false =>
            rw [if_neg Bool.false_ne_true] at rr ⊢
            exact rr.anti fun a z => S'.bw a z
          | true =>
            rw [if_pos rfl] at rr ⊢
            obtain ⟨p, e, hp, wp, _, o, _⟩ := rr
            exact ⟨p, e, hp, o.anti fun a z => z.elim (fun z => S'.bw a z) fun z => by subst z; exact wp⟩
        · cases e
      | bk => simp only [endF] at h; rcases h with ⟨fr, rv, e, _⟩ | ⟨c, l, e, _⟩ <;> cases e
      | ct => simp only [endF] at h; rcases h with ⟨fr, rv, e, _⟩ | ⟨c, l, e, _⟩ <;> cases e
  · have hds : ds.length + 1 = fd.np := by rw [r.length, ← hl, List.length_cons]
    have tk2 : Takes (cxOf (L2.CX P w) P w K mg base N qual (defScope st) f cdv A outer s H E) (wx ⟨G, H, B, some a⟩ (xwF G E)) := tk.imp fun cls d σ H' ⟨c, l, W, ρ, er, _, h⟩ => h cls d er
    refine ⟨_, body cdv A outer s H E ⟨G, H, B, some a⟩ rfl rfl hr tk2, B, _, SI.startIo hB ba o r (by omega), ?_⟩
    have e1 : run (d0 :: ds) = endF fd (evSs C fd.body (startE true (d0 :: ds) N.length)) := by
      rw [hrun]; unfold runF; rw [ef, List.length_cons, hds, if_pos (by simp), eio, hsl]
    rw [e1] at er
    generalize evSs C fd.body (startE true (d0 :: ds) N.length) = m at er
    have fin : ∀ {σ' : St} {W' : Addr → Prop} {H' : Hp} {ρ' : Env} {v : V}, SI ⟨G, H, B, some a⟩ W' H' σ' ρ' → ioOf fd.io ρ' = some (some c) → RR ⟨G, H, B, some a⟩ H W' H' σ' ρ' (fr, rv) v → Q v H' := by
      intro σ' W' H' ρ' v S' ei rr
      have g0 : get ρ' 0 = some (.io, c) := by
        unfold ioOf at ei
        rw [eio, if_pos rfl] at ei
        split at ei
        · rename_i d q; cases ei; exact q
        · cases ei
      obtain ⟨v0, _, b, _, e2, wb, oc⟩ := S'.slot 0 _ _ g0
      cases e2
      have k1 : ∀ b o, H b = some o → b ≠ a → H' b = some o := fun b o q n => S'.base b o q fun z => n (by cases z; rfl)
      unfold RR at rr
      cases fr with
      | false =>
        rw [if_neg Bool.false_ne_true] at rr
        exact h v H' B k1 (fun _ z => z) (fun _ z => .inl z) (fun b z => S'.wt b (S'.bw b z)) (oc.anti fun b z => S'.bw b z) (rr.anti fun b z => S'.bw b z)
      | true =>
        rw [if_pos rfl] at rr
        obtain ⟨p, e, hp, wp, _, o, _⟩ := rr
        have an : ∀ b, Wp B p b → W' b := fun b z => z.elim (fun z => S'.bw b z) fun z => by subst z; exact wp
        exact h v H' (Wp B p) k1 (fun _ z => .inl z) (fun b z => z.elim .inl fun z => by subst z; exact .inr hp) (fun b z => S'.wt b (an b z)) (oc.anti an) ⟨p, e, hp, .inr rfl, o.anti an⟩
    cases m with
    | st => simp only [endF] at er; cases er
    | ex c l ρ' => simp only [endF, eio, if_true] at er; cases er
    | ok w' ρ' =>
      cases w' with
      | nx =>
        simp only [endF] at er
        cases q : ioOf fd.io ρ' with
        | none => rw [q] at er; cases er
        | some o =>
          rw [q] at er; cases er
          exact fun σ' W' H' S' k' => fin S' q (by unfold RR; rw [if_neg (by decide)]; simp only [Rep])
      | rt fr' d' =>
        simp only [endF] at er
        cases q : ioOf fd.io ρ' with
        | none => rw [q] at er; cases er
        | some o =>
          rw [q] at er; cases er
          exact fun σ' W' H' S' k' v rr => fin S' q rr
      | bk => simp only [endF] at er; cases er
      | ct => simp only [endF] at er; cases er
end Py

/-! Operators by values. -/
namespace Py
open PySem PySem.Spec PyProof.Rows L2
/-- plain data as the library has it -/
def toP : D → PyData
  | .bl b => .bool b
  | .int i => .int i
  | .str s => .str ⟨s.toArray⟩
  | .tup l => .tuple (toPs l)
  | .lst l => .list (toPs l)
  | _ => .none
where toPs : List D → List PyData
  | [] => []
  | d :: l => toP d :: toPs l
theorem toPs_eq : ∀ l : List D, toP.toPs l = l.map toP
  | [] => rfl
  | d :: l => by simp [toP.toPs, toPs_eq l]
theorem plainN_dp {G : Kx} {W : Addr → Prop} {H : Hp} : ∀ (n : Nat) (d : D) (v : V), plainN n d = true → Rep G W H d v → Dp G.K H v (toP d) := by
  intro n
  induction n with
  | zero =>
    intro d v hp r
    cases d <;> simp only [plainN] at hp <;> first | (cases hp; done) | skip
    · simp only [Rep] at r; subst r; exact .non
    · simp only [Rep] at r; subst r; exact .bl _
    · simp only [Rep] at r; subst r; exact .int _
    · simp only [Rep] at r; obtain ⟨rfl, _⟩ := r; exact .str _
  | succ n ih =>
    have all : ∀ (l : List D) (vs : List V), l.all (plainN n) = true → Reps G W H l vs → DpAll G.K H vs (toP.toPs l) := by
      intro l
      induction l with
      | nil => intro vs _ r; obtain rfl := r.inv_nil; exact .nil
      | cons d l ih2 =>
        intro vs hp r
        simp only [List.all_cons, Bool.and_eq_true] at hp
        obtain ⟨v, q, rfl, h1, h2⟩ := r.inv_cons
        exact .cons (ih d v hp.1 h1) (ih2 q hp.2 h2)
    intro d v hp r
    cases d <;> simp only [plainN] at hp <;> first | (cases hp; done) | skip
    · simp only [Rep] at r; subst r; exact .non
    · simp only [Rep] at r; subst r; exact .bl _
    · simp only [Rep] at r; subst r; exact .int _
    · simp only [Rep] at r; obtain ⟨rfl, _⟩ := r; exact .str _
    · simp only [Rep] at r; obtain ⟨a, xs, rfl, t, rs⟩ := r; exact .tup t.sq (all _ _ hp rs)
    · simp only [Rep] at r; obtain ⟨a, xs, rfl, t, rs⟩ := r; exact .lst (SqL.of t.2) (all _ _ hp rs)
theorem dp_all {G : Kx} {W : Addr → Prop} {H : Hp} (n : Nat) : ∀ (l : List D) (vs : List V), l.all (plainN n) = true → Reps G W H l vs → DpAll G.K H vs (toP.toPs l) := by
  intro l
  induction l with
  | nil => intro vs _ r; obtain rfl := r.inv_nil; exact .nil
  | cons d l ih2 =>
    intro vs hp r
    simp only [List.all_cons, Bool.and_eq_true] at hp
    obtain ⟨v, q, rfl, h1, h2⟩ := r.inv_cons
    exact .cons (plainN_dp n d v hp.1 h1) (ih2 q hp.2 h2)
theorem TopR.rep {G : Kx} {W : Addr → Prop} {H : Hp} {d : D} {v : V} (h : TopR G W H d v) (n : ∀ l, d ≠ .lst l) : Rep G W H d v := by
  cases d <;> simp only [TopR] at h <;> first | exact h | exact absurd rfl (n _)
theorem TopR.cases {G : Kx} {W : Addr → Prop} {H : Hp} {d : D} {v : V} (h : TopR G W H d v) : Rep G W H d v ∨ ∃ l a xs, d = .lst l ∧ v = .ref a ∧ H a = some (.lst xs) ∧ Reps G W H l xs := by
  cases d <;> first | exact .inr ⟨_, _, _, rfl, h.choose_spec.choose_spec⟩ | exact .inl (h.rep (by intro l z; cases z))
theorem top_dp {G : Kx} {W : Addr → Prop} {H : Hp} {n : Nat} {d : D} {v : V} (hp : plainN n d = true) (r : TopR G W H d v) : Dp G.K H v (toP d) := by
  rcases r.cases with r | ⟨l, a, xs, rfl, rfl, t, rs⟩
  · exact plainN_dp n _ v hp r
  cases n with
  | zero => simp only [plainN] at hp; cases hp
  | succ n =>
    simp only [plainN] at hp
    exact .lst (SqL.of t) (dp_all n l xs hp rs)
/-- what plain data needs to be compared -/
def okD : D → Prop
  | .str s => okS s
  | .tup l => okDs l
  | .lst l => okDs l
  | _ => True
where okDs : List D → Prop
  | [] => True
  | d :: l => okD d ∧ okDs l
theorem Rep.okD {G : Kx} {W : Addr → Prop} {H : Hp} : ∀ (n : Nat) (d : D) (v : V), plainN n d = true → Rep G W H d v → okD d := by
  intro n
  induction n with
  | zero =>
    intro d v hp r
    cases d <;> simp only [plainN] at hp <;> first | (cases hp; done) | trivial | skip
    simp only [Rep] at r; exact r.2
  | succ n ih =>
    have all : ∀ (l : List D) (vs : List V), l.all (plainN n) = true → Reps G W H l vs → okD.okDs l := by
      intro l
      induction l with
      | nil => intro vs _ r; trivial
      | cons d l ih2 =>
        intro vs hp r
        simp only [List.all_cons, Bool.and_eq_true] at hp
        obtain ⟨v, q, rfl, h1, h2⟩ := r.inv_cons
        exact ⟨ih d v hp.1 h1, ih2 q hp.2 h2⟩
    intro d v hp r
    cases d <;> simp only [plainN] at hp <;> first | (cases hp; done) | trivial | skip
    · simp only [Rep] at r; exact r.2
    · simp only [Rep] at r; obtain ⟨a, xs, rfl, t, rs⟩ := r; exact all _ _ hp rs
    · simp only [Rep] at r; obtain ⟨a, xs, rfl, t, rs⟩ := r; exact all _ _ hp rs
theorem okDs_all {G : Kx} {W : Addr → Prop} {H : Hp} (n : Nat) : ∀ (l : List D) (vs : List V), l.all (plainN n) = true → Reps G W H l vs → okD.okDs l := by
  intro l
  induction l with
  | nil => intro vs _ r; trivial
  | cons d l ih2 =>
    intro vs hp r
    simp only [List.all_cons, Bool.and_eq_true] at hp
    obtain ⟨v, q, rfl, h1, h2⟩ := r.inv_cons
    exact ⟨Rep.okD n d v hp.1 h1, ih2 q hp.2 h2⟩
theorem top_okD {G : Kx} {W : Addr → Prop} {H : Hp} {n : Nat} {d : D} {v : V} (hp : plainN n d = true) (r : TopR G W H d v) : okD d := by
  rcases r.cases with r | ⟨l, a, xs, rfl, rfl, t, rs⟩
  · exact Rep.okD n _ v hp r
  cases n with
  | zero => simp only [plainN] at hp; cases hp
  | succ n =>
    simp only [plainN] at hp
    exact okDs_all n l xs hp rs
theorem okS_strOk {s : List Nat} (h : okS s) : PySem.PyData.strOk ⟨s.toArray⟩ = true := by
  unfold PySem.PyData.strOk
  rw [List.all_toArray]
  simp only [List.all_eq_true, decide_eq_true_eq]
  exact h.2
theorem shaped_of : ∀ (n : Nat) (d : D), plainN n d = true → okD d → (toP d).canLay0 = true ∧ (toP d).depth ≤ n := by
  intro n
  induction n with
  | zero =>
    intro d hp ho
    cases d <;> simp only [plainN] at hp <;> first | (cases hp; done) | (exact ⟨rfl, Nat.le_refl _⟩) | skip
    refine ⟨?_, Nat.le_refl _⟩
    show PyData.canLay0 (.str _) = true
    simp only [PyData.canLay0]
    exact okS_strOk ho
  | succ n ih =>
    have all : ∀ (l : List D), l.all (plainN n) = true → okD.okDs l → PyData.canLayAll0 (toP.toPs l) = true ∧ PyData.depthAll (toP.toPs l) ≤ n := by
      intro l
      induction l with
      | nil => intro _ _; exact ⟨rfl, Nat.zero_le _⟩
      | cons d l ih2 =>
        intro hp ho
        simp only [List.all_cons, Bool.and_eq_true] at hp
        obtain ⟨a1, a2⟩ := ih d hp.1 ho.1
        obtain ⟨b1, b2⟩ := ih2 hp.2 ho.2
        simp only [toP.toPs, PyData.canLayAll0, PyData.depthAll, Bool.and_eq_true]
        exact ⟨⟨a1, b1⟩, by omega⟩
    intro d hp ho
    cases d <;> simp only [plainN] at hp <;> first | (cases hp; done) | (exact ⟨rfl, Nat.zero_le _⟩) | skip
    · refine ⟨?_, Nat.zero_le _⟩
      show PyData.canLay0 (.str _) = true
      simp only [PyData.canLay0]
      exact okS_strOk ho
    · obtain ⟨a, b⟩ := all _ hp ho
      simp only [toP, PyData.canLay0, PyData.depth]
      exact ⟨a, by omega⟩
    · obtain ⟨a, b⟩ := all _ hp ho
      simp only [toP, PyData.canLay0, PyData.depth]
      exact ⟨a, by omega⟩
theorem plain_shaped {n : Nat} {d : D} (hn : n ≤ 64) (hp : plainN n d = true) (ho : okD d) : SeqAt.shaped (toP d) = true := by
  obtain ⟨a, b⟩ := shaped_of n d hp ho
  unfold SeqAt.shaped
  rw [a]
  simp; omega
theorem str_beq (a b : List Nat) : ((⟨a.toArray⟩ : Str) == ⟨b.toArray⟩) = (a == b) := by
  by_cases h : a = b
  · subst h; simp
  · rw [beq_eq_false_iff_ne.mpr h, beq_eq_false_iff_ne.mpr]
    intro z
    apply h
    have := congrArg (fun s => s.cps.toList) z
    simpa using this
theorem eqv_eqD : ∀ (n m : Nat) (a b : D), plainN n a = true → plainN m b = true → PyData.eqv (toP a) (toP b) = eqD a b := by
  intro n
  induction n with
  | zero =>
    intro m a b ha hb
    cases a <;> simp only [plainN] at ha <;> first | (cases ha; done) | skip
    all_goals (cases b <;> (cases m <;> simp only [plainN] at hb) <;> first | (cases hb; done) | (simp only [toP, PyData.eqv, eqD, b2i, str_beq]; done) | (simp only [toP, PyData.eqv, eqD, b2i, str_beq]; rfl))
  | succ n ih =>
    have all : ∀ (l m : List D) (k : Nat), l.all (plainN n) = true → m.all (plainN k) = true → PyData.eqvAll (toP.toPs l) (toP.toPs m) = eqL l m := by
      intro l
      induction l with
      | nil => intro m k _ _; cases m <;> rfl
      | cons a l ih2 =>
        intro m k ha hb
        cases m with
        | nil => rfl
        | cons b m =>
          simp only [List.all_cons, Bool.and_eq_true] at ha hb
          simp only [toP.toPs, PyData.eqvAll, eqL]
          rw [ih k a b ha.1 hb.1, ih2 m k ha.2 hb.2]
    intro m a b ha hb
    cases a <;> simp only [plainN] at ha <;> first | (cases ha; done) | skip
    all_goals (cases b <;> (cases m <;> simp only [plainN] at hb) <;> first | (cases hb; done) | (simp only [toP, PyData.eqv, eqD, b2i, str_beq]; done) | (simp only [toP, PyData.eqv, eqD]; exact all _ _ _ ha hb) | (simp only [toP, PyData.eqv, eqD, b2i, str_beq]; rfl))

section
variable {X : Cx} {G : Kx}
theorem top_bl {W : Addr → Prop} {H : Hp} {k : Bool} {v : V} (h : TopR G W H (.bl k) v) : v = .bl k := by simpa only [TopR, Rep] using h
theorem top_str {W : Addr → Prop} {H : Hp} {s : List Nat} {v : V} (h : TopR G W H (.str s) v) : v = .str ⟨s.toArray⟩ ∧ okS s := by simpa only [TopR, Rep] using h
theorem top_tup {W : Addr → Prop} {H : Hp} {l : List D} {v : V} (h : TopR G W H (.tup l) v) : ∃ a xs, v = .ref a ∧ TAt G.K W H a xs ∧ Reps G W H l xs := by simpa only [TopR, Rep] using h
theorem top_lst {W : Addr → Prop} {H : Hp} {l : List D} {v : V} (h : TopR G W H (.lst l) v) : ∃ a xs, v = .ref a ∧ H a = some (.lst xs) ∧ Reps G W H l xs := by simpa only [TopR] using h
theorem NewR.plain {W : Addr → Prop} {H : Hp} {d : D} {v : V} (hn : isNew d = false) (h : Rep G W H d v) : NewR G W H H d v := by
  unfold NewR NwR
  rw [hn, if_neg Bool.false_ne_true]; exact h
theorem cps_append (a b : List Nat) : (⟨a.toArray⟩ : Str) ++ ⟨b.toArray⟩ = ⟨(a ++ b).toArray⟩ := by
  show Str.mk _ = _
  simp
theorem str_len (a : List Nat) : (⟨a.toArray⟩ : Str).length = a.length := by simp [Str.length]
theorem okS.append {a b : List Nat} (ha : okS a) (hb : okS b) (h : lenOk (a.length + b.length) = true) : okS (a ++ b) := by
  refine ⟨by simpa [lenOk] using h, fun c hc => ?_⟩
  rcases List.mem_append.mp hc with h | h
  · exact ha.2 c h
  · exact hb.2 c h
theorem lenOk_le {n : Nat} (h : lenOk n = true) : n ≤ sizeLine := by rw [← szLine]; simpa [lenOk] using h
/-- a new tuple -/
theorem NewR.tup {W : Addr → Prop} {H : Hp} {l : List D} {xs : List V} {p : Addr} (hp : H p = none) (wt : ∀ a, W a → ∃ o, H a = some o) (r : Reps G W H l xs) : NewR G W H (upd H p (.tup xs)) (.tup l) (.ref p) := by
  have ex : Ext H (upd H p (.tup xs)) := Ext.new hp
  unfold NewR NwR
  rw [show isNew (.tup l) = false from rfl, if_neg Bool.false_ne_true]
  simp only [Rep]
  have nw : ¬ W p := fun w => by obtain ⟨o, q⟩ := wt p w; rw [hp] at q; cases q
  exact ⟨p, xs, rfl, .inl ⟨nw, .inl upd_same⟩, r.kp (Kp.ext ex)⟩
theorem NewR.lst {W : Addr → Prop} {H : Hp} {l : List D} {xs : List V} {p : Addr} (hp : H p = none) (r : Reps G W H l xs) : NewR G W H (upd H p (.lst xs)) (.lst l) (.ref p) := by
  have ex : Ext H (upd H p (.lst xs)) := Ext.new hp
  unfold NewR NwR
  rw [show isNew (.lst l) = true from rfl, if_pos rfl]
  exact ⟨p, rfl, hp, xs, upd_same, r.kp (Kp.new ex hp)⟩
end
end Py

namespace Py
open PySem PySem.Spec PyProof.Rows L2
section
variable {X : Cx} {G : Kx}
theorem mulOk_ok {i j : Int} (h : mulOk i j = true) : CMul i j ∨ CMulW i j := by
  simp only [mulOk, two64, Bool.or_eq_true, Nat.blt_eq] at h
  rcases h with (h | h) | h
  · exact .inl (.inl (by constructor <;> omega))
  · exact .inl (.inr (by constructor <;> omega))
  · exact .inr (by unfold CMulW; omega)
theorem powOk_ok {i j : Int} (h : powOk i j = true) : CPow i j := by
  simp only [powOk, leI_iff, two64, Bool.and_eq_true, decide_eq_true_eq, Nat.blt_eq] at h
  exact ⟨h.1.1, h.1.2, by have := h.2; omega⟩
theorem repL_flat {α : Type} (l : List α) : ∀ n, repL l n = (List.replicate n l).flatten
  | 0 => rfl
  | n + 1 => by simp [repL, List.replicate_succ, repL_flat l n]
theorem repL_length {α : Type} (l : List α) : ∀ n, (repL l n).length = l.length * n
  | 0 => rfl
  | n + 1 => by simp only [repL, List.length_append, repL_length l n, Nat.mul_succ]; omega
theorem foldl_cat (a : Array Nat) : ∀ (n : Nat) (acc : Array Nat), (List.replicate n a).foldl (fun x y => x ++ y) acc = ⟨acc.toList ++ repL a.toList n⟩
  | 0, acc => by simp [repL]
  | n + 1, acc => by
    rw [List.replicate_succ, List.foldl_cons, foldl_cat a n]
    simp [repL]
theorem op_mulS : OpR X (binaryOp .Mult) (fun x y H Q => ∃ (a : List Nat) (j : Int), x = .str ⟨a.toArray⟩ ∧ y = .int j ∧ smallI j = true ∧ lenOk (a.length * j.toNat) = true ∧ Q (.str ⟨(repL a j.toNat).toArray⟩) H) := by
  intro pins s σ H x y v u Q I rx ry h
  obtain ⟨a, j, rfl, rfl, hj, hz, q⟩ := h
  obtain ⟨t, rfl⟩ := rx
  obtain ⟨t', rfl⟩ := ry
  simp only [smallI_iff, Bool.and_eq_true, decide_eq_true_eq] at hj
  have hz := lenOk_le hz
  rw [sizeLine_eq] at hz
  refine PySem.P.mul_str ?_ (fun h1 h2 => ?_) (fun h1 h2 => ?_) ?_
  · rw [decide_eq_false (by omega), decide_eq_false (by omega)]; rfl
  · rw [str_len]
    rw [Bool.or_eq_false_iff] at h2
    have hjp : 0 < j := by omega
    have h3 : (a.length : Int) * j ≤ 16777216 := by
      have e : (j.toNat : Int) = j := by omega
      have e2 : ((a.length * j.toNat : Nat) : Int) = (a.length : Int) * j := by rw [Int.natCast_mul, e]
      omega
    intro hc
    have h4 : ((2 ^ 63 - 1) / j + 1) * j ≤ a.length * j := Int.mul_le_mul_of_nonneg_right (by omega) (by omega)
    have h5 := Int.lt_ediv_add_one_mul_self (2 ^ 63 - 1) hjp
    omega
  · rw [str_len]
    unfold Builtin.Str.tooLong
    simp only [decide_eq_false_iff_not]
    rw [sizeLine_eq]; omega
  · have e0 : (⟨(List.replicate j.toNat a.toArray).foldl (fun x y => x ++ y) #[]⟩ : Str) = ⟨(repL a j.toNat).toArray⟩ := by
      rw [foldl_cat]; simp
    by_cases h1 : j < 1
    · rw [if_pos h1]
      have : j.toNat = 0 := by omega
      rw [this] at q
      exact ⟨by decide, V.str Str.empty, H, I.tok _, ⟨_, rfl⟩, q⟩
    · rw [if_neg h1]
      by_cases h2 : (j == 1 || (⟨a.toArray⟩ : Str).length == 0) = true
      · rw [if_pos h2]
        refine ⟨V.str ⟨a.toArray⟩, H, I, ⟨_, rfl⟩, ?_⟩
        rw [Bool.or_eq_true] at h2
        rcases h2 with h2 | h2
        · have : j = 1 := by simpa using h2
          subst this
          simpa [repL] using q
        · have : a = [] := by rw [str_len] at h2; simpa using h2
          subst this
          have : ∀ n, repL ([] : List Nat) n = [] := fun n => by induction n with | zero => rfl | succ n ih => simp [repL, ih]
          rw [this] at q; exact q
      · rw [if_neg h2]
        show Made.post (.str _) _ _
        rw [e0]
        exact ⟨by rw [str_len, repL_length, sizeLine_eq]; exact hz, V.str _, H, I.tok _, ⟨_, rfl⟩, q⟩

theorem okS.rep {a : List Nat} (ha : okS a) {n : Nat} (h : lenOk (a.length * n) = true) : okS (repL a n) := by
  refine ⟨by rw [repL_length]; simpa [lenOk] using h, fun c hc => ?_⟩
  rw [repL_flat] at hc
  obtain ⟨l, h1, h2⟩ := List.mem_flatten.mp hc
  rw [List.eq_of_mem_replicate h1] at h2
  exact ha.2 c h2
theorem or_add (hK : G.K = X.K) : OpR X (binaryOp .Add) (rBin G .add) := by
  intro pins s σ H x y v u Q I rx ry ⟨W, dx, dy, d, wt, hx, hy, e, k⟩
  cases dx <;> cases dy <;> simp only [binD] at e <;> first | (cases e; done) | skip
  · cases e
    obtain rfl := top_int hx
    obtain rfl := top_bl hy
    rename_i i b
    refine op_add_ib pins s σ H _ _ v u Q I rx ry ⟨_, _, rfl, rfl, ?_⟩
    refine k _ H (Ext.refl H) (NewR.plain rfl ?_)
    simp only [Rep]; rfl
  · cases e
    obtain rfl := top_int hx
    obtain rfl := top_int hy
    exact op_add pins s σ H _ _ v u Q I rx ry ⟨_, _, rfl, rfl, k _ H (Ext.refl H) (NewR.plain rfl (by simp only [Rep]))⟩
  · rename_i a b
    obtain ⟨rfl, oa⟩ := top_str hx
    obtain ⟨rfl, ob⟩ := top_str hy
    split at e
    · rename_i hz
      cases e
      refine op_add_str pins s σ H _ _ v u Q I rx ry ⟨_, _, rfl, rfl, by rw [str_len, str_len]; exact lenOk_le hz, ?_⟩
      rw [cps_append]
      exact k _ H (Ext.refl H) (NewR.plain rfl (Rep.str (oa.append ob hz)))
    · cases e
  · rename_i a b
    obtain ⟨p, xs, rfl, ta, ra⟩ := top_tup hx
    obtain ⟨q, ys, rfl, tb, rb⟩ := top_tup hy
    split at e
    · rename_i hz
      cases e
      have hz := lenOk_le hz
      rw [ra.length, rb.length] at hz
      refine op_catA pins s σ H _ _ v u Q I rx ry ⟨p, q, xs, ys, rfl, rfl, hK ▸ ta.sq, hK ▸ tb.sq, hz, fun h => ?_, fun _ h => ?_, fun _ _ r hr => k _ _ (Ext.new hr) (NewR.tup hr wt (ra.append rb))⟩
      · subst h
        have : a = [] := List.eq_nil_of_length_eq_zero ra.length
        subst this
        exact k _ H (Ext.refl H) (NewR.plain rfl (by simp only [Rep]; exact ⟨q, ys, rfl, tb, rb⟩))
      · subst h
        have : b = [] := List.eq_nil_of_length_eq_zero rb.length
        subst this
        exact k _ H (Ext.refl H) (NewR.plain rfl (by rw [List.append_nil]; simp only [Rep]; exact ⟨p, xs, rfl, ta, ra⟩))
    · cases e
  · rename_i a b
    obtain ⟨p, xs, rfl, ta, ra⟩ := top_lst hx
    obtain ⟨q, ys, rfl, tb, rb⟩ := top_lst hy
    split at e
    · rename_i hz
      cases e
      have hz := lenOk_le hz
      rw [ra.length, rb.length] at hz
      exact op_cat pins s σ H _ _ v u Q I rx ry ⟨p, q, xs, ys, rfl, rfl, ta, tb, hz, fun r hr => k _ _ (Ext.new hr) (NewR.lst hr (ra.append rb))⟩
    · cases e
theorem or_sub : OpR X (binaryOp .Sub) (rBin G .sub) := by
  intro pins s σ H x y v u Q I rx ry ⟨W, dx, dy, d, wt, hx, hy, e, k⟩
  cases dx <;> cases dy <;> simp only [binD] at e <;> first | (cases e; done) | skip
  cases e
  obtain rfl := top_int hx
  obtain rfl := top_int hy
  exact op_sub pins s σ H _ _ v u Q I rx ry ⟨_, _, rfl, rfl, k _ H (Ext.refl H) (NewR.plain rfl (by simp only [Rep]))⟩
theorem or_mod : OpR X (binaryOp .Mod) (rBin G .mod) := by
  intro pins s σ H x y v u Q I rx ry ⟨W, dx, dy, d, wt, hx, hy, e, k⟩
  cases dx <;> cases dy <;> simp only [binD] at e <;> first | (cases e; done) | skip
  obtain rfl := top_int hx
  obtain rfl := top_int hy
  split at e
  · cases e
  · rename_i hz
    cases e
    exact op_modN pins s σ H _ _ v u Q I rx ry ⟨_, _, rfl, rfl, by simpa using hz, k _ H (Ext.refl H) (NewR.plain rfl (by simp only [Rep]))⟩
theorem or_fdiv : OpR X (binaryOp .FloorDiv) (rBin G .fdiv) := by
  intro pins s σ H x y v u Q I rx ry ⟨W, dx, dy, d, wt, hx, hy, e, k⟩
  cases dx <;> cases dy <;> simp only [binD] at e <;> first | (cases e; done) | skip
  obtain rfl := top_int hx
  obtain rfl := top_int hy
  split at e
  · rename_i i j hz
    cases e
    have q := k _ H (Ext.refl H) (NewR.plain (v := .int (i.fdiv j)) rfl (by simp only [Rep]))
    simp only [divOk, Bool.and_eq_true, Bool.or_eq_true, Nat.blt_eq, decide_eq_true_eq, Bool.not_eq_true', beq_eq_false_iff_ne] at hz
    obtain ⟨h0, h1 | ⟨h1, h2⟩⟩ := hz
    · exact op_fdivN pins s σ H _ _ v u Q I rx ry ⟨_, _, rfl, rfl, ⟨h0, h1⟩, q⟩
    · exact op_fdivW pins s σ H _ _ v u Q I rx ry ⟨_, _, rfl, rfl, ⟨h1, by omega⟩, by rw [Int.fdiv_eq_ediv_of_nonneg _ (by omega)] at q; exact q⟩
  · cases e
theorem or_pow : OpR X (binaryOp .Pow) (rBin G .pow) := by
  intro pins s σ H x y v u Q I rx ry ⟨W, dx, dy, d, wt, hx, hy, e, k⟩
  cases dx <;> cases dy <;> simp only [binD] at e <;> first | (cases e; done) | skip
  obtain rfl := top_int hx
  obtain rfl := top_int hy
  split at e
  · rename_i hz
    cases e
    exact op_pow pins s σ H _ _ v u Q I rx ry ⟨_, _, rfl, rfl, powOk_ok hz, k _ H (Ext.refl H) (NewR.plain rfl (by simp only [Rep]))⟩
  · cases e
theorem or_mul (hK : G.K = X.K) : OpR X (binaryOp .Mult) (rBin G .mul) := by
  intro pins s σ H x y v u Q I rx ry ⟨W, dx, dy, d, wt, hx, hy, e, k⟩
  cases dx <;> cases dy <;> simp only [binD] at e <;> first | (cases e; done) | skip
  · obtain rfl := top_int hx
    obtain rfl := top_int hy
    split at e
    · rename_i i j hz
      cases e
      have q := k _ H (Ext.refl H) (NewR.plain (v := .int (i * j)) rfl (by simp only [Rep]))
      rcases mulOk_ok hz with h | h
      · exact op_mul pins s σ H _ _ v u Q I rx ry ⟨_, _, rfl, rfl, h, q⟩
      · exact op_mulW pins s σ H _ _ v u Q I rx ry ⟨_, _, rfl, rfl, h, q⟩
    · cases e
  · rename_i a j
    obtain ⟨rfl, oa⟩ := top_str hx
    obtain rfl := top_int hy
    split at e
    · rename_i hz
      cases e
      simp only [Bool.and_eq_true] at hz
      exact op_mulS pins s σ H _ _ v u Q I rx ry ⟨_, _, rfl, rfl, hz.1, hz.2, k _ H (Ext.refl H) (NewR.plain rfl (Rep.str (oa.rep hz.2)))⟩
    · cases e
  · rename_i a j
    obtain ⟨p, xs, rfl, ta, ra⟩ := top_tup hx
    obtain rfl := top_int hy
    split at e
    · rename_i hz
      cases e
      simp only [Bool.and_eq_true, decide_eq_true_eq, Nat.ble_eq, Bool.not_eq_true'] at hz
      obtain ⟨⟨⟨h1, h2⟩, h3⟩, h4⟩ := hz
      refine op_repT pins s σ H _ _ v u Q I rx ry ⟨p, j, xs, rfl, rfl, hK ▸ ta.sq, fun h => ?_, h2, h3, by rw [← ra.length]; exact h4, fun r hr => k _ _ (Ext.new hr) (NewR.tup hr wt (ra.rep j.toNat))⟩
      subst h
      have : a = [] := List.eq_nil_of_length_eq_zero ra.length
      subst this
      exact absurd h1 (by simp)
    · cases e
  · rename_i a j
    obtain ⟨p, xs, rfl, ta, ra⟩ := top_lst hx
    obtain rfl := top_int hy
    split at e
    · rename_i hz
      cases e
      simp only [Bool.and_eq_true] at hz
      have h2 := lenOk_le hz.2
      rw [ra.length] at h2
      have h1 := hz.1
      simp only [smallI_iff, Bool.and_eq_true, decide_eq_true_eq] at h1
      exact op_rep pins s σ H _ _ v u Q I rx ry ⟨p, j, xs, rfl, rfl, ta, by omega, by omega, h2, fun r hr => k _ _ (Ext.new hr) (NewR.lst hr (ra.rep j.toNat))⟩
    · cases e

/-! ### comparisons -/
theorem Rep.bl' {W : Addr → Prop} {H : Hp} {b : Bool} : Rep G W H (.bl b) (.bl b) := by simp only [Rep]
theorem oc_eq (hK : G.K = X.K) (hu : X.A.units + 64 < cLine) : OpR X (compareOp .Eq) (rCmp G .eq) := by
  intro pins s σ H x y v u Q I rx ry ⟨W, dx, dy, k, hx, hy, e, q⟩
  simp only [cmpD] at e
  split at e
  · rename_i hp
    cases e
    simp only [Bool.and_eq_true] at hp
    refine op_eqD hu pins s σ H x y v u Q I rx ry ⟨toP dx, toP dy, hK ▸ top_dp hp.1 hx, hK ▸ top_dp hp.2 hy, plain_shaped (by decide) hp.1 (top_okD hp.1 hx), plain_shaped (by decide) hp.2 (top_okD hp.2 hy), ?_⟩
    rw [eqv_eqD 40 40 _ _ hp.1 hp.2]
    exact q H (Ext.refl H)
  · cases e
theorem oc_ne (hK : G.K = X.K) (hu : X.A.units + 64 < cLine) : OpR X (compareOp .NotEq) (rCmp G .ne) := by
  intro pins s σ H x y v u Q I rx ry ⟨W, dx, dy, k, hx, hy, e, q⟩
  simp only [cmpD] at e
  split at e
  · rename_i hp
    cases e
    simp only [Bool.and_eq_true] at hp
    refine op_neD hu pins s σ H x y v u Q I rx ry ⟨toP dx, toP dy, hK ▸ top_dp hp.1 hx, hK ▸ top_dp hp.2 hy, plain_shaped (by decide) hp.1 (top_okD hp.1 hx), plain_shaped (by decide) hp.2 (top_okD hp.2 hy), ?_⟩
    rw [eqv_eqD 40 40 _ _ hp.1 hp.2]
    exact q H (Ext.refl H)
  · cases e
theorem ltS_lt : ∀ (a b : List Nat), ltS a b = decide (a < b)
  | [], [] => by simp [ltS]
  | [], b :: l => by simp [ltS]
  | a :: l, [] => by simp [ltS]
  | a :: l, b :: m => by
    simp only [ltS]
    have e : decide (a :: l < b :: m) = decide (a < b ∨ a = b ∧ l < m) := by
      simp only [List.cons_lt_cons_iff]
    rw [e]
    by_cases h : a = b
    · subst h
      simp [ltS_lt l m]
    · rw [if_neg (by simpa using h)]
      by_cases h2 : a < b
      · simp [h, h2, Nat.blt_eq]
      · have : Nat.blt a b = false := by rw [Bool.eq_false_iff]; simpa [Nat.blt_eq] using h2
        simp [h, h2, this]
theorem oc_ord {op : CmpOp} {o : Cm} {fi : Int → Int → Bool} {fs : List Nat → List Nat → Bool} (hi : OpR X (compareOp op) (rI0 fun i j => .bl (fi i j))) (hs : OpR X (compareOp op) fun x y H Q => ∃ i j, x = .str i ∧ y = .str j ∧ Q (.bl (fs i.cps.toList j.cps.toList)) H)
    (e1 : ∀ i j k, cmpD o (.int i) (.int j) = some k → k = fi i j) (e2 : ∀ i j k, cmpD o (.str i) (.str j) = some k → k = fs i j) (e3 : ∀ a b k, cmpD o a b = some k → (∃ i j, a = .int i ∧ b = .int j) ∨ ∃ i j, a = .str i ∧ b = .str j) : OpR X (compareOp op) (rCmp G o) := by
  intro pins s σ H x y v u Q I rx ry ⟨W, dx, dy, k, hx, hy, e, q⟩
  rcases e3 _ _ _ e with ⟨i, j, rfl, rfl⟩ | ⟨i, j, rfl, rfl⟩
  · obtain rfl := top_int hx
    obtain rfl := top_int hy
    obtain rfl := e1 _ _ _ e
    exact hi pins s σ H _ _ v u Q I rx ry ⟨_, _, rfl, rfl, q H (Ext.refl H)⟩
  · obtain ⟨rfl, _⟩ := top_str hx
    obtain ⟨rfl, _⟩ := top_str hy
    obtain rfl := e2 _ _ _ e
    exact hs pins s σ H _ _ v u Q I rx ry ⟨_, _, rfl, rfl, by simpa using q H (Ext.refl H)⟩
theorem ltD_cases {a b : D} {k : Bool} (h : ltD a b = some k) : (∃ i j, a = .int i ∧ b = .int j ∧ k = decide (i < j)) ∨ ∃ i j, a = .str i ∧ b = .str j ∧ k = decide (i < j) := by
  cases a <;> cases b <;> simp only [ltD] at h <;> first | (cases h; done) | skip
  · cases h; exact .inl ⟨_, _, rfl, rfl, rfl⟩
  · cases h; exact .inr ⟨_, _, rfl, rfl, ltS_lt _ _⟩
theorem not_lt_le (a b : List Nat) : (!decide (a < b)) = decide (b ≤ a) := by
  by_cases h : a < b
  · rw [decide_eq_true h, decide_eq_false (List.not_le.mpr h)]; rfl
  · rw [decide_eq_false h, decide_eq_true (List.not_lt.mp h)]; rfl
theorem oc_lt : OpR X (compareOp .Lt) (rCmp G .lt) := oc_ord op_lt op_lt_str (fun i j k e => by simp only [cmpD, ltD] at e; exact (Option.some.inj e).symm) (fun i j k e => by simp only [cmpD, ltD, ltS_lt] at e; exact (Option.some.inj e).symm)
  fun a b k e => by
    simp only [cmpD] at e
    rcases ltD_cases e with ⟨i, j, h1, h2, _⟩ | ⟨i, j, h1, h2, _⟩
    · exact .inl ⟨i, j, h1, h2⟩
    · exact .inr ⟨i, j, h1, h2⟩
theorem oc_gt : OpR X (compareOp .Gt) (rCmp G .gt) := oc_ord op_gt op_gt_str (fun i j k e => by simp only [cmpD, ltD] at e; exact (Option.some.inj e).symm) (fun i j k e => by simp only [cmpD, ltD, ltS_lt] at e; exact (Option.some.inj e).symm)
  fun a b k e => by
    simp only [cmpD] at e
    rcases ltD_cases e with ⟨i, j, h1, h2, _⟩ | ⟨i, j, h1, h2, _⟩
    · exact .inl ⟨j, i, h2, h1⟩
    · exact .inr ⟨j, i, h2, h1⟩
theorem oc_le : OpR X (compareOp .LtE) (rCmp G .le) := oc_ord (fs := fun i j => !decide (j < i)) op_le op_le_str (fun i j k e => by simp only [cmpD, ltD, Option.map_some] at e; rw [← Option.some.inj e]; by_cases h : j < i <;> simp [h] <;> omega) (fun i j k e => by simp only [cmpD, ltD, ltS_lt, Option.map_some] at e; exact (Option.some.inj e).symm)
  fun a b k e => by
    simp only [cmpD] at e
    cases q : ltD b a with
    | none => rw [q] at e; cases e
    | some r =>
      rcases ltD_cases q with ⟨i, j, h1, h2, _⟩ | ⟨i, j, h1, h2, _⟩
      · exact .inl ⟨j, i, h2, h1⟩
      · exact .inr ⟨j, i, h2, h1⟩
theorem oc_ge : OpR X (compareOp .GtE) (rCmp G .ge) := oc_ord (fs := fun i j => !decide (i < j)) op_ge op_ge_str (fun i j k e => by simp only [cmpD, ltD, Option.map_some] at e; rw [← Option.some.inj e]; by_cases h : i < j <;> simp [h] <;> omega) (fun i j k e => by simp only [cmpD, ltD, ltS_lt, Option.map_some] at e; exact (Option.some.inj e).symm)
  fun a b k e => by
    simp only [cmpD] at e
    cases q : ltD a b with
    | none => rw [q] at e; cases e
    | some r =>
      rcases ltD_cases q with ⟨i, j, h1, h2, _⟩ | ⟨i, j, h1, h2, _⟩
      · exact .inl ⟨i, j, h1, h2⟩
      · exact .inr ⟨i, j, h1, h2⟩
/-! ### in -/
theorem isPre_take : ∀ (x l : List Nat), isPre x l = (l.take x.length == x)
  | [], l => by simp [isPre]
  | a :: x, [] => by simp [isPre]
  | a :: x, b :: l => by
    simp only [isPre, List.length_cons, List.take_succ_cons]
    rw [isPre_take x l]
    by_cases h : a = b
    · subst h; simp
    · have h1 : (a == b) = false := by simpa using h
      have h2 : (b == a) = false := by simpa using fun z => h z.symm
      simp [h1, h2]
theorem findS_some {x : List Nat} : ∀ {l : List Nat} {k n : Nat}, findS x l k = some n → k ≤ n ∧ isPre x (l.drop (n - k)) = true ∧ n - k ≤ l.length ∧ ∀ m, k ≤ m → m < n → isPre x (l.drop (m - k)) = false
  | [], k, n, h => by
    simp only [findS] at h
    split at h
    · rename_i hx
      cases h
      have : x = [] := by simpa using hx
      subst this
      exact ⟨Nat.le_refl _, by simp [isPre], by simp, fun m h1 h2 => by omega⟩
    · cases h
  | c :: l, k, n, h => by
    simp only [findS] at h
    split at h
    · rename_i hx
      cases h
      exact ⟨Nat.le_refl _, by simpa using hx, by simp, fun m h1 h2 => by omega⟩
    · rename_i hx
      obtain ⟨h1, h2, h3, h4⟩ := findS_some h
      have e : n - k = (n - (k + 1)) + 1 := by omega
      refine ⟨by omega, by rw [e]; simpa using h2, by rw [e, List.length_cons]; omega, fun m a b => ?_⟩
      by_cases z : m = k
      · subst z; simpa using hx
      · have e2 : m - k = (m - (k + 1)) + 1 := by omega
        rw [e2]
        simpa using h4 m (by omega) b
theorem findS_none {x : List Nat} : ∀ {l : List Nat} {k : Nat}, findS x l k = none → ∀ m, m ≤ l.length → isPre x (l.drop m) = false
  | [], k, h, m, hm => by
    simp only [findS] at h
    split at h
    · cases h
    · rename_i hx
      have : m = 0 := by simpa using hm
      subst this
      cases x with
      | nil => simp at hx
      | cons a x => rfl
  | c :: l, k, h, m, hm => by
    simp only [findS] at h
    split at h
    · cases h
    · rename_i hx
      cases m with
      | zero => simpa using hx
      | succ m => simpa using findS_none h m (by simpa using hm)
theorem subAt_pre (x s : List Nat) (i : Nat) : Builtin.Str.subAt ⟨s.toArray⟩ ⟨x.toArray⟩ i = ((s.drop i).take x.length == x) := by
  unfold Builtin.Str.subAt
  rw [str_len]
  have e : s.toArray.extract i (i + x.length) = ((s.drop i).take x.length).toArray := by
    simp [List.extract_toArray]
  rw [e]
  simp
theorem occ_sub (x s : List Nat) : (!(Builtin.Str.occurrences ⟨s.toArray⟩ ⟨x.toArray⟩ 0 (⟨s.toArray⟩ : Str).length 1).isEmpty) = subS x s := by
  rw [Bool.eq_iff_iff]
  rw [StrLaws.found_iff]
  unfold subS
  rw [str_len, str_len]
  constructor
  · rintro ⟨i, h1, h2⟩
    rw [subAt_pre] at h2
    cases q : findS x s 0 with
    | some n => rfl
    | none =>
      have := findS_none q i (by omega)
      rw [isPre_take, h2] at this
      cases this
  · intro h
    cases q : findS x s 0 with
    | none => rw [q] at h; cases h
    | some n =>
      obtain ⟨_, h2, h3, _⟩ := findS_some q
      rw [Nat.sub_zero, isPre_take] at h2
      refine ⟨n, ?_, by rw [subAt_pre]; exact h2⟩
      have e := congrArg List.length (eq_of_beq h2)
      rw [List.length_take, List.length_drop] at e
      omega
theorem any_mem (x : D) (hx : plain x = true) : ∀ (l : List D), l.all plain = true → ((toP.toPs l).any fun z => PyData.eqv z (toP x)) = memD x l
  | [], _ => rfl
  | d :: l, h => by
    simp only [List.all_cons, Bool.and_eq_true] at h
    simp only [toP.toPs, List.any_cons, memD]
    rw [eqv_eqD 40 40 _ _ h.1 hx, any_mem x hx l h.2]
theorem plainL_shaped {l : List D} (hp : l.all plain = true) (ho : okD.okDs l) : SeqAt.shaped (.list (toP.toPs l)) = true := plain_shaped (n := 41) (d := .lst l) (by decide) hp ho
theorem plainT_shaped {l : List D} (hp : l.all plain = true) (ho : okD.okDs l) : SeqAt.shaped (.tuple (toP.toPs l)) = true := plain_shaped (n := 41) (d := .tup l) (by decide) hp ho
theorem oc_in (neg : Bool) (hK : G.K = X.K) (hu : X.A.units + 65 < cLine) : OpR X (compareOp (if neg then .NotIn else .In)) (rCmp G (if neg then .notin else .isin)) := by
  intro pins s σ H x y v u Q I rx ry ⟨W, dx, dy, k, hx, hy, e, q⟩
  have e0 : ∃ b, inD dx dy = some b ∧ k = (if neg then !b else b) := by
    cases neg
    · simp only [Bool.false_eq_true, if_false, cmpD] at e ⊢; exact ⟨k, e, rfl⟩
    · simp only [if_true, cmpD] at e ⊢
      cases z : inD dx dy with
      | none => rw [z] at e; cases e
      | some b => rw [z] at e; exact ⟨b, rfl, (Option.some.inj e).symm⟩
  clear e
  obtain ⟨b, e, rfl⟩ := e0
  have q := q H (Ext.refl H)
  cases dy <;> simp only [Py.inD] at e <;> first | (cases e; done) | skip
  · cases dx <;> first | (cases e; done) | skip
    cases e
    obtain ⟨rfl, _⟩ := top_str hx
    obtain ⟨rfl, _⟩ := top_str hy
    cases neg
    · exact op_in_str pins s σ H _ _ v u Q I rx ry ⟨_, _, rfl, rfl, by rw [occ_sub]; exact q⟩
    · exact op_notIn_str pins s σ H _ _ v u Q I rx ry ⟨_, _, rfl, rfl, by rw [occ_sub]; exact q⟩
  · split at e
    · rename_i l hp
      cases e
      simp only [Bool.and_eq_true] at hp
      obtain ⟨p, xs, rfl, tb, rb⟩ := top_tup hy
      have hd2 : DpAll X.K H xs (toP.toPs l) := hK ▸ dp_all 40 l xs hp.2 rb
      obtain ⟨as, r1⟩ := Dp.reads I (toP dx) x v (hK ▸ top_dp hp.1 hx) rx
      obtain ⟨bs, r2⟩ := Dp.reads I (.tuple (toP.toPs l)) _ u (.tup (hK ▸ tb.sq) hd2) ry
      have sd := plain_shaped (n := 40) (by decide) hp.1 (top_okD hp.1 hx)
      have se := plainT_shaped hp.2 (okDs_all 40 l xs hp.2 rb)
      cases neg
      · refine SeqAt.in_tuple_reads r2 r1 (SeqAt.canLay_of_shaped se) (SeqAt.canLay_of_shaped sd) (room_in_shaped sd hu) ⟨.bl _, H, I, rfl, ?_⟩
        rw [any_mem dx hp.1 l hp.2]; exact q
      · refine SeqAt.notIn_tuple_reads r2 r1 (SeqAt.canLay_of_shaped se) (SeqAt.canLay_of_shaped sd) (room_in_shaped sd hu) ⟨.bl _, H, I, rfl, ?_⟩
        rw [any_mem dx hp.1 l hp.2]; exact q
    · cases e
  · split at e
    · rename_i l hp
      cases e
      simp only [Bool.and_eq_true] at hp
      obtain ⟨p, xs, rfl, tb, rb⟩ := top_lst hy
      have hd2 : DpAll X.K H xs (toP.toPs l) := hK ▸ dp_all 40 l xs hp.2 rb
      have sd := plain_shaped (n := 40) (by decide) hp.1 (top_okD hp.1 hx)
      have se := plainL_shaped hp.2 (okDs_all 40 l xs hp.2 rb)
      cases neg
      · exact op_inD hu pins s σ H _ _ v u Q I rx ry ⟨toP dx, toP.toPs l, hK ▸ top_dp hp.1 hx, .lst (SqL.of tb) hd2, sd, se, by rw [any_mem dx hp.1 l hp.2]; exact q⟩
      · exact op_notInD hu pins s σ H _ _ v u Q I rx ry ⟨toP dx, toP.toPs l, hK ▸ top_dp hp.1 hx, .lst (SqL.of tb) hd2, sd, se, by rw [any_mem dx hp.1 l hp.2]; exact q⟩
    · cases e
  all_goals (exact absurd hy (by simp [TopR, Rep]))
end
end Py

namespace Py
open PySem PySem.Spec PyProof.Rows L2
section
variable {X : Cx} {G : Kx}
theorem top_non {W : Addr → Prop} {H : Hp} {v : V} (h : TopR G W H .non v) : v = .non := by simpa only [TopR, Rep] using h
theorem not_non {W : Addr → Prop} {H : Hp} {d : D} {v : V} (h : TopR G W H d v) (hd : d ≠ .non) : decide (v = .non) = false := by
  apply decide_eq_false
  rintro rfl
  cases d <;> simp only [TopR, Rep] at h <;> first | exact hd rfl | (cases h; done) | (obtain ⟨h, _⟩ := h; cases h; done) | (obtain ⟨_, _, h, _⟩ := h; cases h; done) | (obtain ⟨_, _, h⟩ := h; cases h; done)
theorem isD_cases {a b : D} {k : Bool} (h : isD a b = some k) : (b = .non ∧ ((a = .non ∧ k = true) ∨ (a ≠ .non ∧ k = false))) ∨ ∃ i j, a = .bl i ∧ b = .bl j ∧ k = decide (i = j) := by
  cases a <;> cases b <;> simp only [isD, Option.some.injEq, reduceCtorEq] at h <;> first
    | (exact h.elim)
    | (exact .inl ⟨rfl, .inl ⟨rfl, h.symm⟩⟩)
    | (exact .inl ⟨rfl, .inr ⟨(by intro z; cases z), h.symm⟩⟩)
    | (refine .inr ⟨_, _, rfl, rfl, ?_⟩; rw [← h]; rename_i i j; cases i <;> cases j <;> rfl)
theorem oc_is : OpR X (compareOp .Is) (rCmp G .is_) := by
  intro pins s σ H x y v u Q I rx ry ⟨W, dx, dy, k, hx, hy, e, q⟩
  simp only [cmpD] at e
  have q := q H (Ext.refl H)
  rcases isD_cases e with ⟨rfl, h⟩ | ⟨i, j, rfl, rfl, rfl⟩
  · obtain rfl := top_non hy
    refine op_isN pins s σ H _ _ v u Q I rx ry ⟨rfl, ?_⟩
    rcases h with ⟨rfl, rfl⟩ | ⟨h, rfl⟩
    · obtain rfl := top_non hx; exact q
    · rw [not_non hx h]; exact q
  · obtain rfl := top_bl hx
    obtain rfl := top_bl hy
    exact op_isBl pins s σ H _ _ v u Q I rx ry ⟨_, _, rfl, rfl, q⟩
theorem oc_isnot : OpR X (compareOp .IsNot) (rCmp G .isnot) := by
  intro pins s σ H x y v u Q I rx ry ⟨W, dx, dy, k, hx, hy, e, q⟩
  simp only [cmpD] at e
  have q := q H (Ext.refl H)
  cases z : isD dx dy with
  | none => rw [z] at e; cases e
  | some r =>
    rw [z] at e
    have e := Option.some.inj e
    subst e
    rcases isD_cases z with ⟨rfl, h⟩ | ⟨i, j, rfl, rfl, rfl⟩
    · obtain rfl := top_non hy
      refine op_notN pins s σ H _ _ v u Q I rx ry ⟨rfl, ?_⟩
      rcases h with ⟨rfl, rfl⟩ | ⟨h, rfl⟩
      · obtain rfl := top_non hx; exact q
      · rw [not_non hx h]; exact q
    · obtain rfl := top_bl hx
      obtain rfl := top_bl hy
      exact op_notBl pins s σ H _ _ v u Q I rx ry ⟨_, _, rfl, rfl, q⟩
/-! ### items and slices -/
theorem atD_get {α : Type} {l : List α} {i : Int} {d : α} (h : atD l i = some d) : ∃ n, ixN l.length i = some n ∧ l[n]? = some d := by
  unfold atD at h
  split at h
  · rename_i j e; exact ⟨j, by rw [← ixD_ixN]; exact e, h⟩
  · cases h
theorem atI_of {W : Addr → Prop} {H : Hp} {l : List D} {xs : List V} {i : Int} {d : D} (r : Reps G W H l xs) (h : atD l i = some d) : ∃ v, atI xs i = some v ∧ Rep G W H d v := by
  obtain ⟨n, e1, e2⟩ := atD_get h
  obtain ⟨v, e3, rv⟩ := r.get e2
  exact ⟨v, by unfold atI; rw [← r.length, e1]; exact e3, rv⟩
theorem ix_all (hK : G.K = X.K) : IxR X (rIdx G) := by
  intro ve se pins s σ H x y v u Q I rx ry ⟨W, dx, dy, d, hx, hy, e, q⟩ hs
  cases dx <;> simp only [idxV] at e <;> first | (cases e; done) | skip
  · rename_i a
    cases dy <;> first | (cases e; done) | skip
    rename_i i
    obtain ⟨rfl, oa⟩ := top_str hx
    obtain rfl := top_int hy
    replace e : (atD a i).map (fun c => D.str [c]) = some d := e
    cases z : atD a i with
    | none => rw [z] at e; cases e
    | some c =>
      rw [z] at e
      have e := Option.some.inj e
      subst e
      obtain ⟨n, e1, e2⟩ := atD_get z
      refine ix_str ve se pins s σ H _ _ v u Q I rx ry ⟨_, i, c, rfl, rfl, by rw [str_len, ← szLine]; exact oa.1, ?_, q _ ?_⟩ hs
      · unfold atI
        show (ixN a.length i).bind _ = _
        rw [e1]; simpa using e2
      · have := Rep.str (G := G) (W := W) (H := H) (s := [c]) ⟨by simp [sz], fun x hx => by simp at hx; subst hx; exact oa.2 _ (List.mem_of_getElem? e2)⟩
        exact this
  · cases dy <;> first | (cases e; done) | skip
    obtain ⟨p, xs, rfl, ta, ra⟩ := top_tup hx
    obtain rfl := top_int hy
    obtain ⟨w, e1, rw'⟩ := atI_of ra e
    exact ix_tup ve se pins s σ H _ _ v u Q I rx ry ⟨p, xs, _, w, rfl, rfl, hK ▸ ta.sq, e1, q w rw'⟩ hs
  · cases dy <;> first | (cases e; done) | skip
    obtain ⟨p, xs, rfl, ta, ra⟩ := top_lst hx
    obtain rfl := top_int hy
    obtain ⟨w, e1, rw'⟩ := atI_of ra e
    exact ix_list ve se pins s σ H _ _ v u Q I rx ry ⟨p, xs, _, w, rfl, rfl, SqL.of ta, e1, q w rw'⟩ hs
  · exact absurd hx (by simp [TopR, Rep])
theorem cut_eq {α : Type} (l : List α) (lo hi : Option Int) : cut l lo hi = (l.drop (HT.sIx l.length 0 lo)).take (HT.sIx l.length l.length hi - HT.sIx l.length 0 lo) := by
  unfold cut HT.sIx clampI
  cases lo <;> cases hi <;> rfl
theorem cut_len {α : Type} (l : List α) (lo hi : Option Int) : (cut l lo hi).length ≤ l.length := by
  rw [cut_eq, List.length_take, List.length_drop]; omega
theorem okS.cut {a : List Nat} (h : okS a) (lo hi : Option Int) : okS (cut a lo hi) := by
  refine ⟨Nat.le_trans (cut_len a lo hi) h.1, fun c hc => h.2 c ?_⟩
  rw [cut_eq] at hc
  exact List.mem_of_mem_drop (List.mem_of_mem_take hc)
theorem Reps.cut {W : Addr → Prop} {H : Hp} {l : List D} {xs : List V} (r : Reps G W H l xs) (lo hi : Option Int) : Reps G W H (cut l lo hi) (cutV xs lo hi) := by
  rw [cut_eq]
  unfold cutV
  rw [← r.length]
  exact (r.drop _).take _
theorem sl_all (hK : G.K = X.K) : SlR X (rSlc G) := by
  intro pins s σ H x v vl vu lo hi sl Q I rx hs pl pu ⟨W, dx, d, wt, hx, e, q⟩
  cases dx <;> simp only [slcV] at e <;> first | (cases e; done) | skip
  · rename_i a
    cases e
    obtain ⟨rfl, oa⟩ := top_str hx
    refine sl_str pins s σ H _ v vl vu lo hi sl Q I rx hs pl pu ⟨_, rfl, by rw [str_len, ← szLine]; exact oa.1, ?_⟩
    have := q _ H (Ext.refl H) (NewR.plain rfl (Rep.str (oa.cut lo hi)))
    unfold cutS
    rw [cut_eq] at this
    simpa [str_len] using this
  · rename_i l
    cases e
    obtain ⟨p, xs, rfl, ta, ra⟩ := top_tup hx
    refine sl_tupA pins s σ H _ v vl vu lo hi sl Q I rx hs pl pu ⟨p, xs, rfl, hK ▸ ta.sq, fun h => ?_, fun _ r hr => q _ _ (Ext.new hr) (NewR.tup hr wt (ra.cut lo hi))⟩
    refine q _ H (Ext.refl H) (NewR.plain rfl ?_)
    have e : cut l lo hi = l := by
      rw [cut_eq, ra.length, h.1, h.2, ← ra.length]; simp
    rw [e]
    simp only [Rep]
    exact ⟨p, xs, rfl, ta, ra⟩
  · rename_i l
    cases e
    obtain ⟨p, xs, rfl, ta, ra⟩ := top_lst hx
    exact sl_list pins s σ H _ v vl vu lo hi sl Q I rx hs pl pu ⟨p, xs, rfl, SqL.of ta, fun r hr => q _ _ (Ext.new hr) (NewR.lst hr (ra.cut lo hi))⟩

/-! ### [::-1] -/
theorem fm_congr {α β : Type} {f g : α → Option β} : ∀ (l : List α), (∀ x, x ∈ l → f x = g x) → l.filterMap f = l.filterMap g
  | [], _ => rfl
  | a :: l, h => by
    have ih := fm_congr l fun x hx => h x (List.mem_cons_of_mem _ hx)
    have ha := h a List.mem_cons_self
    simp only [List.filterMap_cons, ha, ih]
theorem rev_pick {α : Type} (xs : Array α) : ((List.range xs.size).filterMap fun (m : Nat) => xs[((xs.size : Int) - 1 + (m : Int) * (-1)).toNat]?) = xs.toList.reverse := by
  have h : ∀ m, m < xs.size → ((xs.size : Int) - 1 + (m : Int) * (-1)).toNat = xs.size - 1 - m := fun m hm => by omega
  have e : ((List.range xs.size).filterMap fun (m : Nat) => xs[((xs.size : Int) - 1 + (m : Int) * (-1)).toNat]?) = (List.range xs.size).filterMap fun m => xs.toList.reverse[m]? := by
    apply fm_congr
    intro m hm
    rw [List.mem_range] at hm
    rw [h m hm, List.getElem?_reverse (by simpa using hm)]
    simp
  rw [e]
  have : ∀ (l : List α) (n : Nat), n = l.length → (List.range n).filterMap (fun m => l[m]?) = l := by
    intro l
    induction l with
    | nil => intro n hn; subst hn; simp
    | cons a l ih =>
      intro n hn
      subst hn
      rw [List.length_cons, List.range_succ_eq_map, List.filterMap_cons]
      simp only [List.getElem?_cons_zero, List.filterMap_map]
      congr 1
      have := ih l.length rfl
      simpa [Function.comp_def] using this
  exact this _ _ (by simp)
def tRevS (te : TE) : TE := fun σ H Q => te σ H fun x H1 => ∃ a : List Nat, x = .str ⟨a.toArray⟩ ∧ a.length ≤ sizeLine ∧ Q (.str ⟨a.reverse.toArray⟩) H1
def tRevT (K : PySem.W.Frag) (te : TE) : TE := fun σ H Q => te σ H fun x H1 => ∃ a xs, x = .ref a ∧ SqT K H1 a xs ∧ ∀ p, H1 p = none → Q (.ref p) (upd H1 p (.tup xs.reverse))
theorem sliceApplied_rev {prog : Program} {w : World} {A : Around} {E : Value → Shared → Prop} {s : Shared} {sl : Addr} {vl vu vs : Value} {n : Nat} {Q : Int × Int × Nat → Shared → Prop} (hs : s.heap.IsSliceOf sl vl vu vs) (pl : IsPart vl none) (pu : IsPart vu none) (ps : IsPart vs (some (-1)))
    (h : Q ((n : Int) - 1, -1, n) s) : wpAny (model prog w) A (Builtin.Slice.sliceApplied (.ref sl) (pure (n : Int))) Q E s := by
  obtain ⟨os, hos, hcs, hds⟩ := id hs
  unfold Builtin.Slice.sliceApplied Builtin.Slice.sliceFields
  refine wpAny_bind (wpAny_bind (wpAny_field hos hds (x := vl) rfl (wpAny_bind (wpAny_field hos hds (x := vu) rfl (wpAny_bind (wpAny_field hos hds (x := vs) rfl (wpAny_pure ?_)))))))
  refine wpAny_bind (HT.slicePart_ ps ?_)
  show wpAny _ _ (if ((-1 : Int) == 0) = true then _ else _) _ _ s
  rw [if_neg (by decide)]
  refine wpAny_bind (HT.slicePart_ pl (wpAny_bind (HT.slicePart_ pu (wpAny_bind (wpAny_pure ?_)))))
  show wpAny _ _ (pure ((n : Int) - 1, (-1 : Int), Builtin.Slice.slicePlaces ((n : Int) - 1) (-1) (-1))) _ _ s
  have e : Builtin.Slice.slicePlaces ((n : Int) - 1) (-1) (-1) = n := by
    unfold Builtin.Slice.slicePlaces
    rw [if_neg (by decide)]
    by_cases hn : (n : Int) - 1 > -1
    · rw [if_pos hn]
      have : ((n : Int) - 1 - -1 - 1) / (- -1) + 1 = n := by
        rw [show (- -1 : Int) = 1 from rfl, Int.ediv_one]; omega
      rw [this]; simp
    · rw [if_neg hn]
      simp; omega
  rw [e]
  exact wpAny_pure h
theorem getItem_tuple_rev {prog : Program} {w : World} {A : Around} {E : Value → Shared → Prop} {s : Shared} {t sl : Addr} {items : Array Value} {vl vu vs : Value} {Q : Value → Shared → Prop} (ht : IsTup s.heap t items) (hs : s.heap.IsSliceOf sl vl vu vs) (pl : IsPart vl none) (pu : IsPart vu none) (ps : IsPart vs (some (-1)))
    (h : Q (.ref s.heap.objs.size) { s with heap := s.heap.push { cls := .type "tuple", data := .seq items.toList.reverse.toArray } })
    (hsz : items.size ≤ sizeLine) : wpAny (model prog w) A (getItem (.ref t) (.ref sl)) Q E s := by
  have htake : sizeOk (.seq items.toList.reverse.toArray) := by
    show items.toList.reverse.toArray.size ≤ sizeLine
    simpa using hsz
  obtain ⟨os, hos, hcs, hds⟩ := id hs
  have hTs : s.TypeIs (.ref sl) "slice" := ⟨os, hos, hcs⟩
  unfold getItem
  try with_reducible refine wpAny_holding ?_
  first | refine wpAny_bind (wpAny_pure ?_) | skip
  refine wpAny_bind (wpAny_sequenceKey ht.typeIs (by decide) ?_)
  refine wpAny_bind (wpAny_callSpecial?_slot (name := Str.ofString "__getitem__") ht.typeIs PyProof.Rows.slot_tuple_getitem
    (wpAny_call_entry PyProof.Rows.slot_tuple_getitem ht.typeIs entry_tuple_getitem ?_ (args_tuple_getitem _ _)))
  show wpAny _ _ (Builtin.Tuple.tupleItemsOf (.ref t) >>= _) _ _ s
  refine wpAny_bind (tupleItemsOf_ ht ?_)
  refine wpAny_bind (wpAny_typeOf hTs ?_)
  rw [if_pos (by decide)]
  refine wpAny_bind (sliceApplied_rev hs pl pu ps ?_)
  show wpAny _ _ (if (((items.size : Int) - 1) == 0 && (-1 : Int) == 1 && items.size == items.size) = true then _ else _) _ _ s
  rw [if_neg (by rw [show ((-1 : Int) == 1) = false from rfl]; simp), rev_pick]
  first
    | exact wpAny_bind (m := Builtin.Tuple.tupleExact _) (wpAny_newObj_type (wpAny_pure ⟨_, rfl, wpAny_pure h⟩) htake)
    | exact wpAny_bind (m := Builtin.Tuple.tupleExact _) (wpAny_newObj_type (wpAny_bind (wpAny_pure (wpAny_pure ⟨_, rfl, wpAny_pure h⟩))) htake)
    | exact wpAny_bind (wpAny_bind (m := Builtin.Tuple.tupleExact _) (wpAny_newObj_type (wpAny_pure (wpAny_pure ⟨_, rfl, wpAny_pure h⟩)) htake))
    | exact wpAny_bind (wpAny_bind (m := Builtin.Tuple.tupleExact _) (wpAny_newObj_type (wpAny_pure ⟨_, rfl, wpAny_pure h⟩) htake))
end
end Py

/-! Built-in functions by values. -/
namespace Py
open PySem PySem.Spec PyProof.Rows L2
section
variable {X : Cx} {G : Kx}
theorem TopRs.one {W : Addr → Prop} {H : Hp} {d : D} {vs : List V} (h : TopRs G W H [d] vs) : ∃ v, vs = [v] ∧ TopR G W H d v := by
  obtain ⟨v, r, rfl, h, e⟩ := h
  have e : r = [] := e
  exact ⟨v, by rw [e], h⟩
theorem TopRs.two {W : Addr → Prop} {H : Hp} {d e : D} {vs : List V} (h : TopRs G W H [d, e] vs) : ∃ v w, vs = [v, w] ∧ TopR G W H d v ∧ TopR G W H e w := by
  obtain ⟨v, r, rfl, h, h2⟩ := h
  obtain ⟨w, q, h3⟩ := TopRs.one h2
  exact ⟨v, w, by rw [q], h, h3⟩
theorem reps_ints {W : Addr → Prop} {H : Hp} : ∀ {l : List D} {ns : List Int} {vs : List V}, intsD l = some ns → Reps G W H l vs → vs = ns.map V.int
  | [], ns, vs, h, r => by cases h; exact r
  | .int i :: l, ns, vs, h, r => by
    simp only [intsD] at h
    cases z : intsD l with
    | none => rw [z] at h; cases h
    | some m =>
      rw [z] at h; cases h
      obtain ⟨v, q, rfl, rv, r⟩ := r
      rw [rep_int rv, reps_ints z r]; rfl
  | .non :: l, ns, vs, h, r => by simp [intsD] at h
  | .bl _ :: l, ns, vs, h, r => by simp [intsD] at h
  | .str _ :: l, ns, vs, h, r => by simp [intsD] at h
  | .tup _ :: l, ns, vs, h, r => by simp [intsD] at h
  | .lst _ :: l, ns, vs, h, r => by simp [intsD] at h
  | .dct _ :: l, ns, vs, h, r => by simp [intsD] at h
  | .set _ :: l, ns, vs, h, r => by simp [intsD] at h
  | .rng _ _ _ :: l, ns, vs, h, r => by simp [intsD] at h
  | .itr _ :: l, ns, vs, h, r => by simp [intsD] at h
  | .scr _ :: l, ns, vs, h, r => by simp [intsD] at h
  | .fn _ :: l, ns, vs, h, r => by simp [intsD] at h
  | .exc _ _ :: l, ns, vs, h, r => by simp [intsD] at h
  | .clo _ _ :: l, ns, vs, h, r => by simp [intsD] at h
theorem reps_bls {W : Addr → Prop} {H : Hp} : ∀ {l : List D} {ns : List Bool} {vs : List V}, blsD l = some ns → Reps G W H l vs → vs = ns.map V.bl
  | [], ns, vs, h, r => by cases h; exact r
  | .bl i :: l, ns, vs, h, r => by
    simp only [blsD] at h
    cases z : blsD l with
    | none => rw [z] at h; cases h
    | some m =>
      rw [z] at h; cases h
      obtain ⟨v, q, rfl, rv, r⟩ := r
      rw [rep_bl rv, reps_bls z r]; rfl
  | .non :: l, ns, vs, h, r => by simp [blsD] at h
  | .int _ :: l, ns, vs, h, r => by simp [blsD] at h
  | .str _ :: l, ns, vs, h, r => by simp [blsD] at h
  | .tup _ :: l, ns, vs, h, r => by simp [blsD] at h
  | .lst _ :: l, ns, vs, h, r => by simp [blsD] at h
  | .dct _ :: l, ns, vs, h, r => by simp [blsD] at h
  | .set _ :: l, ns, vs, h, r => by simp [blsD] at h
  | .rng _ _ _ :: l, ns, vs, h, r => by simp [blsD] at h
  | .itr _ :: l, ns, vs, h, r => by simp [blsD] at h
  | .scr _ :: l, ns, vs, h, r => by simp [blsD] at h
  | .fn _ :: l, ns, vs, h, r => by simp [blsD] at h
  | .exc _ _ :: l, ns, vs, h, r => by simp [blsD] at h
  | .clo _ _ :: l, ns, vs, h, r => by simp [blsD] at h
theorem ints_reps {W : Addr → Prop} {H : Hp} : ∀ ns : List Int, Reps G W H (ns.map .int) (ns.map V.int)
  | [] => rfl
  | i :: l => Reps.cons (by simp only [Rep]) (ints_reps l)
theorem foldl_max : ∀ (l : List Int) (i : Int), (∀ y, y ∈ i :: l → y ≤ l.foldl (fun m x => if m < x then x else m) i) ∧ l.foldl (fun m x => if m < x then x else m) i ∈ i :: l
  | [], i => ⟨fun y hy => by simp at hy; subst hy; exact Int.le_refl _, by simp⟩
  | a :: l, i => by
    have ih := foldl_max l (if i < a then a else i)
    rw [List.foldl_cons]
    refine ⟨fun y hy => ?_, ?_⟩
    · have h0 := ih.1 (if i < a then a else i) List.mem_cons_self
      rcases List.mem_cons.mp hy with rfl | hy
      · exact Int.le_trans (by split <;> omega) h0
      · rcases List.mem_cons.mp hy with rfl | hy
        · exact Int.le_trans (by split <;> omega) h0
        · exact ih.1 y (List.mem_cons_of_mem _ hy)
    · rcases List.mem_cons.mp ih.2 with e | e
      · rw [e]; split <;> simp
      · exact List.mem_cons_of_mem _ (List.mem_cons_of_mem _ e)
theorem foldl_min : ∀ (l : List Int) (i : Int), (∀ y, y ∈ i :: l → l.foldl (fun m x => if x < m then x else m) i ≤ y) ∧ l.foldl (fun m x => if x < m then x else m) i ∈ i :: l
  | [], i => ⟨fun y hy => by simp at hy; subst hy; exact Int.le_refl _, by simp⟩
  | a :: l, i => by
    have ih := foldl_min l (if a < i then a else i)
    rw [List.foldl_cons]
    refine ⟨fun y hy => ?_, ?_⟩
    · have h0 := ih.1 (if a < i then a else i) List.mem_cons_self
      rcases List.mem_cons.mp hy with rfl | hy
      · exact Int.le_trans h0 (by split <;> omega)
      · rcases List.mem_cons.mp hy with rfl | hy
        · exact Int.le_trans h0 (by split <;> omega)
        · exact ih.1 y (List.mem_cons_of_mem _ hy)
    · rcases List.mem_cons.mp ih.2 with e | e
      · rw [e]; split <;> simp
      · exact List.mem_cons_of_mem _ (List.mem_cons_of_mem _ e)
theorem insI_perm (x : Int) : ∀ l, (insI x l).Perm (x :: l)
  | [] => .refl _
  | y :: l => by
    unfold insI
    split
    · exact .refl _
    · exact ((insI_perm x l).cons y).trans (.swap x y l)
theorem insI_sorted {x : Int} : ∀ {l : List Int}, l.Pairwise (· ≤ ·) → (insI x l).Pairwise (· ≤ ·)
  | [], _ => by simp [insI]
  | y :: l, h => by
    unfold insI
    have h' := List.pairwise_cons.mp h
    split
    · refine List.pairwise_cons.mpr ⟨fun z hz => ?_, h⟩
      rcases List.mem_cons.mp hz with rfl | hz
      · omega
      · have := h'.1 z hz; omega
    · refine List.pairwise_cons.mpr ⟨fun z hz => ?_, insI_sorted h'.2⟩
      have := (insI_perm x l).mem_iff.mp hz
      rcases List.mem_cons.mp this with rfl | hz
      · omega
      · exact h'.1 z hz
theorem sortI_ok : ∀ (l acc : List Int), acc.Pairwise (· ≤ ·) → (sortI l acc).Pairwise (· ≤ ·) ∧ (sortI l acc).Perm (l ++ acc)
  | [], acc, h => ⟨h, .refl _⟩
  | x :: l, acc, h => by
    unfold sortI
    obtain ⟨h1, h2⟩ := sortI_ok l (insI x acc) (insI_sorted h)
    refine ⟨h1, h2.trans ?_⟩
    exact ((insI_perm x acc).append_left l).trans List.perm_middle
theorem sorted_uniq : ∀ {a b : List Int}, a.Perm b → a.Pairwise (· ≤ ·) → b.Pairwise (· ≤ ·) → a = b
  | [], b, p, _, _ => by have := p.length_eq; cases b with | nil => rfl | cons => simp at this
  | x :: a, [], p, _, _ => by have := p.length_eq; simp at this
  | x :: a, y :: b, p, ha, hb => by
    have ha' := List.pairwise_cons.mp ha
    have hb' := List.pairwise_cons.mp hb
    have e : x = y := by
      have h1 : x ∈ y :: b := p.mem_iff.mp List.mem_cons_self
      have h2 : y ∈ x :: a := p.mem_iff.mpr List.mem_cons_self
      rcases List.mem_cons.mp h1 with h1 | h1
      · exact h1
      · rcases List.mem_cons.mp h2 with h2 | h2
        · exact h2.symm
        · have := ha'.1 y h2; have := hb'.1 x h1; omega
    subst e
    rw [sorted_uniq (List.perm_cons x |>.mp p) ha'.2 hb'.2]
theorem sortI_eq {ns ns' : List Int} (p : ns'.Perm ns) (h : ns'.Pairwise (· ≤ ·)) : ns' = sortI ns [] := by
  obtain ⟨h1, h2⟩ := sortI_ok ns [] .nil
  refine sorted_uniq (p.trans ?_) h h1
  simpa using h2.symm
/-- a call's promise by one argument -/
theorem cr_one {f : Value} {b : Bi} {r : List V → Hp → VK → Prop} (h : CallR X f r) (k : ∀ (W : Addr → Prop) (ds : List D) (vs : List V) (d : D) (H : Hp) (Q : VK), (∀ a, W a → ∃ o, H a = some o) → TopRs G W H ds vs → biD b ds = some d → (∀ v H', Ext H H' → NewR G W H H' d v → Q v H') → r vs H Q) : CallR X f (rBi G b) := by
  intro pins s σ H xs us Q I rv ⟨W, ds, d, wt, t, e, q⟩
  exact h pins s σ H xs us Q I rv (k W ds xs d H Q wt t e q)
theorem cr_len (hK : G.K = X.K) : CallR X (.builtin "len") (rBi G .len) := cr_one call_len fun W ds vs d H Q wt t e q => by
  match ds, e with
  | [d0], e =>
    obtain ⟨v, rfl, tt⟩ := t.one
    simp only [biD, bLen] at e
    cases z : lenD d0 with
    | none => rw [z] at e; cases e
    | some n =>
      rw [z] at e; cases e
      refine ⟨v, n, rfl, ?_, q _ H (Ext.refl _) (NewR.plain rfl (by simp only [Rep]))⟩
      cases d0 <;> simp only [lenD] at z <;> first | (cases z; done) | skip
      · cases z
        obtain ⟨rfl, oa⟩ := top_str tt
        exact ⟨by rw [str_len, ← szLine]; exact oa.1, by rw [str_len]⟩
      · cases z
        obtain ⟨p, xs, rfl, ta, ra⟩ := top_tup tt
        exact .inr ⟨xs, hK ▸ ta.sq, by rw [ra.length]⟩
      · cases z
        obtain ⟨p, xs, rfl, ta, ra⟩ := top_lst tt
        exact .inl ⟨xs, SqL.of ta, by rw [ra.length]⟩
      · exact absurd tt (by simp [TopR, Rep])
      · exact absurd tt (by simp [TopR, Rep])
      · exact absurd tt (by simp [TopR, Rep])
  | [], e => cases e
  | _ :: _ :: _, e => cases e
theorem cr_abs : CallR X (.builtin "abs") (rBi G .abs) := cr_one call_abs fun W ds vs d H Q wt t e q => by
  replace e : bAbs ds = some d := e
  unfold bAbs at e
  split at e <;> first | (cases e; done) | skip
  cases e
  obtain ⟨v, rfl, tt⟩ := t.one
  obtain rfl := top_int tt
  exact ⟨_, rfl, q _ H (Ext.refl _) (NewR.plain rfl (by simp only [Rep]))⟩
theorem cr_int : CallR X (.type "int") (rBi G .int) := cr_one call_int1 fun W ds vs d H Q wt t e q => by
  replace e : bInt ds = some d := e
  unfold bInt at e
  split at e <;> first | (cases e; done) | skip
  · cases e
    obtain ⟨v, rfl, tt⟩ := t.one
    obtain rfl := top_int tt
    exact .inl ⟨_, rfl, q _ H (Ext.refl _) (NewR.plain rfl (by simp only [Rep]))⟩
  · cases e
    obtain ⟨v, rfl, tt⟩ := t.one
    obtain rfl := top_bl tt
    exact .inr ⟨_, rfl, q _ H (Ext.refl _) (NewR.plain rfl (by simp only [Rep]; rfl))⟩
theorem cr_bool : CallR X (.type "bool") (rBi G .bool) := by
  intro pins s σ H xs us Q I rv ⟨W, ds, d, wt, t, e, q⟩
  replace e : bBool ds = some d := e
  unfold bBool at e
  split at e <;> first | (cases e; done) | skip
  · cases e
    obtain ⟨v, rfl, tt⟩ := t.one
    obtain rfl := top_int tt
    exact call_bool1 pins s σ H _ us Q I rv (.inl ⟨_, rfl, q _ H (Ext.refl _) (NewR.plain rfl (by simp only [Rep]))⟩)
  · cases e
    obtain ⟨v, rfl, tt⟩ := t.one
    obtain rfl := top_bl tt
    exact call_bool1 pins s σ H _ us Q I rv (.inr ⟨_, rfl, q _ H (Ext.refl _) (NewR.plain rfl (by simp only [Rep]))⟩)
  · cases e
    obtain ⟨v, rfl, tt⟩ := t.one
    obtain ⟨p, xs, rfl, ta, ra⟩ := top_lst tt
    refine call_boolL pins s σ H _ us Q I rv ⟨p, xs, rfl, SqL.of ta, q _ H (Ext.refl _) (NewR.plain rfl ?_)⟩
    rename_i l
    have := ra.length
    simp only [Rep]
    cases xs <;> cases l <;> first | rfl | (simp at this)
theorem cr_str : CallR X (.type "str") (rBi G .str) := cr_one SkE.call_str_str fun W ds vs d H Q wt t e q => by
  replace e : bStr ds = some d := e
  unfold bStr at e
  split at e <;> first | (cases e; done) | skip
  cases e
  obtain ⟨v, rfl, tt⟩ := t.one
  obtain ⟨rfl, oa⟩ := top_str tt
  exact ⟨_, rfl, q _ H (Ext.refl _) (NewR.plain rfl (Rep.str oa))⟩
theorem cr_maxE (hK : G.K = X.K) (hc : X.calm = true) : CallR X (.builtin "max") (rBi G .max) := by
  intro pins s σ H xs us Q I rv ⟨W, ds, d, wt, t, e, q⟩
  replace e : bMax ds = some d := e
  unfold bMax at e
  split at e <;> first | (cases e; done) | skip
  · rename_i l
    obtain ⟨v, rfl, tt⟩ := t.one
    obtain ⟨p, xs, rfl, ta, ra⟩ := top_lst tt
    cases z : intsD l with
    | none => rw [z] at e; cases e
    | some ns =>
      rw [z] at e
      obtain rfl := reps_ints z ra
      cases ns with
      | nil => cases e
      | cons i ns =>
        cases e
        refine cr_max hc pins s σ H _ us Q I rv ⟨p, i :: ns, rfl, SqL.of ta, by simp, fun m hm hb => ?_⟩
        obtain ⟨f1, f2⟩ := foldl_max ns i
        have : m = ns.foldl (fun m x => if m < x then x else m) i := Int.le_antisymm (f1 m hm) (hb _ f2)
        rw [this]
        exact q _ H (Ext.refl _) (NewR.plain rfl (by simp only [Rep]))
  · cases e
    obtain ⟨v, w, rfl, tt, t2⟩ := t.two
    obtain rfl := top_int tt
    obtain rfl := top_int t2
    exact call_max2 hc pins s σ H _ us Q I rv ⟨_, _, rfl, q _ H (Ext.refl _) (NewR.plain rfl (by simp only [Rep]))⟩
theorem cr_minE (hK : G.K = X.K) (hc : X.calm = true) : CallR X (.builtin "min") (rBi G .min) := by
  intro pins s σ H xs us Q I rv ⟨W, ds, d, wt, t, e, q⟩
  replace e : bMin ds = some d := e
  unfold bMin at e
  split at e <;> first | (cases e; done) | skip
  · rename_i l
    obtain ⟨v, rfl, tt⟩ := t.one
    obtain ⟨p, xs, rfl, ta, ra⟩ := top_lst tt
    cases z : intsD l with
    | none => rw [z] at e; cases e
    | some ns =>
      rw [z] at e
      obtain rfl := reps_ints z ra
      cases ns with
      | nil => cases e
      | cons i ns =>
        cases e
        refine cr_min hc pins s σ H _ us Q I rv ⟨p, i :: ns, rfl, SqL.of ta, by simp, fun m hm hb => ?_⟩
        obtain ⟨f1, f2⟩ := foldl_min ns i
        have : m = ns.foldl (fun m x => if x < m then x else m) i := Int.le_antisymm (hb _ f2) (f1 m hm)
        rw [this]
        exact q _ H (Ext.refl _) (NewR.plain rfl (by simp only [Rep]))
  · cases e
    obtain ⟨v, w, rfl, tt, t2⟩ := t.two
    obtain rfl := top_int tt
    obtain rfl := top_int t2
    exact call_min2 hc pins s σ H _ us Q I rv ⟨_, _, rfl, q _ H (Ext.refl _) (NewR.plain rfl (by simp only [Rep]))⟩
theorem cr_sumE (hc : X.calm = true) : CallR X (.builtin "sum") (rBi G .sum) := cr_one (cr_sum hc) fun W ds vs d H Q wt t e q => by
  replace e : bSum ds = some d := e
  unfold bSum at e
  split at e <;> first | (cases e; done) | skip
  rename_i l
  obtain ⟨v, rfl, tt⟩ := t.one
  obtain ⟨p, xs, rfl, ta, ra⟩ := top_lst tt
  cases z : intsD l with
  | none => rw [z] at e; cases e
  | some ns =>
    rw [z] at e; cases e
    obtain rfl := reps_ints z ra
    exact ⟨p, ns, rfl, SqL.of ta, q _ H (Ext.refl _) (NewR.plain rfl (by simp only [Rep]))⟩
theorem cr_allE (hc : X.calm = true) : CallR X (.builtin "all") (rBi G .all) := cr_one (cr_all hc) fun W ds vs d H Q wt t e q => by
  replace e : bAll ds = some d := e
  unfold bAll at e
  split at e <;> first | (cases e; done) | skip
  rename_i l
  obtain ⟨v, rfl, tt⟩ := t.one
  obtain ⟨p, xs, rfl, ta, ra⟩ := top_lst tt
  cases z : blsD l with
  | none => rw [z] at e; cases e
  | some ns =>
    rw [z] at e; cases e
    obtain rfl := reps_bls z ra
    exact ⟨p, ns, rfl, SqL.of ta, q _ H (Ext.refl _) (NewR.plain rfl (by simp only [Rep]))⟩
theorem cr_anyE (hc : X.calm = true) : CallR X (.builtin "any") (rBi G .any) := cr_one (cr_any hc) fun W ds vs d H Q wt t e q => by
  replace e : bAny ds = some d := e
  unfold bAny at e
  split at e <;> first | (cases e; done) | skip
  rename_i l
  obtain ⟨v, rfl, tt⟩ := t.one
  obtain ⟨p, xs, rfl, ta, ra⟩ := top_lst tt
  cases z : blsD l with
  | none => rw [z] at e; cases e
  | some ns =>
    rw [z] at e; cases e
    obtain rfl := reps_bls z ra
    exact ⟨p, ns, rfl, SqL.of ta, q _ H (Ext.refl _) (NewR.plain rfl (by simp only [Rep]))⟩
theorem cr_sortedE : CallR X (.builtin "sorted") (rBi G .sorted) := cr_one cr_sortedI fun W ds vs d H Q wt t e q => by
  replace e : bSorted ds = some d := e
  unfold bSorted at e
  split at e <;> first | (cases e; done) | skip
  rename_i l
  obtain ⟨v, rfl, tt⟩ := t.one
  obtain ⟨p, xs, rfl, ta, ra⟩ := top_lst tt
  cases z : intsD l with
  | none => rw [z] at e; cases e
  | some ns =>
    rw [z] at e; cases e
    obtain rfl := reps_ints z ra
    refine ⟨p, ns, rfl, SqL.of ta, fun ns' p' h1 h2 hp => ?_⟩
    obtain rfl := sortI_eq h1 h2
    exact q _ _ (Ext.new hp) (NewR.lst hp (ints_reps _))
theorem cr_list (hK : G.K = X.K) : CallR X (.type "list") (rBi G .list) := cr_one call_list_of fun W ds vs d H Q wt t e q => by
  replace e : bList ds = some d := e
  unfold bList at e
  split at e <;> first | (cases e; done) | skip
  · cases e
    obtain ⟨v, rfl, tt⟩ := t.one
    obtain ⟨p, xs, rfl, ta, ra⟩ := top_lst tt
    exact ⟨p, xs, rfl, .inl (SqL.of ta), fun r hr => q _ _ (Ext.new hr) (NewR.lst hr ra)⟩
  · cases e
    obtain ⟨v, rfl, tt⟩ := t.one
    obtain ⟨p, xs, rfl, ta, ra⟩ := top_tup tt
    exact ⟨p, xs, rfl, .inr (hK ▸ ta.sq), fun r hr => q _ _ (Ext.new hr) (NewR.lst hr ra)⟩
  · cases e
    obtain ⟨v, rfl, tt⟩ := t.one
    simp only [TopR, Rep] at tt
    obtain ⟨p, xs, rfl, ta, ra⟩ := tt
    exact ⟨p, xs, rfl, .inl (hK ▸ ta.sq), fun r hr => q _ _ (Ext.new hr) (NewR.lst hr ra)⟩
theorem cr_tuple (hK : G.K = X.K) : CallR X (.type "tuple") (rBi G .tuple) := cr_one call_tuple_of fun W ds vs d H Q wt t e q => by
  replace e : bTuple ds = some d := e
  unfold bTuple at e
  split at e <;> first | (cases e; done) | skip
  · cases e
    obtain ⟨v, rfl, tt⟩ := t.one
    obtain ⟨p, xs, rfl, ta, ra⟩ := top_lst tt
    exact ⟨p, xs, rfl, .inl ⟨SqL.of ta, fun r hr => q _ _ (Ext.new hr) (NewR.tup hr wt ra)⟩⟩
  · cases e
    obtain ⟨v, rfl, tt⟩ := t.one
    obtain ⟨p, xs, rfl, ta, ra⟩ := top_tup tt
    refine ⟨p, xs, rfl, .inr ⟨hK ▸ ta.sq, q _ H (Ext.refl _) (NewR.plain rfl ?_)⟩⟩
    simp only [Rep]
    exact ⟨p, xs, rfl, ta, ra⟩
end
end Py

/-! isinstance; zip and enumerate. -/
namespace Py
open PySem PySem.Spec PyProof.Rows L2
/-- a built-in type's name -/
def tyNm : Ty → Option String
  | .int => some "int" | .str => some "str" | .bool => some "bool" | .tuple => some "tuple" | .list => some "list" | .dict => some "dict" | _ => none
section
variable {X : Cx} {A : Ax} {xw : XW} {C : Cl} {e a b c : Expr} {t u : E} {pos : Pos} {G : Kx}
theorem kit_D {W : Addr → Prop} {H : Hp} {d : D} {v : V} {ty : Ty} {n : String} {k : Bool} (hn : tyNm ty = some n) (h : TopR G W H d v) (e : isTy C ty d = some k) : ∃ t, TyX G.K H v t ∧ PySem.W.kitOne G.K t (.type n) = some k := by
  have tab : ∀ (m : String), TyX G.K H v (.type m) → kitB m n = some k → ∃ t, TyX G.K H v t ∧ PySem.W.kitOne G.K t (.type n) = some k := fun m h1 h2 => ⟨_, h1, kit_ty h2⟩
  cases d with
  | non =>
    obtain rfl := top_non h
    cases ty <;> cases hn <;> cases e <;> first | exact tab "NoneType" (.base .non) (show kitB _ _ = some true from by decide +kernel) | exact tab "NoneType" (.base .non) (show kitB _ _ = some false from by decide +kernel)
  | bl b =>
    obtain rfl := top_bl h
    cases ty <;> cases hn <;> cases e <;> first | exact tab "bool" (.base (.bl _)) (show kitB _ _ = some true from by decide +kernel) | exact tab "bool" (.base (.bl _)) (show kitB _ _ = some false from by decide +kernel)
  | int b =>
    obtain rfl := top_int h
    cases ty <;> cases hn <;> cases e <;> first | exact tab "int" (.base (.int _)) (show kitB _ _ = some true from by decide +kernel) | exact tab "int" (.base (.int _)) (show kitB _ _ = some false from by decide +kernel)
  | str b =>
    obtain ⟨rfl, _⟩ := top_str h
    cases ty <;> cases hn <;> cases e <;> first | exact tab "str" (.base (.str _)) (show kitB _ _ = some true from by decide +kernel) | exact tab "str" (.base (.str _)) (show kitB _ _ = some false from by decide +kernel)
  | lst l =>
    obtain ⟨p, xs, rfl, ta, ra⟩ := top_lst h
    cases ty <;> cases hn <;> cases e <;> first | exact tab "list" (.base (.lst ta)) (show kitB _ _ = some true from by decide +kernel) | exact tab "list" (.base (.lst ta)) (show kitB _ _ = some false from by decide +kernel)
  | tup l =>
    obtain ⟨p, xs, rfl, ta, ra⟩ := top_tup h
    have tt : TyX G.K H (.ref p) (.type "tuple") := by
      rcases ta with ⟨_, q | ⟨o, q⟩⟩ | ⟨o, its, n, q, q2, _⟩
      · exact .base (.tup q)
      · exact .fTuple q
      · exact .kTuple q q2
    cases ty <;> cases hn <;> cases e <;> first | exact tab "tuple" tt (show kitB _ _ = some true from by decide +kernel) | exact tab "tuple" tt (show kitB _ _ = some false from by decide +kernel)
  | dct l => exact absurd h (by simp [TopR, Rep])
  | set l => exact absurd h (by simp [TopR, Rep])
  | rng => exact absurd h (by simp [TopR, Rep])
  | itr => exact absurd h (by simp [TopR, Rep])
  | exc => exact absurd h (by simp [TopR, Rep])
  | clo => exact absurd h (by simp [TopR, Rep])
  | scr l => cases ty <;> cases hn <;> cases e
  | fn l => cases ty <;> cases hn <;> cases e
theorem pe_isiE {p q : Pos} {x : Str} {ty : Ty} {n : String} (hK : A.g.K = X.K) (hg : Gl X "isinstance") (hm : X.mg "isinstance" = none) (hg2 : Gl X x) (hm2 : X.mg x = none) (hn : tyNm ty = some n) (hv : bootBuiltins x = some (.type n)) (hx : x ≠ "__name__") (hd : (x == ("__debug__" : Str)) = false)
    (ha : PE X a (tPk A xw C t)) (hs : starEach [a, .Name x q] X.env = (false, eval a X.env) :: starEach [.Name x q] X.env) :
    PE X (.Call (.Name "isinstance" p) [a, .Name x q] [] pos) (tE A xw C (.isi t ty)) := by
  refine (pe_callB call_isi hg hm boot_isinstance (pa_cons ha (pa_cons (pe_bltn hg2 hm2 hv (v := .ty n) rfl hx hd) pa_nil (by rfl)) hs) (by decide) (by decide) hs (by rfl)).imp fun σ H Q ⟨W, ρ, S, h⟩ => ⟨W, ρ, S, ?_⟩
  refine (Ot.bind (mu1 := fun j => muts j t) (mu2 := fun j => muts j t) h (fun _ z => z) fun _ z => z).imp fun x ρ1 W1 H1 S1 F1 h v pv => ?_
  obtain ⟨k, e, h⟩ := Ot.finB h
  obtain ⟨t, h1, h2⟩ := kit_D hn (pv.top S1) e
  refine ⟨v, .ty n, t, .type n, k, rfl, .ty n, hK ▸ h1, hK ▸ h2, h W1 H1 S1 Frm.refl _ (RR.rep (by simp only [Rep]))⟩

/-! ### zip, enumerate -/
theorem zipD_length : ∀ (l m : List D), (zipD l m).length = min l.length m.length
  | [], m => by simp [zipD]
  | _ :: _, [] => by simp [zipD]
  | a :: l, b :: m => by simp [zipD, zipD_length l m]
theorem zipD_get : ∀ {l m : List D} {i : Nat} {x y : D}, l[i]? = some x → m[i]? = some y → (zipD l m)[i]? = some (.tup [x, y])
  | [], _, i, x, y, h, _ => by simp at h
  | _ :: _, [], i, x, y, _, h => by simp at h
  | a :: l, b :: m, 0, x, y, h, h2 => by simp at h h2; subst h h2; rfl
  | a :: l, b :: m, i + 1, x, y, h, h2 => by
    have := zipD_get (l := l) (m := m) (i := i) (by simpa using h) (by simpa using h2)
    simpa [zipD] using this
theorem some_lt {α : Type} {l : List α} {i : Nat} (h : i < l.length) : l[i]? = some l[i] := by simp [h]
theorem pair_rep {W : Addr → Prop} {H : Hp} {T : Addr} {x y : V} {d e : D} (wt : ∀ a, W a → ∃ o, H a = some o) (hT : H T = none) (r1 : Rep G W H d x) (r2 : Rep G W H e y) : Rep G W (upd H T (.tup [x, y])) (.tup [d, e]) (.ref T) := by
  have nT : ¬ W T := fun w => by obtain ⟨o, q⟩ := wt T w; rw [hT] at q; cases q
  simp only [Rep]
  refine ⟨T, [x, y], rfl, .inl ⟨nT, .inl upd_same⟩, ?_⟩
  have k : Kp W H W (upd H T (.tup [x, y])) := fun a o n q => ⟨n, by rw [upd_ne (ne_of_none q hT)]; exact q⟩
  exact Reps.cons (r1.kp k) (Reps.cons (r2.kp k) Reps.nil)
theorem wk_zipT {W : Addr → Prop} {H : Hp} {a b : Addr} {xs ys : List V} {l m : List D} (h : TAt G.K W H a xs) (r : Reps G W H l xs) (h2 : TAt G.K W H b ys) (r2 : Reps G W H m ys) : WkD G W H (RZ.ItzT G.K a b) (zipD l m) := by
  have hl := r.length
  have hl2 := r2.length
  refine ⟨fun W1 H1 => (TAt G.K W1 H1 a xs ∧ Reps G W1 H1 l xs) ∧ TAt G.K W1 H1 b ys ∧ Reps G W1 H1 m ys, ⟨⟨h, r⟩, h2, r2⟩, fun W1 H1 W2 H2 p k => ⟨⟨p.1.1.kp k, p.1.2.kp k⟩, p.2.1.kp k, p.2.2.kp k⟩, fun W1 H1 i p hi => ?_, fun W1 H1 p => ?_, fun W1 H1 i x H2 p wt hi y => ?_⟩
  · rw [zipD_length] at hi
    exact ⟨xs, ys, xs[i]'(by omega), ys[i]'(by omega), p.1.1.sq, p.2.1.sq, by simp, by simp⟩
  · refine ⟨xs, ys, p.1.1.sq, p.2.1.sq, ?_⟩
    rw [zipD_length]; omega
  · rw [zipD_length] at hi
    obtain ⟨T, x', y', rfl, hT, rfl, e1, e2⟩ := y
    refine ⟨Ext.new hT, _, zipD_get (some_lt (by omega)) (some_lt (by omega)), ?_⟩
    obtain ⟨v, q1, rv⟩ := p.1.2.get (some_lt (l := l) (i := i) (by omega))
    obtain ⟨w, q2, rw'⟩ := p.2.2.get (some_lt (l := m) (i := i) (by omega))
    have e1 := e1 xs p.1.1.sq
    have e2 := e2 ys p.2.1.sq
    rw [e1] at q1; rw [e2] at q2
    cases q1; cases q2
    exact pair_rep wt hT rv rw'
theorem wk_zipL {W : Addr → Prop} {H : Hp} {a b : Addr} {xs ys : List V} {l m : List D} (h : ¬ W a ∧ H a = some (.lst xs)) (r : Reps G W H l xs) (h2 : ¬ W b ∧ H b = some (.lst ys)) (r2 : Reps G W H m ys) : WkD G W H (Itz G.K a b) (zipD l m) := by
  have hl := r.length
  have hl2 := r2.length
  refine ⟨fun W1 H1 => ((¬ W1 a ∧ H1 a = some (.lst xs)) ∧ Reps G W1 H1 l xs) ∧ (¬ W1 b ∧ H1 b = some (.lst ys)) ∧ Reps G W1 H1 m ys, ⟨⟨h, r⟩, h2, r2⟩, fun W1 H1 W2 H2 p k => ⟨⟨k a _ p.1.1.1 p.1.1.2, p.1.2.kp k⟩, k b _ p.2.1.1 p.2.1.2, p.2.2.kp k⟩, fun W1 H1 i p hi => ?_, fun W1 H1 p => ?_, fun W1 H1 i x H2 p wt hi y => ?_⟩
  · rw [zipD_length] at hi
    exact ⟨xs, ys, xs[i]'(by omega), ys[i]'(by omega), SqL.of p.1.1.2, SqL.of p.2.1.2, by simp, by simp⟩
  · refine ⟨xs, ys, SqL.of p.1.1.2, SqL.of p.2.1.2, ?_⟩
    rw [zipD_length]; omega
  · rw [zipD_length] at hi
    obtain ⟨T, x', y', rfl, hT, rfl, e1, e2⟩ := y
    refine ⟨Ext.new hT, _, zipD_get (some_lt (by omega)) (some_lt (by omega)), ?_⟩
    obtain ⟨v, q1, rv⟩ := p.1.2.get (some_lt (l := l) (i := i) (by omega))
    obtain ⟨w, q2, rw'⟩ := p.2.2.get (some_lt (l := m) (i := i) (by omega))
    have e1 := e1 xs (SqL.of p.1.1.2)
    have e2 := e2 ys (SqL.of p.2.1.2)
    rw [e1] at q1; rw [e2] at q2
    cases q1; cases q2
    exact pair_rep wt hT rv rw'
theorem enumD_length : ∀ (l : List D) (i : Int), (enumD i l).length = l.length
  | [], _ => rfl
  | a :: l, i => by simp [enumD, enumD_length l]
theorem enumD_get : ∀ {l : List D} {i : Nat} {k : Int} {x : D}, l[i]? = some x → (enumD k l)[i]? = some (.tup [.int (k + i), x])
  | [], i, k, x, h => by simp at h
  | a :: l, 0, k, x, h => by simp at h; subst h; simp [enumD]
  | a :: l, i + 1, k, x, h => by
    have := enumD_get (l := l) (i := i) (k := k + 1) (by simpa using h)
    simp only [enumD, List.getElem?_cons_succ]
    rw [this]; congr 4; omega
theorem wk_enum {W : Addr → Prop} {H : Hp} {a : Addr} {xs : List V} {l : List D} (h : ¬ W a ∧ H a = some (.lst xs)) (r : Reps G W H l xs) : WkD G W H (Ite G.K a) (enumD 0 l) := by
  have hl := r.length
  refine ⟨fun W1 H1 => (¬ W1 a ∧ H1 a = some (.lst xs)) ∧ Reps G W1 H1 l xs, ⟨h, r⟩, fun W1 H1 W2 H2 p k => ⟨k a _ p.1.1 p.1.2, p.2.kp k⟩, fun W1 H1 i p hi => ?_, fun W1 H1 p => ?_, fun W1 H1 i x H2 p wt hi y => ?_⟩
  · rw [enumD_length] at hi
    exact ⟨xs, xs[i]'(by omega), SqL.of p.1.2, by simp⟩
  · refine ⟨xs, SqL.of p.1.2, ?_⟩
    rw [enumD_length]; omega
  · rw [enumD_length] at hi
    obtain ⟨T, x', rfl, hT, rfl, e1⟩ := y
    refine ⟨Ext.new hT, _, enumD_get (some_lt (by omega)), ?_⟩
    obtain ⟨v, q1, rv⟩ := p.2.get (some_lt (l := l) (i := i) (by omega))
    have e1 := e1 xs (SqL.of p.1.2)
    rw [e1] at q1
    cases q1
    exact pair_rep wt hT (by simp only [Rep]; congr 1; omega) rv
/-- a text's letters, each in a new pair with its place -/
def ItxE (x : Str) : It :=
  ⟨fun i _ => i < x.cps.size, fun i H v H' => ∃ T c, v = .ref T ∧ H T = none ∧ H' = upd H T (.tup [.int (i : Nat), .str ⟨#[c]⟩]) ∧ x.cps[i]? = some c, fun i _ => i = x.cps.size⟩
theorem turn_enumX {P : Program} {w : World} {K : PySem.W.Frag} {elts : List Expr} {kk : Nat} {tpos : Pos} (e it : Addr) (x : Str) (t : Tok) (ty : String) (hty : ty = "str_ascii_iterator" ∨ ty = "str_iterator") :
    Turn P w K (.Tuple elts kk tpos) (ItxE x) [e, it] e (fun i h => (∃ old, IsEnum h e it ((i : Nat) : Int) old) ∧ h.IsStrIter it ty x t i ∧ e ≠ it) where
  mem := by simp
  obj := fun i h st b hb => by
    obtain ⟨⟨old, he⟩, ⟨o, ho, hc, hd⟩, _⟩ := st
    rcases (show b = e ∨ b = it by simpa using hb) with rfl | rfl
    · exact ⟨_, he, fun v q => nomatch q⟩
    · exact ⟨o, ho, fun v q => by rw [hd] at q; cases q⟩
  keep := fun i h h' st k => let ⟨⟨old, he⟩, ⟨o, ho, r⟩, hne⟩ := st; ⟨⟨old, k e (by simp) _ he⟩, ⟨o, k it (by simp) o ho, r⟩, hne⟩
  item := by
    intro Y hP hw hK hc i pins s σ H E I hf st hg
    subst hP hw hK
    obtain ⟨⟨old, he⟩, hit, hne⟩ := st
    have Dr : Draws Y.prog Y.w Y.A.in1 it [it] x.cps.size (fun i v => ∃ c u, x.cps[i]? = some c ∧ v = .str ⟨#[c]⟩ u) (fun i h => h.IsStrIter it ty x t i) := by
      rcases hty with q | q
      · rw [q]; exact Draws.strAscii (A := Y.A.in1) (I.ok.hd hc) it x t
      · rw [q]; exact Draws.strWide (A := Y.A.in1) (I.ok.hd hc) it x t
    have hel : e < s.heap.objs.size := Heap.lt_size he
    have hil : it < s.heap.objs.size := by obtain ⟨_, q, _⟩ := hit; exact Heap.lt_size q
    refine wpAny_pyNext_enum_itemD Dr he hit hg hne (by simpa using hne) fun v h' tk hv ho hit' hT hsz hk => ?_
    obtain ⟨c, u, hcx, rfl⟩ := hv
    refine ⟨_, rfl, wpAny_letOwnedTupleGo_enum (s := { s with heap := h', toks := tk + 1 }) ho fun h'' he' sb => ?_⟩
    have two : h''.get? s.heap.objs.size = some { cls := .type "tuple", data := .seq #[.int i tk, .str ⟨#[c]⟩ u] } := (sb.2 _ (Nat.ne_of_gt hel)).trans hT
    have fresh : ObjOk Y.prog Y.w (upd H s.heap.objs.size (.tup [.int (i : Nat), .str ⟨#[c]⟩])) h'' s.heap.objs.size (.tup [.int (i : Nat), .str ⟨#[c]⟩]) :=
      ⟨by show 2 ≤ sizeLine; decide, [.int i tk, .str ⟨#[c]⟩ u], .cons ⟨_, rfl⟩ (.cons ⟨_, rfl⟩ .nil), ⟨_, two, rfl, _, rfl⟩⟩
    have J : Inv Y pins σ (upd H s.heap.objs.size (.tup [.int (i : Nat), .str ⟨#[c]⟩])) { s with heap := h'', toks := tk + 1 } :=
      I.turnedNew (ch := [e, it]) (fun b ob hb q => (sb.2 b (fun z => hb (by simp [z]))).trans (hk b ob (fun z => hb (by simp [z])) (fun z => hb (by simp [z])) q)) hf (Nat.le_refl _) fresh
    have hit2 : h''.IsStrIter it ty x t (i + 1) := by
      obtain ⟨o, ho', r⟩ := hit'
      exact ⟨o, (sb.2 it (Ne.symm hne)).trans ho', r⟩
    refine ⟨.ref s.heap.objs.size, _, J, rfl, ⟨_, c, rfl, I.hok.fresh (Nat.le_refl _), rfl, hcx⟩, ⟨⟨.str ⟨#[c]⟩ u, ?_⟩, hit2, hne⟩, fun b hb => ?_⟩
    · rw [show ((i + 1 : Nat) : Int) = (i : Int) + 1 by omega]; exact he'
    · have hb' : b < s.heap.objs.size := by
        rcases (show b = e ∨ b = it by simpa using hb) with rfl | rfl
        · exact hel
        · exact hil
      rw [upd_ne (Nat.ne_of_lt hb')]
      exact (hf b hb).1
  done := by
    intro Y hP hw hK hc i pins s σ H E I hf st hg
    subst hP hw hK
    obtain ⟨⟨old, he⟩, hit, hne⟩ := st
    have hg : i = x.cps.size := hg
    have Dr : Draws Y.prog Y.w Y.A.in1 it [it] x.cps.size (fun i v => ∃ c u, x.cps[i]? = some c ∧ v = .str ⟨#[c]⟩ u) (fun i h => h.IsStrIter it ty x t i) := by
      rcases hty with q | q
      · rw [q]; exact Draws.strAscii (A := Y.A.in1) (I.ok.hd hc) it x t
      · rw [q]; exact Draws.strWide (A := Y.A.in1) (I.ok.hd hc) it x t
    obtain ⟨f0, f1, f2, f3, f4, f5⟩ := hf it (by simp)
    exact wpAny_pyNext_enum_endD Dr he (hg ▸ hit) fun h' eb => ⟨rfl, I.turned (t' := s.toks) (fun b o hb q => eb b o hb q) f0 f1 f3 f4 f5⟩
  self := fun A i s Q E st h => let ⟨⟨_, he⟩, _⟩ := st; wpAny_pyIter_enum he h
def iEnumA (K : PySem.W.Frag) (ta : TA) : TI := fun σ H R => ta σ H fun vs H1 => (∃ a xs, vs = [.ref a] ∧ SqL K H1 a xs ∧ R (Ite K a) H1) ∨ ∃ x, vs = [.str x] ∧ R (ItxE x) H1
theorem pi_enumA {e : Expr} {ta : TA} {p pos tpos : Pos} {elts : List Expr} {kk : Nat} (hg : Gl X "enumerate") (hm : X.mg "enumerate" = none) (ha : PA X [e] ta) (hs : starEach [e] X.env = [(false, eval e X.env)]) :
    PI X (.Tuple elts kk tpos) (.Call (.Name "enumerate" p) [e] [] pos) (iEnumA X.K ta) := by
  refine ⟨fun pins s σ H R I h => Call_ (ld_blt I hg hm boot_enumerate (PyProof.Rows.callWith_type1 (thn (ha.run pos pins s σ H _ I h) fun us s1 ⟨vs, H1, J, r1, q1⟩ => ?_) hs rfl))⟩
  rcases q1 with ⟨a, xs, rfl, hq, q⟩ | ⟨x, rfl, q⟩
  · cases r1 with
    | cons r rr =>
      cases rr
      cases r
      obtain ⟨its, rv, p', hz⟩ := J.list hq
      refine call_enumerate_list p'.isList fun h' he hit hsz hk => wpAny_pyIter_enum he ?_
      have J2 : Inv X pins σ H1 { s1 with heap := h' } := J.kept (t' := s1.toks) hk
      refine ⟨s1.heap.objs.size + 1, [s1.heap.objs.size + 1, s1.heap.objs.size], _, _, H1, rfl, J2, turn_enum a (s1.heap.objs.size + 1) s1.heap.objs.size, ⟨⟨.none, he⟩, hit, Nat.succ_ne_self _⟩, fun b hb => ?_, q⟩
      have hle : s1.heap.objs.size ≤ b := by
        rcases (show b = s1.heap.objs.size + 1 ∨ b = s1.heap.objs.size by simpa using hb) with z | z <;> rw [z] <;> first | exact Nat.le_succ _ | exact Nat.le_refl _
      exact J.fpOk hle (J.hok.fresh hle)
  · cases r1 with
    | cons r rr =>
      cases rr
      obtain ⟨t, rfl⟩ := r
      refine call_enumerate_str fun h' he hit hsz hk => wpAny_pyIter_enum he ?_
      have J2 : Inv X pins σ H1 { s1 with heap := h' } := J.kept (t' := s1.toks) hk
      have hty : strIterType x = "str_ascii_iterator" ∨ strIterType x = "str_iterator" := by
        unfold strIterType
        split
        · exact .inl rfl
        · exact .inr rfl
      refine ⟨s1.heap.objs.size + 1, [s1.heap.objs.size + 1, s1.heap.objs.size], _, _, H1, rfl, J2, turn_enumX (s1.heap.objs.size + 1) s1.heap.objs.size x t _ hty, ⟨⟨.none, he⟩, hit, Nat.succ_ne_self _⟩, fun b hb => ?_, q⟩
      have hle : s1.heap.objs.size ≤ b := by
        rcases (show b = s1.heap.objs.size + 1 ∨ b = s1.heap.objs.size by simpa using hb) with z | z <;> rw [z] <;> first | exact Nat.le_succ _ | exact Nat.le_refl _
      exact J.fpOk hle (J.hok.fresh hle)
theorem wk_enumX {W : Addr → Prop} {H : Hp} {s : List Nat} (ho : okS s) : WkD G W H (ItxE ⟨s.toArray⟩) (enumD 0 (chars s)) := by
  have hl : (enumD 0 (chars s)).length = s.length := by rw [enumD_length, chars_length]
  refine ⟨fun _ _ => True, trivial, fun _ _ _ _ _ _ => trivial, fun W1 H1 i p hi => ?_, fun W1 H1 p => ?_, fun W1 H1 i x H2 p wt hi y => ?_⟩
  · show i < s.toArray.size
    simpa [hl] using hi
  · show _ = s.toArray.size
    simpa using hl
  · obtain ⟨T, c, rfl, hT, rfl, e1⟩ := y
    have e1 : s[i]? = some c := by simpa using e1
    refine ⟨Ext.new hT, _, enumD_get (show (chars s)[i]? = some (.str [c]) by rw [chars_get, e1]; rfl), ?_⟩
    exact pair_rep wt hT (by simp only [Rep]; congr 1; omega) (Rep.str ⟨by simp [sz], fun z hz => by simp at hz; subst hz; exact ho.2 _ (List.mem_of_getElem? e1)⟩)
theorem pi_zipE {p tpos : Pos} {elts : List Expr} {kk : Nat} (hK : A.g.K = X.K) (hg : Gl X "zip") (hm : X.mg "zip" = none) (ha : PE X a (tE A xw C t)) (hb : PE X b (tE A xw C u))
    (hs : starEach [a, b] X.env = (false, eval a X.env) :: starEach [b] X.env) (hs2 : starEach [b] X.env = (false, eval b X.env) :: starEach [] X.env) (hpl : (backTo pos (starEach [b] X.env)).any (·.1) = false) :
    PI X (.Tuple elts kk tpos) (.Call (.Name "zip" p) [a, b] [] pos) (tI A xw C (.zip t u)) := by
  refine ⟨fun pins s σ H R I ⟨W, ρ, S, h⟩ => (RZ.pi_zipA hg hm (pa_cons ha (pa_cons hb pa_nil hs2) hs) hs hpl).run pins s σ H R I ⟨W, ρ, S, ?_⟩⟩
  have h : Ot A xw _ σ W H ρ ((evE C (.zip t u) ρ).bind itI) _ := h
  simp only [evE] at h
  have bb : ∀ {α β γ : Type} (m : M α) (f : α → Env → M β) (g : β → Env → M γ), (m.bind f).bind g = m.bind fun x ρ => (f x ρ).bind g := fun m f g => by cases m <;> rfl
  rw [bb] at h
  refine Ot.shr S ((Ot.bind (mu1 := fun j => muts j t) (mu2 := fun j => muts j u) h or1 or2).imp fun x ρ1 W1 H1 S1 F1 h v rv => ⟨W1, ρ1, S1, ?_⟩)
  rw [bb] at h
  refine Ot.shr S1 ((Ot.bind (mu1 := fun j => muts j u) (mu2 := fun j => muts j u) h (fun _ z => z) fun _ z => z).imp fun y ρ2 W2 H2 S2 F2 h w rw' => ?_)
  have rv := rv.kp (F2.kp S1)
  cases z : zipV x.2 y.2 with
  | none => rw [z] at h; exact Ot.st h
  | some d =>
    rw [z] at h
    unfold zipV at z
    split at z
    · rename_i l m q1 q2
      cases z
      rw [q1] at rv; rw [q2] at rw'
      simp only [Rep] at rv rw'
      obtain ⟨pa, xs, rfl, ta, ra⟩ := rv
      obtain ⟨pb, ys, rfl, tb, rb⟩ := rw'
      exact ⟨pa, pb, xs, ys, rfl, .inl ⟨SqL.of ta.2, SqL.of tb.2, hK ▸ Ot.ok h S2 Frm.refl _ (wk_zipL ta ra tb rb)⟩⟩
    · rename_i l m q1 q2
      cases z
      rw [q1] at rv; rw [q2] at rw'
      simp only [Rep] at rv rw'
      obtain ⟨pa, xs, rfl, ta, ra⟩ := rv
      obtain ⟨pb, ys, rfl, tb, rb⟩ := rw'
      exact ⟨pa, pb, xs, ys, rfl, .inr ⟨hK ▸ ta.sq, hK ▸ tb.sq, hK ▸ Ot.ok h S2 Frm.refl _ (wk_zipT ta ra tb rb)⟩⟩
    · cases z
theorem pi_enumE {p tpos : Pos} {elts : List Expr} {kk : Nat} (hK : A.g.K = X.K) (hg : Gl X "enumerate") (hm : X.mg "enumerate" = none) (ha : PE X a (tE A xw C t))
    (hs : starEach [a] X.env = (false, eval a X.env) :: starEach [] X.env) (hs2 : starEach [a] X.env = [(false, eval a X.env)]) :
    PI X (.Tuple elts kk tpos) (.Call (.Name "enumerate" p) [a] [] pos) (tI A xw C (.enum t)) := by
  refine ⟨fun pins s σ H R I ⟨W, ρ, S, h⟩ => (pi_enumA hg hm (pa_cons ha pa_nil hs) hs2).run pins s σ H R I ⟨W, ρ, S, ?_⟩⟩
  have h : Ot A xw _ σ W H ρ ((evE C (.enum t) ρ).bind itI) _ := h
  simp only [evE] at h
  have bb : ∀ {α β γ : Type} (m : M α) (f : α → Env → M β) (g : β → Env → M γ), (m.bind f).bind g = m.bind fun x ρ => (f x ρ).bind g := fun m f g => by cases m <;> rfl
  rw [bb] at h
  refine Ot.shr S ((Ot.bind (mu1 := fun j => muts j t) (mu2 := fun j => muts j t) h (fun _ z => z) fun _ z => z).imp fun x ρ1 W1 H1 S1 F1 h v rv => ?_)
  cases z : enumV x.2 with
  | none => rw [z] at h; exact Ot.st h
  | some d =>
    rw [z] at h
    unfold enumV at z
    split at z
    · rename_i l q1
      cases z
      rw [q1] at rv
      simp only [Rep] at rv
      obtain ⟨pa, xs, rfl, ta, ra⟩ := rv
      exact .inl ⟨pa, xs, rfl, SqL.of ta.2, hK ▸ Ot.ok h S1 Frm.refl _ (wk_enum ta ra)⟩
    · rename_i l q1
      cases z
      rw [q1] at rv
      obtain ⟨rfl, ho⟩ := rep_str rv
      exact .inr ⟨_, rfl, Ot.ok h S1 Frm.refl _ (wk_enumX ho)⟩
    · cases z
end
end Py

/-! [::-1]. -/
namespace Py
open PySem PySem.Spec PyProof.Rows L2
section
variable {X : Cx} {A : Ax} {xw : XW} {C : Cl} {e a b c : Expr} {t u : E} {pos : Pos} {G : Kx}
theorem rev_str_pick (l : List Nat) : ((Builtin.Str.strSliceIndices none none (-1) l.length).filterMap (l.toArray[·]?)).toArray = l.reverse.toArray := by
  rw [picked_rev]
  congr 1
  have e : ((List.range l.length).map fun k => l.length - 1 - k).filterMap (l.toArray[·]?) = (List.range l.length).filterMap fun m => l.reverse[m]? := by
    rw [List.filterMap_map]
    apply fm_congr
    intro m hm
    rw [List.mem_range] at hm
    show l.toArray[l.length - 1 - m]? = _
    rw [List.getElem?_reverse hm]
    simp
  rw [e]
  have : ∀ (l : List Nat) (n : Nat), n = l.length → (List.range n).filterMap (fun m => l[m]?) = l := by
    intro l
    induction l with
    | nil => intro n hn; subst hn; simp
    | cons a l ih =>
      intro n hn
      subst hn
      rw [List.length_cons, List.range_succ_eq_map, List.filterMap_cons]
      simp only [List.getElem?_cons_zero, List.filterMap_map]
      congr 1
      have := ih l.length rfl
      simpa [Function.comp_def] using this
  exact this _ _ (by simp)
theorem okS.rev {a : List Nat} (h : okS a) : okS a.reverse := ⟨by rw [List.length_reverse]; exact h.1, fun c hc => h.2 c (List.mem_reverse.mp hc)⟩
theorem pe_revE {k : Nat} {p1 p2 p3 : Pos} (hK : A.g.K = X.K) (he : PE X e (tPk A xw C t)) : PE X (.Subscript e (.Slice none none (some (.UnaryOp .USub (.Constant (.int 1) k p1) p2)) p3) pos) (tE A xw C (.rev t)) := by
  refine ⟨fun pins s σ H Q I ⟨W, ρ, S, h⟩ => ?_⟩
  have he' : tPk A xw C t σ H fun x H1 => ∃ W dx d, (∀ a, W a → ∃ o, H1 a = some o) ∧ TopR A.g W H1 dx x ∧ revV dx = some d ∧ ∀ v H', Ext H1 H' → NewR A.g W H1 H' d v → Q v H' := by
    refine ⟨W, ρ, S, (Ot.bind (mu1 := fun j => muts j t) (mu2 := fun j => muts j t) h (fun _ z => z) fun _ z => z).imp fun x ρ1 W1 H1 S1 F1 h v pv => ?_⟩
    obtain ⟨d, e, h⟩ := Ot.fin h
    refine ⟨W1, x.2, d, S1.wt, pv.top S1, e, fun z H' ex nw => ?_⟩
    obtain ⟨W', S', F', r⟩ := nw.rr (mu := fun j => muts j t) S1 ex
    exact h W' H' S' F' z (r.back F1.so)
  refine Subscript_ (thn (he.run pins s σ H _ I he') fun v s1 ⟨x, H1, I1, r1, W1, dx, d, wt, tx, er, q⟩ => ?_)
  have hst : PO X (some (.UnaryOp .USub (.Constant (.int 1) k p1) p2)) (tPart (tUn (rU fun i => .int (-i)) (tC (.int 1)))) := po_some (pe_un un_neg pe_int)
  refine wpAny_Slice (thn (po_none.run pins s1 σ H1 (fun o H2 => o = none ∧ H2 = H1) I1 ⟨rfl, rfl⟩) fun vl s2 ⟨l, H2, I2, pl, el, e2⟩ => ?_)
  subst el e2
  refine thn (po_none.run pins s2 σ H2 (fun o H3 => o = none ∧ H3 = H2) I2 ⟨rfl, rfl⟩) fun vu s3 ⟨u, H3, I3, pu, eu, e3⟩ => ?_
  subst eu e3
  refine thn (hst.run pins s3 σ H3 (fun o H4 => o = some (-1) ∧ H4 = H3) I3 ⟨1, rfl, -1, rfl, rfl, rfl⟩) fun vs s4 ⟨o, H4, I4, ps, eo, e4⟩ => ?_
  subst eo e4
  have I5 : L2.Inv X pins σ H4 { s4 with heap := s4.heap.push { cls := .type "slice", data := .fields #[vl, vu, vs] } } := I4.kept (t' := s4.toks) fun b ob q => Heap.get?_push_of_some _ q
  cases dx <;> simp only [revV] at er <;> first | (cases er; done) | skip
  · rename_i z
    cases er
    obtain ⟨rfl, oa⟩ := top_str tx
    obtain ⟨tk, rfl⟩ := r1
    obtain ⟨l, rfl, e1⟩ := IsPart.raw pl
    obtain ⟨u, rfl, e2⟩ := IsPart.raw pu
    obtain ⟨st, rfl, e3⟩ := IsPart.raw ps
    cases l with
    | some l => cases e1
    | none =>
      cases u with
      | some u => cases e2
      | none =>
        cases st with
        | none => cases e3
        | some st =>
          obtain ⟨i, tk2⟩ := st
          have e3 : i = -1 := by simpa using e3
          subst e3
          refine tail_any (ops := [.str ⟨z.toArray⟩ tk, .ref s4.heap.objs.size]) (typeIs_str _ _ _) F.slot_str_getitem.lookup ?_ (by with_unfolding_all rfl)
          refine wpAny_getItem_str_slice (l := none) (u := none) (st := some (-1, tk2)) (Heap.IsSliceOf.new _ _ _ _) rfl ?_
          have hlen : (⟨z.toArray⟩ : Str).length = z.length := by simp [Str.length]
          show Made.post (if ((-1 : Int) == 1 && (Builtin.Str.strSliceIndices none none (-1) (⟨z.toArray⟩ : Str).length).length == (⟨z.toArray⟩ : Str).length) = true then Made.val (.str ⟨z.toArray⟩ tk)
            else Made.str ⟨((Builtin.Str.strSliceIndices none none (-1) (⟨z.toArray⟩ : Str).length).filterMap (z.toArray[·]?)).toArray⟩) _ _
          rw [if_neg (by rw [show ((-1 : Int) == 1) = false from rfl]; simp), hlen, rev_str_pick]
          exact ⟨by rw [str_len, List.length_reverse, ← szLine]; exact oa.1, .str _, H4, I5.tok _, ⟨_, rfl⟩, q _ H4 (Ext.refl _) (NewR.plain rfl (Rep.str oa.rev))⟩
  · rename_i l
    cases er
    obtain ⟨p, xs, rfl, ta, ra⟩ := top_tup tx
    cases r1
    obtain ⟨its, r, ht, hz⟩ := I5.tuple (hK ▸ ta.sq)
    have hlen := r.length
    refine tail_any (ops := [.ref p, .ref s4.heap.objs.size]) ht.typeIs (PyProof.Rows.slot_tuple_getitem.lookup) ?_ (by with_unfolding_all rfl)
    refine getItem_tuple_rev ht (Heap.IsSliceOf.new _ vl vu vs) pl pu ps ?_ (by rw [List.size_toArray]; omega)
    refine ⟨.ref _, _, I5.laid (t' := s4.toks) (o := .tup xs.reverse) (fun b ob q => Heap.get?_push_of_some _ q) (Nat.le_refl _) ?_, rfl, q _ _ (Ext.new (I5.hok.fresh (Nat.le_refl _))) (NewR.tup (I5.hok.fresh (Nat.le_refl _)) wt ra.reverse)⟩
    exact ⟨by rw [List.length_reverse]; exact hz, _, r.reverse, _, Heap.get?_push_size _ rfl, rfl, _, rfl⟩
  · rename_i l
    cases er
    obtain ⟨p, xs, rfl, ta, ra⟩ := top_lst tx
    cases r1
    obtain ⟨its, r, ht, hz⟩ := I5.list (SqL.of ta)
    have hlen := r.length
    refine tail_any (ops := [.ref p, .ref s4.heap.objs.size]) ht.isList.typeIs (PySem.slot_list_getitem.lookup) ?_ (by with_unfolding_all rfl)
    refine wpAny_getItem_list_slice ht.isList (Heap.IsSliceOf.new _ vl vu vs) pl pu ps (by decide) ?_ (by rw [List.size_toArray]; omega)
    rw [PySem.W.krv_pick]
    refine ⟨.ref _, _, I5.laid (t' := s4.toks) (o := .lst xs.reverse) (fun b ob q => Heap.get?_push_of_some _ q) (Nat.le_refl _) ?_, rfl, q _ _ (Ext.new (I5.hok.fresh (Nat.le_refl _))) (NewR.lst (I5.hok.fresh (Nat.le_refl _)) ra.reverse)⟩
    exact ⟨by rw [List.length_reverse]; exact hz, _, 0, r.reverse, Heap.get?_push_size _ rfl⟩
end
end Py

/-! Methods; list(range(..)). -/
namespace Py
open PySem PySem.Spec PyProof.Rows L2
open Builtin Builtin.Str StrLaws in
theorem occ_stop (s sub : PySem.Str) (hi : Nat) : ∀ (l : List Nat) (st : Array Nat × Nat), st.fst.size = 1 → (forIn l st (occBody s sub hi 1)).run.fst = st.fst
  | [], st, h => rfl
  | a :: l, st, h => by
    rw [List.forIn_cons]
    unfold occBody
    rw [if_neg (by rintro ⟨⟨⟨q, _⟩, _⟩, _⟩; omega)]
    exact occ_stop s sub hi l (st.fst, st.snd) h
open Builtin Builtin.Str StrLaws in
theorem occ_hit (s sub : PySem.Str) (hi : Nat) : ∀ (len lo free k : Nat), free ≤ lo → k < len → (∀ m, lo ≤ m → m < lo + k → ¬ (m + sub.length ≤ hi ∧ subAt s sub m = true)) → lo + k + sub.length ≤ hi → subAt s sub (lo + k) = true →
    (forIn (List.range' lo len) ((#[] : Array Nat), free) (occBody s sub hi 1)).run.fst = #[lo + k]
  | 0, lo, free, k, _, hk, _, _, _ => by omega
  | len + 1, lo, free, k, hf, hk, hn, h1, h2 => by
    rw [List.range'_succ, List.forIn_cons]
    unfold occBody
    cases k with
    | zero =>
      rw [if_pos ⟨⟨⟨by simp, hf⟩, h1⟩, h2⟩]
      exact occ_stop s sub hi _ _ (by simp)
    | succ k =>
      rw [if_neg (fun q => hn lo (Nat.le_refl _) (by omega) ⟨q.1.2, q.2⟩)]
      have := occ_hit s sub hi len (lo + 1) free k (by omega) (by omega) (fun m a b => hn m (by omega) (by omega)) (by omega) (by rw [show lo + 1 + k = lo + (k + 1) by omega]; exact h2)
      rw [show lo + (k + 1) = lo + 1 + k by omega]
      exact this
theorem occ_find {x s : List Nat} {n : Nat} (h : findS x s 0 = some n) : Builtin.Str.occurrences ⟨s.toArray⟩ ⟨x.toArray⟩ 0 (⟨s.toArray⟩ : PySem.Str).length 1 = [n] := by
  obtain ⟨_, h2, h3, h4⟩ := findS_some h
  rw [Nat.sub_zero] at h2 h3
  have hx : (⟨x.toArray⟩ : PySem.Str).length = x.length := str_len _
  have hs : (⟨s.toArray⟩ : PySem.Str).length = s.length := str_len _
  have e := congrArg List.length (eq_of_beq ((isPre_take _ _) ▸ h2))
  rw [List.length_take, List.length_drop] at e
  rw [StrLaws.occ_eq, occ_hit _ _ _ _ 0 0 n (Nat.le_refl _) (by rw [hs]; omega) (fun m _ hm q => ?_) (by rw [hx, hs]; omega) (by rw [subAt_pre, Nat.zero_add, ← isPre_take]; exact h2)]
  · simp
  · have := h4 m (Nat.zero_le _) (by omega)
    rw [Nat.sub_zero, isPre_take] at this
    rw [subAt_pre] at q
    rw [q.2] at this; cases this
section
variable {X : Cx} {A : Ax} {xw : XW} {C : Cl} {e a b o : Expr} {t u : E} {pos : Pos} {G : Kx}
theorem strs_reps {W : Addr → Prop} {H : Hp} : ∀ {l : List D} {ss : List (List Nat)} {vs : List V}, strsD l = some ss → Reps G W H l vs → vs = (ss.map fun s => (⟨s.toArray⟩ : PySem.Str)).map V.str ∧ ∀ s, s ∈ ss → okS s
  | [], ns, vs, h, r => by cases h; exact ⟨r, fun s hs => by simp at hs⟩
  | .str i :: l, ns, vs, h, r => by
    simp only [strsD] at h
    cases z : strsD l with
    | none => rw [z] at h; cases h
    | some m =>
      rw [z] at h; cases h
      obtain ⟨v, q, rfl, rv, r⟩ := r
      obtain ⟨rfl, oi⟩ := rep_str rv
      obtain ⟨h1, h2⟩ := strs_reps z r
      exact ⟨by rw [h1]; rfl, fun s hs => by rcases List.mem_cons.mp hs with rfl | hs; exact oi; exact h2 s hs⟩
  | .non :: l, ns, vs, h, r => by simp [strsD] at h
  | .bl _ :: l, ns, vs, h, r => by simp [strsD] at h
  | .int _ :: l, ns, vs, h, r => by simp [strsD] at h
  | .tup _ :: l, ns, vs, h, r => by simp [strsD] at h
  | .lst _ :: l, ns, vs, h, r => by simp [strsD] at h
  | .dct _ :: l, ns, vs, h, r => by simp [strsD] at h
  | .set _ :: l, ns, vs, h, r => by simp [strsD] at h
  | .rng _ _ _ :: l, ns, vs, h, r => by simp [strsD] at h
  | .itr _ :: l, ns, vs, h, r => by simp [strsD] at h
  | .scr _ :: l, ns, vs, h, r => by simp [strsD] at h
  | .fn _ :: l, ns, vs, h, r => by simp [strsD] at h
  | .exc _ _ :: l, ns, vs, h, r => by simp [strsD] at h
  | .clo _ _ :: l, ns, vs, h, r => by simp [strsD] at h
theorem join_eq (y : List Nat) : ∀ ss : List (List Nat), Txt.join ⟨y.toArray⟩ (ss.map fun s => (⟨s.toArray⟩ : PySem.Str)) = ⟨(joinS y ss).toArray⟩ := by
  have hj : ∀ ss, TL.joinL y ss = joinS y ss := by
    intro ss
    induction ss with
    | nil => rfl
    | cons s r ih => cases r with
      | nil => rfl
      | cons t r => simp only [TL.joinL, joinS]; rw [ih]
  intro ss
  have h := TL.tl_join ⟨y.toArray⟩ (ss.map fun s => (⟨s.toArray⟩ : PySem.Str))
  have e : ((ss.map fun s => (⟨s.toArray⟩ : PySem.Str)).map TL.tl) = ss := by
    rw [List.map_map]
    have : (TL.tl ∘ fun s : List Nat => (⟨s.toArray⟩ : PySem.Str)) = id := by funext s; rfl
    rw [this, List.map_id]
  rw [e] at h
  have h : (Txt.join ⟨y.toArray⟩ (ss.map fun s => (⟨s.toArray⟩ : PySem.Str))).cps.toList = joinS y ss := by
    rw [← hj, TL.join_eq]; exact h
  rw [← h]
/-- a text's method -/
theorem ms_index : MtR X "str.index" (fun x vs H Q => ∃ W s ds d, TopR G W H (.str s) x ∧ TopRs G W H ds vs ∧ meD .index (.str s) ds = some d ∧ ∀ v H', Ext H H' → Rep G W H' d v → Q v H') := by
  intro pins s σ H x xs v us Q I rx rxs ⟨W, z, ds, d, tx, t, e, q⟩
  have e : mIndex (.str z) ds = some d := e
  unfold mIndex at e
  obtain ⟨y, rfl, e9⟩ : ∃ y, ds = [.str y] ∧ (findS y z 0).map (fun n : Nat => D.int n) = some d := by
    match ds, e with
    | [.str y], e => exact ⟨y, rfl, e⟩
  obtain ⟨v, rfl, tt⟩ := t.one
  obtain ⟨rfl, oa⟩ := top_str tx
  obtain ⟨rfl, ob⟩ := top_str tt
  cases z1 : findS y z 0 with
  | none => rw [z1] at e9; cases e9
  | some n =>
    rw [z1] at e9; cases e9
    exact mt_sindex pins s σ H _ _ _ us Q I rx rxs ⟨_, _, n, [], rfl, rfl, occ_find z1, q _ H (Ext.refl _) (by simp only [Rep])⟩
theorem ms_join (hK : G.K = X.K) : MtR X "str.join" (fun x vs H Q => ∃ W s ds d, TopR G W H (.str s) x ∧ TopRs G W H ds vs ∧ meD .join (.str s) ds = some d ∧ ∀ v H', Ext H H' → Rep G W H' d v → Q v H') := by
  intro pins s σ H x xs v us Q I rx rxs ⟨W, z, ds, d, tx, t, e, q⟩
  have e : mJoin (.str z) ds = some d := e
  obtain ⟨rfl, oa⟩ := top_str tx
  have fin : ∀ {l : List D} {p : Addr} {ys : List V}, Reps G W H l ys → (SqL X.K H p ys ∨ SqT X.K H p ys) → ((strsD l).bind fun ss => if lenOk ((ss.map List.length).sum + ss.length * z.length) then some (.str (joinS z ss)) else none) = some d → xs = [.ref p] →
      wpAny (model X.prog X.w) X.A (call (.builtin "str.join") (v :: us)) (EP X pins σ Q) X.xe s := by
    intro l p ys ra sq e ex
    subst ex
    cases z1 : strsD l with
    | none => rw [z1] at e; cases e
    | some ss =>
      rw [z1] at e
      have e : (if lenOk ((ss.map List.length).sum + ss.length * z.length) then some (D.str (joinS z ss)) else none) = some d := e
      split at e
      · rename_i hl
        cases e
        obtain ⟨rfl, os⟩ := strs_reps z1 ra
        have hl : (ss.map List.length).sum + ss.length * z.length ≤ 16777216 := by simpa [lenOk, sz] using hl
        have em : ((ss.map fun s => (⟨s.toArray⟩ : PySem.Str)).map fun s => s.length) = ss.map List.length := by
          rw [List.map_map]; apply List.map_congr_left; intro s _; exact str_len s
        refine mt_join pins s σ H _ _ _ us Q I rx rxs ⟨_, p, _, rfl, rfl, sq, by rw [em, List.length_map, str_len]; exact hl, ?_⟩
        rw [join_eq]
        refine q _ H (Ext.refl _) (Rep.str ⟨?_, ?_⟩)
        · have : ∀ ss : List (List Nat), (joinS z ss).length ≤ (ss.map List.length).sum + ss.length * z.length := by
            intro ss
            induction ss with
            | nil => simp [joinS]
            | cons s r ih => cases r with
              | nil => simp [joinS]
              | cons t r =>
                simp only [joinS, List.length_append, List.map_cons, List.sum_cons, List.length_cons] at ih ⊢
                have : (r.length + 1 + 1) * z.length = (r.length + 1) * z.length + z.length := by rw [Nat.add_mul (r.length + 1) 1]; omega
                omega
          have h1 := this ss
          show _ ≤ 16777216
          omega
        · intro c hc
          have : ∀ ss : List (List Nat), (∀ s, s ∈ ss → okS s) → c ∈ joinS z ss → c < 1114112 := by
            intro ss
            induction ss with
            | nil => intro _ h; simp [joinS] at h
            | cons s r ih => cases r with
              | nil => intro h hm; exact (h s (by simp)).2 c hm
              | cons t r =>
                intro h hm
                simp only [joinS, List.mem_append] at hm
                rcases hm with hm | hm | hm
                · exact (h s (by simp)).2 c hm
                · exact oa.2 c hm
                · exact ih (fun s hs => h s (List.mem_cons_of_mem _ hs)) hm
          exact this ss os hc
      · cases e
  match ds, e with
  | [.lst l], e =>
    obtain ⟨v, rfl, tt⟩ := t.one
    obtain ⟨p, ys, rfl, ta, ra⟩ := top_lst tt
    exact fin ra (.inl (SqL.of ta)) e rfl
  | [.tup l], e =>
    obtain ⟨v, rfl, tt⟩ := t.one
    obtain ⟨p, ys, rfl, ta, ra⟩ := top_tup tt
    exact fin ra (.inr (hK ▸ ta.sq)) e rfl
/-- a method's call: m by its name, the receiver a text -/
theorem pe_meS {id : String} {name : PySem.Str} {es : List Expr} {ts : List E} {m : Me} {apos cpos : Pos} (slot : Slot "str" name id) (hty : typeOf (.builtin id) = pure (.type "method_descriptor"))
    (hm : MtR X id (fun x vs H Q => ∃ W s ds d, TopR A.g W H (.str s) x ∧ TopRs A.g W H ds vs ∧ meD m (.str s) ds = some d ∧ ∀ v H', Ext H H' → Rep A.g W H' d v → Q v H'))
    (hp : ∀ i, t = .var i → mutsL i ts = false)
    (ho : PE X o (tPk A xw C t)) (ha : PA X (e :: es) (tPs A xw C ts)) (hbase : attributeBase o name X.env (eval o X.env) = eval o X.env)
    (hfew : ((backTo cpos (starEach (e :: es) X.env)).all (fun x => !x.1) && (backToKw cpos (keywordEach [] X.env)).all (fun x => x.1.isSome) && decide ((e :: es).length + ([] : List Keyword).length + (if ([] : List Keyword).isEmpty then 0 else 1) < 30)) = true)
    (hline : (apos.endLine == cpos.line) = true) (hs : starEach (e :: es) X.env = (false, eval e X.env) :: starEach es X.env) (hplain : (backTo cpos (starEach es X.env)).any (·.1) = false) :
    PE X (.Call (.Attribute o name apos) (e :: es) [] cpos) (tE A xw C (.me m t ts)) := by
  refine (pe_bm PySem.F.plainAttrs_str slot hty hm ho ha hbase hfew hline hs hplain).imp fun σ H Q ⟨W, ρ, S, h⟩ => ⟨W, ρ, S, ?_⟩
  have h : Ot A xw _ σ W H ρ ((pk t (evE C t) ρ).bind fun x ρ => if meOk m x.2 then (evPs C ts ρ).bind fun ds ρ => finS ρ (meD m x.2 ds) else .st) _ := h
  refine (Ot.bind (mu1 := fun j => muts j t) (mu2 := fun j => mutsL j ts) h or1 or2).imp fun x ρ1 W1 H1 S1 F1 h v pv => ?_
  cases q : x.2 with
  | str s =>
    rw [q] at h pv
    have h : Ot A xw _ σ W1 H1 ρ1 ((evPs C ts ρ1).bind fun ds ρ => finS ρ (meD m (.str s) ds)) _ := h
    have tv := (pv.top S1)
    obtain ⟨rfl, _⟩ := top_str tv
    refine ⟨rfl, W1, ρ1, S1, ?_⟩
    refine (Ot.bind (mu1 := fun j => mutsL j ts) (mu2 := fun j => mutsL j ts) h (fun _ z => z) fun _ z => z).imp fun ds ρ2 W2 H2 S2 F2 h vs rs => ?_
    obtain ⟨d, e, h⟩ := Ot.finS h
    exact ⟨W2, s, ds, d, (pv.keep S1 F2 hp).top S2, rs, e, fun z H' ex r => h W2 H' (S2.ext' ex) (Frm.ext ex (fun _ w => .inl w) fun _ w => w) z (RR.rep r)⟩
  | _ =>
    exfalso
    rw [q] at h
    exact Ot.st h
/-! ### list(range(..)), tuple(range(..)) -/
theorem rng_reps {W : Addr → Prop} {H : Hp} (lo hi : Int) : Reps G W H (rngL lo hi 1) (rgV lo hi) := by
  have h : ∀ (n : Nat) (i : Int), Reps G W H (rngG 1 n i) ((List.range n).map fun k => V.int (i + (k : Nat))) := by
    intro n
    induction n with
    | zero => intro i; exact Reps.nil
    | succ n ih =>
      intro i
      rw [List.range_succ_eq_map, List.map_cons, List.map_map]
      refine Reps.cons (by simp only [Rep]; congr 1; omega) ?_
      have := ih (i + 1)
      have e : ((List.range n).map fun k => V.int (i + 1 + (k : Nat))) = (List.range n).map ((fun k : Nat => V.int (i + (k : Nat))) ∘ Nat.succ) := by
        apply List.map_congr_left
        intro k _
        show V.int _ = V.int _
        congr 1
        have : ((Nat.succ k : Nat) : Int) = (k : Int) + 1 := by omega
        rw [this]; omega
      rw [e] at this
      exact this
  unfold rngL rgV
  rw [rngN_one]
  exact h _ lo
theorem lrgV_ok {tp : Bool} {x y d : D} (h : lrgV tp x y = some d) : ∃ a b, x = .int a ∧ y = .int b ∧ RgOk a b ∧ d = (if tp then .tup (rngL a b 1) else .lst (rngL a b 1)) := by
  unfold lrgV at h
  split at h
  · rename_i a b
    split at h
    · rename_i hc
      cases h
      simp only [smallI_iff, Bool.and_eq_true, decide_eq_true_eq, lenOk, Nat.ble_eq, rngN_one, sz] at hc
      exact ⟨a, b, rfl, rfl, ⟨by omega, by omega, by omega, by omega, by have := hc.2; omega⟩, rfl⟩
    · cases h
  · cases h
theorem lrg_fin {tp : Bool} {lo hi : Int} {σ : St} {W : Addr → Prop} {H Hs : Hp} {ρ : Env} {mu : Nat → Bool} {Q : VK} {p : Addr} (S : SI A W H σ ρ) (hp : H p = none) (hb : ∀ a o, Hs a = some o → ∃ o', H a = some o')
    (h : ∀ W' H', SI A W' H' σ ρ → Frm mu σ W H ρ W' H' ρ → ∀ v, RR A Hs W' H' σ ρ (isNew (if tp then D.tup (rngL lo hi 1) else D.lst (rngL lo hi 1)), if tp then D.tup (rngL lo hi 1) else D.lst (rngL lo hi 1)) v → Q v H') :
    Q (.ref p) (upd H p (if tp then .tup (rgV lo hi) else .lst (rgV lo hi))) := by
  have ex : Ext H (upd H p (if tp then .tup (rgV lo hi) else .lst (rgV lo hi))) := Ext.new hp
  have nw : NewR A.g W H (upd H p (if tp then .tup (rgV lo hi) else .lst (rgV lo hi))) (if tp then D.tup (rngL lo hi 1) else D.lst (rngL lo hi 1)) (.ref p) := by
    cases tp with
    | true => exact NewR.tup hp S.wt (rng_reps lo hi)
    | false => exact NewR.lst hp (rng_reps lo hi)
  obtain ⟨W', S', F', r⟩ := nw.rr (mu := mu) S ex
  exact h W' _ S' F' _ (r.back hb)
theorem pe_lrg1E {p q cpos : Pos} {tp : Bool} {x : PySem.Str} (hx : x = if tp then "tuple" else "list") (hc : X.calm = true) (hg : Gl X x) (hm : X.mg x = none) (hg2 : Gl X "range") (hm2 : X.mg "range" = none) (ha : PE X a (tE A xw C t)) (hs : starEach [a] X.env = (false, eval a X.env) :: starEach [] X.env) :
    PE X (.Call (.Name x p) [.Call (.Name "range" q) [a] [] pos] [] cpos) (tE A xw C (.lrg1 tp t)) := by
  have rd : ∀ σ H Q, tE A xw C (.lrg1 tp t) σ H Q → tRg1 (tE A xw C t) σ H fun lo hi H1 => RgOk lo hi ∧ ∀ q, H1 q = none → Q (.ref q) (upd H1 q (if tp then .tup (rgV lo hi) else .lst (rgV lo hi))) := by
    intro σ H Q ⟨W, ρ, S, h⟩
    refine ⟨W, ρ, S, Ot.shr S ?_⟩
    have h : Ot A xw _ σ W H ρ ((evE C t ρ).bind fun x ρ => fin ρ (lrgV tp (.int 0) x.2)) _ := h
    refine (Ot.bind (mu1 := fun j => muts j t) (mu2 := fun j => muts j t) h (fun _ z => z) fun _ z => z).imp fun x ρ1 W1 H1 S1 F1 h v r => ?_
    obtain ⟨d, e, h⟩ := Ot.fin h
    obtain ⟨lo, hi, e1, e2, ok, rfl⟩ := lrgV_ok e
    cases e1
    rw [e2] at r
    obtain rfl := rep_int r
    exact ⟨hi, rfl, ok, fun p hp => lrg_fin S1 hp F1.so h⟩
  cases tp with
  | true =>
    subst hx
    exact (pe_tupRg hc hg hm (prg_1 hg2 hm2 ha hs) (by rfl)).imp fun σ H Q h => rd σ H Q h
  | false =>
    subst hx
    exact (pe_listRg hc hg hm (prg_1 hg2 hm2 ha hs) (by rfl)).imp fun σ H Q h => rd σ H Q h
theorem pe_lrg2E {p q : Pos} {tp : Bool} {x : PySem.Str} {d : Expr} {cpos : Pos} (hx : x = if tp then "tuple" else "list") (hc : X.calm = true) (hg : Gl X x) (hm : X.mg x = none) (hg2 : Gl X "range") (hm2 : X.mg "range" = none) (ha : PE X a (tE A xw C t)) (hd : PE X d (tE A xw C u))
    (hs : starEach [a, d] X.env = (false, eval a X.env) :: starEach [d] X.env) (hs2 : starEach [d] X.env = (false, eval d X.env) :: starEach [] X.env) (hpl : (backTo pos (starEach [d] X.env)).any (·.1) = false) :
    PE X (.Call (.Name x p) [.Call (.Name "range" q) [a, d] [] pos] [] cpos) (tE A xw C (.lrg2 tp t u)) := by
  have rd : ∀ σ H Q, tE A xw C (.lrg2 tp t u) σ H Q → tRg2 (tE A xw C t) (tE A xw C u) σ H fun lo hi H1 => RgOk lo hi ∧ ∀ q, H1 q = none → Q (.ref q) (upd H1 q (if tp then .tup (rgV lo hi) else .lst (rgV lo hi))) := by
    intro σ H Q ⟨W, ρ, S, h⟩
    refine ⟨W, ρ, S, Ot.shr S ?_⟩
    have h : Ot A xw _ σ W H ρ ((evE C t ρ).bind fun x ρ => (evE C u ρ).bind fun y ρ => fin ρ (lrgV tp x.2 y.2)) _ := h
    refine (Ot.bind (mu1 := fun j => muts j t) (mu2 := fun j => muts j u) h or1 or2).imp fun x ρ1 W1 H1 S1 F1 h v r => ⟨W1, ρ1, S1, Ot.shr S1 ?_⟩
    refine (Ot.bind (mu1 := fun j => muts j u) (mu2 := fun j => muts j u) h (fun _ z => z) fun _ z => z).imp fun y ρ2 W2 H2 S2 F2 h w r2 => ?_
    obtain ⟨dd, e, h⟩ := Ot.fin h
    obtain ⟨lo, hi, e1, e2, ok, rfl⟩ := lrgV_ok e
    rw [e1] at r
    rw [e2] at r2
    obtain rfl := rep_int r
    obtain rfl := rep_int r2
    exact ⟨lo, hi, rfl, rfl, ok, fun p hp => lrg_fin S2 hp (fun a o q => by obtain ⟨o1, q1⟩ := F1.so a o q; exact F2.so a o1 q1) h⟩
  cases tp with
  | true =>
    subst hx
    exact (pe_tupRg hc hg hm (prg_2 hg2 hm2 ha hd hs hs2 hpl) (by rfl)).imp fun σ H Q h => rd σ H Q h
  | false =>
    subst hx
    exact (pe_listRg hc hg hm (prg_2 hg2 hm2 ha hd hs hs2 hpl) (by rfl)).imp fun σ H Q h => rd σ H Q h
end
end Py

namespace Py
open PySem PySem.Spec PyProof.Rows L2
section
variable {X : Cx} {A : Ax} {xw : XW} {C : Cl} {e a b o : Expr} {t u : E} {pos : Pos} {G : Kx}
/-! ### list and tuple of a range downwards -/
def PRgD (X : Cx) (e : Expr) (t : L2.St → Hp → (Int → Int → Hp → Prop) → Prop) : Prop :=
  ∀ (pins : List (Addr × Obj)) (s : Shared) (σ : L2.St) (H : Hp) (Q : Int → Int → Hp → Prop), L2.Inv X pins σ H s → t σ H Q →
    wpAny (model X.prog X.w) X.A (eval e X.env) (fun x s' => ∃ r i j t1 t2 t3 H', x = .ref r ∧ IsRange s'.heap r i j (-1) t1 t2 t3 ∧ L2.Inv X pins σ H' s' ∧ Q i j H') X.xe s
def tRgD (ta : L2.TA) : L2.St → Hp → (Int → Int → Hp → Prop) → Prop := fun σ H Q => ta σ H fun vs H1 => ∃ i j : Int, vs = [.int i, .int j, .int (-1)] ∧ Q i j H1
theorem prg_D {p qos : Pos} {d f g : Expr} {ta : L2.TA} (hg : Gl X "range") (hm : X.mg "range" = none) (ha : PA X [d, f, g] ta)
    (h1 : starEach [d, f, g] X.env = (false, eval d X.env) :: starEach [f, g] X.env) (h2 : (backTo qos (starEach [f, g] X.env)).any (·.1) = false) : PRgD X (.Call (.Name "range" p) [d, f, g] [] qos) (tRgD ta) := by
  intro pins s σ H Q I h
  refine Call_ (ld_blt I hg hm boot_range (PyProof.Rows.callWith_type1 (thn (ha.run qos pins s σ H _ I h) fun us s1 ⟨vs, H1, I1, r1, i, j, ex, q⟩ => ?_) h1 h2))
  subst ex
  cases r1 with
  | cons r rr =>
    cases rr with
    | cons r' rr =>
      cases rr with
      | cons r'' rr =>
        cases rr
        obtain ⟨t1, rfl⟩ := r
        obtain ⟨t2, rfl⟩ := r'
        obtain ⟨t3, rfl⟩ := r''
        exact call_range_3 (by decide) ⟨_, i, j, _, _, _, H1, rfl, IsRange.new _ _ _ _ _ _ _, I1.kept (t' := s1.toks) fun b o z => Heap.get?_push_of_some _ z, q⟩ (.inl (PyProof.noPylong_small (by decide)))
def rgD (i j : Int) : List V := (List.range (i - j).toNat).map fun k => V.int (i + (k : Nat) * (-1))
theorem rgD_length (i j : Int) : (rgD i j).length = (i - j).toNat := by unfold rgD; rw [List.length_map, List.length_range]
theorem vals_rgD {i j : Int} {acc : Array Value} (h : ItemsOf (fun k v => ∃ t, v = .int (i + k * (-1)) t) acc (i - j).toNat) : Vals (rgD i j) acc.toList := by
  have hl : acc.toList.length = (i - j).toNat := by rw [Array.length_toList]; exact h.1
  have g := vals_of_get acc.toList (fun k => V.int (i + (k : Nat) * (-1))) fun k u hk => by
    obtain ⟨t, rfl⟩ := h.2 k u (by rw [← hk, Array.getElem?_toList])
    exact ⟨t, rfl⟩
  rw [hl] at g
  exact g
def tRgDN (tp : Bool) (te : L2.St → Hp → (Int → Int → Hp → Prop) → Prop) : TE := fun σ H Q => te σ H fun i j H1 => (-4611686018427387904 ≤ i ∧ i < 4611686018427387904 ∧ -4611686018427387904 ≤ j ∧ j < 4611686018427387904 ∧ (i - j).toNat ≤ 16777216) ∧ ∀ q, H1 q = none → Q (.ref q) (upd H1 q (if tp then .tup (rgD i j) else .lst (rgD i j)))
theorem pe_rgDT {p qos : Pos} {e : Expr} {te : L2.St → Hp → (Int → Int → Hp → Prop) → Prop} (hc : X.calm = true) (hg : Gl X "tuple") (hm : X.mg "tuple" = none) (he : PRgD X e te) (na : starEach [e] X.env = (false, eval e X.env) :: starEach [] X.env) : PE X (.Call (.Name "tuple" p) [e] [] qos) (tRgDN true te) := by
  refine ⟨fun pins s σ H Q I h => Call_ (ld_blt I hg hm boot_tuple (PyProof.Rows.callWith_type1 (args_cons (thn (he pins s σ H _ I h) fun x s1 ⟨r, i, j, t1, t2, t3, H1, ex, hr, I1, ⟨b1, b2, b3, b4, b5⟩, q⟩ => args_nil ?_) na) na))⟩
  subst ex
  refine call_tuple_range (n := (i - j).toNat) (I1.ok.hd hc) hr (PySem.W.small_down (by omega) (by omega) (by omega) (by omega)) (PySem.W.rangeSize_downNat i j) (by omega) fun h' tk acc hk hi => ?_
  have J : L2.Inv X pins σ H1 { s1 with heap := h', toks := tk } := I1.kept hk
  refine ⟨.ref h'.objs.size, upd H1 h'.objs.size (.tup (rgD i j)), J.laid (t' := tk) (fun c o z => Heap.get?_push_of_some _ z) (Nat.le_refl _) (show ObjOk X.prog X.w _ _ _ (.tup (rgD i j)) from ⟨?_, acc.toList, vals_rgD hi, ?_⟩), rfl, q _ (J.hok.fresh (Nat.le_refl _))⟩
  · rw [rgD_length, sizeLine_eq]; omega
  · rw [Array.toArray_toList]; exact IsTup.new _ _
theorem pe_rgDL {p qos : Pos} {e : Expr} {te : L2.St → Hp → (Int → Int → Hp → Prop) → Prop} (hc : X.calm = true) (hg : Gl X "list") (hm : X.mg "list" = none) (he : PRgD X e te) (na : starEach [e] X.env = (false, eval e X.env) :: starEach [] X.env) : PE X (.Call (.Name "list" p) [e] [] qos) (tRgDN false te) := by
  refine ⟨fun pins s σ H Q I h => Call_ (ld_blt I hg hm boot_list (PyProof.Rows.callWith_type1 (args_cons (thn (he pins s σ H _ I h) fun x s1 ⟨r, i, j, t1, t2, t3, H1, ex, hr, I1, ⟨b1, b2, b3, b4, b5⟩, q⟩ => args_nil ?_) na) na))⟩
  subst ex
  refine call_list_range (n := (i - j).toNat) (I1.ok.hd hc) hr (PySem.W.small_down (by omega) (by omega) (by omega) (by omega)) (PySem.W.rangeSize_downNat i j) (by omega) fun h' tk acc c' hk ho hi => ?_
  refine ⟨.ref s1.heap.objs.size, upd H1 s1.heap.objs.size (.lst (rgD i j)), I1.laid hk (Nat.le_refl _) (show ObjOk X.prog X.w _ _ _ (.lst (rgD i j)) from ⟨?_, acc.toList, c', vals_rgD hi, ?_⟩), rfl, q _ (I1.hok.fresh (Nat.le_refl _))⟩
  · rw [rgD_length, sizeLine_eq]; omega
  · rw [Array.toArray_toList]; exact ho
theorem rgD_reps {W : Addr → Prop} {H : Hp} (lo hi : Int) : Reps G W H (rngL lo hi (-1)) (rgD lo hi) := by
  have h : ∀ (n k : Nat), Reps G W H (rngG (-1) n (lo + (k : Nat) * (-1))) ((List.range' k n).map fun j => V.int (lo + (j : Nat) * (-1))) := by
    intro n
    induction n with
    | zero => intro k; exact Reps.nil
    | succ n ih =>
      intro k
      simp only [rngG, List.range'_succ, List.map_cons]
      have := ih (k + 1)
      rw [show lo + ((k + 1 : Nat) : Int) * (-1) = lo + (k : Int) * (-1) + (-1) by omega] at this
      exact Reps.cons (by simp only [Rep]) this
  have g := h (lo - hi).toNat 0
  unfold rngL rgD
  rw [rngN_down, List.range_eq_range']
  simpa using g
theorem lrgV3_ok {tp : Bool} {x y z d : D} (h : lrgV3 tp x y z = some d) : ∃ a b, x = .int a ∧ y = .int b ∧ z = .int (-1) ∧ (-4611686018427387904 ≤ a ∧ a < 4611686018427387904 ∧ -4611686018427387904 ≤ b ∧ b < 4611686018427387904 ∧ (a - b).toNat ≤ 16777216) ∧ d = (if tp then .tup (rngL a b (-1)) else .lst (rngL a b (-1))) := by
  unfold lrgV3 at h
  split at h
  · split at h
    · rename_i a b c hb
      simp only [smallI_iff, Bool.and_eq_true, beq_iff_eq, lenOk, Nat.ble_eq, rngN_down, sz] at hb
      obtain ⟨⟨⟨h1, h2⟩, rfl⟩, h3⟩ := hb
      cases h
      exact ⟨a, b, rfl, rfl, rfl, by omega, rfl⟩
    · cases h
  · cases h
theorem lrgD_fin {tp : Bool} {lo hi : Int} {σ : St} {W : Addr → Prop} {H Hs : Hp} {ρ : Env} {mu : Nat → Bool} {Q : VK} {p : Addr} (S : SI A W H σ ρ) (hp : H p = none) (hb : ∀ a o, Hs a = some o → ∃ o', H a = some o')
    (h : ∀ W' H', SI A W' H' σ ρ → Frm mu σ W H ρ W' H' ρ → ∀ v, RR A Hs W' H' σ ρ (isNew (if tp then D.tup (rngL lo hi (-1)) else D.lst (rngL lo hi (-1))), if tp then D.tup (rngL lo hi (-1)) else D.lst (rngL lo hi (-1))) v → Q v H') :
    Q (.ref p) (upd H p (if tp then .tup (rgD lo hi) else .lst (rgD lo hi))) := by
  have ex := Ext.new (o := if tp then .tup (rgD lo hi) else .lst (rgD lo hi)) hp
  have nw : NewR A.g W H (upd H p (if tp then .tup (rgD lo hi) else .lst (rgD lo hi))) (if tp then D.tup (rngL lo hi (-1)) else D.lst (rngL lo hi (-1))) (.ref p) := by
    cases tp with
    | true => exact NewR.tup hp S.wt (rgD_reps lo hi)
    | false => exact NewR.lst hp (rgD_reps lo hi)
  obtain ⟨W', S', F', r⟩ := nw.rr (mu := mu) S ex
  exact h W' _ S' F' _ (r.back hb)
theorem pe_lrg3E {p q : Pos} {tp : Bool} {x : PySem.Str} {d f : Expr} {v : E} {cpos : Pos} (hx : x = if tp then "tuple" else "list") (hc : X.calm = true) (hg : Gl X x) (hm : X.mg x = none) (hg2 : Gl X "range") (hm2 : X.mg "range" = none) (ha : PE X a (tE A xw C t)) (hd : PE X d (tE A xw C u)) (hf : PE X f (tE A xw C v))
    (hs1 : starEach [a, d, f] X.env = (false, eval a X.env) :: starEach [d, f] X.env) (hs2 : starEach [d, f] X.env = (false, eval d X.env) :: starEach [f] X.env) (hs3 : starEach [f] X.env = (false, eval f X.env) :: starEach [] X.env) (hpl : (backTo pos (starEach [d, f] X.env)).any (·.1) = false) :
    PE X (.Call (.Name x p) [.Call (.Name "range" q) [a, d, f] [] pos] [] cpos) (tE A xw C (.lrg3 tp t u v)) := by
  have pr := prg_D (p := q) (qos := pos) hg2 hm2 (pa_cons ha (pa_cons hd (pa_cons hf pa_nil hs3) hs2) hs1) hs1 hpl
  cases tp with
  | true =>
    subst hx
    refine (pe_rgDT hc hg hm pr (by rfl)).imp fun σ H Q ⟨W, ρ, S, h⟩ => ⟨W, ρ, S, Ot.shr S ?_⟩
    have h : Ot A xw _ σ W H ρ ((evE C t ρ).bind fun x ρ => (evE C u ρ).bind fun y ρ => (evE C v ρ).bind fun z ρ => fin ρ (lrgV3 true x.2 y.2 z.2)) _ := h
    refine (Ot.bind (mu1 := fun j => muts j t) (mu2 := fun j => muts j u || muts j v) h or31 or3b).imp fun x ρ1 W1 H1 S1 F1 h w r => ⟨W1, ρ1, S1, Ot.shr S1 ?_⟩
    refine (Ot.bind (mu1 := fun j => muts j u) (mu2 := fun j => muts j v) h or1 or2).imp fun y ρ2 W2 H2 S2 F2 h w' r2 => ⟨W2, ρ2, S2, Ot.shr S2 ?_⟩
    refine (Ot.bind (mu1 := fun j => muts j v) (mu2 := fun j => muts j v) h (fun _ z => z) fun _ z => z).imp fun z ρ3 W3 H3 S3 F3 h w'' r3 => ?_
    obtain ⟨dd, e, h⟩ := Ot.fin h
    obtain ⟨lo, hi, e1, e2, e3, ok, rfl⟩ := lrgV3_ok e
    rw [e1] at r; rw [e2] at r2; rw [e3] at r3
    obtain rfl := rep_int r
    obtain rfl := rep_int r2
    obtain rfl := rep_int r3
    exact ⟨lo, hi, rfl, ok, fun p hp => lrgD_fin (tp := true) S3 hp (fun a o q => by obtain ⟨o1, q1⟩ := F1.so a o q; obtain ⟨o2, q2⟩ := F2.so a o1 q1; exact F3.so a o2 q2) h⟩
  | false =>
    subst hx
    refine (pe_rgDL hc hg hm pr (by rfl)).imp fun σ H Q ⟨W, ρ, S, h⟩ => ⟨W, ρ, S, Ot.shr S ?_⟩
    have h : Ot A xw _ σ W H ρ ((evE C t ρ).bind fun x ρ => (evE C u ρ).bind fun y ρ => (evE C v ρ).bind fun z ρ => fin ρ (lrgV3 false x.2 y.2 z.2)) _ := h
    refine (Ot.bind (mu1 := fun j => muts j t) (mu2 := fun j => muts j u || muts j v) h or31 or3b).imp fun x ρ1 W1 H1 S1 F1 h w r => ⟨W1, ρ1, S1, Ot.shr S1 ?_⟩
    refine (Ot.bind (mu1 := fun j => muts j u) (mu2 := fun j => muts j v) h or1 or2).imp fun y ρ2 W2 H2 S2 F2 h w' r2 => ⟨W2, ρ2, S2, Ot.shr S2 ?_⟩
    refine (Ot.bind (mu1 := fun j => muts j v) (mu2 := fun j => muts j v) h (fun _ z => z) fun _ z => z).imp fun z ρ3 W3 H3 S3 F3 h w'' r3 => ?_
    obtain ⟨dd, e, h⟩ := Ot.fin h
    obtain ⟨lo, hi, e1, e2, e3, ok, rfl⟩ := lrgV3_ok e
    rw [e1] at r; rw [e2] at r2; rw [e3] at r3
    obtain rfl := rep_int r
    obtain rfl := rep_int r2
    obtain rfl := rep_int r3
    exact ⟨lo, hi, rfl, ok, fun p hp => lrgD_fin (tp := false) S3 hp (fun a o q => by obtain ⟨o1, q1⟩ := F1.so a o q; obtain ⟨o2, q2⟩ := F2.so a o1 q1; exact F3.so a o2 q2) h⟩
end
end Py

/-! The translation of the program's text into the small syntax. -/
namespace Py
open PySem PySem.Spec PyProof.Rows
/-- what a global name is -/
inductive Gv where
  | df (f : Nat) (io : Bool) (np : Nat) | cst (d : D) | bi
structure Sc where
  N : List Str
  sc : Scope
  gm : Str → Option Gv
  cell : Str → Bool
def slot : List Str → Str → Option Nat
  | [], _ => none
  | y :: l, x => if y = x then some 0 else (slot l x).map (· + 1)
def visB (sc : Scope) (x : Str) : Bool := match sc.names.lookup x with
  | some .local => true | some .cell => true | some .free => true | _ => false
def glB (sc : Scope) (x : Str) : Bool := match sc.names.lookup x with
  | some .globalImplicit => true | _ => false
def stB (c : Sc) (x : Str) : Bool := match c.sc.names.lookup x with
  | some .local => true | some .cell => c.cell x | _ => false
def noE : E := .popD 0 .nil .nil
def noT : T := .tru noE
def noS : S := .exp noE
def nst : Expr → Bool
  | .Starred .. => false | _ => true
def nset : Expr → Bool
  | .Set .. => false | _ => true
def okSB (s : List Nat) : Bool := Nat.ble s.length 100000 && s.all fun c => Nat.blt c 1114112
def opOf : Operator → Option Op
  | .Add => some .add | .Sub => some .sub | .Mult => some .mul | .FloorDiv => some .fdiv | .Mod => some .mod | .Pow => some .pow | _ => none
def cmOf : CmpOp → Option Cm
  | .Eq => some .eq | .NotEq => some .ne | .Lt => some .lt | .LtE => some .le | .Gt => some .gt | .GtE => some .ge | .Is => some .is_ | .IsNot => some .isnot | .In => some .isin | .NotIn => some .notin
def biNm (x : Str) : Option Bi :=
  if x = "len" then some .len else if x = "abs" then some .abs else if x = "int" then some .int else if x = "bool" then some .bool else if x = "str" then some .str else if x = "max" then some .max
  else if x = "min" then some .min else if x = "sum" then some .sum else if x = "all" then some .all else if x = "any" then some .any else if x = "sorted" then some .sorted else if x = "list" then some .list else if x = "tuple" then some .tuple else none
def tyNmS (x : Str) : Option Ty :=
  if x = "int" then some .int else if x = "str" then some .str else if x = "bool" then some .bool else if x = "tuple" then some .tuple else if x = "list" then some .list else if x = "dict" then some .dict else none
def spec (x : Str) : Bool := decide (x = "__debug__") || decide (x = "__classdict__") || decide (x = "__name__")
def isBi (c : Sc) (x : Str) : Bool := glB c.sc x && (match c.gm x with | some .bi => true | _ => false) && !spec x
def trName (c : Sc) (x : Str) : E := if spec x then noE else match (if visB c.sc x then slot c.N x else none) with
  | some i => .var i
  | none => if glB c.sc x then (match c.gm x with
    | some (.cst d) => .cst d
    | _ => noE) else noE
def plainT : Expr → Bool
  | .BoolOp .. => false | .UnaryOp .Not _ _ => false | .Compare .. => false | .IfExp .. => false | _ => true
def ifsT : List T → T
  | [] => .yes
  | [t] => t
  | _ => noT
def andE (a : E) : List E → E
  | [] => a
  | b :: l => .and a (andE b l)
def orE (a : E) : List E → E
  | [] => a
  | b :: l => .or a (orE b l)
def andT (a : T) : List T → T
  | [] => a
  | b :: l => .and a (andT b l)
def orT (a : T) : List T → T
  | [] => a
  | b :: l => .or a (orT b l)
def mkBin (op : Operator) (t u : E) : E := match opOf op with
  | some o => if pkOk t u then .bin o t u else noE
  | none => noE
def mkSlc (t l h : E) : E := if pkOk t l && pkOk t h then .slc t l h else noE
def mkCmp (op : CmpOp) (t u : E) (b : Expr) : E := match cmOf op with
  | some o => if pkOk t u && !behindInMarks op b then .cmp o t u else noE
  | none => noE
def mkCmp2 (op op' : CmpOp) (t u u' : E) (b c : Expr) : E := match cmOf op, cmOf op' with
  | some o, some o' => if pkOk t u && pkOk u u' && !lastMarks [op, op'] [b, c] then .cmp2 o o' t u u' else noE
  | _, _ => noE
def mkCmpT (op : CmpOp) (t u : E) (b : Expr) : T := match cmOf op with
  | some o => if pkOk t u && !behindInMarks op b then .cmp o t u else noT
  | none => noT
def mkCmp2T (op op' : CmpOp) (t u u' : E) (b c : Expr) : T := match cmOf op, cmOf op' with
  | some o, some o' => if pkOk t u && pkOk u u' && !lastMarks [op, op'] [b, c] then .cmp2 o o' t u u' else noT
  | _, _ => noT
def mkBi (c : Sc) (x : Str) (args : List Expr) (ts : List E) : E :=
  if x = "isinstance" then (match args, ts with
    | [_, .Name y _], [t, _] => (match tyNmS y with
      | some ty => if isBi c y then .isi t ty else noE
      | none => noE)
    | _, _ => noE)
  else match biNm x, args with
    | some b, _ :: _ => if pkOkL ts then .bi b ts else noE
    | _, _ => noE
def mkCall (c : Sc) (x : Str) (args : List Expr) (ts : List E) : E := if glB c.sc x && args.all nst && !spec x then (match c.gm x with
  | some (.df f false np) => if ts.length = np then .call f ts else noE
  | some (.df f true np) => (match args, ts with
    | .Name _ _ :: _, .var i :: ts' => if ts'.length + 1 = np then .calli f i ts' else noE
    | _, _ => noE)
  | some .bi => mkBi c x args ts
  | _ => noE) else noE
def meNm (m : Str) : Option Me := if m = "index" then some .index else if m = "join" then some .join else none
def abOk : Expr → Bool
  | .Call (.Name _ _) [] [] _ => false
  | _ => true
def mkMe (o : Expr) (m : Str) (apos cpos : Pos) (args : List Expr) (t : E) (ts : List E) : E := match meNm m, args with
  | some me, e :: es => if abOk o && (e :: es).all nst && decide (apos.endLine = cpos.line) && Nat.ble es.length 20 && pkOkL (t :: ts) then .me me t ts else noE
  | _, _ => noE
def mkLrg (c : Sc) (x y : Str) (args : List Expr) (ts : List E) (w : E) : E := if (decide (x = "tuple") || decide (x = "list")) && decide (y = "range") then
  (if isBi c x && isBi c y && args.all nst then (match ts with
    | [t] => .lrg1 (decide (x = "tuple")) t
    | [t, u] => .lrg2 (decide (x = "tuple")) t u
    | [t, u, v] => .lrg3 (decide (x = "tuple")) t u v
    | _ => noE) else noE) else w
mutual
def trG (c : Sc) : Nat → Expr → Option Pat
  | 0, _ => none
  | n + 1, .Name x _ => if stB c x then (slot c.N x).map .nm else none
  | n + 1, .Tuple es _ _ => if es.all nst then (trGs c n es).map .tp else none
  | _, _ => none
def trGs (c : Sc) : Nat → List Expr → Option (List Pat)
  | 0, _ => none
  | n + 1, [] => some []
  | n + 1, e :: es => match trG c n e, trGs c n es with
    | some p, some ps => some (p :: ps)
    | _, _ => none
end
def ownOf (N : List Str) (scope : Scope) : List (Str × Nat) := scope.names.filterMap fun y => match y.2 with
  | .local => (slot N y.1).map (y.1, ·)
  | .cell => (slot N y.1).map (y.1, ·)
  | _ => none
/-- a block's scope as it runs inside sc -/
def blkSc (c : Sc) (scope : Scope) : Sc := { c with sc := relabel scope { (default : PySem.Env) with scope := c.sc }, cell := fun x => scope.names.lookup x == some .cell }
def isTup : Expr → Bool
  | .Tuple .. => true | _ => false
def mkIt (c : Sc) (tg : Expr) (x : Str) (args : List Expr) (ts : List E) (w : E) : E := if isBi c x && args.all nst then
  (if x = "range" then (match ts with | [t] => .rng1 t | [t, u] => .rng2 t u | [t, u, v] => .rng3 t u v | _ => noE)
  else if x = "zip" then (match ts with | [t, u] => if isTup tg then .zip t u else noE | _ => noE)
  else if x = "enumerate" then (match ts with | [t] => if isTup tg then .enum t else noE | _ => noE)
  else w) else w
def mkComp (c : Sc) (scope : Scope) (p : Option Pat) (it : E) (t : T) (e : E) : E := match p with
  | some p => if L2.blkC c.N c.sc scope (ownOf c.N scope) && (pslots p).all (fun j => ((ownOf c.N scope).map (·.2)).contains j) then .comp ((ownOf c.N scope).map (·.2)) p it t e else noE
  | none => noE
mutual
def trE : Nat → Sc → Expr → E
  | 0, _, _ => noE
  | n + 1, c, e => match e with
    | .Constant k _ _ => (match k with
      | .none => .cst .non
      | .bool b => .cst (.bl b)
      | .int i => .cst (.int i)
      | .str s => if okSB s.cps.toList then .cst (.str s.cps.toList) else noE
      | _ => noE)
    | .Name x _ => trName c x
    | .BinOp a op b _ => mkBin op (trE n c a) (trE n c b)
    | .UnaryOp .USub (.Constant (.int i) _ _) _ => .cst (.int (-i))
    | .UnaryOp .USub a _ => .neg (trE n c a)
    | .UnaryOp .Not a _ => .not (trE n c a)
    | .Compare a [op] [b] _ => mkCmp op (trE n c a) (trE n c b) b
    | .Compare a [op, op'] [b, d] _ => mkCmp2 op op' (trE n c a) (trE n c b) (trE n c d) b d
    | .BoolOp .And (a :: b :: l) _ => andE (trE n c a) ((b :: l).map (trE n c))
    | .BoolOp .Or (a :: b :: l) _ => orE (trE n c a) ((b :: l).map (trE n c))
    | .IfExp t a b _ => .ite (trT n c t) (trE n c a) (trE n c b)
    | .List l _ => if l.all nst && Nat.ble l.length 1000 then .lst (l.map (trE n c)) else noE
    | .Tuple l _ _ => if l.all nst && Nat.ble l.length 1000 then .tup (l.map (trE n c)) else noE
    | .Subscript a (.Slice lo hi none _) _ => mkSlc (trE n c a) (match lo with | none => .nil | some e => trE n c e) (match hi with | none => .nil | some e => trE n c e)
    | .Subscript a (.Slice none none (some (.UnaryOp .USub (.Constant (.int 1) _ _) _)) _) _ => .rev (trE n c a)
    | .Subscript _ (.Slice _ _ (some _) _) _ => noE
    | .Subscript a i _ => if pkOk (trE n c a) (trE n c i) then .idx (trE n c a) (trE n c i) else noE
    | .Call (.Name x _) [.Call (.Name y p) args [] q] [] _ => mkLrg c x y args (args.map (trE n c)) (mkCall c x [.Call (.Name y p) args [] q] ([Expr.Call (.Name y p) args [] q].map (trE n c)))
    | .Call (.Name x _) args [] _ => mkCall c x args (args.map (trE n c))
    | .Call (.Attribute o m apos) args [] cpos => mkMe o m apos cpos args (trE n c o) (args.map (trE n c))
    | .ListComp elt [⟨tg, iter, ifs, 0⟩] scope _ => if nset iter then mkComp c scope (trG (blkSc c scope) 10 tg) (trI n c tg iter) (ifsT (ifs.map (trT n (blkSc c scope)))) (trE n (blkSc c scope) elt) else noE
    | _ => noE
def trT : Nat → Sc → Expr → T
  | 0, _, _ => noT
  | n + 1, c, e => match e with
    | .BoolOp .And (a :: l) _ => andT (trT n c a) (l.map (trT n c))
    | .BoolOp .Or (a :: l) _ => orT (trT n c a) (l.map (trT n c))
    | .UnaryOp .Not a _ => .not (trT n c a)
    | .Compare a [op] [b] _ => mkCmpT op (trE n c a) (trE n c b) b
    | .Compare a [op, op'] [b, d] _ => mkCmp2T op op' (trE n c a) (trE n c b) (trE n c d) b d
    | e => if plainT e then .tru (trE n c e) else noT
def trI : Nat → Sc → Expr → Expr → E
  | 0, _, _, _ => noE
  | n + 1, c, tg, e => match e with
    | .Call (.Name x p) args [] q => mkIt c tg x args (args.map (trE n c)) (trE n c (.Call (.Name x p) args [] q))
    | e => trE n c e
end
/-! ### statements -/
def runP {α : Type} : Sem α → Option α
  | .pure a => some a
  | _ => none
def denv (c : Sc) : PySem.Env := { (default : PySem.Env) with scope := c.sc }
def swapB (c : Sc) (tgs : List Expr) (v : Expr) (line : Nat) : Option Bool := runP (swapsWithSole tgs v line (denv c))
def storeB (c : Sc) (tgs : List Expr) (v : Expr) : Option (Option (List Str)) := runP (swappedStores tgs v (denv c))
def namesOf : List Expr → Option (List Str)
  | [] => some []
  | .Name x _ :: l => (namesOf l).map (x :: ·)
  | _ => none
def slotsOf (c : Sc) : List Str → Option (List Nat)
  | [] => some []
  | x :: l => match (if stB c x then slot c.N x else none), slotsOf c l with
    | some i, some is => some (i :: is)
    | _, _ => none
def isLoc (c : Sc) (x : Str) : Bool := match c.sc.names.lookup x with | some .local => true | _ => false
def nodupN : List Nat → Bool
  | [] => true
  | i :: l => !l.contains i && nodupN l
def nslc : Expr → Bool
  | .Slice .. => false | _ => true
def mkPut (c : Sc) (y : Str) (py : Pos) (k : Expr) (p2 : Pos) (e : Expr) (pos : Pos) (tk te : E) : S := if !spec y && visB c.sc y && nslc k then (match slot c.N y, swapB c [.Subscript (.Name y py) k p2] e pos.line, storeB c [.Subscript (.Name y py) k p2] e with
  | some i, some false, some none => .put i tk te
  | _, _, _ => noS) else noS
def wOk (c : Sc) (w : Option (List Str)) (xs : List Str) (is : List Nat) : Bool := match w with
  | none => true
  | some ys => decide (ys = xs) && xs.all (isLoc c) && nodupN is && (decide (xs.length = 2) || decide (xs.length = 3))
def mkSetP (c : Sc) (tgs : List Expr) (k : Nat) (p1 : Pos) (es : List Expr) (k2 : Nat) (p2 pos : Pos) (ts : List E) : S := match swapB c [.Tuple tgs k p1] (.Tuple es k2 p2) pos.line, storeB c [.Tuple tgs k p1] (.Tuple es k2 p2), namesOf tgs with
  | some false, some w, some xs => (match slotsOf c xs with
    | some is => if es.all nst && decide (es.length = xs.length) && Nat.ble es.length 1000 && wOk c w xs is then .setP is ts else noS
    | none => noS)
  | _, _, _ => noS
mutual
def trS : Nat → Sc → Stmt → S
  | 0, _, _ => noS
  | n + 1, c, s => match s with
    | .Pass _ => .pass
    | .Break _ => .brk
    | .Continue _ => .cnt
    | .Return none _ => .ret (.cst .non)
    | .Return (some e) _ => .ret (trE 40 c e)
    | .If t a b _ => .ife (trT 40 c t) (trSs n c a) (trSs n c b)
    | .While t b [] _ => .whl (trT 40 c t) (trSs n c b)
    | .For tg it b [] _ => (match trG c 10 tg with
      | some p => if nset it then .fors p (trI 40 c tg it) (trSs n c b) else noS
      | none => noS)
    | .Expr (.Call (.Attribute (.Name y _) m apos) [e] [] cpos) _ => if decide (m = "append") && nst e && decide (apos.endLine = cpos.line) && !spec y && visB c.sc y then (match slot c.N y with
      | some i => .app i (trE 40 c e)
      | none => noS) else noS
    | .Expr e pos => (match e with
      | .Call (.Name _ _) _ [] _ => .exp (trE 40 c e)
      | _ => noS)
    | .Assign [.Name x px] e pos => if stB c x then (match slot c.N x, swapB c [.Name x px] e pos.line with
      | some i, some false => .set i (trE 40 c e)
      | some i, some true => (match e with
        | .ListComp _ [⟨_, _, _, 0⟩] _ _ => if isLoc c x then .set i (trE 40 c e) else noS
        | _ => noS)
      | _, _ => noS) else noS
    | .Assign [.Subscript (.Name y py) k p2] e pos => mkPut c y py k p2 e pos (trE 40 c k) (trE 40 c e)
    | .Assign [.Tuple tgs k p1] (.Tuple es k2 p2) pos => mkSetP c tgs k p1 es k2 p2 pos (es.map (trE 40 c))
    | .Assign [.Tuple tgs k p1] e pos => (match swapB c [.Tuple tgs k p1] e pos.line, storeB c [.Tuple tgs k p1] e, trG c 10 (.Tuple tgs k p1) with
      | some false, some none, some p => .unp p (trE 40 c e)
      | _, _, _ => noS)
    | _ => noS
def trSs : Nat → Sc → List Stmt → List S
  | 0, _, _ => [noS]
  | n + 1, c, [] => []
  | n + 1, c, s :: l => trS n c s :: trSs n c l
end
end Py

/-! The translation is sound: expressions. -/
namespace Py
open PySem PySem.Spec PyProof.Rows L2
/-- what a global name stands for -/
def GvOk (X : Cx) (A : Ax) (C : Cl) (x : Str) : Gv → Prop
  | .df f io np => ∃ k fa fd ps, FnOk X.prog X.w X.K X.mg X.base (L2.CX X.prog X.w) k fa fd ps (spF A.g (C.run f) io np) ∧ Room k X.A ∧ X.mg x = some (.ref fa) ∧ PySem.W.keepIn X.K (.ref fa) = true ∧ Binds X.K fd ps [] ∧ (io = false → ∀ ds fr d o, C.run f ds = .ok fr d o → o = none)
  | .cst d => ∃ v u, X.mg x = some u ∧ RelV v u ∧ ∀ W H, Rep A.g W H d v
  | .bi => X.mg x = none
structure Gd (c : Sc) (X : Cx) (A : Ax) (xw : XW) (C : Cl) : Prop where
  hN : X.N = c.N
  nd : c.N.Nodup
  sc : X.env.scope = c.sc
  fk : c.sc.kind = .function
  calm : X.calm = true
  hK : A.g.K = X.K
  po : PassesOwn (model X.prog X.w) X.A X.env X.xe
  fn : ∀ x, c.cell x = true → X.fn x = true
  gv : ∀ x g, c.gm x = some g → GvOk X A C x g
  tk : Takes X (wx A xw)
  hu : X.A.units + 65 < cLine
theorem slot_get : ∀ {N : List Str} {x : Str} {i : Nat}, slot N x = some i → N[i]? = some x
  | [], x, i, h => by simp [slot] at h
  | y :: l, x, i, h => by
    unfold slot at h
    split at h
    · rename_i e; cases h; simp [e]
    · cases q : slot l x with
      | none => rw [q] at h; cases h
      | some j => rw [q] at h; cases h; simpa using slot_get q
section
variable {X : Cx} {A : Ax} {xw : XW} {C : Cl} {e a b : Expr} {t u : E} {pos : Pos} {c : Sc}
theorem Gd.vis (g : Gd c X A xw C) {x : Str} (h : visB c.sc x = true) : Vis X.env.scope x := by
  unfold visB at h
  unfold Vis
  rw [g.sc]
  split at h <;> rename_i q <;> first | (cases h; done) | simp [q]
theorem Gd.gl (g : Gd c X A xw C) {x : Str} (h : glB c.sc x = true) : Gl X x := by
  unfold glB at h
  unfold Gl PySem.Env.kindOf
  rw [g.sc]
  split at h <;> rename_i q <;> first | (cases h; done) | exact q
theorem spec_ok {x : Str} (h : spec x = false) : x ≠ "__name__" ∧ (x == ("__debug__" : Str)) = false ∧ (x == ("__classdict__" : Str)) = false := by
  unfold spec at h
  simp only [Bool.or_eq_false_iff, decide_eq_false_iff_not] at h
  obtain ⟨⟨h1, h2⟩, h3⟩ := h
  exact ⟨h3, by simpa using h1, by simpa using h2⟩
theorem Gd.var (g : Gd c X A xw C) {x : Str} {i : Nat} {p : Pos} (hs : spec x = false) (hv : visB c.sc x = true) (hi : slot c.N x = some i) : PE X (.Name x p) (tVar i) := by
  obtain ⟨_, h2, h3⟩ := spec_ok hs
  exact pe_var (by rw [g.hN]; exact slot_get hi) (g.vis hv) h2 h3
theorem pe_no : PE X e (tE A xw C noE) := ⟨fun pins s σ H Q I ⟨W, ρ, S, h⟩ => Ot.st h⟩
theorem pt_no : PT X e (tT A xw C noT) := ⟨fun pins s σ H Q I ⟨W, ρ, S, h⟩ => Ot.st h⟩
theorem pi_no {tg : Expr} : PI X tg e (tI A xw C noE) := ⟨fun pins s σ H Q I ⟨W, ρ, S, h⟩ => Ot.st h⟩
theorem pt_w {t : TT} (h : PW X e t) : PT X e t := ⟨fun pins s σ H Q I q => h.run _ pins s σ H Q I q⟩
theorem star_cons {es : List Expr} {env : PySem.Env} (h : nst e = true) : starEach (e :: es) env = (false, eval e env) :: starEach es env := by
  cases e <;> first | rfl | cases h
theorem star_plain {env : PySem.Env} : ∀ {es : List Expr}, es.all nst = true → (backTo pos (starEach es env)).any (·.1) = false
  | [], _ => rfl
  | e :: es, h => by
    simp only [List.all_cons, Bool.and_eq_true] at h
    rw [star_cons h.1]
    show (false || (backTo pos (starEach es env)).any (·.1)) = false
    rw [star_plain h.2]; rfl
theorem pa_map {f : Expr → E} : ∀ {es : List Expr}, es.all nst = true → (∀ e, e ∈ es → PE X e (tE A xw C (f e))) → PA X es (tEs A xw C (es.map f))
  | [], _, _ => pa_nilE
  | e :: es, h, k => by
    simp only [List.all_cons, Bool.and_eq_true] at h
    exact pa_consE (k e List.mem_cons_self) (pa_map h.2 fun e' he => k e' (List.mem_cons_of_mem _ he)) (star_cons h.1)
theorem rs_map {f : Expr → E} : ∀ {es : List Expr}, es.all nst = true → (∀ e, e ∈ es → PE X e (tE A xw C (f e))) → PA X es (tRs A xw C (es.map f))
  | [], _, _ => rs_nilE
  | e :: es, h, k => by
    simp only [List.all_cons, Bool.and_eq_true] at h
    exact rs_consE (k e List.mem_cons_self) (rs_map h.2 fun e' he => k e' (List.mem_cons_of_mem _ he)) (star_cons h.1)
theorem pkOkL_cons {l : List E} (h : pkOkL (t :: l) = true) : (∀ i, t = .var i → mutsL i l = false) ∧ pkOkL l = true := by
  cases t <;> first | (simp only [pkOkL, Bool.and_eq_true] at h; refine ⟨fun i e => ?_, h.2⟩; cases e; simpa using h.1) | exact ⟨fun i e => (by cases e), h⟩
theorem ps_map {f : Expr → E} : ∀ {es : List Expr}, es.all nst = true → pkOkL (es.map f) = true → (∀ e, e ∈ es → PE X e (tPk A xw C (f e))) → PA X es (tPs A xw C (es.map f))
  | [], _, _, _ => ps_nilE
  | e :: es, h, p, k => by
    simp only [List.all_cons, Bool.and_eq_true] at h
    obtain ⟨p1, p2⟩ := pkOkL_cons p
    exact ps_consE (k e List.mem_cons_self) (ps_map h.2 p2 fun e' he => k e' (List.mem_cons_of_mem _ he)) (star_cons h.1) p1
theorem okSB_ok {s : List Nat} (h : okSB s = true) : okS s := by
  unfold okSB at h
  simp only [Bool.and_eq_true, Nat.ble_eq, List.all_eq_true, Nat.blt_eq] at h
  exact ⟨Nat.le_trans h.1 (by decide), fun c hc => h.2 c hc⟩
/-- names -/
theorem trName_ok (g : Gd c X A xw C) {x : Str} {p : Pos} : PE X (.Name x p) (tE A xw C (trName c x)) := by
  unfold trName
  split
  · exact pe_no
  · rename_i hs
    have hs : spec x = false := by simpa using hs
    split
    · rename_i i q
      split at q
      · rename_i hv; exact pe_name (g.var hs hv q)
      · cases q
    · split
      · rename_i hg
        split
        · rename_i d q
          obtain ⟨v, u, h1, h2, h3⟩ := g.gv x _ q
          exact pe_cst (pe_glob (g.gl hg) h1 h2 (spec_ok hs).2.1) h3
        · exact pe_no
      · exact pe_no
theorem trName_var (g : Gd c X A xw C) {x : Str} {p : Pos} {i : Nat} (h : trName c x = .var i) : PE X (.Name x p) (tVar i) := by
  unfold trName at h
  split at h
  · cases h
  · rename_i hs
    have hs : spec x = false := by simpa using hs
    split at h
    · rename_i j q
      cases h
      split at q
      · rename_i hv; exact g.var hs hv q
      · cases q
    · split at h
      · split at h <;> cases h
      · cases h
theorem mkBin_var {op : Operator} {i : Nat} : mkBin op t u ≠ .var i := by unfold mkBin; intro h; (repeat' split at h) <;> cases h
theorem mkCmp_var {op : CmpOp} {i : Nat} : mkCmp op t u b ≠ .var i := by unfold mkCmp; intro h; (repeat' split at h) <;> cases h
theorem mkCmp2_var {op op' : CmpOp} {i : Nat} {u' : E} : mkCmp2 op op' t u u' a b ≠ .var i := by unfold mkCmp2; intro h; (repeat' split at h) <;> cases h
theorem mkSlc_var {l r : E} {i : Nat} : mkSlc t l r ≠ .var i := by unfold mkSlc; intro h; (repeat' split at h) <;> cases h
theorem mkBi_var {x : Str} {args : List Expr} {ts : List E} {i : Nat} : mkBi c x args ts ≠ .var i := by
  unfold mkBi; intro h
  repeat' split at h
  all_goals cases h
theorem mkCall_var {x : Str} {args : List Expr} {ts : List E} {i : Nat} : mkCall c x args ts ≠ .var i := by
  unfold mkCall; intro h
  repeat' split at h
  all_goals first | (cases h; done) | exact mkBi_var h
theorem mkLrg_var {x y : Str} {args args' : List Expr} {ts ts' : List E} {i : Nat} : mkLrg c x y args ts (mkCall c x args' ts') ≠ .var i := by
  unfold mkLrg; intro h
  (repeat' split at h) <;> first | (cases h; done) | exact mkCall_var h
theorem mkMe_var {o : Expr} {m : Str} {p q : Pos} {args : List Expr} {ts : List E} {i : Nat} : mkMe o m p q args t ts ≠ .var i := by
  unfold mkMe; intro h
  (repeat' split at h) <;> cases h
theorem andE_var {l : List E} {i : Nat} : andE t (u :: l) ≠ .var i := by intro h; unfold andE at h; cases h
theorem orE_var {l : List E} {i : Nat} : orE t (u :: l) ≠ .var i := by intro h; unfold orE at h; cases h
theorem mkComp_var {scope : Scope} {p : Option Pat} {it : E} {k : T} {i : Nat} : mkComp c scope p it k t ≠ .var i := by
  unfold mkComp; intro h
  repeat' split at h
  all_goals cases h
theorem trE_var (g : Gd c X A xw C) : ∀ n, ∀ e i, trE n c e = .var i → PE X e (tVar i)
  | 0, e, i, h => by simp only [trE] at h; cases h
  | n + 1, e, i, h => by
    unfold trE at h
    split at h
    · split at h <;> first | (cases h; done) | (split at h <;> cases h)
    · exact trName_var g h
    · exact absurd h mkBin_var
    · cases h
    · cases h
    · cases h
    · exact absurd h mkCmp_var
    · exact absurd h mkCmp2_var
    · exact absurd h (by rw [List.map_cons]; exact andE_var)
    · exact absurd h (by rw [List.map_cons]; exact orE_var)
    · cases h
    · split at h <;> cases h
    · split at h <;> cases h
    · exact absurd h mkSlc_var
    · cases h
    · cases h
    · split at h <;> cases h
    · exact absurd h mkLrg_var
    · exact absurd h mkCall_var
    · exact absurd h mkMe_var
    · split at h
      · exact absurd h mkComp_var
      · cases h
    · cases h
/-! ### the pieces -/
theorem opOf_ok (hK : A.g.K = X.K) {op : Operator} {o : Op} (h : opOf op = some o) : OpR X (binaryOp op) (rBin A.g o) := by
  cases op <;> simp only [opOf] at h <;> cases h
  · exact or_add hK
  · exact or_sub
  · exact or_mul hK
  · exact or_mod
  · exact or_pow
  · exact or_fdiv
theorem cmOf_ok (hK : A.g.K = X.K) (hu : X.A.units + 65 < cLine) {op : CmpOp} {o : Cm} (h : cmOf op = some o) : OpR X (compareOp op) (rCmp A.g o) := by
  cases op <;> simp only [cmOf] at h <;> cases h
  · exact oc_eq hK (by omega)
  · exact oc_ne hK (by omega)
  · exact oc_lt
  · exact oc_le
  · exact oc_gt
  · exact oc_ge
  · exact oc_is
  · exact oc_isnot
  · exact oc_in false hK hu
  · exact oc_in true hK hu
theorem mkBin_ok (g : Gd c X A xw C) {op : Operator} (ha : PE X a (tPk A xw C t)) (hb : PE X b (tPk A xw C u)) : PE X (.BinOp a op b pos) (tE A xw C (mkBin op t u)) := by
  unfold mkBin
  split
  · rename_i o h
    split
    · rename_i h2; exact pe_bin (opOf_ok g.hK h) ha hb h2
    · exact pe_no
  · exact pe_no
theorem mkCmp_ok (g : Gd c X A xw C) {op : CmpOp} (ha : PE X a (tPk A xw C t)) (hb : PE X b (tPk A xw C u)) : PE X (.Compare a [op] [b] pos) (tE A xw C (mkCmp op t u b)) := by
  unfold mkCmp
  split
  · rename_i o h
    split
    · rename_i h2
      simp only [Bool.and_eq_true, Bool.not_eq_true'] at h2
      exact pe_cmpE (cmOf_ok g.hK g.hu h) ha hb h2.2 h2.1
    · exact pe_no
  · exact pe_no
theorem mkCmpT_ok (g : Gd c X A xw C) {op : CmpOp} (ha : PE X a (tPk A xw C t)) (hb : PE X b (tPk A xw C u)) : PT X (.Compare a [op] [b] pos) (tT A xw C (mkCmpT op t u b)) := by
  unfold mkCmpT
  split
  · rename_i o h
    split
    · rename_i h2
      simp only [Bool.and_eq_true, Bool.not_eq_true'] at h2
      exact pt_cmpE (cmOf_ok g.hK g.hu h) ha hb h2.2 h2.1
    · exact pt_no
  · exact pt_no
theorem mkCmp2_ok (g : Gd c X A xw C) {op op' : CmpOp} {d : Expr} {u' : E} (ha : PE X a (tPk A xw C t)) (hb : PE X b (tPk A xw C u)) (hd : PE X d (tPk A xw C u')) : PE X (.Compare a [op, op'] [b, d] pos) (tE A xw C (mkCmp2 op op' t u u' b d)) := by
  unfold mkCmp2
  split
  · rename_i o o' h h'
    split
    · rename_i h2
      simp only [Bool.and_eq_true, Bool.not_eq_true'] at h2
      exact pe_cmp2E (cmOf_ok g.hK g.hu h) (cmOf_ok g.hK g.hu h') ha hb hd h2.2 h2.1.1 h2.1.2
    · exact pe_no
  · exact pe_no
theorem mkCmp2T_ok (g : Gd c X A xw C) {op op' : CmpOp} {d : Expr} {u' : E} (ha : PE X a (tPk A xw C t)) (hb : PE X b (tPk A xw C u)) (hd : PE X d (tPk A xw C u')) : PT X (.Compare a [op, op'] [b, d] pos) (tT A xw C (mkCmp2T op op' t u u' b d)) := by
  unfold mkCmp2T
  split
  · rename_i o o' h h'
    split
    · rename_i h2
      simp only [Bool.and_eq_true, Bool.not_eq_true'] at h2
      exact pt_cmp2E (cmOf_ok g.hK g.hu h) (cmOf_ok g.hK g.hu h') ha hb hd h2.2 h2.1.1 h2.1.2
    · exact pt_no
  · exact pt_no
theorem Gd.isBi (g : Gd c X A xw C) {x : Str} (h : isBi c x = true) : Gl X x ∧ X.mg x = none ∧ x ≠ "__name__" ∧ (x == ("__debug__" : Str)) = false := by
  unfold Py.isBi at h
  simp only [Bool.and_eq_true, Bool.not_eq_true'] at h
  obtain ⟨⟨h1, h2⟩, h3⟩ := h
  obtain ⟨s1, s2, _⟩ := spec_ok h3
  refine ⟨g.gl h1, ?_, s1, s2⟩
  split at h2
  · rename_i q; exact g.gv x _ q
  · cases h2
theorem ite_some {α : Type} {p : Prop} [Decidable p] {a b : Option α} {y : α} (h : (if p then a else b) = some y) : (p ∧ a = some y) ∨ b = some y := by
  by_cases q : p
  · rw [if_pos q] at h; exact .inl ⟨q, h⟩
  · rw [if_neg q] at h; exact .inr h
theorem bi_ok (g : Gd c X A xw C) {x : Str} {bi : Bi} (h : biNm x = some bi) : (∃ id, bootBuiltins x = some (.builtin id) ∧ CallR X (.builtin id) (rBi A.g bi)) ∨ (∃ T, bootBuiltins x = some (.type T) ∧ CallR X (.type T) (rBi A.g bi)) := by
  unfold biNm at h
  rcases ite_some h with ⟨q, h1⟩ | h
  · clear h; subst q; cases h1; exact .inl ⟨_, by decide +kernel, cr_len g.hK⟩
  rcases ite_some h with ⟨q, h1⟩ | h
  · clear h; subst q; cases h1; exact .inl ⟨_, by decide +kernel, cr_abs⟩
  rcases ite_some h with ⟨q, h1⟩ | h
  · clear h; subst q; cases h1; exact .inr ⟨_, by decide +kernel, cr_int⟩
  rcases ite_some h with ⟨q, h1⟩ | h
  · clear h; subst q; cases h1; exact .inr ⟨_, by decide +kernel, cr_bool⟩
  rcases ite_some h with ⟨q, h1⟩ | h
  · clear h; subst q; cases h1; exact .inr ⟨_, by decide +kernel, cr_str⟩
  rcases ite_some h with ⟨q, h1⟩ | h
  · clear h; subst q; cases h1; exact .inl ⟨_, by decide +kernel, cr_maxE g.hK g.calm⟩
  rcases ite_some h with ⟨q, h1⟩ | h
  · clear h; subst q; cases h1; exact .inl ⟨_, by decide +kernel, cr_minE g.hK g.calm⟩
  rcases ite_some h with ⟨q, h1⟩ | h
  · clear h; subst q; cases h1; exact .inl ⟨_, by decide +kernel, cr_sumE g.calm⟩
  rcases ite_some h with ⟨q, h1⟩ | h
  · clear h; subst q; cases h1; exact .inl ⟨_, by decide +kernel, cr_allE g.calm⟩
  rcases ite_some h with ⟨q, h1⟩ | h
  · clear h; subst q; cases h1; exact .inl ⟨_, by decide +kernel, cr_anyE g.calm⟩
  rcases ite_some h with ⟨q, h1⟩ | h
  · clear h; subst q; cases h1; exact .inl ⟨_, by decide +kernel, cr_sortedE⟩
  rcases ite_some h with ⟨q, h1⟩ | h
  · clear h; subst q; cases h1; exact .inr ⟨_, by decide +kernel, cr_list g.hK⟩
  rcases ite_some h with ⟨q, h1⟩ | h
  · clear h; subst q; cases h1; exact .inr ⟨_, by decide +kernel, cr_tuple g.hK⟩
  cases h
theorem tyNmS_ok {x : Str} {ty : Ty} (h : tyNmS x = some ty) : ∃ n, tyNm ty = some n ∧ bootBuiltins x = some (.type n) := by
  unfold tyNmS at h
  rcases ite_some h with ⟨q, h1⟩ | h
  · clear h; subst q; cases h1; exact ⟨_, rfl, by decide +kernel⟩
  rcases ite_some h with ⟨q, h1⟩ | h
  · clear h; subst q; cases h1; exact ⟨_, rfl, by decide +kernel⟩
  rcases ite_some h with ⟨q, h1⟩ | h
  · clear h; subst q; cases h1; exact ⟨_, rfl, by decide +kernel⟩
  rcases ite_some h with ⟨q, h1⟩ | h
  · clear h; subst q; cases h1; exact ⟨_, rfl, by decide +kernel⟩
  rcases ite_some h with ⟨q, h1⟩ | h
  · clear h; subst q; cases h1; exact ⟨_, rfl, by decide +kernel⟩
  rcases ite_some h with ⟨q, h1⟩ | h
  · clear h; subst q; cases h1; exact ⟨_, rfl, by decide +kernel⟩
  cases h
theorem mkBi_ok (g : Gd c X A xw C) {x : Str} {p : Pos} {args : List Expr} {f : Expr → E} (hn : args.all nst = true) (h : isBi c x = true) (k : ∀ e, e ∈ args → PE X e (tPk A xw C (f e))) : PE X (.Call (.Name x p) args [] pos) (tE A xw C (mkBi c x args (args.map f))) := by
  obtain ⟨h1, h2, h3, h4⟩ := g.isBi h
  unfold mkBi
  split
  · rename_i ex
    subst ex
    split
    · rename_i a y q t t2 e1
      split
      · rename_i ty e2
        split
        · rename_i h5
          obtain ⟨y1, y2, y3, y4⟩ := g.isBi h5
          obtain ⟨n, n1, n2⟩ := tyNmS_ok e2
          simp only [List.map_cons, List.map_nil, List.cons.injEq] at e1
          simp only [List.all_cons, Bool.and_eq_true] at hn
          rw [← e1.1]
          exact pe_isiE g.hK h1 h2 y1 y2 n1 n2 y3 y4 (k _ List.mem_cons_self) (star_cons hn.1)
        · exact pe_no
      · exact pe_no
    · exact pe_no
  · split
    · rename_i bi e es e1
      split
      · rename_i h5
        have hn' := hn
        simp only [List.all_cons, Bool.and_eq_true] at hn'
        rcases bi_ok g e1 with ⟨id, b1, b2⟩ | ⟨T, b1, b2⟩
        · exact pe_biB b2 h1 h2 b1 (ps_map hn h5 k) h3 h4 (star_cons hn'.1) (star_plain hn'.2)
        · exact pe_biT b2 h1 h2 b1 (ps_map hn h5 k) h3 h4 (star_cons hn'.1) (star_plain hn'.2)
      · exact pe_no
    · exact pe_no
theorem ab_ok {o : Expr} (h : abOk o = true) {m : Str} {env : PySem.Env} {whole : Sem Value} : attributeBase o m env whole = whole := by
  unfold attributeBase
  split
  · cases h
  · rfl
theorem star_few {env : PySem.Env} : ∀ {es : List Expr}, es.all nst = true → (backTo pos (starEach es env)).all (fun x => !x.1) = true
  | [], _ => rfl
  | e :: es, h => by
    simp only [List.all_cons, Bool.and_eq_true] at h
    rw [star_cons h.1]
    show (!false && (backTo pos (starEach es env)).all fun x => !x.1) = true
    rw [star_few h.2]; rfl
theorem mkMe_ok (g : Gd c X A xw C) {o : Expr} {m : Str} {apos cpos : Pos} {args : List Expr} {f : Expr → E} (ho : PE X o (tPk A xw C t)) (k : ∀ e, e ∈ args → PE X e (tPk A xw C (f e))) : PE X (.Call (.Attribute o m apos) args [] cpos) (tE A xw C (mkMe o m apos cpos args t (args.map f))) := by
  unfold mkMe
  split
  · rename_i me e es hm
    split
    · rename_i h
      simp only [Bool.and_eq_true, decide_eq_true_eq, Nat.ble_eq] at h
      obtain ⟨⟨⟨⟨h1, h2⟩, h3⟩, h4⟩, h5⟩ := h
      obtain ⟨p1, p2⟩ := pkOkL_cons h5
      have hn := h2
      simp only [List.all_cons, Bool.and_eq_true] at hn
      have few : ((backTo cpos (starEach (e :: es) X.env)).all (fun x => !x.1) && (backToKw cpos (keywordEach [] X.env)).all (fun x => x.1.isSome) && decide ((e :: es).length + ([] : List Keyword).length + (if ([] : List Keyword).isEmpty then 0 else 1) < 30)) = true := by
        rw [star_few h2]
        have e1 : decide ((e :: es).length + ([] : List Keyword).length + (if ([] : List Keyword).isEmpty then 0 else 1) < 30) = true := by
          apply decide_eq_true
          show es.length + 1 + 0 + 0 < 30
          omega
        rw [e1]; rfl
      unfold meNm at hm
      rcases ite_some hm with ⟨q, hm⟩ | hm
      · subst q; cases hm
        exact pe_meS PySem.F.slot_str_index PySem.F.type_str_index ms_index p1 ho (ps_map h2 p2 k) (ab_ok h1) few (by simp [h3]) (star_cons hn.1) (star_plain hn.2)
      rcases ite_some hm with ⟨q, hm⟩ | hm
      · subst q; cases hm
        exact pe_meS PySem.F.slot_str_join PySem.F.type_str_join (ms_join g.hK) p1 ho (ps_map h2 p2 k) (ab_ok h1) few (by simp [h3]) (star_cons hn.1) (star_plain hn.2)
      cases hm
    · exact pe_no
  · exact pe_no
theorem mkLrg_ok (g : Gd c X A xw C) {x y : Str} {p q r : Pos} {args : List Expr} {f : Expr → E} {w : E} (k : ∀ e, e ∈ args → PE X e (tE A xw C (f e))) (hw : PE X (.Call (.Name x p) [.Call (.Name y q) args [] r] [] pos) (tE A xw C w)) :
    PE X (.Call (.Name x p) [.Call (.Name y q) args [] r] [] pos) (tE A xw C (mkLrg c x y args (args.map f) w)) := by
  unfold mkLrg
  split
  · rename_i h
    simp only [Bool.and_eq_true, Bool.or_eq_true, decide_eq_true_eq] at h
    obtain ⟨hx, rfl⟩ := h
    split
    · rename_i h
      simp only [Bool.and_eq_true] at h
      obtain ⟨⟨hb1, hb2⟩, hn⟩ := h
      obtain ⟨a1, a2, a3, a4⟩ := g.isBi hb1
      obtain ⟨b1, b2, b3, b4⟩ := g.isBi hb2
      have hx2 : x = Str.ofString (if decide (x = ("tuple" : Str)) then "tuple" else "list") := by
        by_cases e : x = "tuple"
        · rw [if_pos (by simp [e])]; exact e
        · rw [if_neg (by simp [e])]; exact hx.resolve_left e
      split
      · rename_i t e
        match args, e with
        | [a], e =>
          simp only [List.map_cons, List.map_nil, List.cons.injEq, and_true] at e
          subst e
          simp only [List.all_cons, List.all_nil, Bool.and_true] at hn
          exact pe_lrg1E hx2 g.calm a1 a2 b1 b2 (k a List.mem_cons_self) (star_cons hn)
      · rename_i t u e
        match args, e with
        | [a, b], e =>
          simp only [List.map_cons, List.map_nil, List.cons.injEq, and_true] at e
          obtain ⟨e1, e2⟩ := e
          subst e1 e2
          simp only [List.all_cons, List.all_nil, Bool.and_true, Bool.and_eq_true] at hn
          exact pe_lrg2E hx2 g.calm a1 a2 b1 b2 (k a List.mem_cons_self) (k b (by simp)) (star_cons hn.1) (star_cons hn.2) (star_plain (by simp [hn.2]))
      · rename_i t u v e
        match args, e with
        | [a, b, d], e =>
          simp only [List.map_cons, List.map_nil, List.cons.injEq, and_true] at e
          obtain ⟨e1, e2, e3⟩ := e
          subst e1 e2 e3
          simp only [List.all_cons, List.all_nil, Bool.and_true, Bool.and_eq_true] at hn
          exact pe_lrg3E hx2 g.calm a1 a2 b1 b2 (k a List.mem_cons_self) (k b (by simp)) (k d (by simp)) (star_cons hn.1) (star_cons hn.2.1) (star_cons hn.2.2) (star_plain (by simp [hn.2]))
      · exact pe_no
    · exact pe_no
  · exact hw
theorem mkCall_ok (g : Gd c X A xw C) {x : Str} {p : Pos} {args : List Expr} {f : Expr → E} (k : ∀ e, e ∈ args → PE X e (tE A xw C (f e))) (kv : ∀ e i, e ∈ args → f e = .var i → PE X e (tVar i)) : PE X (.Call (.Name x p) args [] pos) (tE A xw C (mkCall c x args (args.map f))) := by
  unfold mkCall
  split
  · rename_i h
    simp only [Bool.and_eq_true, Bool.not_eq_true'] at h
    obtain ⟨⟨h1, hn⟩, h3⟩ := h
    obtain ⟨s1, s2, _⟩ := spec_ok h3
    split
    · rename_i i np q
      split
      · rename_i hl
        obtain ⟨kk, fa, fd, ps, F, hr, hm, hk, hb, hio⟩ := g.gv x _ q
        cases args with
        | nil =>
          have hl : 0 = np := hl
          subst hl
          exact pe_call0E F hr (g.gl h1) hm hk hb g.tk (hio rfl) s2
        | cons e es =>
          have hn' := hn
          simp only [List.all_cons, Bool.and_eq_true] at hn'
          exact pe_callE F hr (g.gl h1) hm hk hb g.tk (hio rfl) hl (pa_map hn k) s2 (star_cons hn'.1) (star_plain hn'.2)
      · exact pe_no
    · rename_i i np q
      split
      · rename_i y py es j ts e1
        split
        · rename_i hl
          obtain ⟨kk, fa, fd, ps, F, hr, hm, hk, hb, hio⟩ := g.gv x _ q
          simp only [List.map_cons, List.cons.injEq] at e1
          have hn' := hn
          simp only [List.all_cons, Bool.and_eq_true] at hn'
          rw [← e1.2] at hl ⊢
          exact pe_calliE F hr (g.gl h1) hm hk hb g.tk hl (kv _ _ List.mem_cons_self e1.1) (pa_map hn'.2 fun e he => k e (List.mem_cons_of_mem _ he)) s2 (star_cons hn'.1) (star_plain hn'.2)
        · exact pe_no
      · exact pe_no
    · rename_i q
      have hbi : isBi c x = true := by
        unfold isBi
        rw [h1, q, h3]; rfl
      exact mkBi_ok g hn hbi fun e he => pe_pk (k e he) (fun i h => kv e i he h)
    · exact pe_no
  · exact pe_no
end
end Py

/-! The translation is sound: expressions, tests, iterations, targets. -/
namespace Py
open PySem PySem.Spec PyProof.Rows L2
section
variable {X : Cx} {A : Ax} {xw : XW} {C : Cl} {e a b : Expr} {t u : E} {pos : Pos} {c : Sc}
theorem Gd.st (g : Gd c X A xw C) {x : Str} (h : stB c x = true) : L2.Loc X.env.scope x ∧ (X.fn x = true ∨ X.env.scope.names.lookup x = some .local) := by
  unfold stB at h
  unfold L2.Loc
  rw [g.sc]
  split at h
  · rename_i q; exact ⟨.inl q, .inr q⟩
  · rename_i q; exact ⟨.inr q, .inl (g.fn x h)⟩
  · cases h
theorem assign_cons {es : List Expr} {env : PySem.Env} (h : nst e = true) : assignEach (e :: es) env = (false, assign e env) :: assignEach es env := by
  cases e <;> first | rfl | cases h
theorem assign_len {env : PySem.Env} : ∀ {es : List Expr}, es.all nst = true → (assignEach es env).length = es.length ∧ (assignEach es env).findIdx? (·.1) = none
  | [], _ => ⟨rfl, rfl⟩
  | e :: es, h => by
    simp only [List.all_cons, Bool.and_eq_true] at h
    rw [assign_cons h.1]
    obtain ⟨h1, h2⟩ := assign_len (env := env) h.2
    refine ⟨by simp [h1], ?_⟩
    rw [List.findIdx?_cons]
    simp [h2]
mutual
theorem trG_ok (g : Gd c X A xw C) : ∀ n e p, trG c n e = some p → PG X e (tG A p)
  | 0, e, p, h => by simp only [trG] at h; cases h
  | n + 1, e, p, h => by
    cases e with
    | Name x q =>
      simp only [trG] at h
      split at h
      · rename_i hs
        cases z : slot c.N x with
        | none => rw [z] at h; cases h
        | some i =>
          rw [z] at h; cases h
          obtain ⟨l1, l2⟩ := g.st hs
          exact pg_nameE (pg_name (by rw [g.hN]; exact g.nd) (by rw [g.hN]; exact slot_get z) l1 l2)
      · cases h
    | Tuple es k q =>
      simp only [trG] at h
      split at h
      · rename_i hn
        cases z : trGs c n es with
        | none => rw [z] at h; cases h
        | some ps =>
          rw [z] at h; cases h
          obtain ⟨h1, h2⟩ := assign_len (env := X.env) hn
          obtain ⟨h3, h4⟩ := trGs_ok g n es ps hn z
          exact pg_tupE g.calm g.hK h3 h1 h2 h4
      · cases h
    | _ => simp only [trG] at h; cases h
theorem trGs_ok (g : Gd c X A xw C) : ∀ n es ps, es.all nst = true → trGs c n es = some ps → PGs X es (tGs A ps) ∧ ps.length = es.length
  | 0, es, p, _, h => by simp only [trGs] at h; cases h
  | n + 1, [], ps, _, h => by simp only [trGs] at h; cases h; exact ⟨pgs_nilE, rfl⟩
  | n + 1, e :: es, ps, hn, h => by
    simp only [List.all_cons, Bool.and_eq_true] at hn
    simp only [trGs] at h
    split at h
    · rename_i p ps' q1 q2
      cases h
      obtain ⟨h1, h2⟩ := trGs_ok g n es _ hn.2 q2
      exact ⟨pgs_consE (trG_ok g n e _ q1) h1 (by rw [assign_cons hn.1]; rfl), by simp [h2]⟩
    · cases h
end
theorem set_iter (h : nset e = true) {env : PySem.Env} (x : Value) : foldedSetIterable e env x = pure x := by cases e <;> first | rfl | cases h
theorem Gd.blk (g : Gd c X A xw C) {s : Shared} {H : Hp} {scope : Scope} {cl : List (Str × Addr)} {a : Addr} {fp : List Addr} (hk : scope.kind = .function) : Gd (blkSc c scope) (X.blk s H scope (compEnvC scope cl a X.env) fp) A xw0 C where
  hN := g.hN
  nd := g.nd
  sc := by
    show relabel scope X.env = relabel scope _
    unfold relabel PySem.Env.kindOf
    rw [g.sc]
  fk := hk
  calm := g.calm
  hK := g.hK
  po := .never
  fn := fun x h => h
  gv := g.gv
  tk := fun u s' ⟨_, _, _, _, _, _, _, _, _, _, _, _, _, _, _, _, w⟩ => by
    obtain ⟨_, _, _, _, _, _, z⟩ := w
    exact z.elim
  hu := g.hu
theorem andE_ok (g : Gd c X A xw C) {f : Expr → E} : ∀ (l : List Expr) (a : Expr), (∀ e, e ∈ a :: l → PE X e (tE A xw C (f e))) → PE X (.BoolOp .And (a :: l) pos) (tE A xw C (andE (f a) (l.map f)))
  | [], a, k => pe_one (k a List.mem_cons_self)
  | b :: l, a, k => pe_andE g.hK (k a List.mem_cons_self) (andE_ok g l b fun e he => k e (List.mem_cons_of_mem _ he))
theorem orE_ok (g : Gd c X A xw C) {f : Expr → E} : ∀ (l : List Expr) (a : Expr), (∀ e, e ∈ a :: l → PE X e (tE A xw C (f e))) → PE X (.BoolOp .Or (a :: l) pos) (tE A xw C (orE (f a) (l.map f)))
  | [], a, k => pe_one (k a List.mem_cons_self)
  | b :: l, a, k => pe_orE g.hK (k a List.mem_cons_self) (orE_ok g l b fun e he => k e (List.mem_cons_of_mem _ he))
theorem andT_ok {f : Expr → T} : ∀ (l : List Expr) (a : Expr), (∀ e, e ∈ a :: l → PT X e (tT A xw C (f e))) → PW X (.BoolOp .And (a :: l) pos) (tT A xw C (andT (f a) (l.map f)))
  | [], a, k => pw_and1 (k a List.mem_cons_self)
  | b :: l, a, k => pw_andE (k a List.mem_cons_self) (andT_ok l b fun e he => k e (List.mem_cons_of_mem _ he))
theorem orT_ok {f : Expr → T} : ∀ (l : List Expr) (a : Expr), (∀ e, e ∈ a :: l → PT X e (tT A xw C (f e))) → PW X (.BoolOp .Or (a :: l) pos) (tT A xw C (orT (f a) (l.map f)))
  | [], a, k => pw_or1 (k a List.mem_cons_self)
  | b :: l, a, k => pw_orE (k a List.mem_cons_self) (orT_ok l b fun e he => k e (List.mem_cons_of_mem _ he))
theorem plainT_ok (h : plainT e = true) (whole : Sem Value) : isTrue e X.env whole = (do let v ← whole; standAt e.pos; holding [v] (truthy v)) := by
  cases e <;> first | rfl | (cases h; done) | skip
  rename_i op _ _
  cases op <;> first | rfl | cases h
theorem mkIt_ok (g : Gd c X A xw C) {tg : Expr} {x : Str} {p : Pos} {args : List Expr} {f : Expr → E} {w : E} (k : ∀ e, e ∈ args → PE X e (tE A xw C (f e))) (hw : PI X tg (.Call (.Name x p) args [] pos) (tI A xw C w)) :
    PI X tg (.Call (.Name x p) args [] pos) (tI A xw C (mkIt c tg x args (args.map f) w)) := by
  unfold mkIt
  split
  · rename_i h
    simp only [Bool.and_eq_true] at h
    obtain ⟨hb, hn⟩ := h
    obtain ⟨h1, h2, h3, h4⟩ := g.isBi hb
    split
    · rename_i e
      subst e
      split
      · rename_i t e
        match args, e with
        | [a], e =>
          simp only [List.map_cons, List.map_nil, List.cons.injEq, and_true] at e
          subst e
          simp only [List.all_cons, List.all_nil, Bool.and_true] at hn
          exact pi_rangeE1 h1 h2 (k a List.mem_cons_self) (star_cons hn) (star_cons hn)
      · rename_i t u e
        match args, e with
        | [a, b], e =>
          simp only [List.map_cons, List.map_nil, List.cons.injEq, and_true] at e
          obtain ⟨e1, e2⟩ := e
          subst e1 e2
          simp only [List.all_cons, List.all_nil, Bool.and_true, Bool.and_eq_true] at hn
          exact pi_rangeE2 h1 h2 (k a List.mem_cons_self) (k b (by simp)) (star_cons hn.1) (star_cons hn.2) (by rw [star_cons hn.1, star_cons hn.2]; rfl)
      · rename_i t u v e
        match args, e with
        | [a, b, d], e =>
          simp only [List.map_cons, List.map_nil, List.cons.injEq, and_true] at e
          obtain ⟨e1, e2, e3⟩ := e
          subst e1 e2 e3
          simp only [List.all_cons, List.all_nil, Bool.and_true, Bool.and_eq_true] at hn
          exact pi_rangeE3 h1 h2 (k a List.mem_cons_self) (k b (by simp)) (k d (by simp)) (star_cons hn.1) (star_cons hn.2.1) (star_cons hn.2.2) (star_plain (by simp [hn.2]))
      · exact pi_no
    · split
      · rename_i e
        subst e
        split
        · rename_i t u e
          split
          · rename_i ht
            match args, e with
            | [a, b], e =>
              simp only [List.map_cons, List.map_nil, List.cons.injEq, and_true] at e
              obtain ⟨e1, e2⟩ := e
              subst e1 e2
              simp only [List.all_cons, List.all_nil, Bool.and_true, Bool.and_eq_true] at hn
              cases tg <;> first | (cases ht; done) | skip
              exact pi_zipE g.hK h1 h2 (k a List.mem_cons_self) (k b (by simp)) (star_cons hn.1) (star_cons hn.2) (star_plain (by simp [hn.2]))
          · exact pi_no
        · exact pi_no
      · split
        · rename_i e
          subst e
          split
          · rename_i t e
            split
            · rename_i ht
              match args, e with
              | [a], e =>
                simp only [List.map_cons, List.map_nil, List.cons.injEq, and_true] at e
                subst e
                simp only [List.all_cons, List.all_nil, Bool.and_true] at hn
                cases tg <;> first | (cases ht; done) | skip
                exact pi_enumE g.hK h1 h2 (k a List.mem_cons_self) (star_cons hn) (star_cons hn)
            · exact pi_no
          · exact pi_no
        · exact hw
  · exact hw
theorem mkComp_ok (g : Gd c X A xw C) {elt tg iter : Expr} {ifs : List Expr} {scope : Scope} {it : E} {k : T} {n : Nat} (hs : nset iter = true) (hi : PI X tg iter (tI A xw C it))
    (ht : ∀ s H a cl fp, scope.kind = .function → PTs (X.blk s H scope (compEnvC scope cl a X.env) fp) ifs (tT A xw0 C k))
    (he : ∀ s H a cl fp, scope.kind = .function → PE (X.blk s H scope (compEnvC scope cl a X.env) fp) elt (tE A xw0 C t)) :
    PE X (.ListComp elt [⟨tg, iter, ifs, 0⟩] scope pos) (tE A xw C (mkComp c scope (trG (blkSc c scope) n tg) it k t)) := by
  unfold mkComp
  split
  · rename_i p q
    split
    · rename_i h
      simp only [Bool.and_eq_true, List.all_eq_true, List.contains_iff_mem] at h
      have ok : BlkOk X.N X.env.scope scope (ownOf c.N scope) := by rw [g.hN, g.sc]; exact blkOk_by h.1
      exact (pe_lc g.calm (by rw [g.hN]; exact g.nd) hi ok (fun s H a cl fp => trG_ok (g.blk ok.kind) n tg p q) (fun s H a cl fp => ht s H a cl fp ok.kind) (fun s H a cl fp => he s H a cl fp ok.kind) (set_iter hs)).imp (pe_compT (elt := elt) (tg := tg) (iter := iter) (ifs := ifs) (scope := scope) (wi := tI A xw C it) (g := tG A p) (tt := tT A xw0 C k) (te := tE A xw0 C t) h.2)
    · exact pe_no
  · exact pe_no
theorem mkSlc_ok (g : Gd c X A xw C) {lo hi : Option Expr} {l h : E} {p2 : Pos} (ha : PE X a (tPk A xw C t)) (hl : PO X lo (tO A xw C l)) (hh : PO X hi (tO A xw C h)) : PE X (.Subscript a (.Slice lo hi none p2) pos) (tE A xw C (mkSlc t l h)) := by
  unfold mkSlc
  split
  · rename_i h
    simp only [Bool.and_eq_true] at h
    exact pe_slcE (sl_all g.hK) ha hl hh h.1 h.2
  · exact pe_no
theorem pts_noE : PTs X [] (tT A xw C .yes) := ⟨fun pins s σ H Q I ⟨W, ρ, S, h⟩ => pts_nil.run pins s σ H Q I (Ot.ok h S Frm.refl)⟩
theorem ifsT_ok {f : Expr → T} {ifs : List Expr} (h : ∀ t, PT X t (tT A xw C (f t))) : PTs X ifs (tT A xw C (ifsT (ifs.map f))) := by
  match ifs with
  | [] => exact ⟨fun pins s σ H Q I ⟨W, ρ, S, h⟩ => pts_nil.run pins s σ H Q I (Ot.ok h S Frm.refl)⟩
  | [t] => exact pts_one (h t)
  | _ :: _ :: _ => exact ⟨fun pins s σ H Q I ⟨W, ρ, S, h⟩ => Ot.st h⟩
theorem tr_ok : ∀ n, (∀ c X xw, Gd c X A xw C → ∀ e, PE X e (tE A xw C (trE n c e))) ∧ (∀ c X xw, Gd c X A xw C → ∀ e, PT X e (tT A xw C (trT n c e))) ∧ (∀ c X xw, Gd c X A xw C → ∀ tg e, PI X tg e (tI A xw C (trI n c tg e)))
  | 0 => ⟨fun c X xw g e => by simp only [trE]; exact pe_no, fun c X xw g e => by simp only [trT]; exact pt_no, fun c X xw g tg e => by simp only [trI]; exact pi_no⟩
  | n + 1 => by
    obtain ⟨hE, hT, hI⟩ := tr_ok n
    have hP : ∀ c X xw, Gd c X A xw C → ∀ e, PE X e (tPk A xw C (trE n c e)) := fun c X xw g e => pe_pk (hE c X xw g e) fun i h => trE_var g n e i h
    have E1 : ∀ c X xw, Gd c X A xw C → ∀ e, PE X e (tE A xw C (trE (n + 1) c e)) := fun c X xw g e => by
      unfold trE
      split
      · split
        · exact pe_cst pe_non (fun _ _ => by simp only [Rep])
        · exact pe_cst pe_bl (fun _ _ => by simp only [Rep])
        · exact pe_cst pe_int (fun _ _ => by simp only [Rep])
        · split
          · rename_i s h
            refine pe_cst pe_str (fun _ _ => ?_)
            have := Rep.str (G := A.g) (W := ‹_›) (H := ‹_›) (okSB_ok h)
            simpa using this
          · exact pe_no
        · exact pe_no
      · exact trName_ok g
      · exact mkBin_ok g (hP c X xw g _) (hP c X xw g _)
      · exact pe_negE (C := C) (t := .cst (.int _)) (pe_cst (C := C) pe_int (fun _ _ => by simp only [Rep]))
      · exact pe_negE (hE c X xw g _)
      · exact pe_notE g.hK (hP c X xw g _)
      · exact mkCmp_ok g (hP c X xw g _) (hP c X xw g _)
      · exact mkCmp2_ok g (hP c X xw g _) (hP c X xw g _) (hP c X xw g _)
      · exact andE_ok g _ _ fun e _ => hE c X xw g e
      · exact orE_ok g _ _ fun e _ => hE c X xw g e
      · exact pe_iteE (hT c X xw g _) (hE c X xw g _) (hE c X xw g _)
      · split
        · rename_i h
          simp only [Bool.and_eq_true, Nat.ble_eq] at h
          exact pe_lstE (pa_map h.1 fun e _ => hE c X xw g e) (by rw [List.length_map]; exact h.2)
        · exact pe_no
      · split
        · rename_i h
          simp only [Bool.and_eq_true, Nat.ble_eq] at h
          exact pe_tupE (pa_map h.1 fun e _ => hE c X xw g e) (by rw [List.length_map]; exact h.2)
        · exact pe_no
      · rename_i lo hi _ _
        refine mkSlc_ok g (hP c X xw g _) ?_ ?_
        · cases lo with
          | none => exact po_noneE
          | some e => exact po_someE (hE c X xw g e)
        · cases hi with
          | none => exact po_noneE
          | some e => exact po_someE (hE c X xw g e)
      · exact pe_revE g.hK (hP c X xw g _)
      · exact pe_no
      · split
        · rename_i a i _ h1 h2 h3 h
          refine pe_idxE (ix_all g.hK) (hP c X xw g _) (hE c X xw g _) h fun o iv => ?_
          cases i <;> first | rfl | skip
          rename_i lo hi st p
          cases st with
          | none => exact absurd rfl (h1 _ _ _)
          | some st => exact absurd rfl (h3 _ _ _ _)
        · exact pe_no
      · exact mkLrg_ok g (fun e _ => hE c X xw g e) (mkCall_ok g (fun e _ => hE c X xw g e) (fun e i _ h => trE_var g n e i h))
      · exact mkCall_ok g (fun e _ => hE c X xw g e) (fun e i _ h => trE_var g n e i h)
      · exact mkMe_ok g (hP c X xw g _) (fun e _ => hP c X xw g e)
      · split
        · rename_i elt tg iter ifs scope _ hs
          refine mkComp_ok g hs (hI c X xw g tg iter) (fun s H a cl fp hk => ?_) (fun s H a cl fp hk => hE _ _ _ (g.blk hk) elt)
          exact ifsT_ok fun t => hT _ _ _ (g.blk hk) t
        · exact pe_no
      · exact pe_no
    refine ⟨E1, fun c X xw g e => ?_, fun c X xw g tg e => ?_⟩
    · unfold trT
      split
      · exact pt_w (andT_ok _ _ fun e _ => hT c X xw g e)
      · exact pt_w (orT_ok _ _ fun e _ => hT c X xw g e)
      · exact pt_notE (hT c X xw g _)
      · exact mkCmpT_ok g (hP c X xw g _) (hP c X xw g _)
      · exact mkCmp2T_ok g (hP c X xw g _) (hP c X xw g _) (hP c X xw g _)
      · split
        · rename_i h; exact pt_tru g.hK (hP c X xw g _) (plainT_ok h)
        · exact pt_no
    · unfold trI
      split
      · exact mkIt_ok g (fun e _ => hE c X xw g e) (pi_seqE g.hK (hE c X xw g _))
      · exact pi_seqE g.hK (hE c X xw g _)
end
end Py

/-! The translation is sound: statements. -/
namespace Py
open PySem PySem.Spec PyProof.Rows L2
section
variable {X : Cx} {A : Ax} {xw : XW} {C : Cl} {e a b : Expr} {t u : E} {pos : Pos} {c : Sc}
theorem ps_no {st : Stmt} : PS X st (tS A xw (evS C noS)) := ⟨fun pins s σ H D I ⟨W, ρ, S, h⟩ => (show False from h).elim⟩
theorem asg_no {st : Stmt} {g : TG} : PS X st (tAsg (tE A xw C noE) g) := ⟨fun pins s σ H D I h => by
  obtain ⟨W, ρ, S, h⟩ := (show tE A xw C noE σ H _ from h)
  exact Ot.st h⟩
theorem runP_ok {α : Type} {m : Sem α} {x : α} (h : runP m = some x) : m = pure x := by
  unfold runP at h
  split at h
  · cases h; rfl
  · cases h
theorem swap_ok (g : Gd c X A xw C) {tgs : List Expr} {v : Expr} {l : Nat} {k : Bool} (h : swapB c tgs v l = some k) : swapsWithSole tgs v l X.env = pure k := by
  have h := runP_ok h
  rw [← h]
  have e : ∀ env : PySem.Env, swapsWithSole tgs v l env = swapsWithSole tgs v l { (default : PySem.Env) with scope := env.scope } := fun env => by
    cases tgs with
    | nil => rfl
    | cons t r => cases r <;> rfl
  rw [e X.env, g.sc]; rfl
theorem store_okB (g : Gd c X A xw C) {tgs : List Expr} {v : Expr} {k : Option (List Str)} (h : storeB c tgs v = some k) : swappedStores tgs v X.env = pure k := by
  have h := runP_ok h
  rw [← h]
  have e : ∀ env : PySem.Env, swappedStores tgs v env = swappedStores tgs v { (default : PySem.Env) with scope := env.scope } := fun env => rfl
  rw [e X.env, g.sc]; rfl
theorem compS_ok (g : Gd c X A xw C) {n i : Nat} {y : Str} {py lp spos : Pos} {elt tg iter : Expr} {ifs : List Expr} {scope : Scope} (hi : slot c.N y = some i) (hl : isLoc c y = true)
    (hsw : swapsWithSole [.Name y py] (.ListComp elt [⟨tg, iter, ifs, 0⟩] scope lp) spos.line X.env = pure true) :
    PS X (.Assign [.Name y py] (.ListComp elt [⟨tg, iter, ifs, 0⟩] scope lp) spos) (tAsg (tE A xw C (trE (n + 1) c (.ListComp elt [⟨tg, iter, ifs, 0⟩] scope lp))) (gName i)) := by
  obtain ⟨hE, hT, hI⟩ := tr_ok (A := A) (C := C) n
  have hloc : X.env.scope.names.lookup y = some .local := by
    unfold isLoc at hl
    rw [g.sc]
    split at hl
    · assumption
    · cases hl
  simp only [trE]
  split
  · rename_i hs
    unfold mkComp
    split
    · rename_i p q
      split
      · rename_i h
        simp only [Bool.and_eq_true, List.all_eq_true, List.contains_iff_mem] at h
        have ok : BlkOk X.N X.env.scope scope (ownOf c.N scope) := by rw [g.hN, g.sc]; exact blkOk_by h.1
        exact (ps_setLc g.calm (by rw [g.hN]; exact g.nd) (by rw [g.hN]; exact slot_get hi) hloc hsw (hI c X xw g tg iter) ok (fun s H a cl fp => trG_ok (g.blk ok.kind) 10 tg p q) (fun s H a cl fp => ifsT_ok fun t => hT _ _ _ (g.blk ok.kind) t) (fun s H a cl fp => hE _ _ _ (g.blk ok.kind) elt) (set_iter hs)).imp fun D σ H h2 =>
          pe_compT (elt := elt) (tg := tg) (iter := iter) (ifs := ifs) (scope := scope) (wi := tI A xw C (trI n c tg iter)) (g := tG A p) (tt := tT A xw0 C (ifsT (ifs.map (trT n (blkSc c scope))))) (te := tE A xw0 C (trE n (blkSc c scope) elt)) h.2 σ H _ h2
      · exact asg_no
    · exact asg_no
  · exact asg_no
theorem slotsOf_ok (g : Gd c X A xw C) : ∀ {tgs : List Expr} {xs : List Str} {is : List Nat}, namesOf tgs = some xs → slotsOf c xs = some is → PGs X tgs (gNames is) ∧ tgs.length = xs.length ∧ is.length = xs.length ∧ tgs.all nst = true
  | [], xs, is, h1, h2 => by
    simp only [namesOf] at h1; cases h1
    simp only [slotsOf] at h2; cases h2
    exact ⟨pgs_nil, rfl, rfl, rfl⟩
  | .Name x p :: l, xs, is, h1, h2 => by
    simp only [namesOf] at h1
    cases z : namesOf l with
    | none => rw [z] at h1; cases h1
    | some ys =>
      rw [z] at h1; cases h1
      simp only [slotsOf] at h2
      split at h2
      · rename_i i is' q1 q2
        cases h2
        split at q1
        · rename_i hs
          obtain ⟨k1, k2, k3, k4⟩ := slotsOf_ok g z q2
          obtain ⟨l1, l2⟩ := g.st hs
          exact ⟨pgs_cons (pg_name (by rw [g.hN]; exact g.nd) (by rw [g.hN]; exact slot_get q1) l1 l2) k1 (by rfl), by simp [k2], by simp [k3], by simpa [nst] using k4⟩
        · cases q1
      · cases h2
theorem slotsOf_two (h : slotsOf c [x, y] = some is) : ∃ i j, is = [i, j] ∧ slot c.N x = some i ∧ slot c.N y = some j := by
  simp only [slotsOf] at h
  split at h
  · rename_i i is' q1 q2
    cases h
    split at q2
    · rename_i j is'' q3 q4
      cases q4
      cases q2
      refine ⟨i, j, rfl, ?_, ?_⟩
      · split at q1
        · exact q1
        · cases q1
      · split at q3
        · exact q3
        · cases q3
    · cases q2
  · cases h
theorem slotsOf_three {x y z : Str} {is : List Nat} (h : slotsOf c [x, y, z] = some is) : ∃ i j k, is = [i, j, k] ∧ slot c.N x = some i ∧ slot c.N y = some j ∧ slot c.N z = some k := by
  rw [slotsOf] at h
  split at h
  · rename_i i is' q1 q2
    cases h
    obtain ⟨j, k, rfl, h1, h2⟩ := slotsOf_two q2
    refine ⟨i, j, k, rfl, ?_, h1, h2⟩
    split at q1
    · exact q1
    · cases q1
  · cases h
theorem isLoc_ok (g : Gd c X A xw C) {x : Str} (h : isLoc c x = true) : X.env.scope.names.lookup x = some .local := by
  unfold isLoc at h
  rw [g.sc]
  split at h
  · assumption
  · cases h
theorem mkPut_ok (g : Gd c X A xw C) {y : Str} {py p2 : Pos} {k : Expr} (hk : PE X k (tE A xw C t)) (he : PE X e (tE A xw C u)) : PS X (.Assign [.Subscript (.Name y py) k p2] e pos) (tS A xw (evS C (mkPut c y py k p2 e pos t u))) := by
  unfold mkPut
  split
  · rename_i h
    simp only [Bool.and_eq_true, Bool.not_eq_true'] at h
    split
    · rename_i i q1 q2 q3
      refine ps_putE (g.var h.1.1 h.1.2 q1) he hk (fun v => ?_) (swap_ok g q2) (store_okB g q3)
      have := h.2
      cases k <;> first | rfl | cases this
    · exact ps_no
  · exact ps_no
theorem len_two {α : Type} {l : List α} (h : l.length = 2) : ∃ a b, l = [a, b] := by
  match l, h with
  | [a, b], _ => exact ⟨a, b, rfl⟩
theorem len_three {α : Type} {l : List α} (h : l.length = 3) : ∃ a b c, l = [a, b, c] := by
  match l, h with
  | [a, b, c], _ => exact ⟨a, b, c, rfl⟩
theorem names_nil {tgs : List Expr} (h : namesOf tgs = some []) : tgs = [] := by
  cases tgs with
  | nil => rfl
  | cons t l =>
    cases t <;> simp only [namesOf] at h <;> first | (cases h; done) | skip
    cases z : namesOf l with
    | none => rw [z] at h; cases h
    | some ys => rw [z] at h; cases h
theorem names_cons {tgs : List Expr} {x : Str} {xs : List Str} (h : namesOf tgs = some (x :: xs)) : ∃ p l, tgs = .Name x p :: l ∧ namesOf l = some xs := by
  cases tgs with
  | nil => simp only [namesOf] at h; cases h
  | cons t l =>
    cases t <;> simp only [namesOf] at h <;> first | (cases h; done) | skip
    cases z : namesOf l with
    | none => rw [z] at h; cases h
    | some ys => rw [z] at h; cases h; exact ⟨_, l, rfl, z⟩
theorem mkSetP_ok (g : Gd c X A xw C) {f : Expr → E} {tgs es : List Expr} {k k2 : Nat} {p1 p2 : Pos} (hE : ∀ e, PE X e (tE A xw C (f e))) : PS X (.Assign [.Tuple tgs k p1] (.Tuple es k2 p2) pos) (tS A xw (evS C (mkSetP c tgs k p1 es k2 p2 pos (es.map f)))) := by
  unfold mkSetP
  split
  · rename_i w xs q1 q2 q3
    split
    · rename_i is q4
      split
      · rename_i h
        simp only [Bool.and_eq_true, decide_eq_true_eq, Nat.ble_eq] at h
        obtain ⟨⟨⟨h1, h2⟩, h3⟩, h4⟩ := h
        obtain ⟨g1, g2, g3, g4⟩ := slotsOf_ok g q3 q4
        have hA := rs_map (A := A) (xw := xw) (C := C) (X := X) (f := f) h1 fun e _ => hE e
        cases w with
        | none =>
          obtain ⟨a1, a2⟩ := assign_len (env := X.env) g4
          exact ps_parNE g.hK g.calm hA (by rw [List.length_map, h2, g3]) (by rw [List.length_map]; exact h3) g1 (by rw [a1, g2, g3]) a2 (swap_ok g q1) (store_okB g q2) (by rfl)
        | some ys =>
          simp only [wOk, Bool.and_eq_true, Bool.or_eq_true, decide_eq_true_eq, List.all_eq_true] at h4
          obtain ⟨⟨⟨rfl, hl⟩, hnd⟩, h23⟩ := h4
          rcases h23 with h23 | h23
          · obtain ⟨x, y, rfl⟩ := len_two h23
            obtain ⟨a, b, rfl⟩ := len_two (h2.trans h23)
            obtain ⟨px, l1, rfl, r1⟩ := names_cons q3
            obtain ⟨py, l2, rfl, r2⟩ := names_cons r1
            obtain rfl := names_nil r2
            obtain ⟨i, j, rfl, s1, s2⟩ := slotsOf_two q4
            refine ps_par2E hA rfl fun ta hta => ps_par g.calm (by rw [g.hN]; exact g.nd) (by rw [g.hN]; exact slot_get s1) (by rw [g.hN]; exact slot_get s2) ?_ (isLoc_ok g (hl _ (by simp))) (isLoc_ok g (hl _ (by simp))) hta (store_okB g q2) (swap_ok g q1)
            intro e; subst e; simp [nodupN] at hnd
          · obtain ⟨x, y, z, rfl⟩ := len_three h23
            obtain ⟨a, b, d, rfl⟩ := len_three (h2.trans h23)
            obtain ⟨px, l1, rfl, r1⟩ := names_cons q3
            obtain ⟨py, l2, rfl, r2⟩ := names_cons r1
            obtain ⟨pz, l3, rfl, r3⟩ := names_cons r2
            obtain rfl := names_nil r3
            obtain ⟨i, j, k, rfl, s1, s2, s3⟩ := slotsOf_three q4
            simp only [nodupN, Bool.and_eq_true, Bool.not_eq_true', List.contains_cons, List.contains_nil, Bool.or_false, beq_eq_false_iff_ne, Bool.or_eq_false_iff, and_true] at hnd
            exact ps_par3E hA rfl fun ta hta => ps_par3 g.calm (by rw [g.hN]; exact g.nd) (by rw [g.hN]; exact slot_get s1) (by rw [g.hN]; exact slot_get s2) (by rw [g.hN]; exact slot_get s3) hnd.1.1 hnd.1.2 hnd.2 (isLoc_ok g (hl _ (by simp))) (isLoc_ok g (hl _ (by simp))) (isLoc_ok g (hl _ (by simp))) hta (store_okB g q2) (swap_ok g q1)
      · exact ps_no
    · exact ps_no
  · exact ps_no
mutual
theorem trS_ok (g : Gd c X A xw C) : ∀ n s, PS X s (tS A xw (evS C (trS n c s)))
  | 0, s => by simp only [trS]; exact ps_no
  | n + 1, s => by
    have hE : ∀ e, PE X e (tE A xw C (trE 40 c e)) := (tr_ok 40).1 c X xw g
    have hV : ∀ e i, trE 40 c e = .var i → PE X e (tVar i) := trE_var g 40
    have hT : ∀ e, PT X e (tT A xw C (trT 40 c e)) := (tr_ok 40).2.1 c X xw g
    have hI : ∀ tg e, PI X tg e (tI A xw C (trI 40 c tg e)) := (tr_ok 40).2.2 c X xw g
    unfold trS
    split
    · exact ps_passE
    · exact ps_brkE
    · exact ps_cntE
    · exact ps_retNE
    · exact ps_retE (hE _) (hV _)
    · exact ps_ifE (hT _) (trSs_ok g n _) (trSs_ok g n _)
    · exact ps_whlE g.po (hT _) (trSs_ok g n _)
    · split
      · rename_i tg it b _ p q
        split
        · rename_i h
          exact ps_forE' g.po g.calm (hI _ _) (trG_ok g 10 _ _ q) (trSs_ok g n _) (set_iter h)
        · exact ps_no
      · exact ps_no
    · split
      · rename_i y p1 m apos e cpos _ h
        simp only [Bool.and_eq_true, decide_eq_true_eq, Bool.not_eq_true'] at h
        obtain ⟨⟨⟨⟨h1, h2⟩, h3⟩, h4⟩, h5⟩ := h
        split
        · rename_i i q
          subst h1
          have hs := star_cons (es := []) (env := X.env) h2
          refine ps_appE g.hK (g.var h4 h5 q) (hE _) (by rfl) ?_ (by simp [h3]) hs (by rfl) (by rfl)
          rw [hs]; rfl
        · exact ps_no
      · exact ps_no
    · split
      · exact ps_expE (hE _) (by rfl)
      · exact ps_no
    · split
      · rename_i x px e pos hst
        obtain ⟨l1, l2⟩ := g.st hst
        split
        · rename_i i q1 q2
          exact ps_setE' (ps_set (by rw [g.hN]; exact g.nd) (by rw [g.hN]; exact slot_get q1) l1 (hE _) (swap_ok g q2) l2)
        · rename_i i q1 q2
          split
          · split
            · rename_i hl
              exact ps_setE' (compS_ok g q1 hl (swap_ok g q2))
            · exact ps_no
          · exact ps_no
        · exact ps_no
      · exact ps_no
    · exact mkPut_ok g (hE _) (hE _)
    · exact mkSetP_ok g fun e => hE e
    · split
      · rename_i q1 q2 q3
        exact ps_unpE (hE _) (trG_ok g 10 _ _ q3) (swap_ok g q1) (store_okB g q2) (by rfl)
      · exact ps_no
    · exact ps_no
theorem trSs_ok (g : Gd c X A xw C) : ∀ n l, PSs X l (tS A xw (evSs C (trSs n c l)))
  | 0, l => by
    simp only [trSs]
    exact ⟨fun pins s σ H D I ⟨W, ρ, S, h⟩ => (show False from h).elim⟩
  | n + 1, [] => by simp only [trSs]; exact pss_nilE
  | n + 1, s :: l => by simp only [trSs]; exact pss_consE (trS_ok g n s) (trSs_ok g n l)
end
end
end Py

/-! The levels: every def of the table keeps its promise. -/
namespace Py
open PySem PySem.Spec PyProof.Rows L2
/-- THE RULE: a def's promise by its body -/
theorem def_okD {P : Program} {w : World} {K : PySem.W.Frag} {mg : Str → Option Value} {base : Heap} {x qual : Str} {params : Arguments} {stb : List Stmt} {sco : Scope} {f : Addr} {fdt : FuncData} {N ps : List Str} {k : Nat} {G : Kx} {C : Cl} {fd : FD} {run : List D → CR}
    (F : FunD K x qual params stb sco [] [] f fdt) (S : FnScope N ps sco) (hnp : ps.length = fd.np) (hsl : fd.slots = N.length) (hdf : fd.dfl = []) (hrun : ∀ ds, run ds = runF C fd ds) (hio : fd.io = true → 0 < fd.np)
    (body : ∀ (cdv : Value) (A : Around) (outer : List PySem.Env) (s : Shared) (H : Hp) (E : XK) (Ax : Ax), Ax.g = G → Ax.H0 = H → Room k (A.deeper (envOfC qual sco s.heap.objs.size f cdv)) →
      Takes (cxOf (L2.CX P w) P w K mg base N qual sco f cdv A outer s H E) (wx Ax (xwF G E)) →
      PSs (cxOf (L2.CX P w) P w K mg base N qual sco f cdv A outer s H E) stb (tS Ax (xwF G E) (evSs C fd.body))) :
    FnOk P w K mg base (L2.CX P w) (k + 1) f fdt ps (spF G run fd.io fd.np) := by
  have hpl : ps.length ≤ N.length := by have := congrArg List.length S.pre; rw [List.length_take] at this; omega
  refine F.ok S (fun vs H Q E h => by rw [hnp]; exact h.1) fun cdv A outer s H vs Q E hr ⟨hl, B, hB, h⟩ => ?_
  have tk : Takes (cxOf (L2.CX P w) P w K mg base N qual sco f cdv A outer s H E) fun cls d _ H' => E cls d H' := takes_of rfl rfl rfl rfl
  have ef : ∀ ds, fill fd.np ds fd.dfl = ds := fun ds => by rw [hdf]; unfold fill; simp
  rcases h with ⟨eio, ds, r, h⟩ | ⟨eio, a, vs', d0, ds, fr, rv, c, rfl, ba, o, r, er, h⟩
  · have hds : ds.length = fd.np := by rw [r.length, hl]
    have tk2 : Takes (cxOf (L2.CX P w) P w K mg base N qual sco f cdv A outer s H E) (wx ⟨G, H, B, none⟩ (xwF G E)) := tk.imp fun cls d σ H' ⟨c, l, W, ρ, er, _, h⟩ => h cls d er
    refine ⟨_, body cdv A outer s H E ⟨G, H, B, none⟩ rfl rfl hr tk2, B, _, SI.enter hB r (by omega), ?_⟩
    have e1 : run ds = endF fd (evSs C fd.body (startE false ds N.length)) := by
      rw [hrun]; unfold runF; rw [ef, hds, if_pos (by simp), eio, hsl]
    rw [e1] at h
    have ei : ∀ ρ, ioOf fd.io ρ = some none := fun ρ => by unfold ioOf; rw [eio]; rfl
    generalize evSs C fd.body (startE false ds N.length) = m at h
    have exS : ∀ {σ' : St} {W' : Addr → Prop} {H' : Hp} {ρ' : Env}, SI ⟨G, H, B, none⟩ W' H' σ' ρ' → Ext H H' := fun S' a o q => S'.base a o q (fun z => nomatch z)
    cases m with
    | st => rcases h with ⟨fr, rv, e, _⟩ | ⟨c, l, e, _⟩ <;> simp only [endF] at e <;> cases e
    | ex c l ρ' =>
      simp only [endF, eio, Bool.false_eq_true, if_false] at h
      rcases h with ⟨fr, rv, e, _⟩ | ⟨c', l', e, h⟩
      · cases e
      · cases e
        exact fun σ' W' H' S' cls d er => h cls d H' (exS S') er
    | ok w' ρ' =>
      cases w' with
      | nx =>
        simp only [endF, ei] at h
        rcases h with ⟨fr, rv, e, h⟩ | ⟨c', l', e, h⟩
        · cases e
          exact fun σ' W' H' S' k' => h .non H' (exS S') (by unfold NwR; rw [if_neg (by decide)]; simp only [Rep])
        · cases e
      | rt fr' d' =>
        simp only [endF, ei] at h
        rcases h with ⟨fr, rv, e, h⟩ | ⟨c', l', e, h⟩
        · cases e
          refine fun σ' W' H' S' k' v rr => h v H' (exS S') ?_
          unfold RR at rr
          unfold NwR
          cases fr' with
          | false =>
            rw [if_neg Bool.false_ne_true] at rr ⊢
            exact rr.anti fun a z => S'.bw a z
          | true =>
            rw [if_pos rfl] at rr ⊢
            obtain ⟨p, e, hp, wp, _, o, _⟩ := rr
            exact ⟨p, e, hp, o.anti fun a z => z.elim (fun z => S'.bw a z) fun z => by subst z; exact wp⟩
        · cases e
      | bk => simp only [endF] at h; rcases h with ⟨fr, rv, e, _⟩ | ⟨c, l, e, _⟩ <;> cases e
      | ct => simp only [endF] at h; rcases h with ⟨fr, rv, e, _⟩ | ⟨c, l, e, _⟩ <;> cases e
  · have hds : ds.length + 1 = fd.np := by rw [r.length, ← hl, List.length_cons]
    have tk2 : Takes (cxOf (L2.CX P w) P w K mg base N qual sco f cdv A outer s H E) (wx ⟨G, H, B, some a⟩ (xwF G E)) := tk.imp fun cls d σ H' ⟨c, l, W, ρ, er, _, h⟩ => h cls d er
    refine ⟨_, body cdv A outer s H E ⟨G, H, B, some a⟩ rfl rfl hr tk2, B, _, SI.startIo hB ba o r (by omega), ?_⟩
    have e1 : run (d0 :: ds) = endF fd (evSs C fd.body (startE true (d0 :: ds) N.length)) := by
      rw [hrun]; unfold runF; rw [ef, List.length_cons, hds, if_pos (by simp), eio, hsl]
    rw [e1] at er
    generalize evSs C fd.body (startE true (d0 :: ds) N.length) = m at er
    have fin : ∀ {σ' : St} {W' : Addr → Prop} {H' : Hp} {ρ' : Env} {v : V}, SI ⟨G, H, B, some a⟩ W' H' σ' ρ' → ioOf fd.io ρ' = some (some c) → RR ⟨G, H, B, some a⟩ H W' H' σ' ρ' (fr, rv) v → Q v H' := by
      intro σ' W' H' ρ' v S' ei rr
      have g0 : get ρ' 0 = some (.io, c) := by
        unfold ioOf at ei
        rw [eio, if_pos rfl] at ei
        split at ei
        · rename_i d q; cases ei; exact q
        · cases ei
      obtain ⟨v0, _, b, _, e2, wb, oc⟩ := S'.slot 0 _ _ g0
      cases e2
      have k1 : ∀ b o, H b = some o → b ≠ a → H' b = some o := fun b o q n => S'.base b o q fun z => n (by cases z; rfl)
      unfold RR at rr
      cases fr with
      | false =>
        rw [if_neg Bool.false_ne_true] at rr
        exact h v H' B k1 (fun _ z => z) (fun _ z => .inl z) (fun b z => S'.wt b (S'.bw b z)) (oc.anti fun b z => S'.bw b z) (rr.anti fun b z => S'.bw b z)
      | true =>
        rw [if_pos rfl] at rr
        obtain ⟨p, e, hp, wp, _, o, _⟩ := rr
        have an : ∀ b, Wp B p b → W' b := fun b z => z.elim (fun z => S'.bw b z) fun z => by subst z; exact wp
        exact h v H' (Wp B p) k1 (fun _ z => .inl z) (fun b z => z.elim .inl fun z => by subst z; exact .inr hp) (fun b z => S'.wt b (an b z)) (oc.anti an) ⟨p, e, hp, .inr rfl, o.anti an⟩
    cases m with
    | st => simp only [endF] at er; cases er
    | ex c l ρ' => simp only [endF, eio, if_true] at er; cases er
    | ok w' ρ' =>
      cases w' with
      | nx =>
        simp only [endF] at er
        cases q : ioOf fd.io ρ' with
        | none => rw [q] at er; cases er
        | some o =>
          rw [q] at er; cases er
          exact fun σ' W' H' S' k' => fin S' q (by unfold RR; rw [if_neg (by decide)]; simp only [Rep])
      | rt fr' d' =>
        simp only [endF] at er
        cases q : ioOf fd.io ρ' with
        | none => rw [q] at er; cases er
        | some o =>
          rw [q] at er; cases er
          exact fun σ' W' H' S' k' v rr => fin S' q rr
      | bk => simp only [endF] at er; cases er
      | ct => simp only [endF] at er; cases er

/-- an entry of the table -/
structure DI where
  d : He.DefD
  fd : FD
  ps : List Str
  N : List Str
abbrev GL := List (Str × Gv)
def gmOf (gl : GL) (x : Str) : Option Gv := gl.lookup x
def scOf (gl : GL) (i : DI) : Sc := ⟨i.N, i.d.scope, gmOf gl, fun _ => true⟩
/-- a look at an entry -/
def diC (gl : GL) (i : DI) : Bool := C8.scC i.N i.ps i.d.scope && decide (i.fd.slots = i.N.length) && decide (i.ps.length = i.fd.np) && i.fd.dfl.isEmpty && i.d.dfl.isEmpty && i.d.kwd.isEmpty && (!i.fd.io || Nat.blt 0 i.fd.np)
/-- a look at a global name -/
def gvC (L : List (Nat × DI)) (fa : List He.Fa) (p : Str × Gv) : Prop := match p.2 with
  | .df f io np => ∃ i, (f, i) ∈ L ∧ i.d.at_ = (p.1, none) ∧ i.fd.io = io ∧ i.fd.np = np ∧ He.Fa.glo p.1 ∈ fa
  | .cst d => (match d with
    | .int k => He.Fa.int p.1 k ∈ fa
    | .str s => He.Fa.str p.1 ⟨s.toArray⟩ ∈ fa ∧ okSB s = true
    | _ => False)
  | .bi => He.Fa.free p.1 ∈ fa
theorem lookup_mem {α : Type} : ∀ {l : List (Str × α)} {x : Str} {y : α}, l.lookup x = some y → (x, y) ∈ l
  | [], x, y, h => by cases h
  | (z, w) :: l, x, y, h => by
    rw [List.lookup_cons] at h
    split at h
    · rename_i e; cases h; have := eq_of_beq e; subst this; exact List.mem_cons_self
    · exact List.mem_cons_of_mem _ (lookup_mem h)
theorem end_io {fd : FD} (h : fd.io = false) {m : M Fw} {fr : Bool} {d : D} {o : Option D} (e : endF fd m = .ok fr d o) : o = none := by
  cases m with
  | st => simp only [endF] at e; cases e
  | ex c l ρ => simp only [endF, h, Bool.false_eq_true, if_false] at e; cases e
  | ok w ρ =>
    have ei : ioOf fd.io ρ = some none := by unfold ioOf; rw [h]; rfl
    cases w with
    | nx => simp only [endF, ei] at e; cases e; rfl
    | rt fr d => simp only [endF, ei] at e; cases e; rfl
    | bk => simp only [endF] at e; cases e
    | ct => simp only [endF] at e; cases e
section
variable {P : Program} {w : World} {K : PySem.W.Frag} {mg : Str → Option Value} {base : Heap} {T : Tb} {L : List (Nat × DI)} {gl : GL} {fa : List He.Fa} {fn : List He.DefD}
theorem lvl {h : Heap} (X : K.In h) (G0 : h.Ns mainGlobals mg) (c : He.SaysD fa fn K)
    (hT : ∀ p, p ∈ L → T.fd p.1 = some p.2.fd) (hD : ∀ p, p ∈ L → p.2.d ∈ fn) (hC : ∀ p, p ∈ L → diC gl p.2 = true) (hB : ∀ p, p ∈ L → p.2.fd.body = trSs 400 (scOf gl p.2) p.2.d.body) (hG : ∀ p, p ∈ gl → gvC L fa p)
    (hb : ∀ p, p ∈ L → ∀ (kV doc pm : Value) (an : Option Addr) (cdv ct : Value) (us : List Value), us.length = p.2.ps.length → bindArgs (PySem.W.fnOf p.2.d.name p.2.d.qual p.2.d.params p.2.d.body p.2.d.scope .none kV doc pm an cdv ct) ⟨us, []⟩ = pure (p.2.ps.zip us)) :
    ∀ d, ∀ p, p ∈ L → ∀ fdt, FunD K p.2.d.name p.2.d.qual p.2.d.params p.2.d.body p.2.d.scope [] [] (He.fAd K p.2.d.at_) fdt →
      FnOk P w K mg base (L2.CX P w) d (He.fAd K p.2.d.at_) fdt p.2.ps (spF ⟨K, fun _ => none, fun _ => none, fun _ => Str.empty⟩ ((clOf T d).run p.1) p.2.fd.io p.2.fd.np)
  | 0, p, hp, fdt, F => by
    have hc := hC p hp
    simp only [diC, Bool.and_eq_true, decide_eq_true_eq] at hc
    refine ⟨fun vs H Q E h => by rw [hc.1.1.1.1.2]; exact h.1, fun A outer s H args us vs Q E hr e0 hbd hv ⟨_, B, _, h⟩ => ?_⟩
    exfalso
    rcases h with ⟨_, ds, _, ⟨fr, r, e, _⟩ | ⟨c, l, e, _⟩⟩ | ⟨_, a, vs', d, ds', fr, r, c, _, _, _, _, e, _⟩ <;> cases e
  | d + 1, p, hp, fdt, F => by
    have hc := hC p hp
    simp only [diC, Bool.and_eq_true, decide_eq_true_eq, Bool.or_eq_true, Bool.not_eq_true', Nat.blt_eq, List.isEmpty_iff] at hc
    obtain ⟨⟨⟨⟨⟨⟨c1, c2⟩, c3⟩, c4⟩, c5⟩, c6⟩, c7⟩ := hc
    have S := C8.fnScope_by c1
    refine def_okD (C := clOf T d) (fd := p.2.fd) F S c3 c2 c4 (fun ds => ?_) (fun hio => c7.elim (fun z => by rw [hio] at z; cases z) id) fun cdv A outer s H E Ax hg hH hr tk => ?_
    · show (match T.fd p.1 with | some fd => runF (clOf T d) fd ds | none => .st) = _
      rw [hT p hp]
    · rw [hB p hp]
      refine trSs_ok (c := scOf gl p.2) ⟨rfl, S.nd, rfl, S.kind, rfl, by rw [hg]; rfl, passes_of rfl, fun _ _ => rfl, fun x g hx => ?_, tk, ?_⟩ 400 _
      · have hm := hG _ (lookup_mem hx)
        cases g with
        | df f io np =>
          obtain ⟨i, h1, h2, h3, h4, h5⟩ := hm
          have hc' := hC _ h1
          simp only [diC, Bool.and_eq_true, decide_eq_true_eq, Bool.or_eq_true, Bool.not_eq_true', Nat.blt_eq, List.isEmpty_iff] at hc'
          obtain ⟨fdi, Fi⟩ := c.defs (hD _ h1)
          have Fi : FunD K i.d.name i.d.qual i.d.params i.d.body i.d.scope [] [] (He.fAd K i.d.at_) fdi := by
            have e1 : i.d.dvs K = [] := by unfold He.DefD.dvs; rw [hc'.1.1.2]; rfl
            have e2 : i.d.kws K = [] := by unfold He.DefD.kws; rw [hc'.1.2]; rfl
            rw [e1, e2] at Fi; exact Fi
          have ih := lvl X G0 c hT hD hC hB hG hb d _ h1 fdi Fi
          refine ⟨d, He.fAd K i.d.at_, fdi, i.ps, ?_, hr, ?_, Fi.kp, Fi.bindsN (hb _ h1), fun hio ds fr dd o e => ?_⟩
          · rw [← h3, ← h4, hg]; exact ih
          · rw [h2]; exact He.glo_ok X G0 (c.facts h5)
          · cases d with
            | zero => cases e
            | succ d =>
              have e : (match T.fd f with | some fd => runF (clOf T d) fd ds | none => .st) = _ := e
              rw [hT _ h1] at e
              have e : runF (clOf T d) i.fd ds = _ := e
              unfold runF at e
              split at e
              · exact end_io (by rw [h3]; exact hio) e
              · cases e
        | cst dd =>
          cases dd <;> try exact hm.elim
          · obtain ⟨t, e⟩ := He.int_ok X G0 (c.facts hm)
            exact ⟨.int _, _, e, ⟨t, rfl⟩, fun _ _ => by simp only [Rep]⟩
          · obtain ⟨t, e⟩ := He.str_ok X G0 (c.facts hm.1)
            exact ⟨.str _, _, e, ⟨t, rfl⟩, fun _ _ => Rep.str (okSB_ok hm.2)⟩
        | bi => exact He.free_ok X G0 (c.facts hm)
      · have := hr.un
        show (A.deeper _).units + 65 < cLine
        omega
end
end Py

/-! A whole text: its table, its law. -/
namespace Py
open PySem PySem.Spec PyProof.Rows L2
structure Lay where
  L : List (Nat × DI)
  cI : List (Str × Int)
  cS : List (Str × List Nat)
  cB : List Str
def Lay.gl (y : Lay) : GL := y.L.map (fun p => (p.2.d.name, Gv.df p.1 p.2.fd.io p.2.fd.np)) ++ (y.cI.map (fun p => (p.1, Gv.cst (.int p.2))) ++ (y.cS.map (fun p => (p.1, Gv.cst (.str p.2))) ++ y.cB.map fun x => (x, Gv.bi)))
def Lay.fa (y : Lay) : List He.Fa := y.L.map (fun p => He.Fa.glo p.2.d.name) ++ (y.cI.map (fun p => He.Fa.int p.1 p.2) ++ (y.cS.map (fun p => He.Fa.str p.1 ⟨p.2.toArray⟩) ++ y.cB.map He.Fa.free))
def Lay.fn (y : Lay) : List He.DefD := y.L.map (·.2.d)
def BindOk (i : DI) : Prop := ∀ (kV doc pm : Value) (an : Option Addr) (cdv ct : Value) (us : List Value), us.length = i.ps.length → bindArgs (PySem.W.fnOf i.d.name i.d.qual i.d.params i.d.body i.d.scope .none kV doc pm an cdv ct) ⟨us, []⟩ = pure (i.ps.zip us)
/-- the looks that the kernel takes -/
structure Lay.Ok (y : Lay) (T : Tb) : Prop where
  t : y.L.map (fun p => T.fd p.1) = y.L.map fun p => some p.2.fd
  c : (y.L.all fun p => diC y.gl p.2 && decide (p.2.d.at_ = (p.2.d.name, none))) = true
  b : y.L.map (fun p => p.2.fd.body) = y.L.map fun p => trSs 400 (scOf y.gl p.2) p.2.d.body
  s : (y.cS.all fun p => okSB p.2) = true
  bd : ∀ p, p ∈ y.L → BindOk p.2
theorem map_mem {α β : Type} {f g : α → β} : ∀ {l : List α}, l.map f = l.map g → ∀ p, p ∈ l → f p = g p
  | [], _, p, h => by cases h
  | a :: l, e, p, h => by
    simp only [List.map_cons, List.cons.injEq] at e
    rcases List.mem_cons.mp h with rfl | h
    · exact e.1
    · exact map_mem e.2 p h
theorem Lay.hG {y : Lay} {T : Tb} (o : y.Ok T) : ∀ p, p ∈ y.gl → gvC y.L y.fa p := by
  intro p hp
  unfold Lay.gl at hp
  simp only [List.mem_append, List.mem_map] at hp
  unfold Lay.fa
  rcases hp with ⟨q, hq, rfl⟩ | ⟨q, hq, rfl⟩ | ⟨q, hq, rfl⟩ | ⟨q, hq, rfl⟩
  · have h := List.all_eq_true.mp o.c q hq
    simp only [Bool.and_eq_true, decide_eq_true_eq] at h
    exact ⟨q.2, hq, h.2, rfl, rfl, by simp only [List.mem_append, List.mem_map]; exact .inl ⟨q, hq, rfl⟩⟩
  · show He.Fa.int q.1 q.2 ∈ _
    simp only [List.mem_append, List.mem_map]; exact .inr (.inl ⟨q, hq, rfl⟩)
  · refine ⟨?_, List.all_eq_true.mp o.s q hq⟩
    simp only [List.mem_append, List.mem_map]; exact .inr (.inr (.inl ⟨q, hq, rfl⟩))
  · show He.Fa.free q ∈ _
    simp only [List.mem_append, List.mem_map]; exact .inr (.inr (.inr ⟨q, hq, rfl⟩))
/-- the law's promise -/
def spLaw (K : PySem.W.Frag) (n : Nat) : Sp := fun vs H Q _ => ∃ (a : Addr) (ns : List Int), vs = [.ref a] ∧ SqL K H a (ns.map V.int) ∧ ns.length ≤ n ∧ ∀ H', Q (.bl true) H'
section
variable {P : Program} {w : World} {K : PySem.W.Frag} {mg : Str → Option Value} {base : Heap} {y : Lay} {T : Tb}
theorem cx0 {k n : Nat} {f : Addr} {fd : FuncData} {ps : List Str} (F : FnOk P w K mg base (L2.CX P w) k f fd ps (spLaw K n)) : FnOk P w K mg base C8.CX0 k f fd ps (spLaw K n) :=
  ⟨F.len, fun A outer s H args us vs Q E hr e0 hb hv h => codeAny_mono (F.run A outer s H args us vs Q (fun _ _ _ => False) hr e0 hb hv h) fun r s' hq => by
    cases r with
    | ok fl => cases fl <;> exact hq
    | error e => obtain ⟨_, _, _, _, _, _, _, _, _, _, _, _, z⟩ := (show L2.CX P w outer H s (fun _ _ _ => False) e s' from hq); exact z⟩
theorem Lay.law {h : Heap} {n d law : Nat} {i : DI} (o : y.Ok T) (X : K.In h) (G0 : h.Ns mainGlobals mg) (c : He.SaysD y.fa y.fn K) (hl : (law, i) ∈ y.L) (hio : i.fd.io = false) (hnp : i.fd.np = 1) (hps : i.ps = (["script"] : List Str))
    (hn : ∀ ns : List Int, ns.length ≤ n → evCall T d law [.scr (ns.map .int)] = .ok false (.bl true) none) :
    ∃ fdt : FuncData, (∀ (s : Shared) (v : Value), BindsTo s fdt ⟨[v], []⟩ [(("script" : Str), v)]) ∧ mg i.d.name = some (.ref (He.fAd K i.d.at_)) ∧ ∀ base : Heap, FnOk P w K mg base C8.CX0 d (He.fAd K i.d.at_) fdt (["script"] : List Str) (spLaw K n) := by
  have hc := List.all_eq_true.mp o.c _ hl
  simp only [Bool.and_eq_true, decide_eq_true_eq] at hc
  have hd : ∀ p, p ∈ y.L → p.2.d ∈ y.fn := fun p hp => List.mem_map_of_mem hp
  obtain ⟨fdi, Fi⟩ := c.defs (hd _ hl)
  have hc' := hc.1
  simp only [diC, Bool.and_eq_true, decide_eq_true_eq, Bool.or_eq_true, Bool.not_eq_true', Nat.blt_eq, List.isEmpty_iff] at hc'
  have Fi : FunD K i.d.name i.d.qual i.d.params i.d.body i.d.scope [] [] (He.fAd K i.d.at_) fdi := by
    have e1 : i.d.dvs K = [] := by unfold He.DefD.dvs; rw [hc'.1.1.2]; rfl
    have e2 : i.d.kws K = [] := by unfold He.DefD.kws; rw [hc'.1.2]; rfl
    rw [e1, e2] at Fi; exact Fi
  have key := fun base => lvl (P := P) (w := w) (base := base) (T := T) X G0 c (map_mem o.t) hd (fun p hp => by have := List.all_eq_true.mp o.c p hp; simp only [Bool.and_eq_true] at this; exact this.1) (map_mem o.b) (Lay.hG o) o.bd d _ hl fdi Fi
  have hb := Fi.bindsA (ps := (["script"] : List Str)) (by have := o.bd _ hl; unfold BindOk at this; rw [hps] at this; exact this)
  refine ⟨fdi, fun s v => hb s [v] rfl, ?_, ?_⟩
  · have hg := Lay.hG o (i.d.name, Gv.df law i.fd.io i.fd.np) (by unfold Lay.gl; simp only [List.mem_append, List.mem_map]; exact .inl ⟨_, hl, rfl⟩)
    obtain ⟨_, _, _, _, _, hm⟩ := hg
    have e : He.fAd K i.d.at_ = He.ga K i.d.name := by rw [hc.2]; rfl
    rw [e]
    exact He.glo_ok X G0 (c.facts hm)
  · intro base
    have key := key base
    rw [hps] at key
    refine cx0 (key.imp fun vs H Q E ⟨a, ns, e, hS, hlen, hQ⟩ => ?_)
    subst e
    rw [hio, hnp]
    refine ⟨rfl, fun _ => False, fun _ h => h.elim, .inl ⟨rfl, [.scr (ns.map .int)], Reps.cons ?_ Reps.nil, .inl ⟨false, .bl true, hn ns hlen, fun v H' _ r => ?_⟩⟩⟩
    · simp only [Rep]
      refine ⟨a, ns.map V.int, rfl, ?_, ints_reps ns⟩
      rcases hS with hS | hS
      · exact .inl ⟨fun z => z, hS⟩
      · exact .inr hS
    · unfold NwR at r
      rw [if_neg (by decide)] at r
      rw [rep_bl r]
      exact hQ H'
end
end Py

/-! Equations of the evaluator, for reckoning in plain Lean. -/
namespace Py
section
variable {C : Cl} {ρ : Env}
theorem eS_set {i : Nat} {e : E} : evS C (.set i e) ρ = (evE C e ρ).bind fun x ρ => .ok .nx (sto i x ρ) := rfl
theorem eS_setP {is : List Nat} {es : List E} : evS C (.setP is es) ρ = (evRs C es ρ).bind fun xs ρ => (ofO (stoL is xs ρ) ρ).bind fun ρ' _ => .ok .nx ρ' := rfl
theorem eS_unp {p : Pat} {e : E} : evS C (.unp p e) ρ = (evE C e ρ).bind fun x ρ => (bnd p x.2 ρ).bind fun _ ρ => .ok .nx ρ := rfl
theorem eS_put {i : Nat} {k e : E} : evS C (.put i k e) ρ = (evE C e ρ).bind fun x ρ => (rdP i ρ).bind fun _ ρ => (evE C k ρ).bind fun y ρ => chg i ρ fun c => putV c y.2 x.2 := rfl
theorem eS_app {i : Nat} {e : E} : evS C (.app i e) ρ = (rdL i ρ).bind fun _ ρ => (evE C e ρ).bind fun x ρ => chg i ρ fun c => appV c x.2 := rfl
theorem eS_exp {e : E} : evS C (.exp e) ρ = (evE C e ρ).bind fun _ ρ => .ok .nx ρ := rfl
theorem eS_ife {t : T} {a b : List S} : evS C (.ife t a b) ρ = (evT C t ρ).bind fun k ρ => if k then evSs C a ρ else evSs C b ρ := rfl
theorem eS_fors {p : Pat} {it : E} {b : List S} : evS C (.fors p it b) ρ = ((evE C it ρ).bind itI).bind fun ds ρ => forL (fun d ρ => (bnd p d ρ).bind fun _ ρ => evSs C b ρ) ds ρ := rfl
theorem eS_whl {t : T} {b : List S} : evS C (.whl t b) ρ = whlL (evT C t) (evSs C b) C.N ρ := rfl
theorem eS_ret {e : E} : evS C (.ret e) ρ = (retE C e ρ).bind fun x ρ => .ok (.rt x.1 x.2) ρ := rfl
theorem eS_pass : evS C .pass ρ = .ok .nx ρ := rfl
theorem eS_brk : evS C .brk ρ = .ok .bk ρ := rfl
theorem eS_cnt : evS C .cnt ρ = .ok .ct ρ := rfl
theorem eSs_nil : evSs C [] ρ = .ok .nx ρ := rfl
theorem eSs_cons {s : S} {l : List S} : evSs C (s :: l) ρ = (evS C s ρ).bind fun w ρ => match w with
    | .nx => evSs C l ρ
    | .rt fr d => .ok (.rt fr d) ρ
    | .bk => .ok .bk ρ
    | .ct => .ok .ct ρ := rfl
theorem eE_cst {d : D} : evE C (.cst d) ρ = .ok (false, d) ρ := rfl
theorem eE_var {i : Nat} : evE C (.var i) ρ = rdE i ρ := rfl
theorem eE_bin {op : Op} {a b : E} : evE C (.bin op a b) ρ = (pk a (evE C a) ρ).bind fun x ρ => (pk b (evE C b) ρ).bind fun y ρ => fin ρ (binD op x.2 y.2) := rfl
theorem eE_not {a : E} : evE C (.not a) ρ = (pk a (evE C a) ρ).bind fun x ρ => finB ρ ((truth x.2).map (!·)) := rfl
theorem eE_cmp {op : Cm} {a b : E} : evE C (.cmp op a b) ρ = (pk a (evE C a) ρ).bind fun x ρ => (pk b (evE C b) ρ).bind fun y ρ => finB ρ (cmpD op x.2 y.2) := rfl
theorem eE_cmp2 {o p : Cm} {a b c : E} : evE C (.cmp2 o p a b c) ρ = (pk a (evE C a) ρ).bind fun x ρ => (pk b (evE C b) ρ).bind fun y ρ => match cmpD o x.2 y.2 with
    | some true => (pk c (evE C c) ρ).bind fun z ρ => finB ρ (cmpD p y.2 z.2)
    | some false => .ok (false, .bl false) ρ
    | none => .st := rfl
theorem eE_and {a b : E} : evE C (.and a b) ρ = (evE C a ρ).bind fun x ρ => tst x.2 ρ (evE C b) fun ρ => .ok (false, x.2) ρ := rfl
theorem eE_or {a b : E} : evE C (.or a b) ρ = (evE C a ρ).bind fun x ρ => tst x.2 ρ (fun ρ => .ok (false, x.2) ρ) (evE C b) := rfl
theorem eE_ite {t : T} {a b : E} : evE C (.ite t a b) ρ = (evT C t ρ).bind fun k ρ => if k then evE C a ρ else evE C b ρ := rfl
theorem eE_tup {l : List E} : evE C (.tup l) ρ = (evEs C l ρ).bind fun ds ρ => .ok (false, .tup ds) ρ := rfl
theorem eE_lst {l : List E} : evE C (.lst l) ρ = (evEs C l ρ).bind fun ds ρ => .ok (true, .lst ds) ρ := rfl
theorem eE_idx {a i : E} : evE C (.idx a i) ρ = (pk a (evE C a) ρ).bind fun x ρ => (evE C i ρ).bind fun y ρ => finS ρ (idxV x.2 y.2) := rfl
theorem eE_slc {a lo hi : E} : evE C (.slc a lo hi) ρ = (pk a (evE C a) ρ).bind fun x ρ => ((evE C lo ρ).bind partI).bind fun l ρ => ((evE C hi ρ).bind partI).bind fun h ρ => fin ρ (slcV x.2 l h) := rfl
theorem eE_rev {a : E} : evE C (.rev a) ρ = (pk a (evE C a) ρ).bind fun x ρ => fin ρ (revV x.2) := rfl
theorem eE_nil : evE C .nil ρ = .ok (false, .itr []) ρ := rfl
theorem eE_call {f : Nat} {l : List E} : evE C (.call f l) ρ = (evEs C l ρ).bind fun ds ρ => callN (C.run f ds) ρ := rfl
theorem eE_calli {f i : Nat} {l : List E} : evE C (.calli f i l) ρ = (rdP i ρ).bind fun _ ρ => (evEs C l ρ).bind fun ds ρ => callIo C f i ds ρ := rfl
theorem eE_bi {b : Bi} {l : List E} : evE C (.bi b l) ρ = (evPs C l ρ).bind fun ds ρ => fin ρ (biD b ds) := rfl
theorem eE_me {m : Me} {o : E} {l : List E} : evE C (.me m o l) ρ = (pk o (evE C o) ρ).bind fun x ρ => if meOk m x.2 then (evPs C l ρ).bind fun ds ρ => finS ρ (meD m x.2 ds) else .st := rfl
theorem eE_rng1 {a : E} : evE C (.rng1 a) ρ = (evE C a ρ).bind fun x ρ => finS ρ (rngV1 x.2) := rfl
theorem eE_rng2 {a b : E} : evE C (.rng2 a b) ρ = (evE C a ρ).bind fun x ρ => (evE C b ρ).bind fun y ρ => finS ρ (rngV2 x.2 y.2) := rfl
theorem eE_lrg1 {tp : Bool} {a : E} : evE C (.lrg1 tp a) ρ = (evE C a ρ).bind fun x ρ => fin ρ (lrgV tp (.int 0) x.2) := rfl
theorem eE_isi {a : E} {t : Ty} : evE C (.isi a t) ρ = (pk a (evE C a) ρ).bind fun x ρ => finB ρ (isTy C t x.2) := rfl
theorem run_def {T : Tb} {d f : Nat} {fd : FD} {ds : List D} (h : T.fd f = some fd) : (clOf T (d + 1)).run f ds = runF (clOf T d) fd ds := by
  show (match T.fd f with | some fd => runF (clOf T d) fd ds | none => .st) = _
  rw [h]
end
/-! ### the laws' own helpers, alike in all laws -/
def fCup : FD := ⟨1, false, [], 2, [(.set 1 (.bi .abs [(.idx (.bin .add (.bi .list [(.var 0)]) (.lst [(.cst (.int 0))])) (.cst (.int 0)))])), (.ret (.lst [(.ite (.cmp .ge (.var 1) (.bin .pow (.cst (.int 10)) (.cst (.int 18)))) (.bin .fdiv (.var 1) (.cst (.int 73))) (.cst (.int 0))), (.bin .add (.bin .mod (.bi .int [(.bin .add (.bin .mul (.var 1) (.cst (.int 283))) (.cst (.int 3907)))]) (.cst (.int 2077503167))) (.cst (.int 167)))]))]⟩
def fRoll : FD := ⟨2, true, [], 4, [(.ife (.cmp .gt (.idx (.var 0) (.cst (.int 0))) (.cst (.int 0))) [(.set 2 (.bin .mod (.bi .int [(.idx (.var 0) (.cst (.int 0)))]) (.var 1))), (.put 0 (.cst (.int 0)) (.bin .fdiv (.idx (.var 0) (.cst (.int 0))) (.var 1))), (.ret (.var 2))] []), (.put 0 (.cst (.int 1)) (.bin .mod (.bi .int [(.bin .add (.bin .mul (.idx (.var 0) (.cst (.int 1))) (.cst (.int 31051))) (.cst (.int 7993)))]) (.cst (.int 2147483543)))), (.set 3 (.bin .mod (.bi .int [(.bin .mul (.idx (.var 0) (.cst (.int 1))) (.bin .add (.idx (.var 0) (.cst (.int 1))) (.cst (.int 229))))]) (.cst (.int 2147483587)))), (.ret (.bin .mod (.bi .int [(.bin .fdiv (.var 3) (.cst (.int 821)))]) (.var 1)))]⟩
def fSome (i : Nat) : FD := ⟨2, true, [], 2, [(.ret (.idx (.var 1) (.calli i 0 [(.bi .len [(.var 1)])])))]⟩
structure CupOk (c : D) : Prop where
  ex : ∃ a b : Int, c = .lst [.int a, .int b] ∧ 0 ≤ a ∧ 0 ≤ b
theorem mulOk_r {i j : Int} (h : j.natAbs < two64) : mulOk i j = true := by
  unfold mulOk
  simp [h]
theorem divOk_small {j : Int} (h0 : 0 < j) (h : j < 1073741824) : divOk j = true := by
  unfold divOk
  have h1 : (j == 0) = false := by simp; omega
  have h2 : Nat.blt j.natAbs 1073741824 = true := by simp; omega
  rw [h1, h2]; rfl
theorem fmod_lo {a b : Int} (h : 0 < b) : 0 ≤ a.fmod b := Int.fmod_nonneg_of_pos _ h
theorem fmod_hi {a b : Int} (h : 0 < b) : a.fmod b < b := Int.fmod_lt_of_pos _ h
theorem atD_zero {x : D} {l : List D} : atD (x :: l) 0 = some x := by
  unfold atD ixD
  rw [if_pos (Int.le_refl _), if_pos (by simp)]; rfl
theorem cup_ok {T : Tb} {i : Nat} (hi : T.fd i = some fCup) (d : Nat) (ns : List Int) (hn : ns.length ≤ 63) : ∃ c, (clOf T (d + 1)).run i [.scr (ns.map .int)] = .ok true c none ∧ CupOk c := by
  rw [run_def hi]
  have e0 : ∃ x : Int, atD (ns.map D.int ++ [.int 0]) 0 = some (.int x) := by
    cases ns with
    | nil => exact ⟨0, rfl⟩
    | cons n ns => exact ⟨n, atD_zero⟩
  obtain ⟨x, e0⟩ := e0
  have hl : lenOk (ns.length + 1) = true := by unfold lenOk sz; simp; omega
  generalize hy : (if x < 0 then -x else x) = y
  have hy0 : 0 ≤ y := by rw [← hy]; split <;> omega
  have p1 : (0 : Int) < 2077503167 := by decide
  have l1 := fmod_lo (a := y * 283 + 3907) p1
  have e1 : mulOk y 283 = true := mulOk_r (by decide)
  have e2 : divOk 73 = true := by decide
  have e3 : powOk 10 18 = true := by decide
  refine ⟨.lst [.int (if 1000000000000000000 ≤ y then y.fdiv 73 else 0), .int ((y * 283 + 3907).fmod 2077503167 + 167)], ?_, ⟨_, _, rfl, ?_, by omega⟩⟩
  · by_cases h : y < 1000000000000000000
    · have h' : ¬ 1000000000000000000 ≤ y := by omega
      simp [runF, fCup, startE, fill, cellsOf, endF, ioOf, eSs_nil, eSs_cons, eS_ife, eS_set, eS_put, eS_ret, evE, evEs, evT, pk, rdP, rdE, get, put, M.bind, ofO, finB, finS, fin, cmpD, ltD, idxV, truth, h, h', retE, biD, bInt, bList, bAbs, binD, isNew, evPs, sto, List.replicate, e0, hl, hy, e1, e2, e3]
    · have h' : 1000000000000000000 ≤ y := by omega
      simp [runF, fCup, startE, fill, cellsOf, endF, ioOf, eSs_nil, eSs_cons, eS_ife, eS_set, eS_put, eS_ret, evE, evEs, evT, pk, rdP, rdE, get, put, M.bind, ofO, finB, finS, fin, cmpD, ltD, idxV, truth, h, h', retE, biD, bInt, bList, bAbs, binD, isNew, evPs, sto, List.replicate, e0, hl, hy, e1, e2, e3]
  · split
    · exact Int.fdiv_nonneg hy0 (by omega)
    · exact Int.le_refl _
theorem roll_ok {T : Tb} {i : Nat} (hi : T.fd i = some fRoll) (d : Nat) {c : D} {many : Int} (hc : CupOk c) (h0 : 0 < many) (h1 : many < 1073741824) :
    ∃ r c', (clOf T (d + 1)).run i [c, .int many] = .ok false (.int r) (some c') ∧ 0 ≤ r ∧ r < many ∧ CupOk c' := by
  obtain ⟨a, b, rfl, ha, hb⟩ := hc.ex
  rw [run_def hi]
  have hm : (many == 0) = false := by simp; omega
  have hd := divOk_small h0 h1
  by_cases h : 0 < a
  · refine ⟨a.fmod many, .lst [.int (a.fdiv many), .int b], ?_, ?_, ?_, ⟨_, _, rfl, ?_, hb⟩⟩
    · simp [runF, fRoll, startE, fill, cellsOf, endF, ioOf, eSs_nil, eSs_cons, eS_ife, eS_set, eS_put, eS_ret, evE, evT, pk, rdP, rdE, get, put, M.bind, ofO, finB, finS, fin, cmpD, ltD, idxV, atD, ixD, truth, h, retE, biD, bInt, binD, hm, hd, isNew, evPs, chg, putV, sto, List.replicate]
    · exact fmod_lo h0
    · exact fmod_hi h0
    · exact Int.fdiv_nonneg (by omega) (by omega)
  · have p1 : (0 : Int) < 2147483543 := by decide
    have l1 := fmod_lo (a := b * 31051 + 7993) p1
    have u1 := fmod_hi (a := b * 31051 + 7993) p1
    refine ⟨((((b * 31051 + 7993).fmod 2147483543) * (((b * 31051 + 7993).fmod 2147483543) + 229)).fmod 2147483587).fdiv 821 |>.fmod many, .lst [.int a, .int ((b * 31051 + 7993).fmod 2147483543)], ?_, fmod_lo h0, fmod_hi h0, ⟨_, _, rfl, ha, l1⟩⟩
    have e1 : mulOk b 31051 = true := mulOk_r (by decide)
    have e2 : mulOk ((b * 31051 + 7993).fmod 2147483543) (((b * 31051 + 7993).fmod 2147483543) + 229) = true := mulOk_r (by unfold two64; omega)
    have e3 : divOk 821 = true := by decide
    simp [runF, fRoll, startE, fill, cellsOf, endF, ioOf, eSs_nil, eSs_cons, eS_ife, eS_set, eS_put, eS_ret, evE, evT, pk, rdP, rdE, get, put, M.bind, ofO, finB, finS, fin, cmpD, ltD, idxV, atD, ixD, truth, h, retE, biD, bInt, binD, hm, hd, isNew, evPs, chg, putV, sto, List.replicate, e1, e2, e3]
theorem atD_in {α : Type} {l : List α} {i : Int} (h0 : 0 ≤ i) (h1 : i < l.length) : ∃ x, atD l i = some x ∧ x ∈ l := by
  have hi : i.toNat < l.length := by omega
  refine ⟨l[i.toNat], ?_, List.getElem_mem hi⟩
  unfold atD ixD
  rw [if_pos h0, if_pos h1]
  simp [hi]
theorem some_str {T : Tb} {i j : Nat} (hi : T.fd i = some fRoll) (hj : T.fd j = some (fSome i)) (d : Nat) {c : D} {s : List Nat} (hc : CupOk c) (h0 : s ≠ []) (h1 : s.length < 1073741824) :
    ∃ x c', (clOf T (d + 2)).run j [c, .str s] = .ok false (.str [x]) (some c') ∧ x ∈ s ∧ CupOk c' := by
  have hp : 0 < s.length := List.length_pos_iff.mpr h0
  obtain ⟨r, c', e, r0, r1, hc'⟩ := roll_ok hi d hc (many := (s.length : Int)) (by omega) (by omega)
  obtain ⟨x, ex, hx⟩ := atD_in r0 r1
  refine ⟨x, c', ?_, hx, hc'⟩
  rw [run_def hj]
  simp [runF, fSome, startE, fill, cellsOf, endF, ioOf, eSs_nil, eSs_cons, eS_ret, evE, evEs, pk, rdP, rdE, get, put, M.bind, finB, finS, fin, idxV, retE, biD, bLen, lenD, isNew, evPs, List.replicate, callIo, e, ex]
theorem some_lst {T : Tb} {i j : Nat} (hi : T.fd i = some fRoll) (hj : T.fd j = some (fSome i)) (d : Nat) {c : D} {l : List D} (hc : CupOk c) (h0 : l ≠ []) (h1 : l.length < 1073741824) :
    ∃ x c', (clOf T (d + 2)).run j [c, .lst l] = .ok false x (some c') ∧ x ∈ l ∧ CupOk c' := by
  have hp : 0 < l.length := List.length_pos_iff.mpr h0
  obtain ⟨r, c', e, r0, r1, hc'⟩ := roll_ok hi d hc (many := (l.length : Int)) (by omega) (by omega)
  obtain ⟨x, ex, hx⟩ := atD_in r0 r1
  refine ⟨x, c', ?_, hx, hc'⟩
  rw [run_def hj]
  simp [runF, fSome, startE, fill, cellsOf, endF, ioOf, eSs_nil, eSs_cons, eS_ret, evE, evEs, pk, rdP, rdE, get, put, M.bind, finB, finS, fin, idxV, retE, biD, bLen, lenD, isNew, evPs, List.replicate, callIo, e, ex]
end Py

/-! The laws' drawn words. -/
namespace Py
def fWord (i j : Nat) : FD := ⟨3, true, [], 9, [(.setP [3, 4] [(.calli i 0 [(.cst (.int 4))]), (.calli i 0 [(.bin .add (.var 1) (.cst (.int 1)))])]), (.setP [5, 6] [(.slc (.cst (.str [97, 98, 99, 100, 101, 102, 103, 104])) .nil (.var 2)), (.cst (.str []))]), (.fors (.nm 7) (.rng1 (.var 4)) [(.set 6 (.bin .add (.var 6) (.calli j 0 [(.var 5)])))]), (.ife (.or (.cmp .lt (.var 3) (.cst (.int 2))) (.cmp .eq (.var 4) (.cst (.int 0)))) [(.ret (.var 6))] []), (.set 8 (.slc (.var 6) .nil (.bin .add (.cst (.int 1)) (.calli i 0 [(.var 4)])))), (.ife (.cmp .eq (.var 3) (.cst (.int 2))) [(.ret (.slc (.bin .mul (.var 8) (.bin .add (.bin .fdiv (.var 4) (.bi .len [(.var 8)])) (.cst (.int 1)))) .nil (.var 4)))] []), (.ret (.slc (.bin .add (.var 8) (.rev (.var 8))) .nil (.var 1)))]⟩
/-- letters of the first n -/
def LetOk (n : Int) (w : List Nat) : Prop := ∀ x, x ∈ w → 97 ≤ x ∧ (x : Int) < 97 + n
theorem LetOk.app {n : Int} {a b : List Nat} (h : LetOk n a) (h' : LetOk n b) : LetOk n (a ++ b) := fun x hx => (List.mem_append.mp hx).elim (h x) (h' x)
theorem LetOk.sub {n : Int} {a b : List Nat} (h : LetOk n a) (hs : ∀ x, x ∈ b → x ∈ a) : LetOk n b := fun x hx => h x (hs x hx)
theorem cut_mem {α : Type} {l : List α} {lo hi : Option Int} {x : α} (h : x ∈ cut l lo hi) : x ∈ l := by
  unfold cut at h
  exact List.mem_of_mem_drop (List.mem_of_mem_take h)
theorem repL_mem {α : Type} {l : List α} {x : α} : ∀ {n : Nat}, x ∈ repL l n → x ∈ l
  | 0, h => by simp [repL] at h
  | n + 1, h => by
    simp only [repL, List.mem_append] at h
    exact h.elim id repL_mem
theorem repL_len {α : Type} {l : List α} : ∀ {n : Nat}, (repL l n).length = n * l.length
  | 0 => by simp [repL]
  | n + 1 => by simp only [repL, List.length_append, repL_len]; rw [Nat.add_mul]; omega
def abc : List Nat := [97, 98, 99, 100, 101, 102, 103, 104]
theorem abc_cut {n : Int} (h0 : 1 ≤ n) (h8 : n ≤ 8) : (cut abc none (some n)).length = n.toNat ∧ LetOk n (cut abc none (some n)) := by
  have : n = 1 ∨ n = 2 ∨ n = 3 ∨ n = 4 ∨ n = 5 ∨ n = 6 ∨ n = 7 ∨ n = 8 := by omega
  rcases this with rfl | rfl | rfl | rfl | rfl | rfl | rfl | rfl <;> exact ⟨rfl, fun x hx => by
    have e : ∀ m, cut abc none (some m) = (cut abc none (some m)) := fun _ => rfl
    revert hx
    revert x
    decide⟩
def envW (c : D) (most letters way size : Int) (signs found : List Nat) (t p : Cell) : Env := [some (.io, c), some (.shr, .int most), some (.shr, .int letters), some (.shr, .int way), some (.shr, .int size), some (.shr, .str signs), some (.shr, .str found), t, p]
theorem word_loop {T : Tb} {i j : Nat} (hi : T.fd i = some fRoll) (hj : T.fd j = some (fSome i)) (hio : ioT T j = true) (d : Nat) {most letters way size : Int} {signs : List Nat} (hs : signs ≠ []) (hs1 : signs.length ≤ 8) (hL : LetOk letters signs) (p : Cell) : ∀ (ds : List D) (c : D) (w : List Nat) (t : Cell), CupOk c → LetOk letters w → w.length + ds.length ≤ 1000000 →
    ∃ c' w' t', forL (fun x ρ => (bnd (.nm 7) x ρ).bind fun _ ρ => evSs (clOf T (d + 2)) [.set 6 (.bin .add (.var 6) (.calli j 0 [.var 5]))] ρ) ds (envW c most letters way size signs w t p) = .ok .nx (envW c' most letters way size signs w' t' p) ∧ CupOk c' ∧ LetOk letters w' ∧ w'.length = w.length + ds.length
  | [], c, w, t, hc, hw, hl => ⟨c, w, t, rfl, hc, hw, by simp⟩
  | x :: ds, c, w, t, hc, hw, hl => by
    obtain ⟨y, c1, e, hy, hc1⟩ := some_str hi hj d hc hs (by omega)
    have hw1 : LetOk letters (w ++ [y]) := hw.app fun z hz => by simp at hz; subst hz; exact hL _ hy
    have hlen : lenOk (w.length + 1) = true := by unfold lenOk sz; simp at hl ⊢; omega
    obtain ⟨c', w', t', e', h1, h2, h3⟩ := word_loop hi hj hio d hs hs1 hL p ds c1 (w ++ [y]) (some (.shr, x)) hc1 hw1 (by simp at hl ⊢; omega)
    refine ⟨c', w', t', ?_, h1, h2, by rw [h3]; simp; omega⟩
    rw [← e']
    simp [forL, bnd, bindP, envW, put, M.bind, eSs_cons, eSs_nil, eS_set, evE, evEs, pk, rdP, rdE, get, callIo, e, fin, binD, hlen, sto, isNew]
theorem rngL_len (n : Int) : (rngL 0 n 1).length = n.toNat := by
  have h : ∀ (k : Nat) (i : Int), (rngG 1 k i).length = k := by
    intro k
    induction k with
    | zero => intro i; rfl
    | succ k ih => intro i; simp [rngG, ih]
  unfold rngL
  rw [h]
  unfold rngN
  rw [if_pos (by decide)]
  simp
theorem cut_to_len {α : Type} {l : List α} {n : Int} (h : 0 ≤ n) : (cut l none (some n)).length ≤ n.toNat := by
  unfold cut clampI
  simp only [List.length_take, List.length_drop]
  split
  · omega
  · omega
theorem cut_to_eq {α : Type} {l : List α} {n : Int} (h : 0 ≤ n) : cut l none (some n) = l.take n.toNat := by
  unfold cut clampI
  simp only [List.drop_zero, Nat.sub_zero]
  rw [if_neg (by omega), List.take_eq_take_iff]
  omega
theorem word_ok {T : Tb} {i j k : Nat} (hi : T.fd i = some fRoll) (hj : T.fd j = some (fSome i)) (hk : T.fd k = some (fWord i j)) (d : Nat) {c : D} {most letters : Int} (hc : CupOk c) (m0 : 0 ≤ most) (m1 : most ≤ 1000) (l0 : 1 ≤ letters) (l8 : letters ≤ 8) :
    ∃ w c', (clOf T (d + 3)).run k [c, .int most, .int letters] = .ok false (.str w) (some c') ∧ (w.length : Int) ≤ most ∧ LetOk letters w ∧ CupOk c' := by
  have hio : ioT T j = true := by unfold ioT; rw [hj]; rfl
  have hioi : ioT T i = true := by unfold ioT; rw [hi]; rfl
  obtain ⟨way, c1, e1, w0, w1, hc1⟩ := roll_ok hi (d + 1) hc (many := 4) (by decide) (by decide)
  obtain ⟨size, c2, e2, s0, s1, hc2⟩ := roll_ok hi (d + 1) hc1 (many := most + 1) (by omega) (by omega)
  obtain ⟨g1, g2⟩ := abc_cut l0 l8
  have gne : cut abc none (some letters) ≠ [] := by intro z; rw [z] at g1; simp at g1; omega
  have sm : smallI size = true := smallI_iff.mpr (by omega)
  obtain ⟨c3, w, t, e3, hc3, hw, hlen⟩ := word_loop hi hj hio d (most := most) (letters := letters) (way := way) (size := size) gne (by omega) g2 none (rngL 0 size 1) c2 [] none hc2 (fun _ h => by simp at h) (by rw [rngL_len]; simp; omega)
  rw [rngL_len] at hlen
  have hlen : (w.length : Int) = size := by simp at hlen; omega
  rw [run_def hk]
  have hF : evS (clOf T (d + 2)) (.fors (.nm 7) (.rng1 (.var 4)) [.set 6 (.bin .add (.var 6) (.calli j 0 [.var 5]))]) (envW c2 most letters way size (cut abc none (some letters)) [] none none) = .ok .nx (envW c3 most letters way size (cut abc none (some letters)) w t none) := by
    rw [eS_fors]
    have e : ((evE (clOf T (d + 2)) (.rng1 (.var 4)) (envW c2 most letters way size (cut abc none (some letters)) [] none none)).bind itI) = .ok (rngL 0 size 1) (envW c2 most letters way size (cut abc none (some letters)) [] none none) := by
      simp [evE, rdE, envW, get, M.bind, finS, rngV1, sm, itI]
    rw [e]; exact e3
  simp only [envW] at hF
  have p0 : ∀ z : Int, plain (.int z) = true := fun _ => rfl
  have p1 : ∀ z y : Int, eqD (.int z) (.int y) = (z == y) := fun _ _ => rfl
  have e2' : (clOf T (d + 2)).run i [c1, .int (most + 1)] = _ := e2
  have e1' : (clOf T (d + 2)).run i [c, .int 4] = _ := e1
  have habc : cut [97, 98, 99, 100, 101, 102, 103, 104] none (some letters) = cut abc none (some letters) := rfl
  by_cases hA : way < 2
  · refine ⟨w, c3, ?_, by omega, hw, hc3⟩
    simp [runF, fWord, startE, fill, cellsOf, endF, ioOf, eSs_nil, eSs_cons, eS_ife, eS_set, eS_setP, eS_ret, evE, evEs, evRs, evT, pk, rdP, rdE, get, put, M.bind, ofO, finB, finS, fin, cmpD, ltD, hA, retE, binD, isNew, sto, stoL, List.replicate, callIo, e1', e2', partI, slcV, habc, hF]
  · by_cases hB : size = 0
    · refine ⟨w, c3, ?_, by omega, hw, hc3⟩
      subst hB
      simp [runF, fWord, startE, fill, cellsOf, endF, ioOf, eSs_nil, eSs_cons, eS_ife, eS_set, eS_setP, eS_ret, evE, evEs, evPs, evRs, evT, pk, rdP, rdE, get, put, M.bind, ofO, finB, finS, fin, cmpD, ltD, hA, retE, binD, isNew, sto, stoL, List.replicate, callIo, e1', e2', partI, slcV, habc, hF, p0, p1]
    · obtain ⟨r, c4, e4, r0, r1, hc4⟩ := roll_ok hi (d + 1) hc3 (many := size) (by omega) (by omega)
      have e4' : (clOf T (d + 2)).run i [c3, .int size] = _ := e4
      have hB' : (size == 0) = false := by simpa using hB
      have hp : cut w none (some (1 + r)) = w.take (1 + r).toNat := cut_to_eq (by omega)
      have hpl : ((w.take (1 + r).toNat).length : Int) = 1 + r := by rw [List.length_take]; omega
      have hpw : LetOk letters (w.take (1 + r).toNat) := hw.sub fun x hx => List.mem_of_mem_take hx
      generalize hpc : w.take (1 + r).toNat = piece at *
      by_cases hC : way = 2
      · have hC' : (way == 2) = true := by simp [hC]
        have hdv : divOk (piece.length : Int) = true := divOk_small (by omega) (by omega)
        have hq0 : 0 ≤ size.fdiv piece.length := Int.fdiv_nonneg s0 (by omega)
        have hq1 : size.fdiv piece.length ≤ size := by
          rw [Int.fdiv_eq_ediv_of_nonneg _ (by omega)]
          exact Int.ediv_le_self _ s0
        have hq2 : size.fdiv piece.length * piece.length ≤ size := by
          rw [Int.fdiv_eq_ediv_of_nonneg _ (by omega)]
          exact Int.ediv_mul_le _ (by omega)
        have hsm : smallI (size.fdiv piece.length + 1) = true := smallI_iff.mpr (by omega)
        have hln : lenOk (piece.length * (size.fdiv piece.length + 1).toNat) = true := by
          unfold lenOk sz
          have e : (size.fdiv piece.length + 1).toNat ≤ 2000 := by omega
          have e' : piece.length ≤ 2000 := by omega
          have := Nat.mul_le_mul e' e
          simp; omega
        refine ⟨cut (repL piece (size.fdiv piece.length + 1).toNat) none (some size), c4, ?_, ?_, hpw.sub fun x hx => repL_mem (cut_mem hx), hc4⟩
        · simp [runF, fWord, startE, fill, cellsOf, endF, ioOf, eSs_nil, eSs_cons, eS_ife, eS_set, eS_setP, eS_ret, evE, evEs, evPs, evRs, evT, pk, rdP, rdE, get, put, M.bind, ofO, finB, finS, fin, cmpD, ltD, hA, retE, binD, isNew, sto, stoL, List.replicate, callIo, e1', e2', partI, slcV, habc, hF, p0, p1, hB', e4', hp, hC', biD, bLen, lenD, hdv, hsm, hln]
        · have := cut_to_len (l := repL piece (size.fdiv piece.length + 1).toNat) s0
          omega
      · have hC' : (way == 2) = false := by simpa using hC
        have hln : lenOk (piece.length + piece.length) = true := by unfold lenOk sz; simp; omega
        refine ⟨cut (piece ++ piece.reverse) none (some most), c4, ?_, ?_, (hpw.app (hpw.sub fun x hx => List.mem_reverse.mp hx)).sub fun x hx => cut_mem hx, hc4⟩
        · simp [runF, fWord, startE, fill, cellsOf, endF, ioOf, eSs_nil, eSs_cons, eS_ife, eS_set, eS_setP, eS_ret, evE, evEs, evPs, evRs, evT, pk, rdP, rdE, get, put, M.bind, ofO, finB, finS, fin, cmpD, ltD, hA, retE, binD, isNew, sto, stoL, List.replicate, callIo, e1', e2', partI, slcV, habc, hF, p0, p1, hB', e4', hp, hC', revV, hln]
        · have := cut_to_len (l := piece ++ piece.reverse) m0
          omega
end Py

/-! The laws' comparing. -/
namespace Py
def fSort : FD := ⟨1, false, [], 1, [(.ife (.or (.cmp .is_ (.var 0) (.cst .non)) (.tru (.isi (.var 0) .bool))) [(.ret (.ite (.cmp .is_ (.var 0) (.cst .non)) (.cst (.int 0)) (.cst (.int 1))))] []), (.ife (.or (.tru (.isi (.var 0) .int)) (.tru (.isi (.var 0) .str))) [(.ret (.ite (.tru (.isi (.var 0) .int)) (.cst (.int 2)) (.cst (.int 3))))] []), (.ret (.ite (.tru (.isi (.var 0) .tuple)) (.cst (.int 4)) (.ite (.tru (.isi (.var 0) .list)) (.cst (.int 5)) (.cst (.int 6)))))]⟩
def fLike (s l : Nat) : FD := ⟨2, false, [], 5, [(.set 2 (.call s [(.var 1)])), (.ife (.or (.cmp .ne (.call s [(.var 0)]) (.var 2)) (.cmp .eq (.var 2) (.cst (.int 6)))) [(.ret (.cst (.bl false)))] []), (.ife (.cmp .isin (.var 2) (.tup [(.cst (.int 4)), (.cst (.int 5))])) [(.ret (.and (.cmp .eq (.bi .len [(.var 0)]) (.bi .len [(.var 1)])) (.cmp .eq (.comp [3, 4] (.tp [(.nm 3), (.nm 4)]) (.zip (.var 0) (.var 1)) (.not (.tru (.call l [(.var 3), (.var 4)]))) (.cst (.int 1))) (.lst []))))] []), (.ret (.cmp .eq (.var 0) (.var 1)))]⟩
def sortN : D → Int
  | .non => 0 | .bl _ => 1 | .int _ => 2 | .str _ => 3 | .tup _ => 4 | .lst _ => 5 | _ => 6
mutual
def likeD : D → D → Bool
  | .non, .non => true
  | .bl a, .bl b => a == b
  | .int a, .int b => a == b
  | .str a, .str b => a == b
  | .tup a, .tup b => likeL a b
  | .lst a, .lst b => likeL a b
  | _, _ => false
def likeL : List D → List D → Bool
  | [], [] => true
  | a :: l, b :: m => likeD a b && likeL l m
  | _, _ => false
end
def lkOk : Nat → D → Bool
  | _, .non => true
  | _, .bl _ => true
  | _, .int _ => true
  | _, .str _ => true
  | n + 1, .tup l => decide (l.length ≤ 100000) && l.all (lkOk n)
  | n + 1, .lst l => decide (l.length ≤ 100000) && l.all (lkOk n)
  | _, _ => false
theorem sort_ok {T : Tb} {i : Nat} (hi : T.fd i = some fSort) (d : Nat) {n : Nat} {a : D} (h : lkOk n a = true) : (clOf T (d + 1)).run i [a] = .ok false (.int (sortN a)) none := by
  rw [run_def hi]
  cases a <;> first
    | (simp [runF, fSort, startE, fill, cellsOf, endF, ioOf, eSs_nil, eSs_cons, eS_ife, eS_ret, evE, evT, pk, rdP, rdE, get, put, M.bind, ofO, finB, finS, fin, cmpD, isD, isTy, truth, retE, isNew, List.replicate, sortN]; done)
    | (cases n <;> simp [lkOk] at h)
theorem cmpL_inv {f : D → Env → M (Option D)} {P : Env → Prop} {g : D → Option D} : ∀ (ds acc : List D) (ρ : Env), (∀ x, x ∈ ds → ∀ ρ, P ρ → ∃ ρ', f x ρ = .ok (g x) ρ' ∧ P ρ') → P ρ → ∃ ρ', cmpL f ds acc ρ = .ok (acc.reverse ++ ds.filterMap g) ρ' ∧ P ρ'
  | [], acc, ρ, h, p => ⟨ρ, by simp [cmpL], p⟩
  | x :: ds, acc, ρ, h, p => by
    obtain ⟨ρ1, e1, p1⟩ := h x List.mem_cons_self ρ p
    cases z : g x with
    | none =>
      obtain ⟨ρ2, e2, p2⟩ := cmpL_inv ds acc ρ1 (fun y hy => h y (List.mem_cons_of_mem _ hy)) p1
      exact ⟨ρ2, by simp only [cmpL, e1, M.bind, z, e2, List.filterMap_cons], p2⟩
    | some y =>
      obtain ⟨ρ2, e2, p2⟩ := cmpL_inv ds (y :: acc) ρ1 (fun y hy => h y (List.mem_cons_of_mem _ hy)) p1
      exact ⟨ρ2, by simp only [cmpL, e1, M.bind, z, e2, List.filterMap_cons, List.reverse_cons, List.append_assoc, List.singleton_append], p2⟩
def envL (a b : D) (t u : Cell) : Env := [some (.shr, a), some (.shr, b), some (.shr, .int (sortN b)), t, u]
def notLike : D → Option D
  | .tup [x, y] => if likeD x y then none else some (.int 1)
  | _ => none
theorem zip_notLike : ∀ (l m : List D), l.length = m.length → ((zipD l m).filterMap notLike).isEmpty = likeL l m
  | [], [], _ => rfl
  | x :: l, y :: m, h => by
    have ih := zip_notLike l m (by simpa using h)
    simp only [zipD, List.filterMap_cons, notLike, likeL]
    by_cases q : likeD x y = true
    · simp [q, ih]
    · simp [q]
  | [], _ :: _, h => by simp at h
  | _ :: _, [], h => by simp at h
theorem likeL_len : ∀ {l m : List D}, likeL l m = true → l.length = m.length
  | [], [], _ => rfl
  | x :: l, y :: m, h => by
    simp only [likeL, Bool.and_eq_true] at h
    simp [likeL_len h.2]
  | [], _ :: _, h => by simp [likeL] at h
  | _ :: _, [], h => by simp [likeL] at h
theorem zip_mem {l m : List D} : ∀ {z : D}, z ∈ zipD l m → ∃ x y, z = .tup [x, y] ∧ x ∈ l ∧ y ∈ m := by
  induction l generalizing m with
  | nil => intro z h; simp [zipD] at h
  | cons a l ih =>
    intro z h
    cases m with
    | nil => simp [zipD] at h
    | cons b m =>
      simp only [zipD, List.mem_cons] at h
      rcases h with rfl | h
      · exact ⟨a, b, rfl, by simp, by simp⟩
      · obtain ⟨x, y, e, h1, h2⟩ := ih h
        exact ⟨x, y, e, List.mem_cons_of_mem _ h1, List.mem_cons_of_mem _ h2⟩
theorem zipD_len : ∀ (l m : List D), (zipD l m).length ≤ l.length
  | [], m => by simp [zipD]
  | _ :: _, [] => by simp [zipD]
  | a :: l, b :: m => by simp [zipD, zipD_len l m]
theorem ones_plain (l : List D) : plain (.lst (l.filterMap notLike)) = true := by
  show (l.filterMap notLike).all (plainN 39) = true
  rw [List.all_eq_true]
  intro x hx
  obtain ⟨y, _, e⟩ := List.mem_filterMap.mp hx
  unfold notLike at e
  split at e
  · split at e
    · cases e
    · cases e; rfl
  · cases e
theorem like_zip {T : Tb} {s l : Nat} {D0 : Nat} {a b : D} {xs ys : List D} (hz : zipV a b = some (.itr (zipD xs ys))) (hlen : xs.length ≤ 100000)
    (k : ∀ x y, x ∈ xs → y ∈ ys → (clOf T D0).run l [x, y] = .ok false (.bl (likeD x y)) none) :
    evE (clOf T D0) (.comp [3, 4] (.tp [(.nm 3), (.nm 4)]) (.zip (.var 0) (.var 1)) (.not (.tru (.call l [(.var 3), (.var 4)]))) (.cst (.int 1))) (envL a b none none) = .ok (true, .lst ((zipD xs ys).filterMap notLike)) (envL a b none none) := by
  have e1 : (evE (clOf T D0) (.zip (.var 0) (.var 1)) (envL a b none none)).bind itI = .ok (zipD xs ys) (envL a b none none) := by
    simp [evE, rdE, envL, get, M.bind, finS, hz, itI]
  have e2 : ∀ f : D → Env → M (Option D), (∀ x, x ∈ zipD xs ys → ∀ ρ, (∃ t u, ρ = envL a b t u) → ∃ ρ', f x ρ = .ok (notLike x) ρ' ∧ ∃ t u, ρ' = envL a b t u) → ∃ t u, cmpL f (zipD xs ys) [] (envL a b none none) = .ok ((zipD xs ys).filterMap notLike) (envL a b t u) := by
    intro f hf
    obtain ⟨ρ', e, t, u, rfl⟩ := cmpL_inv (P := fun ρ => ∃ t u, ρ = envL a b t u) (zipD xs ys) [] (envL a b none none) hf ⟨none, none, rfl⟩
    exact ⟨t, u, e⟩
  have hl : lenOk ((zipD xs ys).filterMap notLike).length = true := by
    have h1 := List.length_filterMap_le notLike (zipD xs ys)
    have h2 := zipD_len xs ys
    unfold lenOk sz; simp; omega
  rw [evE, e1]
  simp only [M.bind]
  have e3 := e2 (fun d ρ => (bnd (.tp [(.nm 3), (.nm 4)]) d (clr [3, 4] ρ)).bind fun _ ρ => (evT (clOf T D0) (.not (.tru (.call l [(.var 3), (.var 4)]))) ρ).bind fun b ρ => if b then (evE (clOf T D0) (.cst (.int 1)) ρ).bind fun x ρ => .ok (some x.2) ρ else .ok none ρ) ?_
  · obtain ⟨t, u, e3⟩ := e3
    simp only [M.bind] at e3
    rw [e3]
    simp only [noEx, hl]
    simp [okOwn, envL, get, rst, put]
  · rintro z hz ρ ⟨t, u, rfl⟩
    obtain ⟨x, y, rfl, hx, hy⟩ := zip_mem hz
    refine ⟨envL a b (some (.shr, x)) (some (.shr, y)), ?_, _, _, rfl⟩
    have kk := k x y hx hy
    by_cases q : likeD x y = true
    · simp [bnd, bindP, bindL, clr, envL, put, M.bind, evT, evE, evEs, pk, rdE, get, kk, callN, ofO, truth, notLike, q]
    · have q : likeD x y = false := by simpa using q
      simp [bnd, bindP, bindL, clr, envL, put, M.bind, evT, evE, evEs, pk, rdE, get, kk, callN, ofO, truth, notLike, q]
theorem eqL_nil (l : List D) : eqL l [] = l.isEmpty := by cases l <;> rfl
theorem like_ok {T : Tb} {s l : Nat} (hs : T.fd s = some fSort) (hl : T.fd l = some (fLike s l)) (d : Nat) : ∀ (n : Nat) (a b : D), lkOk n a = true → lkOk n b = true → (clOf T (d + n + 2)).run l [a, b] = .ok false (.bl (likeD a b)) none := by
  intro n
  induction n with
  | zero =>
    intro a b ha hb
    have s1 := sort_ok hs d ha
    have s2 := sort_ok hs d hb
    have p0 : ∀ z : Int, plain (.int z) = true := fun _ => rfl
    have p1 : ∀ z y : Int, eqD (.int z) (.int y) = (z == y) := fun _ _ => rfl
    have q0 : ∀ z : Bool, plain (.bl z) = true := fun _ => rfl
    have q1 : ∀ z, plain (.str z) = true := fun _ => rfl
    have q2 : plain .non = true := rfl
    rw [run_def hl]
    by_cases hne : sortN a = sortN b
    · cases a <;> first | (simp [lkOk] at ha; done) | skip
      all_goals cases b <;> first | (simp [lkOk] at hb; done) | (exfalso; simp [sortN] at hne; done) | skip
      all_goals simp [runF, fLike, startE, fill, cellsOf, endF, ioOf, eSs_nil, eSs_cons, eS_ife, eS_set, eS_ret, evE, evEs, evPs, evT, pk, rdP, rdE, get, put, M.bind, ofO, finB, finS, fin, cmpD, retE, isNew, List.replicate, callN, sto, s1, s2, p0, p1, inD, plainL, memD, eqD, sortN, q0, q1, q2, likeD]
    · have hl : likeD a b = false := by
        cases a <;> first | (simp [lkOk] at ha; done) | skip
        all_goals cases b <;> first | (simp [lkOk] at hb; done) | (exact absurd rfl hne) | rfl
      have hne' : (sortN a == sortN b) = false := by simpa using hne
      simp [runF, fLike, startE, fill, cellsOf, endF, ioOf, eSs_nil, eSs_cons, eS_ife, eS_set, eS_ret, evE, evEs, evPs, evT, pk, rdP, rdE, get, put, M.bind, ofO, finB, finS, fin, cmpD, retE, isNew, List.replicate, callN, sto, s1, s2, p0, p1, inD, plainL, memD, eqD, hne', hl]
  | succ n ih =>
    intro a b ha hb
    have s1 := sort_ok hs (d + n + 1) ha
    have s2 := sort_ok hs (d + n + 1) hb
    have p0 : ∀ z : Int, plain (.int z) = true := fun _ => rfl
    have p1 : ∀ z y : Int, eqD (.int z) (.int y) = (z == y) := fun _ _ => rfl
    have q0 : ∀ z : Bool, plain (.bl z) = true := fun _ => rfl
    have q1 : ∀ z, plain (.str z) = true := fun _ => rfl
    have q2 : plain .non = true := rfl
    rw [show d + (n + 1) + 2 = (d + n + 2) + 1 from by omega, run_def hl]
    by_cases hne : sortN a = sortN b
    · cases a <;> first | (simp [lkOk] at ha; done) | skip
      all_goals cases b <;> first | (simp [lkOk] at hb; done) | (exfalso; simp [sortN] at hne; done) | skip
      all_goals first | (simp [runF, fLike, startE, fill, cellsOf, endF, ioOf, eSs_nil, eSs_cons, eS_ife, eS_set, eS_ret, evE, evEs, evPs, evT, pk, rdP, rdE, get, put, M.bind, ofO, finB, finS, fin, cmpD, retE, isNew, List.replicate, callN, sto, s1, s2, p0, p1, inD, plainL, memD, eqD, sortN, q0, q1, q2, likeD]; done) | skip
      · rename_i xs ys
        have ha' := ha
        have hb' := hb
        simp only [lkOk, Bool.and_eq_true, decide_eq_true_eq, List.all_eq_true] at ha' hb'
        have hc := like_zip (T := T) (s := s) (l := l) (D0 := d + n + 2) (a := .tup xs) (b := .tup ys) rfl ha'.1 (fun x y hx hy => ih x y (ha'.2 x hx) (hb'.2 y hy))
        simp only [envL, sortN] at hc
        have o1 := ones_plain (zipD xs ys)
        have o2 : plain (.lst []) = true := rfl
        by_cases hle : xs.length = ys.length
        · have o3 := zip_notLike xs ys hle
          have hle' : ((xs.length : Int) == (ys.length : Int)) = true := by simp [hle]
          simp [runF, fLike, startE, fill, cellsOf, endF, ioOf, eSs_nil, eSs_cons, eS_ife, eS_set, eS_ret, evEs, evPs, evT, pk, rdP, rdE, get, put, M.bind, ofO, finB, finS, fin, cmpD, retE, isNew, List.replicate, callN, sto, s1, s2, p0, p1, inD, plainL, memD, eqD, sortN, eE_and, eE_cmp, eE_bi, eE_var, eE_cst, eE_call, eE_tup, eE_lst, biD, bLen, lenD, tst, truth, hc, hle', o1, o2, eqL_nil, o3, likeD]
        · have hle' : ((xs.length : Int) == (ys.length : Int)) = false := by simp; omega
          have o3 : likeL xs ys = false := by
            cases q : likeL xs ys with
            | false => rfl
            | true => exact absurd (likeL_len q) hle
          simp [runF, fLike, startE, fill, cellsOf, endF, ioOf, eSs_nil, eSs_cons, eS_ife, eS_set, eS_ret, evEs, evPs, evT, pk, rdP, rdE, get, put, M.bind, ofO, finB, finS, fin, cmpD, retE, isNew, List.replicate, callN, sto, s1, s2, p0, p1, inD, plainL, memD, eqD, sortN, eE_and, eE_cmp, eE_bi, eE_var, eE_cst, eE_call, eE_tup, eE_lst, biD, bLen, lenD, tst, truth, hle', o3, likeD]
      · rename_i xs ys
        have ha' := ha
        have hb' := hb
        simp only [lkOk, Bool.and_eq_true, decide_eq_true_eq, List.all_eq_true] at ha' hb'
        have hc := like_zip (T := T) (s := s) (l := l) (D0 := d + n + 2) (a := .lst xs) (b := .lst ys) rfl ha'.1 (fun x y hx hy => ih x y (ha'.2 x hx) (hb'.2 y hy))
        simp only [envL, sortN] at hc
        have o1 := ones_plain (zipD xs ys)
        have o2 : plain (.lst []) = true := rfl
        by_cases hle : xs.length = ys.length
        · have o3 := zip_notLike xs ys hle
          have hle' : ((xs.length : Int) == (ys.length : Int)) = true := by simp [hle]
          simp [runF, fLike, startE, fill, cellsOf, endF, ioOf, eSs_nil, eSs_cons, eS_ife, eS_set, eS_ret, evEs, evPs, evT, pk, rdP, rdE, get, put, M.bind, ofO, finB, finS, fin, cmpD, retE, isNew, List.replicate, callN, sto, s1, s2, p0, p1, inD, plainL, memD, eqD, sortN, eE_and, eE_cmp, eE_bi, eE_var, eE_cst, eE_call, eE_tup, eE_lst, biD, bLen, lenD, tst, truth, hc, hle', o1, o2, eqL_nil, o3, likeD]
        · have hle' : ((xs.length : Int) == (ys.length : Int)) = false := by simp; omega
          have o3 : likeL xs ys = false := by
            cases q : likeL xs ys with
            | false => rfl
            | true => exact absurd (likeL_len q) hle
          simp [runF, fLike, startE, fill, cellsOf, endF, ioOf, eSs_nil, eSs_cons, eS_ife, eS_set, eS_ret, evEs, evPs, evT, pk, rdP, rdE, get, put, M.bind, ofO, finB, finS, fin, cmpD, retE, isNew, List.replicate, callN, sto, s1, s2, p0, p1, inD, plainL, memD, eqD, sortN, eE_and, eE_cmp, eE_bi, eE_var, eE_cst, eE_call, eE_tup, eE_lst, biD, bLen, lenD, tst, truth, hle', o3, likeD]
    · have hl : likeD a b = false := by
        cases a <;> first | (simp [lkOk] at ha; done) | skip
        all_goals cases b <;> first | (simp [lkOk] at hb; done) | (exact absurd rfl hne) | rfl
      have hne' : (sortN a == sortN b) = false := by simpa using hne
      simp [runF, fLike, startE, fill, cellsOf, endF, ioOf, eSs_nil, eSs_cons, eS_ife, eS_set, eS_ret, evE, evEs, evPs, evT, pk, rdP, rdE, get, put, M.bind, ofO, finB, finS, fin, cmpD, retE, isNew, List.replicate, callN, sto, s1, s2, p0, p1, inD, plainL, memD, eqD, hne', hl]
end Py

/-! The program's basics. -/
namespace Py
def b0 : FD := ⟨1, false, [], 1, [(.ret (.and (.isi (.var 0) .int) (.not (.isi (.var 0) .bool))))]⟩
def b1 : FD := ⟨3, false, [], 3, [(.ret (.and (.call 0 [(.var 0)]) (.cmp2 .le .le (.var 1) (.var 0) (.var 2))))]⟩
def b2 : FD := ⟨3, false, [], 3, [(.ife (.not (.tru (.call 1 [(.var 0), (.var 1), (.var 2)]))) [(.exp (.popD 0 .nil .nil))] [])]⟩
def b5 : FD := ⟨4, false, [], 5, [(.ret (.and (.isi (.var 0) .str) (.and (.cmp2 .le .le (.var 2) (.bi .len [(.var 0)]) (.var 3)) (.bi .all [(.comp [4] (.nm 4) (.var 0) .yes (.cmp .isin (.var 4) (.var 1)))]))))]⟩
def b6 : FD := ⟨1, false, [], 1, [(.ret (.call 5 [(.var 0), (.cst (.str [97, 98, 99, 100, 101, 102, 103, 104])), (.cst (.int 0)), (.cst (.int 200))]))]⟩
def b7 : FD := ⟨1, false, [], 1, [(.ife (.not (.tru (.call 6 [(.var 0)]))) [(.exp (.popD 0 .nil .nil))] [])]⟩
theorem int0_ok {T : Tb} (h0 : T.fd 0 = some b0) (d : Nat) (z : Int) : (clOf T (d + 1)).run 0 [.int z] = .ok false (.bl true) none := by
  rw [run_def h0]
  simp [runF, b0, startE, fill, cellsOf, endF, ioOf, eSs_nil, eSs_cons, eS_ret, evE, pk, rdP, rdE, get, put, M.bind, finB, retE, isTy, tst, truth, List.replicate]
theorem whole_ok {T : Tb} (h0 : T.fd 0 = some b0) (h1 : T.fd 1 = some b1) (d : Nat) {z lo hi : Int} (a : lo ≤ z) (b : z ≤ hi) : (clOf T (d + 2)).run 1 [.int z, .int lo, .int hi] = .ok false (.bl true) none := by
  rw [run_def h1]
  have e := int0_ok h0 d z
  have a' : ¬ z < lo := by omega
  have b' : ¬ hi < z := by omega
  simp [runF, b1, startE, fill, cellsOf, endF, ioOf, eSs_nil, eSs_cons, eS_ret, evE, evEs, pk, rdP, rdE, get, put, M.bind, finB, retE, tst, truth, List.replicate, callN, e, cmpD, ltD, a', b']
theorem needw_ok {T : Tb} (h0 : T.fd 0 = some b0) (h1 : T.fd 1 = some b1) (h2 : T.fd 2 = some b2) (d : Nat) {z lo hi : Int} (a : lo ≤ z) (b : z ≤ hi) : (clOf T (d + 3)).run 2 [.int z, .int lo, .int hi] = .ok false .non none := by
  rw [run_def h2]
  have e := whole_ok h0 h1 d a b
  simp [runF, b2, startE, fill, cellsOf, endF, ioOf, eSs_nil, eSs_cons, eS_ife, evE, evEs, evT, pk, rdP, rdE, get, put, M.bind, ofO, finB, truth, List.replicate, callN, e]
theorem chars_mem : ∀ {s : List Nat} {x : D}, x ∈ chars s → ∃ c, x = .str [c] ∧ c ∈ s
  | [], x, h => by simp [chars] at h
  | c :: s, x, h => by
    simp only [chars, List.mem_cons] at h
    rcases h with rfl | h
    · exact ⟨c, rfl, by simp⟩
    · obtain ⟨c', e, h⟩ := chars_mem h
      exact ⟨c', e, List.mem_cons_of_mem _ h⟩
theorem sub_one {c : Nat} : ∀ {s : List Nat} {k : Nat}, c ∈ s → (findS [c] s k).isSome = true
  | [], k, h => by simp at h
  | x :: s, k, h => by
    unfold findS
    split
    · rfl
    · rename_i q
      rcases List.mem_cons.mp h with rfl | h
      · exact absurd (by simp [isPre]) q
      · exact sub_one h
theorem trues (l : List D) : blsD (l.filterMap fun _ => some (.bl true)) = some (l.map fun _ => true) := by
  induction l with
  | nil => rfl
  | cons a l ih => simp only [List.filterMap_cons, blsD, ih, Option.map_some, List.map_cons]
theorem trues' (l : List D) : blsD (l.map fun _ => D.bl true) = some (l.map fun _ => true) := by
  induction l with
  | nil => rfl
  | cons a l ih => simp only [List.map_cons, blsD, ih, Option.map_some]
theorem chars_len : ∀ s : List Nat, (chars s).length = s.length
  | [] => rfl
  | c :: s => by simp [chars, chars_len s]
theorem strof_ok {T : Tb} (h5 : T.fd 5 = some b5) (d : Nat) {w signs : List Nat} {lo hi : Int} (a : lo ≤ w.length) (b : (w.length : Int) ≤ hi) (hw : ∀ x, x ∈ w → x ∈ signs) (hl : w.length ≤ 100000) :
    (clOf T (d + 1)).run 5 [.str w, .str signs, .int lo, .int hi] = .ok false (.bl true) none := by
  rw [run_def h5]
  have a' : ¬ (w.length : Int) < lo := by omega
  have b' : ¬ hi < (w.length : Int) := by omega
  have hc : evE (clOf T d) (.comp [4] (.nm 4) (.var 0) .yes (.cmp .isin (.var 4) (.var 1))) [some (.shr, .str w), some (.shr, .str signs), some (.shr, .int lo), some (.shr, .int hi), none] = .ok (true, .lst ((chars w).filterMap fun _ => some (.bl true))) [some (.shr, .str w), some (.shr, .str signs), some (.shr, .int lo), some (.shr, .int hi), none] := by
    obtain ⟨ρ', e, t, rfl⟩ := cmpL_inv (P := fun ρ => ∃ t, ρ = [some (.shr, .str w), some (.shr, .str signs), some (.shr, .int lo), some (.shr, .int hi), t])
      (f := fun x ρ => (bnd (.nm 4) x (clr [4] ρ)).bind fun _ ρ => (evT (clOf T d) .yes ρ).bind fun b ρ => if b then (evE (clOf T d) (.cmp .isin (.var 4) (.var 1)) ρ).bind fun x ρ => .ok (some x.2) ρ else .ok none ρ)
      (g := fun _ => some (.bl true)) (chars w) [] [some (.shr, .str w), some (.shr, .str signs), some (.shr, .int lo), some (.shr, .int hi), none] (by
        rintro x hx ρ ⟨t, rfl⟩
        obtain ⟨c, rfl, hc⟩ := chars_mem hx
        have hs : (findS [c] signs 0).isSome = true := sub_one (hw c hc)
        refine ⟨_, ?_, some (.shr, .str [c]), rfl⟩
        simp [bnd, bindP, clr, put, M.bind, evT, evE, pk, rdP, get, finB, cmpD, inD, subS, hs]) ⟨none, rfl⟩
    have hl2 : lenOk (w.length) = true := by unfold lenOk sz; simp; omega
    have hfl : ((chars w).filterMap fun _ => some (D.bl true)).length = w.length := by
      have : ∀ l : List D, (l.filterMap fun _ => some (D.bl true)).length = l.length := by intro l; induction l with | nil => rfl | cons a l ih => simp
      rw [this, chars_len]
    simp only [M.bind] at e
    simp only [evE, rdE, get, M.bind, itI]
    simp only [evE, rdE, get, M.bind, itI] at e
    rw [e]
    simp only [noEx, List.reverse_nil, List.nil_append, hfl, hl2]
    simp [okOwn, get, rst, put]
  simp [runF, b5, startE, fill, cellsOf, endF, ioOf, eSs_nil, eSs_cons, eS_ret, eE_and, eE_bi, eE_isi, eE_cmp2, eE_var, evPs, pk, rdP, rdE, get, put, M.bind, finB, fin, retE, tst, truth, List.replicate, cmpD, ltD, a', b', isTy, biD, bLen, lenD, isNew, hc, bAll, trues']
theorem fits_ok {T : Tb} (h5 : T.fd 5 = some b5) (h6 : T.fd 6 = some b6) (d : Nat) {w : List Nat} (hl : w.length ≤ 200) (hw : LetOk 8 w) : (clOf T (d + 2)).run 6 [.str w] = .ok false (.bl true) none := by
  rw [run_def h6]
  have e := strof_ok h5 d (w := w) (signs := [97, 98, 99, 100, 101, 102, 103, 104]) (lo := 0) (hi := 200) (by omega) (by omega) (fun x hx => by
    have := hw x hx
    have : x = 97 ∨ x = 98 ∨ x = 99 ∨ x = 100 ∨ x = 101 ∨ x = 102 ∨ x = 103 ∨ x = 104 := by omega
    rcases this with rfl | rfl | rfl | rfl | rfl | rfl | rfl | rfl <;> decide) (by omega)
  simp [runF, b6, startE, fill, cellsOf, endF, ioOf, eSs_nil, eSs_cons, eS_ret, eE_call, eE_var, eE_cst, evEs, rdE, get, put, M.bind, retE, List.replicate, callN, e]
theorem needword_ok {T : Tb} (h5 : T.fd 5 = some b5) (h6 : T.fd 6 = some b6) (h7 : T.fd 7 = some b7) (d : Nat) {w : List Nat} (hl : w.length ≤ 200) (hw : LetOk 8 w) : (clOf T (d + 3)).run 7 [.str w] = .ok false .non none := by
  rw [run_def h7]
  have e := fits_ok h5 h6 d hl hw
  simp [runF, b7, startE, fill, cellsOf, endF, ioOf, eSs_nil, eSs_cons, eS_ife, eE_call, eE_var, evT, evEs, pk, rdE, get, put, M.bind, ofO, truth, List.replicate, callN, e]
end Py

/-! Loops and comprehensions, by what each turn does. -/
namespace Py
section
variable {C : Cl}
theorem bind_ok {α β : Type} {a : α} {ρ : Env} {k : α → Env → M β} : (M.ok a ρ).bind k = k a ρ := rfl
theorem for_ok {p : Pat} {it : E} {b : List S} {ρ ρ1 : Env} {ds : List D} {r : M Fw} (h0 : (evE C it ρ).bind itI = .ok ds ρ1) (h1 : forL (fun d ρ => (bnd p d ρ).bind fun _ ρ => evSs C b ρ) ds ρ1 = r) : evS C (.fors p it b) ρ = r := by
  rw [eS_fors, h0]; exact h1
theorem for_inv {f : D → Env → M Fw} : ∀ (ds : List D) (I : Nat → Env → Prop) (ρ : Env), (∀ k x ρ, ds[k]? = some x → I k ρ → ∃ ρ', f x ρ = .ok .nx ρ' ∧ I (k + 1) ρ') → I 0 ρ → ∃ ρ', forL f ds ρ = .ok .nx ρ' ∧ I ds.length ρ'
  | [], I, ρ, _, h0 => ⟨ρ, rfl, h0⟩
  | x :: ds, I, ρ, h, h0 => by
    obtain ⟨ρ1, e1, i1⟩ := h 0 x ρ rfl h0
    obtain ⟨ρ2, e2, i2⟩ := for_inv ds (fun k => I (k + 1)) ρ1 (fun k y ρ hk hi => h (k + 1) y ρ (by simpa using hk) hi) i1
    refine ⟨ρ2, ?_, i2⟩
    simp only [forL, e1, M.bind]; exact e2
/-- .. or it returns -/
theorem for_ret {f : D → Env → M Fw} : ∀ (ds : List D) (I : Nat → Env → Prop) (Q : M Fw → Prop) (ρ : Env), (∀ k x ρ, ds[k]? = some x → I k ρ → (∃ ρ', f x ρ = .ok .nx ρ' ∧ I (k + 1) ρ') ∨ (∃ fr d ρ', f x ρ = .ok (.rt fr d) ρ' ∧ Q (.ok (.rt fr d) ρ'))) → I 0 ρ → (∃ ρ', forL f ds ρ = .ok .nx ρ' ∧ I ds.length ρ') ∨ Q (forL f ds ρ)
  | [], I, Q, ρ, _, h0 => .inl ⟨ρ, rfl, h0⟩
  | x :: ds, I, Q, ρ, h, h0 => by
    rcases h 0 x ρ rfl h0 with ⟨ρ1, e1, i1⟩ | ⟨fr, d, ρ1, e1, q1⟩
    · have e : forL f (x :: ds) ρ = forL f ds ρ1 := by simp only [forL, e1, M.bind]
      rw [e]
      exact for_ret ds (fun k => I (k + 1)) Q ρ1 (fun k y ρ hk hi => h (k + 1) y ρ (by simpa using hk) hi) i1
    · right
      have e : forL f (x :: ds) ρ = .ok (.rt fr d) ρ1 := by simp only [forL, e1, M.bind]
      rw [e]; exact q1
theorem comp_ok {own : List Nat} {p : Pat} {it e : E} {c : T} {ρ ρ1 : Env} {ds : List D} (P : Env → Prop) (g : D → Option D)
    (h0 : (evE C it ρ).bind itI = .ok ds ρ1) (hP : P ρ1)
    (h : ∀ x, x ∈ ds → ∀ ρ, P ρ → ∃ ρ', ((bnd p x (clr own ρ)).bind fun _ ρ => (evT C c ρ).bind fun b ρ => if b then (evE C e ρ).bind fun x ρ => .ok (some x.2) ρ else .ok none ρ) = .ok (g x) ρ' ∧ P ρ')
    (hr : ∀ ρ, P ρ → rst own ρ1 ρ = ρ1) (ho : okOwn own ρ1 = true) (hl : lenOk ds.length = true) :
    evE C (.comp own p it c e) ρ = .ok (true, .lst (ds.filterMap g)) ρ1 := by
  obtain ⟨ρ2, e2, p2⟩ := cmpL_inv ds [] ρ1 h hP
  have e0 : evE C (.comp own p it c e) ρ = ((evE C it ρ).bind itI).bind fun ds ρ =>
    (noEx (cmpL (fun d ρ => (bnd p d (clr own ρ)).bind fun _ ρ => (evT C c ρ).bind fun b ρ => if b then (evE C e ρ).bind fun x ρ => .ok (some x.2) ρ else .ok none ρ) ds [] ρ)).bind fun ys ρ2 =>
      if lenOk ys.length && okOwn own ρ then .ok (true, .lst ys) (rst own ρ ρ2) else .st := rfl
  have hl2 : lenOk (ds.filterMap g).length = true := by
    have := List.length_filterMap_le g ds
    unfold lenOk at *
    simp at *
    omega
  rw [e0, h0, bind_ok, e2]
  simp only [noEx, bind_ok, List.reverse_nil, List.nil_append]
  rw [hl2, ho, hr ρ2 p2]
  rfl
/-- .. without a test, a place told in -/
theorem rngL_at {n : Int} {k : Nat} {x : D} (h : (rngL 0 n 1)[k]? = some x) : x = .int k ∧ (k : Int) < n := by
  have key : ∀ (m : Nat) (i : Int) (k : Nat) (x : D), (rngG 1 m i)[k]? = some x → x = .int (i + k) ∧ k < m := by
    intro m
    induction m with
    | zero => intro i k x h; simp [rngG] at h
    | succ m ih =>
      intro i k x h
      cases k with
      | zero => simp [rngG] at h; subst h; exact ⟨by simp, by omega⟩
      | succ k =>
        simp only [rngG, List.getElem?_cons_succ] at h
        obtain ⟨h1, h2⟩ := ih _ _ _ h
        exact ⟨by rw [h1]; congr 1; omega, by omega⟩
  have e : rngN 0 n 1 = n.toNat := by unfold rngN; rw [if_pos (by decide)]; simp
  unfold rngL at h
  rw [e] at h
  obtain ⟨h1, h2⟩ := key _ _ _ _ h
  exact ⟨by simpa using h1, by omega⟩
end
theorem plain_s {w : List Nat} : plain (.str w) = true := rfl
theorem plain_i {i : Int} : plain (.int i) = true := rfl
theorem plain_n : plain .non = true := rfl
theorem plain_b {b : Bool} : plain (.bl b) = true := rfl
theorem eqD_s {v w : List Nat} : eqD (.str v) (.str w) = (v == w) := rfl
theorem eqD_i {i j : Int} : eqD (.int i) (.int j) = (i == j) := rfl
theorem eqD_b {i j : Bool} : eqD (.bl i) (.bl j) = (i == j) := rfl
theorem small_nat {n : Nat} (h : n ≤ 1000000) : smallI (n : Int) = true := smallI_iff.mpr (by omega)
theorem lenOk_of {n : Nat} (h : n ≤ 16000000) : lenOk n = true := by
  unfold lenOk sz; simp; omega
theorem rngV1_ok {n : Int} (h : smallI n = true) : rngV1 (.int n) = some (.itr (rngL 0 n 1)) := by
  show (if smallI n then some (D.itr (rngL 0 n 1)) else none) = _
  exact if_pos h
theorem rngV2_ok {a b : Int} (h : smallI a = true) (h' : smallI b = true) : rngV2 (.int a) (.int b) = some (.itr (rngL a b 1)) := by
  show (if (smallI a && smallI b) then some (D.itr (rngL a b 1)) else none) = _
  exact if_pos (by rw [h, h']; rfl)
theorem rng_itZ {C : Cl} {e : E} {ρ : Env} {z : Int} {ρ1 : Env} {b : Bool} (h : evE C e ρ = .ok (b, .int z) ρ1) (hn : smallI z = true) : (evE C (.rng1 e) ρ).bind itI = .ok (rngL 0 z 1) ρ1 := by
  rw [eE_rng1, h]
  simp only [bind_ok, rngV1_ok hn, finS, itI]
theorem rng_it {C : Cl} {e : E} {ρ : Env} {n : Nat} {ρ1 : Env} {b : Bool} (h : evE C e ρ = .ok (b, .int n) ρ1) (hn : n ≤ 1000000) : (evE C (.rng1 e) ρ).bind itI = .ok (rngL 0 n 1) ρ1 := rng_itZ h (small_nat hn)
/-- a loop that only turns a value -/
theorem for_fold {f : D → Env → M Fw} {σ : Type} (env : σ → Cell → Env) (g : σ → σ) (P : σ → Prop) (hf : ∀ s t x, P s → ∃ t', f x (env s t) = .ok .nx (env (g s) t') ∧ P (g s)) : ∀ (ds : List D) (s : σ) (t : Cell), P s → ∃ t', forL f ds (env s t) = .ok .nx (env (Nat.repeat g ds.length s) t') ∧ P (Nat.repeat g ds.length s)
  | [], s, t, p => ⟨t, rfl, p⟩
  | x :: ds, s, t, p => by
    obtain ⟨t1, e1, p1⟩ := hf s t x p
    obtain ⟨t2, e2, p2⟩ := for_fold env g P hf ds (g s) t1 p1
    have hr : ∀ (n : Nat) (s : σ), Nat.repeat g n (g s) = Nat.repeat g (n + 1) s := by
      intro n
      induction n with
      | zero => intro s; rfl
      | succ n ih => intro s; show g (Nat.repeat g n (g s)) = g (Nat.repeat g (n + 1) s); rw [ih]
    rw [hr] at e2 p2
    exact ⟨t2, by simp only [forL, e1, M.bind]; exact e2, p2⟩
theorem rngG_map : ∀ (n k : Nat), rngG 1 n (k : Int) = (List.range' k n).map fun (j : Nat) => D.int (j : Int)
  | 0, k => rfl
  | n + 1, k => by
    simp only [rngG, List.range'_succ, List.map_cons]
    have := rngG_map n (k + 1)
    rw [← this]; rfl
theorem rngL_map (n : Nat) : rngL 0 (n : Int) 1 = (List.range n).map fun (j : Nat) => D.int (j : Int) := by
  have e : rngN 0 (n : Int) 1 = n := by unfold rngN; rw [if_pos (by decide)]; simp
  unfold rngL
  rw [e, List.range_eq_range']
  exact rngG_map n 0
theorem fm_some {α : Type} (g : α → D) : ∀ (l : List α) (h : α → D) (f : D → Option D), (∀ x, x ∈ l → f (h x) = some (g x)) → (l.map h).filterMap f = l.map g
  | [], _, _, _ => rfl
  | x :: l, h, f, e => by
    simp only [List.map_cons, List.filterMap_cons, e x List.mem_cons_self]
    rw [fm_some g l h f fun y hy => e y (List.mem_cons_of_mem _ hy)]
theorem fm_filter {α : Type} (g : α → D) (p : α → Bool) : ∀ (l : List α) (h : α → D) (f : D → Option D), (∀ x, x ∈ l → f (h x) = if p x then some (g x) else none) → (l.map h).filterMap f = (l.filter p).map g
  | [], _, _, _ => rfl
  | x :: l, h, f, e => by
    simp only [List.map_cons, List.filterMap_cons, e x List.mem_cons_self, List.filter_cons]
    rw [fm_filter g p l h f fun y hy => e y (List.mem_cons_of_mem _ hy)]
    cases p x <;> simp
theorem chars_eq : ∀ (l : List Nat), chars l = l.map fun c => D.str [c]
  | [] => rfl
  | x :: l => by simp only [chars, List.map_cons]; rw [chars_eq l]
/-- a list of texts is plain -/
theorem plain_strs (l : List (List Nat)) : plain (.lst (l.map .str)) = true := by
  show (l.map D.str).all (plainN 39) = true
  rw [List.all_map, List.all_eq_true]
  intro x _; rfl
theorem lk_strs {n : Nat} (l : List (List Nat)) (h : l.length ≤ 100000) : lkOk (n + 1) (.lst (l.map .str)) = true := by
  simp only [lkOk, Bool.and_eq_true, decide_eq_true_eq, List.length_map, List.all_map, List.all_eq_true]
  refine ⟨h, fun x _ => ?_⟩
  cases n <;> rfl
theorem lk_ints {n : Nat} {α : Type} (f : α → Int) (l : List α) (h : l.length ≤ 100000) : lkOk (n + 1) (.lst (l.map fun x => .int (f x))) = true := by
  simp only [lkOk, Bool.and_eq_true, decide_eq_true_eq, List.length_map, List.all_map, List.all_eq_true]
  refine ⟨h, fun x _ => ?_⟩
  cases n <;> rfl
mutual
theorem likeD_self : ∀ {n : Nat} {d : D}, lkOk n d = true → likeD d d = true
  | _, .non, _ => rfl
  | _, .bl _, _ => by simp only [likeD, beq_self_eq_true]
  | _, .int _, _ => by simp only [likeD, beq_self_eq_true]
  | _, .str _, _ => by simp only [likeD, beq_self_eq_true]
  | n + 1, .tup l, h => by
    simp only [lkOk, Bool.and_eq_true, decide_eq_true_eq] at h
    simp only [likeD]; exact likeL_self h.2
  | n + 1, .lst l, h => by
    simp only [lkOk, Bool.and_eq_true, decide_eq_true_eq] at h
    simp only [likeD]; exact likeL_self h.2
  | 0, .tup l, h => by simp [lkOk] at h
  | 0, .lst l, h => by simp [lkOk] at h
  | n, .dct _, h => by cases n <;> simp [lkOk] at h
  | n, .set _, h => by cases n <;> simp [lkOk] at h
  | n, .rng _ _ _, h => by cases n <;> simp [lkOk] at h
  | n, .itr _, h => by cases n <;> simp [lkOk] at h
  | n, .scr _, h => by cases n <;> simp [lkOk] at h
  | n, .fn _, h => by cases n <;> simp [lkOk] at h
  | n, .exc _ _, h => by cases n <;> simp [lkOk] at h
  | n, .clo _ _, h => by cases n <;> simp [lkOk] at h
theorem likeL_self : ∀ {n : Nat} {l : List D}, l.all (lkOk n) = true → likeL l l = true
  | _, [], _ => rfl
  | n, d :: l, h => by
    simp only [List.all_cons, Bool.and_eq_true] at h
    simp only [likeL, likeD_self h.1, likeL_self h.2]; rfl
end
/-- alike to itself -/
theorem like_self {T : Tb} {s l : Nat} (hs : T.fd s = some fSort) (hl : T.fd l = some (fLike s l)) (d n : Nat) {a : D} (h : lkOk n a = true) : (clOf T (d + n + 2)).run l [a, a] = .ok false (.bl true) none := by
  rw [like_ok hs hl d n a a h h, likeD_self h]
theorem cmpL_gen {f : D → Env → M (Option D)} {P : Env → Prop} {Q : D → Prop} : ∀ (ds acc : List D) (ρ : Env), (∀ x, x ∈ ds → ∀ ρ, P ρ → ∃ y ρ', f x ρ = .ok (some y) ρ' ∧ Q y ∧ P ρ') → P ρ → ∃ ys ρ', cmpL f ds acc ρ = .ok (acc.reverse ++ ys) ρ' ∧ (∀ y, y ∈ ys → Q y) ∧ ys.length = ds.length ∧ P ρ'
  | [], acc, ρ, h, p => ⟨[], ρ, by simp only [cmpL, List.append_nil], fun _ h => (by simp at h), rfl, p⟩
  | x :: ds, acc, ρ, h, p => by
    obtain ⟨y, ρ1, e1, q1, p1⟩ := h x List.mem_cons_self ρ p
    obtain ⟨ys, ρ2, e2, q2, l2, p2⟩ := cmpL_gen ds (y :: acc) ρ1 (fun z hz => h z (List.mem_cons_of_mem _ hz)) p1
    refine ⟨y :: ys, ρ2, ?_, ?_, by simp only [List.length_cons, l2], p2⟩
    · simp only [cmpL, e1, M.bind, e2, List.reverse_cons, List.append_assoc, List.singleton_append]
    · intro z hz
      rcases List.mem_cons.mp hz with rfl | hz
      · exact q1
      · exact q2 z hz
/-- a comprehension that also changes what is handed in -/
theorem comp_gen {C : Cl} {own : List Nat} {p : Pat} {it e : E} {c : T} {ρ ρ1 : Env} {ds : List D} (P : Env → Prop) (Q : D → Prop)
    (h0 : (evE C it ρ).bind itI = .ok ds ρ1) (hP : P ρ1)
    (h : ∀ x, x ∈ ds → ∀ ρ, P ρ → ∃ y ρ', ((bnd p x (clr own ρ)).bind fun _ ρ => (evT C c ρ).bind fun b ρ => if b then (evE C e ρ).bind fun x ρ => .ok (some x.2) ρ else .ok none ρ) = .ok (some y) ρ' ∧ Q y ∧ P ρ')
    (ho : okOwn own ρ1 = true) (hl : lenOk ds.length = true) :
    ∃ ys ρ2, evE C (.comp own p it c e) ρ = .ok (true, .lst ys) (rst own ρ1 ρ2) ∧ (∀ y, y ∈ ys → Q y) ∧ ys.length = ds.length ∧ P ρ2 := by
  obtain ⟨ys, ρ2, e2, q2, l2, p2⟩ := cmpL_gen ds [] ρ1 h hP
  have e0 : evE C (.comp own p it c e) ρ = ((evE C it ρ).bind itI).bind fun ds ρ =>
    (noEx (cmpL (fun d ρ => (bnd p d (clr own ρ)).bind fun _ ρ => (evT C c ρ).bind fun b ρ => if b then (evE C e ρ).bind fun x ρ => .ok (some x.2) ρ else .ok none ρ) ds [] ρ)).bind fun ys ρ2 =>
      if lenOk ys.length && okOwn own ρ then .ok (true, .lst ys) (rst own ρ ρ2) else .st := rfl
  refine ⟨ys, ρ2, ?_, q2, l2, p2⟩
  rw [e0, h0, bind_ok, e2]
  simp only [noEx, bind_ok, List.reverse_nil, List.nil_append]
  rw [l2, hl, ho]
  rfl
theorem ixD_nat {n k : Nat} (h : k < n) : ixD n (k : Int) = some k := by
  unfold ixD
  rw [if_pos (by omega), if_pos (by omega), Int.toNat_natCast]
theorem atD_getN {α : Type} {l : List α} {k : Nat} (h : k < l.length) : atD l (k : Int) = some l[k] := by
  unfold atD
  rw [ixD_nat h]
  simp [h]
theorem atD_nat {α : Type} [Inhabited α] {l : List α} {k : Nat} (h : k < l.length) : atD l (k : Int) = some l[k]! := by
  rw [atD_getN h, getElem!_pos l k h]
theorem clampI_nat {k n : Nat} (h : k ≤ n) : clampI (k : Int) n = k := by
  unfold clampI
  rw [if_neg (by omega), Int.toNat_natCast]; omega
theorem cut_nat {α : Type} {l : List α} {b e : Nat} (hb : b ≤ l.length) (he : e ≤ l.length) : cut l (some (b : Int)) (some (e : Int)) = (l.drop b).take (e - b) := by
  unfold cut
  simp only [clampI_nat hb, clampI_nat he]
theorem cut_fromN {α : Type} {l : List α} {b : Nat} (hb : b ≤ l.length) : cut l (some (b : Int)) none = l.drop b := by
  unfold cut
  simp only [clampI_nat hb]
  rw [List.take_of_length_le]
  rw [List.length_drop]; omega
theorem cut_toN {α : Type} {l : List α} {e : Nat} : cut l none (some (e : Int)) = l.take e := by
  rw [cut_to_eq (by omega), Int.toNat_natCast]
/-- a while, by a measure -/
theorem whl_ok {t : Env → M Bool} {f : Env → M Fw} {Q : Env → Prop} (I : Nat → Env → Prop)
    (step : ∀ k ρ, I k ρ → (∃ ρ', t ρ = .ok false ρ' ∧ Q ρ') ∨ (∃ ρ1 ρ2 k', t ρ = .ok true ρ1 ∧ f ρ1 = .ok .nx ρ2 ∧ k' < k ∧ I k' ρ2)) :
    ∀ (n k : Nat) (ρ : Env), k < n → I k ρ → ∃ ρ', whlL t f n ρ = .ok .nx ρ' ∧ Q ρ'
  | 0, _, _, h, _ => absurd h (by omega)
  | n + 1, k, ρ, h, hI => by
    rcases step k ρ hI with ⟨ρ', e, q⟩ | ⟨ρ1, ρ2, k', e1, e2, hk, hI'⟩
    · exact ⟨ρ', by simp only [whlL, e, M.bind, Bool.false_eq_true, if_false], q⟩
    · obtain ⟨ρ', e3, q⟩ := whl_ok I step n k' ρ2 (by omega) hI'
      exact ⟨ρ', by simp only [whlL, e1, M.bind, if_true, e2]; exact e3, q⟩
def natL (l : List Nat) : List D := l.map fun (k : Nat) => .int (k : Int)
theorem natL_len (l : List Nat) : (natL l).length = l.length := by unfold natL; rw [List.length_map]
theorem natL_at {l : List Nat} {k : Nat} (h : k < l.length) : atD (natL l) (k : Int) = some (.int (l[k]! : Nat)) := by
  rw [atD_getN (by rw [natL_len]; exact h), getElem!_pos l k h]
  simp only [natL, List.getElem_map]
theorem natL_set (l : List Nat) (k v : Nat) : (natL l).set k (.int v) = natL (l.set k v) := by
  unfold natL; rw [List.map_set]
theorem ints_natL : ∀ (l : List Nat), intsD (natL l) = some (l.map fun (k : Nat) => (k : Int))
  | [] => rfl
  | x :: l => by
    have := ints_natL l
    simp only [natL, List.map_cons] at *
    simp only [intsD, this]; rfl
theorem sum_nat : ∀ (l : List Nat), (l.map fun (k : Nat) => (k : Int)).sum = ((l.sum : Nat) : Int)
  | [] => rfl
  | x :: l => by
    simp only [List.map_cons, List.sum_cons, sum_nat l, Int.natCast_add]
theorem lk_natL {n : Nat} (l : List Nat) (h : l.length ≤ 100000) : lkOk (n + 1) (.lst (natL l)) = true := lk_ints (fun (k : Nat) => (k : Int)) l h
theorem lk_natT {n : Nat} (l : List Nat) (h : l.length ≤ 100000) : lkOk (n + 1) (.tup (natL l)) = true := lk_ints (fun (k : Nat) => (k : Int)) l h
/-- is_whole of any value -/
def wholeD (lo hi : Int) : D → Bool
  | .int z => decide (lo ≤ z ∧ z ≤ hi)
  | _ => false
theorem whole_any {T : Tb} (h0 : T.fd 0 = some b0) (h1 : T.fd 1 = some b1) (d : Nat) {n : Nat} {x : D} (hx : lkOk n x = true) {lo hi : Int} : (clOf T (d + 2)).run 1 [x, .int lo, .int hi] = .ok false (.bl (wholeD lo hi x)) none := by
  have no : ∀ x : D, (clOf T (d + 1)).run 0 [x] = .ok false (.bl false) none → wholeD lo hi x = false → (clOf T (d + 2)).run 1 [x, .int lo, .int hi] = .ok false (.bl (wholeD lo hi x)) none := by
    intro x e e2
    rw [run_def h1, e2]
    simp only [runF, Int.cast_ofNat_Int, blsD, List.all, id, startE, fill, cellsOf, endF, ioOf, eSs_nil, eSs_cons, eS_ret, eS_exp, eS_set, eS_setP, eS_put, eS_app, eS_ife, eS_pass, eS_brk, eS_cnt, evT, eE_cst, eE_var, eE_bin, eE_not, eE_cmp, eE_cmp2, eE_and, eE_or, eE_ite, eE_tup, eE_lst, eE_idx, eE_slc, eE_rev, eE_nil, eE_call, eE_calli, eE_bi, eE_me, eE_lrg1, eE_isi, pk, evEs, evPs, evRs, rdE, rdP, rdL, get, put, sto, stoL, bind_ok, M.bind, callN, callIo, retE, fin, finS, finB, biD, bLen, lenD, ofO, truth, partI, slcV, revV, idxV, isNew, List.replicate, cmpD, ltD, isD, binD, Option.map, if_true, if_false, Bool.false_eq_true, Bool.true_eq_false, decide_true, decide_false, List.length_cons, List.length_nil, List.append_nil, List.cons_append, List.nil_append, List.drop_nil, chg, putV, appV, tst, Bool.not_true, Bool.not_false, beq_self_eq_true, bnd, bindP, bindL, plain_s, plain_i, plain_n, plain_b, eqD_s, eqD_i, eqD_b, bAbs, bInt, bMax, bMin, bAll, bAny, Bool.and_true, Bool.true_and, Bool.and_false, Bool.false_and, Nat.sub_self, Nat.zero_add, Nat.reduceAdd, Nat.reduceSub, Nat.reduceBEq, b1, e]
  cases x with
  | int z =>
    have e := int0_ok h0 d z
    rw [run_def h1]
    simp only [wholeD]
    by_cases q : lo ≤ z
    · have q1 : (!decide (z < lo)) = true := by simp; omega
      by_cases q2 : z ≤ hi
      · have q3 : (!decide (hi < z)) = true := by simp; omega
        have q4 : decide (lo ≤ z ∧ z ≤ hi) = true := by simp; exact ⟨q, q2⟩
        simp only [runF, Int.cast_ofNat_Int, blsD, List.all, id, startE, fill, cellsOf, endF, ioOf, eSs_nil, eSs_cons, eS_ret, eS_exp, eS_set, eS_setP, eS_put, eS_app, eS_ife, eS_pass, eS_brk, eS_cnt, evT, eE_cst, eE_var, eE_bin, eE_not, eE_cmp, eE_cmp2, eE_and, eE_or, eE_ite, eE_tup, eE_lst, eE_idx, eE_slc, eE_rev, eE_nil, eE_call, eE_calli, eE_bi, eE_me, eE_lrg1, eE_isi, pk, evEs, evPs, evRs, rdE, rdP, rdL, get, put, sto, stoL, bind_ok, M.bind, callN, callIo, retE, fin, finS, finB, biD, bLen, lenD, ofO, truth, partI, slcV, revV, idxV, isNew, List.replicate, cmpD, ltD, isD, binD, Option.map, if_true, if_false, Bool.false_eq_true, Bool.true_eq_false, decide_true, decide_false, List.length_cons, List.length_nil, List.append_nil, List.cons_append, List.nil_append, List.drop_nil, chg, putV, appV, tst, Bool.not_true, Bool.not_false, beq_self_eq_true, bnd, bindP, bindL, plain_s, plain_i, plain_n, plain_b, eqD_s, eqD_i, eqD_b, bAbs, bInt, bMax, bMin, bAll, bAny, Bool.and_true, Bool.true_and, Bool.and_false, Bool.false_and, Nat.sub_self, Nat.zero_add, Nat.reduceAdd, Nat.reduceSub, Nat.reduceBEq, b1, e, q1, q3, q4]
      · have q3 : (!decide (hi < z)) = false := by simp; omega
        have q4 : decide (lo ≤ z ∧ z ≤ hi) = false := by simp; omega
        simp only [runF, Int.cast_ofNat_Int, blsD, List.all, id, startE, fill, cellsOf, endF, ioOf, eSs_nil, eSs_cons, eS_ret, eS_exp, eS_set, eS_setP, eS_put, eS_app, eS_ife, eS_pass, eS_brk, eS_cnt, evT, eE_cst, eE_var, eE_bin, eE_not, eE_cmp, eE_cmp2, eE_and, eE_or, eE_ite, eE_tup, eE_lst, eE_idx, eE_slc, eE_rev, eE_nil, eE_call, eE_calli, eE_bi, eE_me, eE_lrg1, eE_isi, pk, evEs, evPs, evRs, rdE, rdP, rdL, get, put, sto, stoL, bind_ok, M.bind, callN, callIo, retE, fin, finS, finB, biD, bLen, lenD, ofO, truth, partI, slcV, revV, idxV, isNew, List.replicate, cmpD, ltD, isD, binD, Option.map, if_true, if_false, Bool.false_eq_true, Bool.true_eq_false, decide_true, decide_false, List.length_cons, List.length_nil, List.append_nil, List.cons_append, List.nil_append, List.drop_nil, chg, putV, appV, tst, Bool.not_true, Bool.not_false, beq_self_eq_true, bnd, bindP, bindL, plain_s, plain_i, plain_n, plain_b, eqD_s, eqD_i, eqD_b, bAbs, bInt, bMax, bMin, bAll, bAny, Bool.and_true, Bool.true_and, Bool.and_false, Bool.false_and, Nat.sub_self, Nat.zero_add, Nat.reduceAdd, Nat.reduceSub, Nat.reduceBEq, b1, e, q1, q3, q4]
    · have q1 : (!decide (z < lo)) = false := by simp; omega
      have q4 : decide (lo ≤ z ∧ z ≤ hi) = false := by simp; omega
      simp only [runF, Int.cast_ofNat_Int, blsD, List.all, id, startE, fill, cellsOf, endF, ioOf, eSs_nil, eSs_cons, eS_ret, eS_exp, eS_set, eS_setP, eS_put, eS_app, eS_ife, eS_pass, eS_brk, eS_cnt, evT, eE_cst, eE_var, eE_bin, eE_not, eE_cmp, eE_cmp2, eE_and, eE_or, eE_ite, eE_tup, eE_lst, eE_idx, eE_slc, eE_rev, eE_nil, eE_call, eE_calli, eE_bi, eE_me, eE_lrg1, eE_isi, pk, evEs, evPs, evRs, rdE, rdP, rdL, get, put, sto, stoL, bind_ok, M.bind, callN, callIo, retE, fin, finS, finB, biD, bLen, lenD, ofO, truth, partI, slcV, revV, idxV, isNew, List.replicate, cmpD, ltD, isD, binD, Option.map, if_true, if_false, Bool.false_eq_true, Bool.true_eq_false, decide_true, decide_false, List.length_cons, List.length_nil, List.append_nil, List.cons_append, List.nil_append, List.drop_nil, chg, putV, appV, tst, Bool.not_true, Bool.not_false, beq_self_eq_true, bnd, bindP, bindL, plain_s, plain_i, plain_n, plain_b, eqD_s, eqD_i, eqD_b, bAbs, bInt, bMax, bMin, bAll, bAny, Bool.and_true, Bool.true_and, Bool.and_false, Bool.false_and, Nat.sub_self, Nat.zero_add, Nat.reduceAdd, Nat.reduceSub, Nat.reduceBEq, b1, e, q1, q4]
  | non => exact no _ (by rw [run_def h0]; simp only [runF, Int.cast_ofNat_Int, blsD, List.all, id, startE, fill, cellsOf, endF, ioOf, eSs_nil, eSs_cons, eS_ret, eS_exp, eS_set, eS_setP, eS_put, eS_app, eS_ife, eS_pass, eS_brk, eS_cnt, evT, eE_cst, eE_var, eE_bin, eE_not, eE_cmp, eE_cmp2, eE_and, eE_or, eE_ite, eE_tup, eE_lst, eE_idx, eE_slc, eE_rev, eE_nil, eE_call, eE_calli, eE_bi, eE_me, eE_lrg1, eE_isi, pk, evEs, evPs, evRs, rdE, rdP, rdL, get, put, sto, stoL, bind_ok, M.bind, callN, callIo, retE, fin, finS, finB, biD, bLen, lenD, ofO, truth, partI, slcV, revV, idxV, isNew, List.replicate, cmpD, ltD, isD, binD, Option.map, if_true, if_false, Bool.false_eq_true, Bool.true_eq_false, decide_true, decide_false, List.length_cons, List.length_nil, List.append_nil, List.cons_append, List.nil_append, List.drop_nil, chg, putV, appV, tst, Bool.not_true, Bool.not_false, beq_self_eq_true, bnd, bindP, bindL, plain_s, plain_i, plain_n, plain_b, eqD_s, eqD_i, eqD_b, bAbs, bInt, bMax, bMin, bAll, bAny, Bool.and_true, Bool.true_and, Bool.and_false, Bool.false_and, Nat.sub_self, Nat.zero_add, Nat.reduceAdd, Nat.reduceSub, Nat.reduceBEq, b0, isTy]) rfl
  | bl b => exact no _ (by rw [run_def h0]; simp only [runF, Int.cast_ofNat_Int, blsD, List.all, id, startE, fill, cellsOf, endF, ioOf, eSs_nil, eSs_cons, eS_ret, eS_exp, eS_set, eS_setP, eS_put, eS_app, eS_ife, eS_pass, eS_brk, eS_cnt, evT, eE_cst, eE_var, eE_bin, eE_not, eE_cmp, eE_cmp2, eE_and, eE_or, eE_ite, eE_tup, eE_lst, eE_idx, eE_slc, eE_rev, eE_nil, eE_call, eE_calli, eE_bi, eE_me, eE_lrg1, eE_isi, pk, evEs, evPs, evRs, rdE, rdP, rdL, get, put, sto, stoL, bind_ok, M.bind, callN, callIo, retE, fin, finS, finB, biD, bLen, lenD, ofO, truth, partI, slcV, revV, idxV, isNew, List.replicate, cmpD, ltD, isD, binD, Option.map, if_true, if_false, Bool.false_eq_true, Bool.true_eq_false, decide_true, decide_false, List.length_cons, List.length_nil, List.append_nil, List.cons_append, List.nil_append, List.drop_nil, chg, putV, appV, tst, Bool.not_true, Bool.not_false, beq_self_eq_true, bnd, bindP, bindL, plain_s, plain_i, plain_n, plain_b, eqD_s, eqD_i, eqD_b, bAbs, bInt, bMax, bMin, bAll, bAny, Bool.and_true, Bool.true_and, Bool.and_false, Bool.false_and, Nat.sub_self, Nat.zero_add, Nat.reduceAdd, Nat.reduceSub, Nat.reduceBEq, b0, isTy]) rfl
  | str b => exact no _ (by rw [run_def h0]; simp only [runF, Int.cast_ofNat_Int, blsD, List.all, id, startE, fill, cellsOf, endF, ioOf, eSs_nil, eSs_cons, eS_ret, eS_exp, eS_set, eS_setP, eS_put, eS_app, eS_ife, eS_pass, eS_brk, eS_cnt, evT, eE_cst, eE_var, eE_bin, eE_not, eE_cmp, eE_cmp2, eE_and, eE_or, eE_ite, eE_tup, eE_lst, eE_idx, eE_slc, eE_rev, eE_nil, eE_call, eE_calli, eE_bi, eE_me, eE_lrg1, eE_isi, pk, evEs, evPs, evRs, rdE, rdP, rdL, get, put, sto, stoL, bind_ok, M.bind, callN, callIo, retE, fin, finS, finB, biD, bLen, lenD, ofO, truth, partI, slcV, revV, idxV, isNew, List.replicate, cmpD, ltD, isD, binD, Option.map, if_true, if_false, Bool.false_eq_true, Bool.true_eq_false, decide_true, decide_false, List.length_cons, List.length_nil, List.append_nil, List.cons_append, List.nil_append, List.drop_nil, chg, putV, appV, tst, Bool.not_true, Bool.not_false, beq_self_eq_true, bnd, bindP, bindL, plain_s, plain_i, plain_n, plain_b, eqD_s, eqD_i, eqD_b, bAbs, bInt, bMax, bMin, bAll, bAny, Bool.and_true, Bool.true_and, Bool.and_false, Bool.false_and, Nat.sub_self, Nat.zero_add, Nat.reduceAdd, Nat.reduceSub, Nat.reduceBEq, b0, isTy]) rfl
  | tup b => exact no _ (by rw [run_def h0]; simp only [runF, Int.cast_ofNat_Int, blsD, List.all, id, startE, fill, cellsOf, endF, ioOf, eSs_nil, eSs_cons, eS_ret, eS_exp, eS_set, eS_setP, eS_put, eS_app, eS_ife, eS_pass, eS_brk, eS_cnt, evT, eE_cst, eE_var, eE_bin, eE_not, eE_cmp, eE_cmp2, eE_and, eE_or, eE_ite, eE_tup, eE_lst, eE_idx, eE_slc, eE_rev, eE_nil, eE_call, eE_calli, eE_bi, eE_me, eE_lrg1, eE_isi, pk, evEs, evPs, evRs, rdE, rdP, rdL, get, put, sto, stoL, bind_ok, M.bind, callN, callIo, retE, fin, finS, finB, biD, bLen, lenD, ofO, truth, partI, slcV, revV, idxV, isNew, List.replicate, cmpD, ltD, isD, binD, Option.map, if_true, if_false, Bool.false_eq_true, Bool.true_eq_false, decide_true, decide_false, List.length_cons, List.length_nil, List.append_nil, List.cons_append, List.nil_append, List.drop_nil, chg, putV, appV, tst, Bool.not_true, Bool.not_false, beq_self_eq_true, bnd, bindP, bindL, plain_s, plain_i, plain_n, plain_b, eqD_s, eqD_i, eqD_b, bAbs, bInt, bMax, bMin, bAll, bAny, Bool.and_true, Bool.true_and, Bool.and_false, Bool.false_and, Nat.sub_self, Nat.zero_add, Nat.reduceAdd, Nat.reduceSub, Nat.reduceBEq, b0, isTy]) rfl
  | lst b => exact no _ (by rw [run_def h0]; simp only [runF, Int.cast_ofNat_Int, blsD, List.all, id, startE, fill, cellsOf, endF, ioOf, eSs_nil, eSs_cons, eS_ret, eS_exp, eS_set, eS_setP, eS_put, eS_app, eS_ife, eS_pass, eS_brk, eS_cnt, evT, eE_cst, eE_var, eE_bin, eE_not, eE_cmp, eE_cmp2, eE_and, eE_or, eE_ite, eE_tup, eE_lst, eE_idx, eE_slc, eE_rev, eE_nil, eE_call, eE_calli, eE_bi, eE_me, eE_lrg1, eE_isi, pk, evEs, evPs, evRs, rdE, rdP, rdL, get, put, sto, stoL, bind_ok, M.bind, callN, callIo, retE, fin, finS, finB, biD, bLen, lenD, ofO, truth, partI, slcV, revV, idxV, isNew, List.replicate, cmpD, ltD, isD, binD, Option.map, if_true, if_false, Bool.false_eq_true, Bool.true_eq_false, decide_true, decide_false, List.length_cons, List.length_nil, List.append_nil, List.cons_append, List.nil_append, List.drop_nil, chg, putV, appV, tst, Bool.not_true, Bool.not_false, beq_self_eq_true, bnd, bindP, bindL, plain_s, plain_i, plain_n, plain_b, eqD_s, eqD_i, eqD_b, bAbs, bInt, bMax, bMin, bAll, bAny, Bool.and_true, Bool.true_and, Bool.and_false, Bool.false_and, Nat.sub_self, Nat.zero_add, Nat.reduceAdd, Nat.reduceSub, Nat.reduceBEq, b0, isTy]) rfl
  | dct _ => cases n <;> simp [lkOk] at hx
  | set _ => cases n <;> simp [lkOk] at hx
  | rng _ _ _ => cases n <;> simp [lkOk] at hx
  | itr _ => cases n <;> simp [lkOk] at hx
  | scr _ => cases n <;> simp [lkOk] at hx
  | fn _ => cases n <;> simp [lkOk] at hx
  | exc _ _ => cases n <;> simp [lkOk] at hx
  | clo _ _ => cases n <;> simp [lkOk] at hx
theorem fdiv2 (n : Nat) : (n : Int).fdiv 2 = ((n / 2 : Nat) : Int) := by
  rw [Int.fdiv_eq_ediv_of_nonneg _ (by decide)]; rfl
theorem fdivN (n b : Nat) : (n : Int).fdiv b = ((n / b : Nat) : Int) := by
  rw [Int.fdiv_eq_ediv_of_nonneg _ (by omega)]; rfl
theorem fmodN (n b : Nat) : (n : Int).fmod b = ((n % b : Nat) : Int) := by
  rw [Int.fmod_eq_emod_of_nonneg _ (by omega)]; rfl
theorem fmod2 (n : Nat) : (n : Int).fmod 2 = ((n % 2 : Nat) : Int) := fmodN n 2
theorem dv2 : divOk 2 = true := by decide
end Py

section
open PySem PySem.Spec PyProof.Rows L2
namespace Py
open PySem PySem.Spec PyProof.Rows L2
-- bad: []
def top (i : Nat) : Stmt := PySem.Challenge.pw_wordslaid_k03_whole_borders_and_periods.main.body.getD i (.Pass ⟨0, 0, 0, 0⟩)
/-- 0: is_integer(value) -/
def f0 : FD := ⟨1, false, [], 1, [(.ret (.and (.isi (.var 0) .int) (.not (.isi (.var 0) .bool))))]⟩
/-- 1: is_whole(value, low, high) -/
def f1 : FD := ⟨3, false, [], 3, [(.ret (.and (.call 0 [(.var 0)]) (.cmp2 .le .le (.var 1) (.var 0) (.var 2))))]⟩
/-- 2: need_whole(value, low, high) -/
def f2 : FD := ⟨3, false, [], 3, [(.ife (.not (.tru (.call 1 [(.var 0), (.var 1), (.var 2)]))) [(.exp (.popD 0 .nil .nil))] [])]⟩
/-- 5: is_string_of(value, signs, low, high, sign) -/
def f5 : FD := ⟨4, false, [], 5, [(.ret (.and (.isi (.var 0) .str) (.and (.cmp2 .le .le (.var 2) (.bi .len [(.var 0)]) (.var 3)) (.bi .all [(.comp [4] (.nm 4) (.var 0) .yes (.cmp .isin (.var 4) (.var 1)))]))))]⟩
/-- 6: fits_word(value) -/
def f6 : FD := ⟨1, false, [], 1, [(.ret (.call 5 [(.var 0), (.cst (.str [97, 98, 99, 100, 101, 102, 103, 104])), (.cst (.int 0)), (.cst (.int 200))]))]⟩
/-- 7: need_word(value) -/
def f7 : FD := ⟨1, false, [], 1, [(.ife (.not (.tru (.call 6 [(.var 0)]))) [(.exp (.popD 0 .nil .nil))] [])]⟩
/-- 8: need_words(word, other) -/
def f8 : FD := ⟨2, false, [], 2, [(.exp (.call 7 [(.var 0)])), (.exp (.call 7 [(.var 1)]))]⟩
/-- 9: need_bare_word(value) -/
def f9 : FD := ⟨1, false, [], 1, [(.ife (.or (.not (.tru (.call 6 [(.var 0)]))) (.cmp .eq (.var 0) (.cst (.str [])))) [(.exp (.popD 0 .nil .nil))] [])]⟩
/-- 21: is_word(value) -/
def f21 : FD := ⟨1, false, [], 1, [(.ret (.call 6 [(.var 0)]))]⟩
/-- 26: backwards(word) -/
def f26 : FD := ⟨1, false, [], 1, [(.exp (.call 7 [(.var 0)])), (.ret (.rev (.var 0)))]⟩
/-- 34: is_beginning(word, other) -/
def f34 : FD := ⟨2, false, [], 2, [(.exp (.call 8 [(.var 0), (.var 1)])), (.ret (.cmp .eq (.slc (.var 0) .nil (.bi .len [(.var 1)])) (.var 1)))]⟩
/-- 35: is_end(word, other) -/
def f35 : FD := ⟨2, false, [], 2, [(.exp (.call 8 [(.var 0), (.var 1)])), (.ret (.cmp .eq (.slc (.var 0) (.bi .max [(.cst (.int 0)), (.bin .sub (.bi .len [(.var 0)]) (.bi .len [(.var 1)]))]) .nil) (.var 1)))]⟩
/-- 36: border_row_in(word, found, letter, border) -/
def f36 : FD := ⟨1, false, [], 4, [(.set 1 (.lst [(.cst (.int 0))])), (.fors (.nm 2) (.slc (.var 0) (.cst (.int 1)) .nil) [(.set 3 (.idx (.var 1) (.cst (.int (-1))))), (.whl (.and (.cmp .gt (.var 3) (.cst (.int 0))) (.cmp .ne (.idx (.var 0) (.var 3)) (.var 2))) [(.set 3 (.idx (.var 1) (.bin .sub (.var 3) (.cst (.int 1)))))]), (.app 1 (.ite (.cmp .eq (.idx (.var 0) (.var 3)) (.var 2)) (.bin .add (.var 3) (.cst (.int 1))) (.cst (.int 0))))]), (.ret (.var 1))]⟩
/-- 37: borders_in(word, row, found, here) -/
def f37 : FD := ⟨1, false, [], 4, [(.setP [1, 2] [(.call 36 [(.var 0)]), (.lst [])]), (.set 3 (.idx (.var 1) (.cst (.int (-1))))), (.whl (.cmp .gt (.var 3) (.cst (.int 0))) [(.app 2 (.var 3)), (.set 3 (.idx (.var 1) (.bin .sub (.var 3) (.cst (.int 1)))))]), (.ret (.bin .add (.lst [(.cst (.int 0))]) (.rev (.var 2))))]⟩
/-- 38: periods_in(word, border) -/
def f38 : FD := ⟨1, false, [], 2, [(.ret (.comp [1] (.nm 1) (.rev (.call 37 [(.var 0)])) .yes (.bin .sub (.bi .len [(.var 0)]) (.var 1))))]⟩
/-- 39: alike_row_in(word, found, begin, end, place, many) -/
def f39 : FD := ⟨1, false, [], 6, [(.setP [1, 2, 3] [(.lst [(.bi .len [(.var 0)])]), (.cst (.int 0)), (.cst (.int 0))]), (.fors (.nm 4) (.rng2 (.cst (.int 1)) (.bi .len [(.var 0)])) [(.set 5 (.ite (.cmp .lt (.var 4) (.var 3)) (.bi .min [(.bin .sub (.var 3) (.var 4)), (.idx (.var 1) (.bin .sub (.var 4) (.var 2)))]) (.cst (.int 0)))), (.whl (.and (.cmp .lt (.bin .add (.var 4) (.var 5)) (.bi .len [(.var 0)])) (.cmp .eq (.idx (.var 0) (.var 5)) (.idx (.var 0) (.bin .add (.var 4) (.var 5))))) [(.set 5 (.bin .add (.var 5) (.cst (.int 1))))]), (.ife (.cmp .gt (.bin .add (.var 4) (.var 5)) (.var 3)) [(.setP [2, 3] [(.var 4), (.bin .add (.var 4) (.var 5))])] []), (.app 1 (.var 5))]), (.ret (.var 1))]⟩
/-- 40: break_in(word, number, place) -/
def f40 : FD := ⟨2, false, [], 3, [(.fors (.nm 2) (.rng1 (.bin .sub (.bi .len [(.var 0)]) (.var 1))) [(.ife (.cmp .ne (.idx (.var 0) (.var 2)) (.idx (.var 0) (.bin .add (.var 2) (.var 1)))) [(.ret (.var 2))] [])]), (.ret (.cst .non))]⟩
/-- 41: need_period(word, number) -/
def f41 : FD := ⟨2, false, [], 2, [(.exp (.call 9 [(.var 0)])), (.exp (.call 2 [(.var 1), (.cst (.int 1)), (.bi .len [(.var 0)])]))]⟩
/-- 42: borders_of(word) -/
def f42 : FD := ⟨1, false, [], 1, [(.exp (.call 9 [(.var 0)])), (.ret (.bi .tuple [(.call 37 [(.var 0)])]))]⟩
/-- 43: periods_of(word) -/
def f43 : FD := ⟨1, false, [], 1, [(.exp (.call 9 [(.var 0)])), (.ret (.bi .tuple [(.call 38 [(.var 0)])]))]⟩
/-- 44: greatest_border(word) -/
def f44 : FD := ⟨1, false, [], 1, [(.exp (.call 9 [(.var 0)])), (.ret (.idx (.call 36 [(.var 0)]) (.cst (.int (-1)))))]⟩
/-- 45: least_period(word) -/
def f45 : FD := ⟨1, false, [], 1, [(.exp (.call 9 [(.var 0)])), (.ret (.bin .sub (.bi .len [(.var 0)]) (.idx (.call 36 [(.var 0)]) (.cst (.int (-1))))))]⟩
/-- 46: border_row(word) -/
def f46 : FD := ⟨1, false, [], 1, [(.exp (.call 9 [(.var 0)])), (.ret (.bi .tuple [(.call 36 [(.var 0)])]))]⟩
/-- 47: alike_row(word) -/
def f47 : FD := ⟨1, false, [], 1, [(.exp (.call 9 [(.var 0)])), (.ret (.bi .tuple [(.call 39 [(.var 0)])]))]⟩
/-- 48: has_period(word, number) -/
def f48 : FD := ⟨2, false, [], 2, [(.exp (.call 41 [(.var 0), (.var 1)])), (.ret (.cmp .is_ (.call 40 [(.var 0), (.var 1)]) (.cst .non)))]⟩
/-- 49: period_break(word, number) -/
def f49 : FD := ⟨2, false, [], 2, [(.exp (.call 41 [(.var 0), (.var 1)])), (.ret (.call 40 [(.var 0), (.var 1)]))]⟩
/-- 1000: _law_cup(script, cell) -/
def f1000 : FD := ⟨1, false, [], 2, [(.set 1 (.bi .abs [(.idx (.bin .add (.bi .list [(.var 0)]) (.lst [(.cst (.int 0))])) (.cst (.int 0)))])), (.ret (.lst [(.ite (.cmp .ge (.var 1) (.bin .pow (.cst (.int 10)) (.cst (.int 18)))) (.bin .fdiv (.var 1) (.cst (.int 73))) (.cst (.int 0))), (.bin .add (.bin .mod (.bi .int [(.bin .add (.bin .mul (.var 1) (.cst (.int 283))) (.cst (.int 3907)))]) (.cst (.int 2077503167))) (.cst (.int 167)))]))]⟩
/-- 1001: _law_roll(cup, many, found, deep) -/
def f1001 : FD := ⟨2, true, [], 4, [(.ife (.cmp .gt (.idx (.var 0) (.cst (.int 0))) (.cst (.int 0))) [(.set 2 (.bin .mod (.bi .int [(.idx (.var 0) (.cst (.int 0)))]) (.var 1))), (.put 0 (.cst (.int 0)) (.bin .fdiv (.idx (.var 0) (.cst (.int 0))) (.var 1))), (.ret (.var 2))] []), (.put 0 (.cst (.int 1)) (.bin .mod (.bi .int [(.bin .add (.bin .mul (.idx (.var 0) (.cst (.int 1))) (.cst (.int 31051))) (.cst (.int 7993)))]) (.cst (.int 2147483543)))), (.set 3 (.bin .mod (.bi .int [(.bin .mul (.idx (.var 0) (.cst (.int 1))) (.bin .add (.idx (.var 0) (.cst (.int 1))) (.cst (.int 229))))]) (.cst (.int 2147483587)))), (.ret (.bin .mod (.bi .int [(.bin .fdiv (.var 3) (.cst (.int 821)))]) (.var 1)))]⟩
/-- 1002: _law_some(cup, things) -/
def f1002 : FD := ⟨2, true, [], 2, [(.ret (.idx (.var 1) (.calli 1001 0 [(.bi .len [(.var 1)])])))]⟩
/-- 1003: _law_sort(value) -/
def f1003 : FD := ⟨1, false, [], 1, [(.ife (.or (.cmp .is_ (.var 0) (.cst .non)) (.tru (.isi (.var 0) .bool))) [(.ret (.ite (.cmp .is_ (.var 0) (.cst .non)) (.cst (.int 0)) (.cst (.int 1))))] []), (.ife (.or (.tru (.isi (.var 0) .int)) (.tru (.isi (.var 0) .str))) [(.ret (.ite (.tru (.isi (.var 0) .int)) (.cst (.int 2)) (.cst (.int 3))))] []), (.ret (.ite (.tru (.isi (.var 0) .tuple)) (.cst (.int 4)) (.ite (.tru (.isi (.var 0) .list)) (.cst (.int 5)) (.cst (.int 6)))))]⟩
/-- 1004: _law_like(one, other, sort, first, second) -/
def f1004 : FD := ⟨2, false, [], 5, [(.set 2 (.call 1003 [(.var 1)])), (.ife (.or (.cmp .ne (.call 1003 [(.var 0)]) (.var 2)) (.cmp .eq (.var 2) (.cst (.int 6)))) [(.ret (.cst (.bl false)))] []), (.ife (.cmp .isin (.var 2) (.tup [(.cst (.int 4)), (.cst (.int 5))])) [(.ret (.and (.cmp .eq (.bi .len [(.var 0)]) (.bi .len [(.var 1)])) (.cmp .eq (.comp [3, 4] (.tp [(.nm 3), (.nm 4)]) (.zip (.var 0) (.var 1)) (.not (.tru (.call 1004 [(.var 3), (.var 4)]))) (.cst (.int 1))) (.lst []))))] []), (.ret (.cmp .eq (.var 0) (.var 1)))]⟩
/-- 1005: _law_word(cup, most, letters, way, size, signs, found, turn, piece) -/
def f1005 : FD := ⟨3, true, [], 9, [(.setP [3, 4] [(.calli 1001 0 [(.cst (.int 4))]), (.calli 1001 0 [(.bin .add (.var 1) (.cst (.int 1)))])]), (.setP [5, 6] [(.slc (.cst (.str [97, 98, 99, 100, 101, 102, 103, 104])) .nil (.var 2)), (.cst (.str []))]), (.fors (.nm 7) (.rng1 (.var 4)) [(.set 6 (.bin .add (.var 6) (.calli 1002 0 [(.var 5)])))]), (.ife (.or (.cmp .lt (.var 3) (.cst (.int 2))) (.cmp .eq (.var 4) (.cst (.int 0)))) [(.ret (.var 6))] []), (.set 8 (.slc (.var 6) .nil (.bin .add (.cst (.int 1)) (.calli 1001 0 [(.var 4)])))), (.ife (.cmp .eq (.var 3) (.cst (.int 2))) [(.ret (.slc (.bin .mul (.var 8) (.bin .add (.bin .fdiv (.var 4) (.bi .len [(.var 8)])) (.cst (.int 1)))) .nil (.var 4)))] []), (.ret (.slc (.bin .add (.var 8) (.rev (.var 8))) .nil (.var 1)))]⟩
/-- 1006: _law_periods(word, period) -/
def f1006 : FD := ⟨1, false, [], 2, [(.ret (.bi .tuple [(.comp [1] (.nm 1) (.rng2 (.cst (.int 1)) (.bin .add (.bi .len [(.var 0)]) (.cst (.int 1)))) (.cmp .eq (.slc (.var 0) (.var 1) .nil) (.slc (.var 0) .nil (.bin .sub (.bi .len [(.var 0)]) (.var 1)))) (.var 1))]))]⟩
/-- 1007: _law_part(one, other) -/
def f1007 : FD := ⟨2, false, [], 2, [(.whl (.cmp .ne (.var 1) (.cst (.int 0))) [(.setP [0, 1] [(.var 1), (.bin .mod (.bi .int [(.var 0)]) (.var 1))])]), (.ret (.var 0))]⟩
/-- 1008: _law_right(cup, word, many, periods, borders, period, told, border, number, bad, place, one, other, part) -/
def f1008 : FD := ⟨2, true, [], 14, [(.setP [2, 3] [(.bi .len [(.var 1)]), (.call 1006 [(.var 1)])]), (.set 4 (.bi .tuple [(.comp [5] (.nm 5) (.rev (.var 3)) .yes (.bin .sub (.var 2) (.var 5)))])), (.set 6 (.lst [(.call 42 [(.var 1)]), (.call 43 [(.var 1)]), (.call 44 [(.var 1)]), (.call 45 [(.var 1)]), (.call 43 [(.call 26 [(.var 1)])])])), (.ife (.not (.tru (.call 1004 [(.var 6), (.lst [(.var 4), (.var 3), (.idx (.var 4) (.cst (.int (-1)))), (.idx (.var 3) (.cst (.int 0))), (.var 3)])]))) [(.ret (.cst (.bl false)))] []), (.ife (.cmp .ne (.comp [7] (.nm 7) (.var 4) (.or (.cmp .isnot (.call 34 [(.var 1), (.slc (.var 1) .nil (.var 7))]) (.cst (.bl true))) (.cmp .isnot (.call 35 [(.var 1), (.slc (.var 1) .nil (.var 7))]) (.cst (.bl true)))) (.var 7)) (.lst [])) [(.ret (.cst (.bl false)))] []), (.set 8 (.bin .add (.cst (.int 1)) (.calli 1001 0 [(.var 2)]))), (.set 9 (.comp [10] (.nm 10) (.rng1 (.bin .sub (.var 2) (.var 8))) (.cmp .ne (.idx (.var 1) (.var 10)) (.idx (.var 1) (.bin .add (.var 10) (.var 8)))) (.var 10))), (.ife (.not (.tru (.call 1004 [(.lst [(.call 48 [(.var 1), (.var 8)]), (.call 49 [(.var 1), (.var 8)])]), (.lst [(.cmp .isin (.var 8) (.var 3)), (.ite (.cmp .ne (.var 9) (.lst [])) (.idx (.var 9) (.cst (.int 0))) (.cst .non))])]))) [(.ret (.cst (.bl false)))] []), (.fors (.nm 11) (.slc (.var 3) .nil (.cst (.int 4))) [(.fors (.nm 12) (.slc (.var 3) .nil (.cst (.int 4))) [(.set 13 (.call 1007 [(.var 11), (.var 12)])), (.ife (.and (.cmp .le (.bin .sub (.bin .add (.var 11) (.var 12)) (.var 13)) (.var 2)) (.cmp .notin (.var 13) (.var 3))) [(.ret (.cst (.bl false)))] [])])]), (.ret (.call 1009 [(.var 1)]))]⟩
/-- 1009: _law_rows_right(word, many, row, alike, size, border, place, far) -/
def f1009 : FD := ⟨1, false, [], 8, [(.setP [1, 2, 3] [(.bi .len [(.var 0)]), (.lst []), (.lst [])]), (.fors (.nm 4) (.rng2 (.cst (.int 1)) (.bin .add (.var 1) (.cst (.int 1)))) [(.app 2 (.idx (.comp [5] (.nm 5) (.rng3 (.bin .sub (.var 4) (.cst (.int 1))) (.cst (.int (-1))) (.cst (.int (-1)))) (.cmp .eq (.slc (.var 0) .nil (.var 5)) (.slc (.var 0) (.bin .sub (.var 4) (.var 5)) (.var 4))) (.var 5)) (.cst (.int 0))))]), (.fors (.nm 6) (.rng1 (.var 1)) [(.set 7 (.var 6)), (.whl (.and (.cmp .lt (.var 7) (.var 1)) (.cmp .eq (.idx (.var 0) (.var 7)) (.idx (.var 0) (.bin .sub (.var 7) (.var 6))))) [(.set 7 (.bin .add (.var 7) (.cst (.int 1))))]), (.app 3 (.bin .sub (.var 7) (.var 6)))]), (.ife (.not (.tru (.call 1004 [(.lst [(.call 46 [(.var 0)]), (.call 47 [(.var 0)])]), (.lst [(.bi .tuple [(.var 2)]), (.bi .tuple [(.var 3)])])]))) [(.ret (.cst (.bl false)))] []), (.ret (.cmp .eq (.comp [6] (.nm 6) (.rng2 (.cst (.int 1)) (.var 1)) (.cmp .ne (.cmp .eq (.bin .add (.var 6) (.idx (.var 3) (.var 6))) (.var 1)) (.cmp .isin (.var 6) (.call 1006 [(.var 0)]))) (.var 6)) (.lst [])))]⟩
/-- 1010: _law_made(cup, most, piece, other, word, way, at) -/
def f1010 : FD := ⟨2, true, [], 7, [(.setP [2, 3] [(.bin .add (.calli 1005 0 [(.cst (.int 9)), (.cst (.int 2))]) (.cst (.str [97]))), (.calli 1005 0 [(.cst (.int 20)), (.cst (.int 3))])]), (.set 4 (.slc (.bin .add (.bin .mul (.var 2) (.bin .add (.cst (.int 1)) (.calli 1001 0 [(.cst (.int 12))]))) (.slc (.var 2) .nil (.calli 1001 0 [(.bi .len [(.var 2)])]))) .nil (.var 1))), (.set 5 (.calli 1001 0 [(.cst (.int 3))])), (.ife (.cmp .eq (.var 5) (.cst (.int 0))) [(.ret (.var 4))] []), (.ife (.cmp .eq (.var 5) (.cst (.int 1))) [(.ret (.slc (.bin .add (.bin .add (.slc (.var 4) .nil (.cst (.int 40))) (.var 3)) (.slc (.var 4) .nil (.cst (.int 40)))) .nil (.var 1)))] []), (.set 6 (.calli 1001 0 [(.bi .len [(.var 4)])])), (.ret (.bin .add (.bin .add (.slc (.var 4) .nil (.var 6)) (.cst (.str [98]))) (.slc (.var 4) (.bin .add (.var 6) (.cst (.int 1))) .nil)))]⟩
/-- 1011: _law_grown(cup, word, turn, between, size) -/
def f1011 : FD := ⟨1, true, [], 5, [(.set 1 (.bin .add (.calli 1005 0 [(.cst (.int 4)), (.cst (.int 2))]) (.cst (.str [97])))), (.fors (.nm 2) (.rng1 (.bin .add (.cst (.int 3)) (.calli 1001 0 [(.cst (.int 5))]))) [(.setP [3, 4] [(.calli 1005 0 [(.cst (.int 6)), (.cst (.int 2))]), (.bi .len [(.var 1)])]), (.set 1 (.ite (.cmp .eq (.calli 1001 0 [(.cst (.int 2))]) (.cst (.int 0))) (.slc (.bin .add (.bin .add (.var 1) (.var 3)) (.var 1)) .nil (.cst (.int 200))) (.slc (.bin .mul (.var 1) (.cst (.int 3))) .nil (.bi .min [(.cst (.int 200)), (.bin .add (.bin .add (.var 4) (.cst (.int 1))) (.calli 1001 0 [(.bin .mul (.cst (.int 2)) (.var 4))]))]))))]), (.ret (.var 1))]⟩
/-- 1012: _law_written(word, told, wide) -/
def f1012 : FD := ⟨0, false, [], 3, [(.set 0 (.cst (.str [97, 98, 97, 97, 98]))), (.set 1 (.lst [(.call 42 [(.var 0)]), (.call 43 [(.var 0)]), (.call 44 [(.var 0)]), (.call 45 [(.var 0)]), (.call 46 [(.var 0)]), (.call 47 [(.var 0)])])), (.ife (.not (.tru (.call 1004 [(.var 1), (.lst [(.tup [(.cst (.int 0)), (.cst (.int 2))]), (.tup [(.cst (.int 3)), (.cst (.int 5))]), (.cst (.int 2)), (.cst (.int 3)), (.tup [(.cst (.int 0)), (.cst (.int 0)), (.cst (.int 1)), (.cst (.int 1)), (.cst (.int 2))]), (.tup [(.cst (.int 5)), (.cst (.int 0)), (.cst (.int 1)), (.cst (.int 2)), (.cst (.int 0))])])]))) [(.ret (.cst (.bl false)))] []), (.ife (.not (.tru (.call 1004 [(.call 46 [(.cst (.str [97, 98, 99, 97, 98, 98]))]), (.tup [(.cst (.int 0)), (.cst (.int 0)), (.cst (.int 0)), (.cst (.int 1)), (.cst (.int 2)), (.cst (.int 0))])]))) [(.ret (.cst (.bl false)))] []), (.set 1 (.lst [(.call 48 [(.var 0), (.cst (.int 3))]), (.call 49 [(.var 0), (.cst (.int 2))]), (.call 49 [(.var 0), (.cst (.int 3))]), (.call 43 [(.cst (.str [97, 97, 97]))]), (.call 42 [(.cst (.str [97]))]), (.call 21 [(.var 0)])])), (.ife (.not (.tru (.call 1004 [(.var 1), (.lst [(.cst (.bl true)), (.cst (.int 1)), (.cst .non), (.tup [(.cst (.int 1)), (.cst (.int 2)), (.cst (.int 3))]), (.tup [(.cst (.int 0))]), (.cst (.bl true))])]))) [(.ret (.cst (.bl false)))] []), (.set 2 (.bin .mul (.cst (.str [97])) (.cst (.int 200)))), (.set 1 (.lst [(.call 43 [(.var 2)]), (.call 46 [(.var 2)]), (.call 47 [(.var 2)]), (.call 42 [(.bin .add (.bin .mul (.cst (.str [97])) (.cst (.int 199))) (.cst (.str [98])))]), (.call 49 [(.bin .add (.bin .mul (.cst (.str [97])) (.cst (.int 199))) (.cst (.str [98]))), (.cst (.int 1))]), (.call 47 [(.cst (.str [104]))]), (.call 46 [(.cst (.str [104]))])])), (.ret (.call 1004 [(.var 1), (.lst [(.lrg2 true (.cst (.int 1)) (.cst (.int 201))), (.lrg1 true (.cst (.int 200))), (.lrg3 true (.cst (.int 200)) (.cst (.int 0)) (.cst (.int (-1)))), (.tup [(.cst (.int 0))]), (.cst (.int 198)), (.tup [(.cst (.int 1))]), (.tup [(.cst (.int 0))])])]))]⟩
/-- 1013: law(script, cup, most, letters) -/
def f1013 : FD := ⟨1, false, [], 4, [(.ife (.not (.tru (.call 1012 []))) [(.ret (.cst (.bl false)))] []), (.set 1 (.call 1000 [(.var 0)])), (.fors (.tp [(.nm 2), (.nm 3)]) (.tup [(.tup [(.cst (.int 3)), (.cst (.int 2))]), (.tup [(.cst (.int 9)), (.cst (.int 2))]), (.tup [(.cst (.int 30)), (.cst (.int 2))]), (.tup [(.cst (.int 60)), (.cst (.int 3))])]) [(.ife (.not (.tru (.calli 1008 1 [(.bin .add (.calli 1005 1 [(.var 2), (.var 3)]) (.cst (.str [97])))]))) [(.ret (.cst (.bl false)))] [])]), (.fors (.nm 2) (.tup [(.cst (.int 12)), (.cst (.int 60)), (.cst (.int 200))]) [(.ife (.not (.tru (.calli 1008 1 [(.calli 1010 1 [(.var 2)])]))) [(.ret (.cst (.bl false)))] [])]), (.ret (.calli 1008 1 [(.calli 1011 1 [])]))]⟩
def e0 : DI := ⟨⟨("is_integer", none), "is_integer", "is_integer", defArgs (top 7), defBody (top 7), defScope (top 7), [], []⟩, f0, ["value"], ["value"]⟩
def e1 : DI := ⟨⟨("is_whole", none), "is_whole", "is_whole", defArgs (top 8), defBody (top 8), defScope (top 8), [], []⟩, f1, ["value", "low", "high"], ["value", "low", "high"]⟩
def e2 : DI := ⟨⟨("need_whole", none), "need_whole", "need_whole", defArgs (top 9), defBody (top 9), defScope (top 9), [], []⟩, f2, ["value", "low", "high"], ["value", "low", "high"]⟩
def e5 : DI := ⟨⟨("is_string_of", none), "is_string_of", "is_string_of", defArgs (top 10), defBody (top 10), defScope (top 10), [], []⟩, f5, ["value", "signs", "low", "high"], ["value", "signs", "low", "high", "sign"]⟩
def e6 : DI := ⟨⟨("fits_word", none), "fits_word", "fits_word", defArgs (top 11), defBody (top 11), defScope (top 11), [], []⟩, f6, ["value"], ["value"]⟩
def e7 : DI := ⟨⟨("need_word", none), "need_word", "need_word", defArgs (top 12), defBody (top 12), defScope (top 12), [], []⟩, f7, ["value"], ["value"]⟩
def e8 : DI := ⟨⟨("need_words", none), "need_words", "need_words", defArgs (top 13), defBody (top 13), defScope (top 13), [], []⟩, f8, ["word", "other"], ["word", "other"]⟩
def e9 : DI := ⟨⟨("need_bare_word", none), "need_bare_word", "need_bare_word", defArgs (top 14), defBody (top 14), defScope (top 14), [], []⟩, f9, ["value"], ["value"]⟩
def e21 : DI := ⟨⟨("is_word", none), "is_word", "is_word", defArgs (top 15), defBody (top 15), defScope (top 15), [], []⟩, f21, ["value"], ["value"]⟩
def e26 : DI := ⟨⟨("backwards", none), "backwards", "backwards", defArgs (top 16), defBody (top 16), defScope (top 16), [], []⟩, f26, ["word"], ["word"]⟩
def e34 : DI := ⟨⟨("is_beginning", none), "is_beginning", "is_beginning", defArgs (top 17), defBody (top 17), defScope (top 17), [], []⟩, f34, ["word", "other"], ["word", "other"]⟩
def e35 : DI := ⟨⟨("is_end", none), "is_end", "is_end", defArgs (top 18), defBody (top 18), defScope (top 18), [], []⟩, f35, ["word", "other"], ["word", "other"]⟩
def e36 : DI := ⟨⟨("border_row_in", none), "border_row_in", "border_row_in", defArgs (top 20), defBody (top 20), defScope (top 20), [], []⟩, f36, ["word"], ["word", "found", "letter", "border"]⟩
def e37 : DI := ⟨⟨("borders_in", none), "borders_in", "borders_in", defArgs (top 21), defBody (top 21), defScope (top 21), [], []⟩, f37, ["word"], ["word", "row", "found", "here"]⟩
def e38 : DI := ⟨⟨("periods_in", none), "periods_in", "periods_in", defArgs (top 22), defBody (top 22), defScope (top 22), [], []⟩, f38, ["word"], ["word", "border"]⟩
def e39 : DI := ⟨⟨("alike_row_in", none), "alike_row_in", "alike_row_in", defArgs (top 23), defBody (top 23), defScope (top 23), [], []⟩, f39, ["word"], ["word", "found", "begin", "end", "place", "many"]⟩
def e40 : DI := ⟨⟨("break_in", none), "break_in", "break_in", defArgs (top 24), defBody (top 24), defScope (top 24), [], []⟩, f40, ["word", "number"], ["word", "number", "place"]⟩
def e41 : DI := ⟨⟨("need_period", none), "need_period", "need_period", defArgs (top 25), defBody (top 25), defScope (top 25), [], []⟩, f41, ["word", "number"], ["word", "number"]⟩
def e42 : DI := ⟨⟨("borders_of", none), "borders_of", "borders_of", defArgs (top 26), defBody (top 26), defScope (top 26), [], []⟩, f42, ["word"], ["word"]⟩
def e43 : DI := ⟨⟨("periods_of", none), "periods_of", "periods_of", defArgs (top 27), defBody (top 27), defScope (top 27), [], []⟩, f43, ["word"], ["word"]⟩
def e44 : DI := ⟨⟨("greatest_border", none), "greatest_border", "greatest_border", defArgs (top 28), defBody (top 28), defScope (top 28), [], []⟩, f44, ["word"], ["word"]⟩
def e45 : DI := ⟨⟨("least_period", none), "least_period", "least_period", defArgs (top 29), defBody (top 29), defScope (top 29), [], []⟩, f45, ["word"], ["word"]⟩
def e46 : DI := ⟨⟨("border_row", none), "border_row", "border_row", defArgs (top 30), defBody (top 30), defScope (top 30), [], []⟩, f46, ["word"], ["word"]⟩
def e47 : DI := ⟨⟨("alike_row", none), "alike_row", "alike_row", defArgs (top 31), defBody (top 31), defScope (top 31), [], []⟩, f47, ["word"], ["word"]⟩
def e48 : DI := ⟨⟨("has_period", none), "has_period", "has_period", defArgs (top 32), defBody (top 32), defScope (top 32), [], []⟩, f48, ["word", "number"], ["word", "number"]⟩
def e49 : DI := ⟨⟨("period_break", none), "period_break", "period_break", defArgs (top 33), defBody (top 33), defScope (top 33), [], []⟩, f49, ["word", "number"], ["word", "number"]⟩
def e1000 : DI := ⟨⟨("_law_cup", none), "_law_cup", "_law_cup", defArgs (top 35), defBody (top 35), defScope (top 35), [], []⟩, f1000, ["script"], ["script", "cell"]⟩
def e1001 : DI := ⟨⟨("_law_roll", none), "_law_roll", "_law_roll", defArgs (top 36), defBody (top 36), defScope (top 36), [], []⟩, f1001, ["cup", "many"], ["cup", "many", "found", "deep"]⟩
def e1002 : DI := ⟨⟨("_law_some", none), "_law_some", "_law_some", defArgs (top 37), defBody (top 37), defScope (top 37), [], []⟩, f1002, ["cup", "things"], ["cup", "things"]⟩
def e1003 : DI := ⟨⟨("_law_sort", none), "_law_sort", "_law_sort", defArgs (top 38), defBody (top 38), defScope (top 38), [], []⟩, f1003, ["value"], ["value"]⟩
def e1004 : DI := ⟨⟨("_law_like", none), "_law_like", "_law_like", defArgs (top 39), defBody (top 39), defScope (top 39), [], []⟩, f1004, ["one", "other"], ["one", "other", "sort", "first", "second"]⟩
def e1005 : DI := ⟨⟨("_law_word", none), "_law_word", "_law_word", defArgs (top 40), defBody (top 40), defScope (top 40), [], []⟩, f1005, ["cup", "most", "letters"], ["cup", "most", "letters", "way", "size", "signs", "found", "turn", "piece"]⟩
def e1006 : DI := ⟨⟨("_law_periods", none), "_law_periods", "_law_periods", defArgs (top 41), defBody (top 41), defScope (top 41), [], []⟩, f1006, ["word"], ["word", "period"]⟩
def e1007 : DI := ⟨⟨("_law_part", none), "_law_part", "_law_part", defArgs (top 42), defBody (top 42), defScope (top 42), [], []⟩, f1007, ["one", "other"], ["one", "other"]⟩
def e1008 : DI := ⟨⟨("_law_right", none), "_law_right", "_law_right", defArgs (top 43), defBody (top 43), defScope (top 43), [], []⟩, f1008, ["cup", "word"], ["cup", "word", "many", "periods", "borders", "period", "told", "border", "number", "bad", "place", "one", "other", "part"]⟩
def e1009 : DI := ⟨⟨("_law_rows_right", none), "_law_rows_right", "_law_rows_right", defArgs (top 44), defBody (top 44), defScope (top 44), [], []⟩, f1009, ["word"], ["word", "many", "row", "alike", "size", "border", "place", "far"]⟩
def e1010 : DI := ⟨⟨("_law_made", none), "_law_made", "_law_made", defArgs (top 45), defBody (top 45), defScope (top 45), [], []⟩, f1010, ["cup", "most"], ["cup", "most", "piece", "other", "word", "way", "at"]⟩
def e1011 : DI := ⟨⟨("_law_grown", none), "_law_grown", "_law_grown", defArgs (top 46), defBody (top 46), defScope (top 46), [], []⟩, f1011, ["cup"], ["cup", "word", "turn", "between", "size"]⟩
def e1012 : DI := ⟨⟨("_law_written", none), "_law_written", "_law_written", defArgs (top 47), defBody (top 47), defScope (top 47), [], []⟩, f1012, [], ["word", "told", "wide"]⟩
def e1013 : DI := ⟨⟨("law", none), "law", "law", defArgs (top 48), defBody (top 48), defScope (top 48), [], []⟩, f1013, ["script"], ["script", "cup", "most", "letters"]⟩
def fdT : Nat → Option FD
  | 0 => some f0
  | 1 => some f1
  | 2 => some f2
  | 5 => some f5
  | 6 => some f6
  | 7 => some f7
  | 8 => some f8
  | 9 => some f9
  | 21 => some f21
  | 26 => some f26
  | 34 => some f34
  | 35 => some f35
  | 36 => some f36
  | 37 => some f37
  | 38 => some f38
  | 39 => some f39
  | 40 => some f40
  | 41 => some f41
  | 42 => some f42
  | 43 => some f43
  | 44 => some f44
  | 45 => some f45
  | 46 => some f46
  | 47 => some f47
  | 48 => some f48
  | 49 => some f49
  | 1000 => some f1000
  | 1001 => some f1001
  | 1002 => some f1002
  | 1003 => some f1003
  | 1004 => some f1004
  | 1005 => some f1005
  | 1006 => some f1006
  | 1007 => some f1007
  | 1008 => some f1008
  | 1009 => some f1009
  | 1010 => some f1010
  | 1011 => some f1011
  | 1012 => some f1012
  | 1013 => some f1013
  | _ => none
def tb : Tb := ⟨fdT, fun _ => none, fun _ _ => false, 1000000000⟩
def lay : Lay := ⟨[(0, e0), (1, e1), (2, e2), (5, e5), (6, e6), (7, e7), (8, e8), (9, e9), (21, e21), (26, e26), (34, e34), (35, e35), (36, e36), (37, e37), (38, e38), (39, e39), (40, e40), (41, e41), (42, e42), (43, e43), (44, e44), (45, e45), (46, e46), (47, e47), (48, e48), (49, e49), (1000, e1000), (1001, e1001), (1002, e1002), (1003, e1003), (1004, e1004), (1005, e1005), (1006, e1006), (1007, e1007), (1008, e1008), (1009, e1009), (1010, e1010), (1011, e1011), (1012, e1012), (1013, e1013)], [("MOST", 200)], [("LETTERS", [97, 98, 99, 100, 101, 102, 103, 104])], ["abs", "all", "bool", "int", "isinstance", "len", "list", "max", "min", "range", "str", "tuple", "zip"]⟩
theorem bo0 : BindOk e0 := fun _ _ _ _ _ _ us hl => match us, hl with | [_], _ => rfl
theorem bo1 : BindOk e1 := fun _ _ _ _ _ _ us hl => match us, hl with | [_, _, _], _ => rfl
theorem bo2 : BindOk e2 := fun _ _ _ _ _ _ us hl => match us, hl with | [_, _, _], _ => rfl
theorem bo5 : BindOk e5 := fun _ _ _ _ _ _ us hl => match us, hl with | [_, _, _, _], _ => rfl
theorem bo6 : BindOk e6 := fun _ _ _ _ _ _ us hl => match us, hl with | [_], _ => rfl
theorem bo7 : BindOk e7 := fun _ _ _ _ _ _ us hl => match us, hl with | [_], _ => rfl
theorem bo8 : BindOk e8 := fun _ _ _ _ _ _ us hl => match us, hl with | [_, _], _ => rfl
theorem bo9 : BindOk e9 := fun _ _ _ _ _ _ us hl => match us, hl with | [_], _ => rfl
theorem bo21 : BindOk e21 := fun _ _ _ _ _ _ us hl => match us, hl with | [_], _ => rfl
theorem bo26 : BindOk e26 := fun _ _ _ _ _ _ us hl => match us, hl with | [_], _ => rfl
theorem bo34 : BindOk e34 := fun _ _ _ _ _ _ us hl => match us, hl with | [_, _], _ => rfl
theorem bo35 : BindOk e35 := fun _ _ _ _ _ _ us hl => match us, hl with | [_, _], _ => rfl
theorem bo36 : BindOk e36 := fun _ _ _ _ _ _ us hl => match us, hl with | [_], _ => rfl
theorem bo37 : BindOk e37 := fun _ _ _ _ _ _ us hl => match us, hl with | [_], _ => rfl
theorem bo38 : BindOk e38 := fun _ _ _ _ _ _ us hl => match us, hl with | [_], _ => rfl
theorem bo39 : BindOk e39 := fun _ _ _ _ _ _ us hl => match us, hl with | [_], _ => rfl
theorem bo40 : BindOk e40 := fun _ _ _ _ _ _ us hl => match us, hl with | [_, _], _ => rfl
theorem bo41 : BindOk e41 := fun _ _ _ _ _ _ us hl => match us, hl with | [_, _], _ => rfl
theorem bo42 : BindOk e42 := fun _ _ _ _ _ _ us hl => match us, hl with | [_], _ => rfl
theorem bo43 : BindOk e43 := fun _ _ _ _ _ _ us hl => match us, hl with | [_], _ => rfl
theorem bo44 : BindOk e44 := fun _ _ _ _ _ _ us hl => match us, hl with | [_], _ => rfl
theorem bo45 : BindOk e45 := fun _ _ _ _ _ _ us hl => match us, hl with | [_], _ => rfl
theorem bo46 : BindOk e46 := fun _ _ _ _ _ _ us hl => match us, hl with | [_], _ => rfl
theorem bo47 : BindOk e47 := fun _ _ _ _ _ _ us hl => match us, hl with | [_], _ => rfl
theorem bo48 : BindOk e48 := fun _ _ _ _ _ _ us hl => match us, hl with | [_, _], _ => rfl
theorem bo49 : BindOk e49 := fun _ _ _ _ _ _ us hl => match us, hl with | [_, _], _ => rfl
theorem bo1000 : BindOk e1000 := fun _ _ _ _ _ _ us hl => match us, hl with | [_], _ => rfl
theorem bo1001 : BindOk e1001 := fun _ _ _ _ _ _ us hl => match us, hl with | [_, _], _ => rfl
theorem bo1002 : BindOk e1002 := fun _ _ _ _ _ _ us hl => match us, hl with | [_, _], _ => rfl
theorem bo1003 : BindOk e1003 := fun _ _ _ _ _ _ us hl => match us, hl with | [_], _ => rfl
theorem bo1004 : BindOk e1004 := fun _ _ _ _ _ _ us hl => match us, hl with | [_, _], _ => rfl
theorem bo1005 : BindOk e1005 := fun _ _ _ _ _ _ us hl => match us, hl with | [_, _, _], _ => rfl
theorem bo1006 : BindOk e1006 := fun _ _ _ _ _ _ us hl => match us, hl with | [_], _ => rfl
theorem bo1007 : BindOk e1007 := fun _ _ _ _ _ _ us hl => match us, hl with | [_, _], _ => rfl
theorem bo1008 : BindOk e1008 := fun _ _ _ _ _ _ us hl => match us, hl with | [_, _], _ => rfl
theorem bo1009 : BindOk e1009 := fun _ _ _ _ _ _ us hl => match us, hl with | [_], _ => rfl
theorem bo1010 : BindOk e1010 := fun _ _ _ _ _ _ us hl => match us, hl with | [_, _], _ => rfl
theorem bo1011 : BindOk e1011 := fun _ _ _ _ _ _ us hl => match us, hl with | [_], _ => rfl
theorem bo1012 : BindOk e1012 := fun _ _ _ _ _ _ us hl => match us, hl with | [], _ => rfl
theorem bo1013 : BindOk e1013 := fun _ _ _ _ _ _ us hl => match us, hl with | [_], _ => rfl
theorem bindAll : ∀ p, p ∈ lay.L → BindOk p.2 := List.forall_mem_cons.mpr ⟨bo0, List.forall_mem_cons.mpr ⟨bo1, List.forall_mem_cons.mpr ⟨bo2, List.forall_mem_cons.mpr ⟨bo5, List.forall_mem_cons.mpr ⟨bo6, List.forall_mem_cons.mpr ⟨bo7, List.forall_mem_cons.mpr ⟨bo8, List.forall_mem_cons.mpr ⟨bo9, List.forall_mem_cons.mpr ⟨bo21, List.forall_mem_cons.mpr ⟨bo26, List.forall_mem_cons.mpr ⟨bo34, List.forall_mem_cons.mpr ⟨bo35, List.forall_mem_cons.mpr ⟨bo36, List.forall_mem_cons.mpr ⟨bo37, List.forall_mem_cons.mpr ⟨bo38, List.forall_mem_cons.mpr ⟨bo39, List.forall_mem_cons.mpr ⟨bo40, List.forall_mem_cons.mpr ⟨bo41, List.forall_mem_cons.mpr ⟨bo42, List.forall_mem_cons.mpr ⟨bo43, List.forall_mem_cons.mpr ⟨bo44, List.forall_mem_cons.mpr ⟨bo45, List.forall_mem_cons.mpr ⟨bo46, List.forall_mem_cons.mpr ⟨bo47, List.forall_mem_cons.mpr ⟨bo48, List.forall_mem_cons.mpr ⟨bo49, List.forall_mem_cons.mpr ⟨bo1000, List.forall_mem_cons.mpr ⟨bo1001, List.forall_mem_cons.mpr ⟨bo1002, List.forall_mem_cons.mpr ⟨bo1003, List.forall_mem_cons.mpr ⟨bo1004, List.forall_mem_cons.mpr ⟨bo1005, List.forall_mem_cons.mpr ⟨bo1006, List.forall_mem_cons.mpr ⟨bo1007, List.forall_mem_cons.mpr ⟨bo1008, List.forall_mem_cons.mpr ⟨bo1009, List.forall_mem_cons.mpr ⟨bo1010, List.forall_mem_cons.mpr ⟨bo1011, List.forall_mem_cons.mpr ⟨bo1012, List.forall_mem_cons.mpr ⟨bo1013, fun _ h => nomatch h⟩⟩⟩⟩⟩⟩⟩⟩⟩⟩⟩⟩⟩⟩⟩⟩⟩⟩⟩⟩⟩⟩⟩⟩⟩⟩⟩⟩⟩⟩⟩⟩⟩⟩⟩⟩⟩⟩⟩⟩
end Py
end
namespace Py
structure Has (T : Tb) : Prop where
  h0 : T.fd 0 = some f0
  h1 : T.fd 1 = some f1
  h2 : T.fd 2 = some f2
  h5 : T.fd 5 = some f5
  h6 : T.fd 6 = some f6
  h7 : T.fd 7 = some f7
  h8 : T.fd 8 = some f8
  h9 : T.fd 9 = some f9
  h21 : T.fd 21 = some f21
  h26 : T.fd 26 = some f26
  h34 : T.fd 34 = some f34
  h35 : T.fd 35 = some f35
  h36 : T.fd 36 = some f36
  h37 : T.fd 37 = some f37
  h38 : T.fd 38 = some f38
  h39 : T.fd 39 = some f39
  h40 : T.fd 40 = some f40
  h41 : T.fd 41 = some f41
  h42 : T.fd 42 = some f42
  h43 : T.fd 43 = some f43
  h44 : T.fd 44 = some f44
  h45 : T.fd 45 = some f45
  h46 : T.fd 46 = some f46
  h47 : T.fd 47 = some f47
  h48 : T.fd 48 = some f48
  h49 : T.fd 49 = some f49
  h1000 : T.fd 1000 = some f1000
  h1001 : T.fd 1001 = some f1001
  h1002 : T.fd 1002 = some f1002
  h1003 : T.fd 1003 = some f1003
  h1004 : T.fd 1004 = some f1004
  h1005 : T.fd 1005 = some f1005
  h1006 : T.fd 1006 = some f1006
  h1007 : T.fd 1007 = some f1007
  h1008 : T.fd 1008 = some f1008
  h1009 : T.fd 1009 = some f1009
  h1010 : T.fd 1010 = some f1010
  h1011 : T.fd 1011 = some f1011
  h1012 : T.fd 1012 = some f1012
  h1013 : T.fd 1013 = some f1013
theorem has_tb : Has tb := ⟨rfl, rfl, rfl, rfl, rfl, rfl, rfl, rfl, rfl, rfl, rfl, rfl, rfl, rfl, rfl, rfl, rfl, rfl, rfl, rfl, rfl, rfl, rfl, rfl, rfl, rfl, rfl, rfl, rfl, rfl, rfl, rfl, rfl, rfl, rfl, rfl, rfl, rfl, rfl, rfl⟩
end Py
/-! k32: mirrors in a word, the plain law. -/
namespace Py
def piece (w : List Nat) (b e : Nat) : List Nat := (w.drop b).take (e - b)
def palB (w : List Nat) (b e : Nat) : Bool := piece w b e == (piece w b e).reverse
theorem pal_ends {x y : Nat} {s : List Nat} : (x :: (s ++ [y])) = (x :: (s ++ [y])).reverse ↔ x = y ∧ s = s.reverse := by
  rw [List.reverse_cons, List.reverse_append]
  simp only [List.reverse_cons, List.reverse_nil, List.nil_append, List.singleton_append, List.cons_append, List.cons.injEq]
  constructor
  · rintro ⟨rfl, h⟩
    exact ⟨rfl, List.append_cancel_right h⟩
  · rintro ⟨rfl, h⟩
    exact ⟨rfl, by rw [← h]⟩
theorem piece_step {w : List Nat} {b e : Nat} (h : b < e) (he : e < w.length) : piece w b (e + 1) = w[b]! :: (piece w (b + 1) e ++ [w[e]!]) := by
  have hb : b < w.length := by omega
  unfold piece
  have e1 : e + 1 - b = (e - (b + 1)) + 1 + 1 := by omega
  rw [e1, List.drop_eq_getElem_cons hb, List.take_succ_cons, getElem!_pos w b hb]
  congr 1
  have hl : e - (b + 1) < (w.drop (b + 1)).length := by rw [List.length_drop]; omega
  rw [List.take_succ_eq_append_getElem hl]
  congr 1
  rw [List.getElem_drop, getElem!_pos w e he]
  congr 2
  omega
theorem pal_step {w : List Nat} {b e : Nat} (h : b < e) (he : e < w.length) : palB w b (e + 1) = true ↔ w[b]! = w[e]! ∧ palB w (b + 1) e = true := by
  unfold palB
  rw [piece_step h he, beq_iff_eq, beq_iff_eq]
  exact pal_ends
theorem pal_short {w : List Nat} {b e : Nat} (h : e ≤ b + 1) : palB w b e = true := by
  unfold palB
  rw [beq_iff_eq]
  have : (piece w b e).length ≤ 1 := by unfold piece; rw [List.length_take]; omega
  generalize piece w b e = s at this
  match s, this with
  | [], _ => rfl
  | [x], _ => rfl
/-- letters met from the middle on -/
def expand (w : List Nat) : Nat → Nat → Nat
  | 0, e => e
  | b + 1, e => if e < w.length ∧ w[b]! = w[e]! then expand w b (e + 1) else e - (b + 1)
def reachN (w : List Nat) (m : Nat) : Nat := expand w (m / 2) (m - m / 2)
structure IsReach (w : List Nat) (m r : Nat) : Prop where
  le : r ≤ m
  le2 : r + m ≤ 2 * w.length
  par : (m - r) % 2 = 0
  iff : ∀ b e, b + e = m → b ≤ e → e ≤ w.length → (palB w b e = true ↔ e - b ≤ r)
theorem expand_is {w : List Nat} {m : Nat} : ∀ (b e : Nat), b + e = m → b ≤ e → e ≤ w.length → (∀ b' e', b' + e' = m → b' ≤ e' → b ≤ b' → e' ≤ w.length → palB w b' e' = true) → IsReach w m (expand w b e)
  | 0, e, h1, h2, h3, hp => by
    refine ⟨by simp only [expand]; omega, by simp only [expand]; omega, by simp only [expand]; omega, fun b' e' i1 i2 i3 => ?_⟩
    simp only [expand]
    exact ⟨fun _ => by omega, fun _ => hp b' e' i1 i2 (by omega) i3⟩
  | b + 1, e, h1, h2, h3, hp => by
    simp only [expand]
    split
    · rename_i h
      refine expand_is b (e + 1) (by omega) (by omega) (by omega) fun b' e' i1 i2 i3 i4 => ?_
      by_cases q : b' = b
      · subst q
        have : e' = e + 1 := by omega
        subst this
        exact (pal_step (by omega) h.1).mpr ⟨h.2, hp _ _ (by omega) (by omega) (by omega) (by omega)⟩
      · exact hp b' e' i1 i2 (by omega) i4
    · rename_i h
      refine ⟨by omega, by omega, by omega, fun b' e' i1 i2 i3 => ⟨fun i4 => ?_, fun i4 => hp b' e' i1 i2 (by omega) i3⟩⟩
      -- a mirror beyond would hold the next letters
      apply Classical.byContradiction
      intro q
      have key : ∀ (k b2 e2 : Nat), b2 + e2 = m → b2 + k = b → e2 ≤ w.length → palB w b2 e2 = true → palB w b (e + 1) = true := by
        intro k
        induction k with
        | zero =>
          intro b2 e2 j1 j2 j3 j4
          have : e2 = e + 1 := by omega
          subst this
          have : b2 = b := by omega
          subst this
          exact j4
        | succ k ih =>
          intro b2 e2 j1 j2 j3 j4
          have : e2 = (e2 - 1) + 1 := by omega
          rw [this] at j4
          exact ih (b2 + 1) (e2 - 1) (by omega) (by omega) (by omega) ((pal_step (by omega) (by omega)).mp j4).2
      have h4 := key (b - b') b' e' i1 (by omega) i3 i4
      have h5 : e < w.length := by omega
      exact h ⟨h5, ((pal_step (by omega) h5).mp h4).1⟩
theorem reach_is {w : List Nat} {m : Nat} (h : m ≤ 2 * w.length) : IsReach w m (reachN w m) :=
  expand_is (m / 2) (m - m / 2) (by omega) (by omega) (by omega) fun b e h1 h2 h3 h4 => pal_short (by omega)
theorem IsReach.uniq {w : List Nat} {m r s : Nat} (h : IsReach w m r) (g : IsReach w m s) : r = s := by
  have key : ∀ {r s : Nat}, IsReach w m r → IsReach w m s → s ≤ r := by
    intro r s h g
    have := h.le; have := h.le2; have := h.par
    have := g.le; have := g.le2; have := g.par
    have h1 := (g.iff ((m - s) / 2) ((m + s) / 2) (by omega) (by omega) (by omega)).mpr (by omega)
    have h2 := (h.iff ((m - s) / 2) ((m + s) / 2) (by omega) (by omega) (by omega)).mp h1
    omega
  exact Nat.le_antisymm (key g h) (key h g)
theorem piece_rev {w : List Nat} {b e : Nat} (h : b ≤ e) (he : e ≤ w.length) : piece w.reverse b e = (piece w (w.length - e) (w.length - b)).reverse := by
  unfold piece
  rw [List.drop_reverse, List.take_reverse, List.length_take]
  congr 1
  rw [List.drop_take]
  have e1 : min (w.length - b) w.length - (e - b) = w.length - e := by omega
  rw [e1]
theorem pal_rev {w : List Nat} {b e : Nat} (h : b ≤ e) (he : e ≤ w.length) : palB w.reverse b e = palB w (w.length - e) (w.length - b) := by
  unfold palB
  rw [piece_rev h he, List.reverse_reverse]
  generalize piece w (w.length - e) (w.length - b) = s
  by_cases q : s = s.reverse
  · rw [← q]
  · have q' : ¬ s.reverse = s := fun h => q h.symm
    rw [beq_eq_false_iff_ne.mpr q, beq_eq_false_iff_ne.mpr q']
theorem reach_rev {w : List Nat} {m : Nat} (h : m ≤ 2 * w.length) : reachN w.reverse m = reachN w (2 * w.length - m) := by
  have g := reach_is (w := w) (m := 2 * w.length - m) (by omega)
  have f : IsReach w.reverse m (reachN w (2 * w.length - m)) := by
    have := g.le; have := g.le2; have := g.par
    refine ⟨by omega, by rw [List.length_reverse]; omega, by omega, fun b e h1 h2 h3 => ?_⟩
    rw [List.length_reverse] at h3
    rw [pal_rev h2 h3, g.iff _ _ (by omega) (by omega) (by omega)]
    omega
  exact (reach_is (by rw [List.length_reverse]; omega)).uniq f
/-! the spots -/
def spotsAt (w : List Nat) (b : Nat) : List (Nat × Nat) := ((List.range' (b + 1) (w.length - b)).filter fun e => palB w b e).map fun e => (b, e)
def spotsN (w : List Nat) : List (Nat × Nat) := (List.range w.length).flatMap (spotsAt w)
theorem mem_spotsAt {w : List Nat} {a b e : Nat} : (b, e) ∈ spotsAt w a ↔ b = a ∧ b < e ∧ e ≤ b + (w.length - b) ∧ palB w b e = true := by
  unfold spotsAt
  simp only [List.mem_map, List.mem_filter, List.mem_range'_1, Prod.mk.injEq]
  constructor
  · rintro ⟨x, ⟨h1, h2⟩, rfl, rfl⟩
    exact ⟨rfl, by omega, by omega, h2⟩
  · rintro ⟨rfl, h1, h2, h3⟩
    exact ⟨e, ⟨by omega, h3⟩, rfl, rfl⟩
theorem mem_spots {w : List Nat} {b e : Nat} : (b, e) ∈ spotsN w ↔ b < e ∧ e ≤ w.length ∧ palB w b e = true := by
  unfold spotsN
  simp only [List.mem_flatMap, List.mem_range]
  constructor
  · rintro ⟨a, h1, h2⟩
    obtain ⟨rfl, h3, h4, h5⟩ := mem_spotsAt.mp h2
    exact ⟨h3, by omega, h5⟩
  · rintro ⟨h1, h2, h3⟩
    exact ⟨b, by omega, mem_spotsAt.mpr ⟨rfl, h1, by omega, h3⟩⟩
/-- the greatest of each middle -/
def dueStep (due : List Nat) (p : Nat × Nat) : List Nat := due.set (p.1 + p.2) (max (due[p.1 + p.2]!) (p.2 - p.1))
def dueL (l : List (Nat × Nat)) (due : List Nat) : List Nat := l.foldl dueStep due
theorem dueStep_len {due : List Nat} {p : Nat × Nat} : (dueStep due p).length = due.length := by unfold dueStep; rw [List.length_set]
theorem dueL_len : ∀ (l : List (Nat × Nat)) (due : List Nat), (dueL l due).length = due.length
  | [], _ => rfl
  | p :: l, due => by
    show (dueL l (dueStep due p)).length = _
    rw [dueL_len l, dueStep_len]
theorem dueStep_at {due : List Nat} {p : Nat × Nat} {m : Nat} (h : m < due.length) : (dueStep due p)[m]! = if p.1 + p.2 = m then max due[m]! (p.2 - p.1) else due[m]! := by
  unfold dueStep
  have h' : m < (due.set (p.1 + p.2) (max (due[p.1 + p.2]!) (p.2 - p.1))).length := by rw [List.length_set]; exact h
  rw [getElem!_pos _ m h', getElem!_pos _ m h]
  rw [List.getElem_set]
  split
  · rename_i q
    subst q
    rw [getElem!_pos due _ h]
  · rfl
theorem dueL_at {m : Nat} : ∀ (l : List (Nat × Nat)) (due : List Nat), m < due.length → due[m]! ≤ (dueL l due)[m]! ∧ (∀ p, p ∈ l → p.1 + p.2 = m → p.2 - p.1 ≤ (dueL l due)[m]!) ∧ ((dueL l due)[m]! = due[m]! ∨ ∃ p, p ∈ l ∧ p.1 + p.2 = m ∧ p.2 - p.1 = (dueL l due)[m]!)
  | [], due, h => ⟨Nat.le_refl _, fun _ h => by simp at h, .inl rfl⟩
  | q :: l, due, h => by
    have e : dueL (q :: l) due = dueL l (dueStep due q) := rfl
    obtain ⟨h1, h2, h3⟩ := dueL_at l (dueStep due q) (by rw [dueStep_len]; exact h)
    rw [e]
    have h4 := dueStep_at (p := q) h
    refine ⟨?_, ?_, ?_⟩
    · rw [h4] at h1
      split at h1 <;> omega
    · intro p hp hm
      rcases List.mem_cons.mp hp with rfl | hp
      · rw [h4, if_pos hm] at h1
        omega
      · exact h2 p hp hm
    · rcases h3 with h3 | ⟨p, hp, hm, he⟩
      · rw [h3, h4]
        split
        · rename_i hq
          by_cases hle : q.2 - q.1 ≤ due[m]!
          · left; omega
          · right; exact ⟨q, List.mem_cons_self, hq, by omega⟩
        · exact .inl rfl
      · exact .inr ⟨p, List.mem_cons_of_mem _ hp, hm, he⟩
def reaches (w : List Nat) : List Nat := (List.range (2 * w.length + 1)).map (reachN w)
theorem reaches_get {w : List Nat} {m : Nat} (h : m < (reaches w).length) : (reaches w)[m] = reachN w m := by simp only [reaches, List.getElem_map, List.getElem_range]
theorem due_reach (w : List Nat) : dueL (spotsN w) (List.replicate (2 * w.length + 1) 0) = reaches w := by
  apply List.ext_getElem
  · rw [dueL_len, List.length_replicate]; unfold reaches; rw [List.length_map, List.length_range]
  · intro m h1 h2
    have hm : m < 2 * w.length + 1 := by rw [dueL_len, List.length_replicate] at h1; exact h1
    have hm' : m < (List.replicate (2 * w.length + 1) 0).length := by rw [List.length_replicate]; exact hm
    obtain ⟨g1, g2, g3⟩ := dueL_at (spotsN w) _ hm'
    have g0 : (List.replicate (2 * w.length + 1) 0)[m]! = 0 := by rw [getElem!_pos _ m hm', List.getElem_replicate]
    rw [g0] at g3
    have g9 := getElem!_pos (dueL (spotsN w) (List.replicate (2 * w.length + 1) 0)) m h1
    rw [g9] at g1 g2 g3
    clear g9
    have e : (reaches w)[m] = reachN w m := reaches_get h2
    rw [e]
    have r := reach_is (w := w) (m := m) (by omega)
    generalize (dueL (spotsN w) (List.replicate (2 * w.length + 1) 0))[m] = v at *
    have := r.le; have := r.le2; have := r.par
    apply Nat.le_antisymm
    · rcases g3 with g3 | ⟨⟨b, e⟩, hp, hs, he⟩
      · omega
      · obtain ⟨i1, i2, i3⟩ := mem_spots.mp hp
        have := (r.iff b e hs (by omega) i2).mp i3
        omega
    · by_cases q : reachN w m = 0
      · omega
      · have i := (r.iff ((m - reachN w m) / 2) ((m + reachN w m) / 2) (by omega) (by omega) (by omega)).mpr (by omega)
        have j : ((m - reachN w m) / 2, (m + reachN w m) / 2) ∈ spotsN w := mem_spots.mpr ⟨by omega, by omega, i⟩
        have := g2 _ j (by show (m - reachN w m) / 2 + (m + reachN w m) / 2 = m; omega)
        simp only at this
        omega
theorem reaches_rev (w : List Nat) : reaches w.reverse = (reaches w).reverse := by
  apply List.ext_getElem
  · unfold reaches; simp
  · intro m h1 h2
    have hm : m < 2 * w.length + 1 := by unfold reaches at h1; simpa using h1
    rw [List.getElem_reverse]
    have e1 : (reaches w).length = 2 * w.length + 1 := by unfold reaches; simp
    simp only [e1]
    rw [reaches_get, reaches_get]
    rw [reach_rev (by omega)]
    congr 1
/-! how many -/
theorem sum_group {α : Type} (key : α → Nat) : ∀ (l : List α) (N : Nat), (∀ x, x ∈ l → key x < N) → ((List.range N).map fun m => (l.filter fun x => key x == m).length).sum = l.length
  | [], N, _ => by
    have : ∀ N, ((List.range N).map fun _ => 0).sum = 0 := by
      intro N
      induction N with
      | zero => rfl
      | succ N ih => rw [List.range_succ, List.map_append, List.sum_append, ih]; rfl
    simpa using this N
  | x :: l, N, h => by
    have ih := sum_group key l N fun y hy => h y (List.mem_cons_of_mem _ hy)
    have hx := h x List.mem_cons_self
    have key2 : ∀ N, ((List.range N).map fun m => ((x :: l).filter fun x => key x == m).length).sum = ((List.range N).map fun m => (l.filter fun x => key x == m).length).sum + if key x < N then 1 else 0 := by
      intro N
      induction N with
      | zero => rfl
      | succ N ih =>
        rw [List.range_succ, List.map_append, List.sum_append, List.map_append, List.sum_append, ih]
        simp only [List.map_cons, List.map_nil, List.sum_cons, List.sum_nil, List.filter_cons]
        by_cases q : key x = N
        · have : (key x == N) = true := by simp [q]
          rw [this]
          simp only [if_true, List.length_cons]
          rw [if_neg (by omega), if_pos (by omega)]
          omega
        · have : (key x == N) = false := by simp [q]
          rw [this]
          simp only [Bool.false_eq_true, if_false]
          by_cases q2 : key x < N
          · rw [if_pos q2, if_pos (by omega)]; omega
          · rw [if_neg q2, if_neg (by omega)]; omega
    rw [key2, ih, if_pos hx, List.length_cons]
theorem count_range (p : Nat → Bool) (lo hi : Nat) : ∀ (n : Nat), hi ≤ n → lo ≤ hi → (∀ b, b < n → (p b = true ↔ lo ≤ b ∧ b < hi)) → ((List.range n).filter p).length = hi - lo := by
  have key : ∀ (n : Nat), (∀ b, b < n → (p b = true ↔ lo ≤ b ∧ b < hi)) → ((List.range n).filter p).length = min hi n - lo := by
    intro n
    induction n with
    | zero => intro _; simp
    | succ n ih =>
      intro h
      rw [List.range_succ, List.filter_append, List.length_append, ih fun b hb => h b (by omega)]
      have := h n (by omega)
      by_cases q : p n = true
      · have q2 := this.mp q
        simp only [List.filter_cons, q, if_true, List.filter_nil, List.length_cons, List.length_nil]
        omega
      · have q2 : ¬ (lo ≤ n ∧ n < hi) := fun h => q (this.mpr h)
        simp only [List.filter_cons, q, List.filter_nil, List.length_nil, Bool.false_eq_true, if_false]
        omega
  intro n h1 h2 h3
  rw [key n h3]; omega
theorem filter_flat {α β : Type} (p : β → Bool) (f : α → List β) : ∀ (l : List α), (l.flatMap f).filter p = l.flatMap fun x => (f x).filter p
  | [] => rfl
  | x :: l => by simp only [List.flatMap_cons, List.filter_append, filter_flat p f l]
theorem flat_if {α β : Type} (q : α → Bool) (g : α → β) (f : α → List β) : ∀ (l : List α), (∀ x, x ∈ l → f x = if q x then [g x] else []) → l.flatMap f = (l.filter q).map g
  | [], _ => rfl
  | x :: l, h => by
    rw [List.flatMap_cons, h x List.mem_cons_self, flat_if q g f l fun y hy => h y (List.mem_cons_of_mem _ hy), List.filter_cons]
    split <;> simp
theorem filter_range'_one (p : Nat → Bool) (k : Nat) : ∀ (n a : Nat), (∀ x, p x = true → x = k) → (List.range' a n).filter p = if a ≤ k ∧ k < a + n ∧ p k = true then [k] else []
  | 0, a, _ => by rw [if_neg (by omega)]; rfl
  | n + 1, a, h => by
    rw [List.range'_succ, List.filter_cons, filter_range'_one p k n (a + 1) h]
    by_cases q : p a = true
    · have := h a q
      subst this
      rw [if_pos q, if_neg (by omega), if_pos ⟨by omega, by omega, q⟩]
    · rw [if_neg q]
      by_cases q2 : a + 1 ≤ k ∧ k < a + 1 + n ∧ p k = true
      · rw [if_pos q2, if_pos ⟨by omega, by omega, q2.2.2⟩]
      · rw [if_neg q2, if_neg]
        rintro ⟨h1, h2, h3⟩
        by_cases q3 : a = k
        · subst q3; exact q h3
        · exact q2 ⟨by omega, by omega, h3⟩
/-- those with a middle -/
theorem spots_mid (w : List Nat) {m : Nat} (hm : m ≤ 2 * w.length) : ((spotsN w).filter fun x => x.1 + x.2 == m).length = (reachN w m + 1) / 2 := by
  have r := reach_is (w := w) hm
  have := r.le; have := r.le2; have := r.par
  unfold spotsN
  rw [filter_flat, flat_if (fun b => decide (b < m - b ∧ m - b ≤ w.length) && palB w b (m - b)) (fun b => (b, m - b)), List.length_map]
  · rw [count_range _ ((m - reachN w m) / 2) ((m + 1) / 2)]
    · omega
    · by_cases q : m = 2 * w.length
      · omega
      · omega
    · omega
    · intro b hb
      rw [Bool.and_eq_true, decide_eq_true_eq]
      constructor
      · rintro ⟨⟨h1, h2⟩, h3⟩
        have := (r.iff b (m - b) (by omega) (by omega) h2).mp h3
        omega
      · rintro ⟨h1, h2⟩
        have h5 : m - b ≤ w.length := by omega
        exact ⟨⟨by omega, h5⟩, (r.iff b (m - b) (by omega) (by omega) h5).mpr (by omega)⟩
  · intro b hb
    have hb := List.mem_range.mp hb
    unfold spotsAt
    rw [List.filter_map, List.filter_filter]
    have e := filter_range'_one (fun e => (((fun x : Nat × Nat => x.1 + x.2 == m) ∘ fun e => (b, e)) e) && palB w b e) (m - b) (w.length - b) (b + 1) (fun x hx => by
      rw [Bool.and_eq_true] at hx
      have := hx.1
      simp only [Function.comp, beq_iff_eq] at this
      omega)
    rw [e]
    by_cases q : (decide (b < m - b ∧ m - b ≤ w.length) && palB w b (m - b)) = true
    · rw [if_pos q]
      rw [Bool.and_eq_true, decide_eq_true_eq] at q
      rw [if_pos ⟨by omega, by omega, by rw [Bool.and_eq_true]; exact ⟨by simp only [Function.comp, beq_iff_eq]; omega, q.2⟩⟩]
      rfl
    · rw [if_neg q]
      rw [if_neg]
      · rfl
      · rintro ⟨h1, h2, h3⟩
        rw [Bool.and_eq_true] at h3
        exact q (by rw [Bool.and_eq_true, decide_eq_true_eq]; exact ⟨⟨by omega, by omega⟩, h3.2⟩)
def pieces (w : List Nat) : Nat := ((reaches w).map fun r => (r + 1) / 2).sum
theorem pieces_spots (w : List Nat) : pieces w = (spotsN w).length := by
  rw [← sum_group (fun x : Nat × Nat => x.1 + x.2) (spotsN w) (2 * w.length + 1) (fun x hx => by
    have := (mem_spots (w := w) (b := x.1) (e := x.2)).mp hx
    show x.1 + x.2 < _
    omega)]
  unfold pieces reaches
  rw [List.map_map]
  congr 1
  apply List.map_congr_left
  intro m hm
  have := List.mem_range.mp hm
  rw [spots_mid w (by omega)]; rfl
theorem sum_odd : ∀ (l : List Nat), l.sum + (l.filter fun r => r % 2 == 1).length = 2 * (l.map fun r => (r + 1) / 2).sum
  | [] => rfl
  | x :: l => by
    have ih := sum_odd l
    simp only [List.sum_cons, List.map_cons, List.filter_cons]
    by_cases q : x % 2 = 1
    · have : (x % 2 == 1) = true := by simp [q]
      rw [this]
      simp only [if_true, List.length_cons]
      omega
    · have : (x % 2 == 1) = false := by simp [q]
      rw [this]
      simp only [Bool.false_eq_true, if_false]
      omega
/-- those that end there -/
def beginsTo (w : List Nat) (e : Nat) : List Nat := (List.range e).filter fun b => palB w b e
theorem filter_range_le (p : Nat → Bool) {n e : Nat} (h : e ≤ n) : ((List.range n).filter fun b => decide (b < e) && p b) = (List.range e).filter p := by
  obtain ⟨k, rfl⟩ := Nat.exists_eq_add_of_le h
  rw [List.range_add, List.filter_append]
  have : (List.map (fun x => e + x) (List.range k)).filter (fun b => decide (b < e) && p b) = [] := by
    apply List.filter_eq_nil_iff.mpr
    intro x hx
    obtain ⟨y, _, rfl⟩ := List.mem_map.mp hx
    have : ¬ e + y < e := by omega
    simp [this]
  rw [this, List.append_nil]
  apply List.filter_congr
  intro x hx
  have := List.mem_range.mp hx
  simp [this]
theorem spots_end (w : List Nat) {e : Nat} (he : e ≤ w.length) : ((spotsN w).filter fun x => x.2 == e).map (·.1) = beginsTo w e := by
  unfold spotsN
  rw [filter_flat, flat_if (fun b => decide (b < e) && palB w b e) (fun b => (b, e)), List.map_map]
  · have : ((fun x : Nat × Nat => x.1) ∘ fun b => (b, e)) = id := rfl
    rw [this, List.map_id, filter_range_le (fun b => palB w b e) he]
    rfl
  · intro b hb
    have hb := List.mem_range.mp hb
    unfold spotsAt
    rw [List.filter_map, List.filter_filter]
    have e1 := filter_range'_one (fun x => (((fun x : Nat × Nat => x.2 == e) ∘ fun e => (b, e)) x) && palB w b x) e (w.length - b) (b + 1) (fun x hx => by
      rw [Bool.and_eq_true] at hx
      have := hx.1
      simp only [Function.comp, beq_iff_eq] at this
      omega)
    rw [e1]
    by_cases q : (decide (b < e) && palB w b e) = true
    · rw [if_pos q]
      rw [Bool.and_eq_true, decide_eq_true_eq] at q
      rw [if_pos ⟨by omega, by omega, by rw [Bool.and_eq_true]; exact ⟨by simp only [Function.comp, beq_self_eq_true], q.2⟩⟩]
      rfl
    · rw [if_neg q]
      rw [if_neg]
      · rfl
      · rintro ⟨h1, h2, h3⟩
        rw [Bool.and_eq_true] at h3
        exact q (by rw [Bool.and_eq_true, decide_eq_true_eq]; exact ⟨by omega, h3.2⟩)
end Py

/-! Small things for all walks. -/
namespace Py
theorem cut_len_le {α : Type} {l : List α} {lo hi : Option Int} : (cut l lo hi).length ≤ l.length := by
  unfold cut
  rw [List.length_take, List.length_drop]; omega
theorem LetOk.mono {n m : Int} {w : List Nat} (h : LetOk n w) (hn : n ≤ m) : LetOk m w := fun x hx => by have := h x hx; omega
theorem castbeq {a b : Nat} : ((a : Int) == (b : Int)) = (a == b) := by
  by_cases h : a = b
  · subst h; rw [beq_self_eq_true, beq_self_eq_true]
  · rw [beq_eq_false_iff_ne.mpr h, beq_eq_false_iff_ne.mpr (by omega)]
theorem castbeq1 {a : Nat} : ((a : Int) == 1) = (a == 1) := castbeq (b := 1)
mutual
theorem lk_plain : ∀ {n : Nat} {k : Nat} {d : D}, lkOk n d = true → plainN (n + k) d = true
  | _, _, .non, _ => by simp only [plainN]
  | _, _, .bl _, _ => by simp only [plainN]
  | _, _, .int _, _ => by simp only [plainN]
  | _, _, .str _, _ => by simp only [plainN]
  | n + 1, k, .tup l, h => by
    simp only [lkOk, Bool.and_eq_true, decide_eq_true_eq] at h
    rw [Nat.add_right_comm]
    simp only [plainN]; exact lk_plainL h.2
  | n + 1, k, .lst l, h => by
    simp only [lkOk, Bool.and_eq_true, decide_eq_true_eq] at h
    rw [Nat.add_right_comm]
    simp only [plainN]; exact lk_plainL h.2
  | 0, _, .tup l, h => by simp [lkOk] at h
  | 0, _, .lst l, h => by simp [lkOk] at h
  | n, _, .dct _, h => by cases n <;> simp [lkOk] at h
  | n, _, .set _, h => by cases n <;> simp [lkOk] at h
  | n, _, .rng _ _ _, h => by cases n <;> simp [lkOk] at h
  | n, _, .itr _, h => by cases n <;> simp [lkOk] at h
  | n, _, .scr _, h => by cases n <;> simp [lkOk] at h
  | n, _, .fn _, h => by cases n <;> simp [lkOk] at h
  | n, _, .exc _ _, h => by cases n <;> simp [lkOk] at h
  | n, _, .clo _ _, h => by cases n <;> simp [lkOk] at h
theorem lk_plainL : ∀ {n : Nat} {k : Nat} {l : List D}, l.all (lkOk n) = true → l.all (plainN (n + k)) = true
  | _, _, [], _ => rfl
  | n, k, d :: l, h => by
    simp only [List.all_cons, Bool.and_eq_true] at h ⊢
    exact ⟨lk_plain h.1, lk_plainL h.2⟩
end
theorem lk_pl {n : Nat} {d : D} (h : lkOk n d = true) (hn : n ≤ 40) : plain d = true := by
  have := lk_plain (k := 40 - n) h
  rwa [show n + (40 - n) = 40 by omega] at this
theorem rngL_map2 (a b : Nat) : rngL (a : Int) (b : Int) 1 = (List.range' a (b - a)).map fun (j : Nat) => D.int (j : Int) := by
  have e : rngN (a : Int) (b : Int) 1 = b - a := by
    unfold rngN
    rw [if_pos (by decide)]
    have : ((b : Int) - a + 1 - 1) / 1 = (b : Int) - a := by simp
    rw [this]; omega
  unfold rngL
  rw [e]
  exact rngG_map _ _
theorem rng2_it {C : Cl} {e f : E} {ρ ρ1 ρ2 : Env} {a b : Nat} {s t : Bool} (h : evE C e ρ = .ok (s, .int a) ρ1) (h' : evE C f ρ1 = .ok (t, .int b) ρ2) (ha : a ≤ 1000000) (hb : b ≤ 1000000) : (evE C (.rng2 e f) ρ).bind itI = .ok (rngL a b 1) ρ2 := by
  rw [eE_rng2, h]
  simp only [bind_ok, h', rngV2_ok (small_nat ha) (small_nat hb), finS, itI]
theorem repL_one {x : D} : ∀ (n : Nat), repL [x] n = List.replicate n x
  | 0 => rfl
  | n + 1 => by simp only [repL, repL_one n, List.singleton_append, List.replicate_succ]
theorem eqD_t {a b : List D} : eqD (.tup a) (.tup b) = eqL a b := rfl
theorem eqL_nn : eqL [] [] = true := rfl
theorem eqL_cc {a b : D} {l m : List D} : eqL (a :: l) (b :: m) = (eqD a b && eqL l m) := rfl
theorem eqL_cn {a : D} {l : List D} : eqL (a :: l) [] = false := rfl
theorem eqL_nc {a : D} {l : List D} : eqL [] (a :: l) = false := rfl
theorem forL_nx {f : D → Env → M Fw} {x : D} {l : List D} {ρ ρ1 : Env} (h : f x ρ = .ok .nx ρ1) : forL f (x :: l) ρ = forL f l ρ1 := by simp only [forL, h, M.bind]
theorem mulOk_l {i j : Int} (h : i.natAbs < two64) : mulOk i j = true := by
  unfold mulOk
  simp [h]
def numF (g : Nat → D) : D → Option D
  | .int k => some (g k.toNat)
  | _ => none
def numG (p : Nat → Bool) (g : Nat → D) : D → Option D
  | .int k => if p k.toNat then some (g k.toNat) else none
  | _ => none
theorem eE_enum {C : Cl} {ρ : Env} {a : E} : evE C (.enum a) ρ = (evE C a ρ).bind fun x ρ => finS ρ (enumV x.2) := rfl
theorem enum_len : ∀ (l : List D) (i : Int), (enumD i l).length = l.length
  | [], i => rfl
  | x :: l, i => by simp only [enumD, List.length_cons, enum_len l]
theorem enum_get : ∀ (l : List D) (i : Int) (k : Nat), (enumD i l)[k]? = (l[k]?).map fun x => .tup [.int (i + k), x]
  | [], i, k => by simp [enumD]
  | x :: l, i, 0 => by simp [enumD]
  | x :: l, i, k + 1 => by
    simp only [enumD, List.getElem?_cons_succ]
    rw [enum_get l (i + 1) k, show i + 1 + (k : Int) = i + ((k + 1 : Nat) : Int) by omega]
theorem enum_at {us : List (List Nat)} {k : Nat} {x : D} (h : (enumD 0 (us.map .str))[k]? = some x) : k < us.length ∧ x = .tup [.int k, .str us[k]!] := by
  rw [enum_get, List.getElem?_map] at h
  cases q : us[k]? with
  | none => rw [q] at h; simp at h
  | some u =>
    rw [q] at h
    obtain ⟨h1, h2⟩ := List.getElem?_eq_some_iff.mp q
    simp only [Option.map, Option.some.injEq] at h
    refine ⟨h1, ?_⟩
    rw [← h, getElem!_pos us k h1, h2, Int.zero_add]
end Py

/-! The program's mirrors, and some more of its basics: what each def gives. -/
namespace Py
/-- 3: is_tuple_of(value, low, high) -/
def b3 : FD := ⟨3, false, [], 3, [(.ret (.and (.isi (.var 0) .tuple) (.cmp2 .le .le (.var 1) (.bi .len [(.var 0)]) (.var 2))))]⟩
/-- 10: need_stretch(word, begin, end) -/
def b10 : FD := ⟨3, false, [], 3, [(.ife (.or (.not (.tru (.call 1 [(.var 1), (.cst (.int 0)), (.bi .len [(.var 0)])]))) (.not (.tru (.call 1 [(.var 2), (.var 1), (.bi .len [(.var 0)])])))) [(.exp (.popD 0 .nil .nil))] [])]⟩
/-- 21: is_word(value) -/
def b21 : FD := ⟨1, false, [], 1, [(.ret (.call 6 [(.var 0)]))]⟩
/-- 22: piece_of(word, begin, end) -/
def b22 : FD := ⟨3, false, [], 3, [(.exp (.call 7 [(.var 0)])), (.exp (.call 10 [(.var 0), (.var 1), (.var 2)])), (.ret (.slc (.var 0) (.var 1) (.var 2)))]⟩
/-- 26: backwards(word) -/
def b26 : FD := ⟨1, false, [], 1, [(.exp (.call 7 [(.var 0)])), (.ret (.rev (.var 0)))]⟩
/-- 358: is_mirror_in(word) -/
def b358 : FD := ⟨1, false, [], 1, [(.ret (.cmp .eq (.var 0) (.rev (.var 0))))]⟩
/-- 359: reach_from(word, middle, begin, end) -/
def b359 : FD := ⟨2, false, [], 4, [(.setP [2, 3] [(.bin .fdiv (.var 1) (.cst (.int 2))), (.bin .sub (.var 1) (.bin .fdiv (.var 1) (.cst (.int 2))))]), (.whl (.and (.cmp .gt (.var 2) (.cst (.int 0))) (.and (.cmp .lt (.var 3) (.bi .len [(.var 0)])) (.cmp .eq (.idx (.var 0) (.bin .sub (.var 2) (.cst (.int 1)))) (.idx (.var 0) (.var 3))))) [(.setP [2, 3] [(.bin .sub (.var 2) (.cst (.int 1))), (.bin .add (.var 3) (.cst (.int 1)))])]), (.ret (.bin .sub (.var 3) (.var 2)))]⟩
/-- 360: reaches_in(word, middle) -/
def b360 : FD := ⟨1, false, [], 2, [(.ret (.comp [1] (.nm 1) (.rng1 (.bin .add (.bin .mul (.cst (.int 2)) (.bi .len [(.var 0)])) (.cst (.int 1)))) .yes (.call 359 [(.var 0), (.var 1)])))]⟩
/-- 361: pieces_in(reaches, reach) -/
def b361 : FD := ⟨1, false, [], 2, [(.ret (.bi .sum [(.comp [1] (.nm 1) (.var 0) .yes (.bin .fdiv (.bin .add (.var 1) (.cst (.int 1))) (.cst (.int 2))))]))]⟩
/-- 362: fits_piece(word, value, place) -/
def b362 : FD := ⟨2, false, [], 3, [(.ife (.or (.not (.tru (.call 3 [(.var 1), (.cst (.int 2)), (.cst (.int 2))]))) (.not (.tru (.bi .all [(.comp [2] (.nm 2) (.var 1) .yes (.call 1 [(.var 2), (.cst (.int 0)), (.bi .len [(.var 0)])]))])))) [(.ret (.cst (.bl false)))] []), (.ret (.and (.cmp .lt (.idx (.var 1) (.cst (.int 0))) (.idx (.var 1) (.cst (.int 1)))) (.call 358 [(.slc (.var 0) (.idx (.var 1) (.cst (.int 0))) (.idx (.var 1) (.cst (.int 1))))])))]⟩
/-- 363: begins_up_to(word, end, begin) -/
def b363 : FD := ⟨2, false, [], 3, [(.ret (.comp [2] (.nm 2) (.rng1 (.var 1)) (.tru (.call 358 [(.slc (.var 0) (.var 2) (.var 1))])) (.var 2)))]⟩
/-- 364: need_up_to(value, most) -/
def b364 : FD := ⟨2, false, [], 2, [(.ife (.not (.tru (.call 1 [(.var 0), (.cst (.int 0)), (.var 1)]))) [(.exp (.popD 0 .nil .nil))] [])]⟩
/-- 365: is_mirror(word) -/
def b365 : FD := ⟨1, false, [], 1, [(.exp (.call 7 [(.var 0)])), (.ret (.call 358 [(.var 0)]))]⟩
/-- 366: middle_reaches(word) -/
def b366 : FD := ⟨1, false, [], 1, [(.exp (.call 7 [(.var 0)])), (.ret (.bi .tuple [(.call 360 [(.var 0)])]))]⟩
/-- 367: reach_at(word, middle) -/
def b367 : FD := ⟨2, false, [], 2, [(.exp (.call 7 [(.var 0)])), (.exp (.call 364 [(.var 1), (.bin .mul (.cst (.int 2)) (.bi .len [(.var 0)]))])), (.ret (.call 359 [(.var 0), (.var 1)]))]⟩
/-- 368: is_mirror_piece(word, value) -/
def b368 : FD := ⟨2, false, [], 2, [(.exp (.call 7 [(.var 0)])), (.ret (.call 362 [(.var 0), (.var 1)]))]⟩
/-- 369: count_mirror_pieces(word) -/
def b369 : FD := ⟨1, false, [], 1, [(.exp (.call 7 [(.var 0)])), (.ret (.call 361 [(.call 360 [(.var 0)])]))]⟩
/-- 370: mirrors_up_to(word, end) -/
def b370 : FD := ⟨2, false, [], 2, [(.exp (.call 7 [(.var 0)])), (.exp (.call 364 [(.var 1), (.bi .len [(.var 0)])])), (.ret (.bi .tuple [(.call 363 [(.var 0), (.var 1)])]))]⟩
structure HasM (T : Tb) : Prop where
  h0 : T.fd 0 = some b0
  h1 : T.fd 1 = some b1
  h3 : T.fd 3 = some b3
  h5 : T.fd 5 = some b5
  h6 : T.fd 6 = some b6
  h7 : T.fd 7 = some b7
  h358 : T.fd 358 = some b358
  h359 : T.fd 359 = some b359
  h360 : T.fd 360 = some b360
  h361 : T.fd 361 = some b361
  h362 : T.fd 362 = some b362
  h363 : T.fd 363 = some b363
  h364 : T.fd 364 = some b364
  hN : 100000 < T.N
theorem clN {T : Tb} {d : Nat} : (clOf T d).N = T.N := by cases d <;> rfl
section
variable {T : Tb} (hM : HasM T)
include hM
theorem istup_ok (d : Nat) {l : List D} (h3 : T.fd 3 = some b3) {lo hi : Int} : (clOf T (d + 1)).run 3 [.tup l, .int lo, .int hi] = .ok false (.bl (decide (lo ≤ l.length ∧ (l.length : Int) ≤ hi))) none := by
  rw [run_def h3]
  by_cases q : lo ≤ l.length
  · have q1 : (!decide ((l.length : Int) < lo)) = true := by simp; omega
    by_cases q2 : (l.length : Int) ≤ hi
    · have q3 : (!decide (hi < (l.length : Int))) = true := by simp; omega
      have q4 : decide (lo ≤ l.length ∧ (l.length : Int) ≤ hi) = true := by simp; exact ⟨q, q2⟩
      simp only [runF, Int.cast_ofNat_Int, blsD, List.all, id, startE, fill, cellsOf, endF, ioOf, eSs_nil, eSs_cons, eS_ret, eS_exp, eS_set, eS_setP, eS_put, eS_app, eS_ife, eS_pass, eS_brk, eS_cnt, evT, eE_cst, eE_var, eE_bin, eE_not, eE_cmp, eE_cmp2, eE_and, eE_or, eE_ite, eE_tup, eE_lst, eE_idx, eE_slc, eE_rev, eE_nil, eE_call, eE_calli, eE_bi, eE_me, eE_lrg1, eE_isi, pk, evEs, evPs, evRs, rdE, rdP, rdL, get, put, sto, stoL, bind_ok, M.bind, callN, callIo, retE, fin, finS, finB, biD, bLen, lenD, ofO, truth, partI, slcV, revV, idxV, isNew, List.replicate, cmpD, ltD, isD, binD, Option.map, if_true, if_false, Bool.false_eq_true, Bool.true_eq_false, decide_true, decide_false, List.length_cons, List.length_nil, List.append_nil, List.cons_append, List.nil_append, List.drop_nil, chg, putV, appV, tst, Bool.not_true, Bool.not_false, beq_self_eq_true, bnd, bindP, bindL, plain_s, plain_i, plain_n, plain_b, eqD_s, eqD_i, eqD_b, bAbs, bInt, bMax, bMin, bAll, bAny, Bool.and_true, Bool.true_and, Bool.and_false, Bool.false_and, Nat.sub_self, Nat.zero_add, Nat.reduceAdd, Nat.reduceSub, Nat.reduceBEq, b3, isTy, q1, q3, q4]
    · have q3 : (!decide (hi < (l.length : Int))) = false := by simp; omega
      have q4 : decide (lo ≤ l.length ∧ (l.length : Int) ≤ hi) = false := by simp; omega
      simp only [runF, Int.cast_ofNat_Int, blsD, List.all, id, startE, fill, cellsOf, endF, ioOf, eSs_nil, eSs_cons, eS_ret, eS_exp, eS_set, eS_setP, eS_put, eS_app, eS_ife, eS_pass, eS_brk, eS_cnt, evT, eE_cst, eE_var, eE_bin, eE_not, eE_cmp, eE_cmp2, eE_and, eE_or, eE_ite, eE_tup, eE_lst, eE_idx, eE_slc, eE_rev, eE_nil, eE_call, eE_calli, eE_bi, eE_me, eE_lrg1, eE_isi, pk, evEs, evPs, evRs, rdE, rdP, rdL, get, put, sto, stoL, bind_ok, M.bind, callN, callIo, retE, fin, finS, finB, biD, bLen, lenD, ofO, truth, partI, slcV, revV, idxV, isNew, List.replicate, cmpD, ltD, isD, binD, Option.map, if_true, if_false, Bool.false_eq_true, Bool.true_eq_false, decide_true, decide_false, List.length_cons, List.length_nil, List.append_nil, List.cons_append, List.nil_append, List.drop_nil, chg, putV, appV, tst, Bool.not_true, Bool.not_false, beq_self_eq_true, bnd, bindP, bindL, plain_s, plain_i, plain_n, plain_b, eqD_s, eqD_i, eqD_b, bAbs, bInt, bMax, bMin, bAll, bAny, Bool.and_true, Bool.true_and, Bool.and_false, Bool.false_and, Nat.sub_self, Nat.zero_add, Nat.reduceAdd, Nat.reduceSub, Nat.reduceBEq, b3, isTy, q1, q3, q4]
  · have q1 : (!decide ((l.length : Int) < lo)) = false := by simp; omega
    have q4 : decide (lo ≤ l.length ∧ (l.length : Int) ≤ hi) = false := by simp; omega
    simp only [runF, Int.cast_ofNat_Int, blsD, List.all, id, startE, fill, cellsOf, endF, ioOf, eSs_nil, eSs_cons, eS_ret, eS_exp, eS_set, eS_setP, eS_put, eS_app, eS_ife, eS_pass, eS_brk, eS_cnt, evT, eE_cst, eE_var, eE_bin, eE_not, eE_cmp, eE_cmp2, eE_and, eE_or, eE_ite, eE_tup, eE_lst, eE_idx, eE_slc, eE_rev, eE_nil, eE_call, eE_calli, eE_bi, eE_me, eE_lrg1, eE_isi, pk, evEs, evPs, evRs, rdE, rdP, rdL, get, put, sto, stoL, bind_ok, M.bind, callN, callIo, retE, fin, finS, finB, biD, bLen, lenD, ofO, truth, partI, slcV, revV, idxV, isNew, List.replicate, cmpD, ltD, isD, binD, Option.map, if_true, if_false, Bool.false_eq_true, Bool.true_eq_false, decide_true, decide_false, List.length_cons, List.length_nil, List.append_nil, List.cons_append, List.nil_append, List.drop_nil, chg, putV, appV, tst, Bool.not_true, Bool.not_false, beq_self_eq_true, bnd, bindP, bindL, plain_s, plain_i, plain_n, plain_b, eqD_s, eqD_i, eqD_b, bAbs, bInt, bMax, bMin, bAll, bAny, Bool.and_true, Bool.true_and, Bool.and_false, Bool.false_and, Nat.sub_self, Nat.zero_add, Nat.reduceAdd, Nat.reduceSub, Nat.reduceBEq, b3, isTy, q1, q4]
omit hM in
theorem istup_no (d : Nat) {n : Nat} {x : D} (h3 : T.fd 3 = some b3) (hx : lkOk n x = true) (ht : ∀ l, x ≠ .tup l) {lo hi : Int} : (clOf T (d + 1)).run 3 [x, .int lo, .int hi] = .ok false (.bl false) none := by
  rw [run_def h3]
  cases x with
  | tup l => exact absurd rfl (ht l)
  | non => simp only [runF, Int.cast_ofNat_Int, blsD, List.all, id, startE, fill, cellsOf, endF, ioOf, eSs_nil, eSs_cons, eS_ret, eS_exp, eS_set, eS_setP, eS_put, eS_app, eS_ife, eS_pass, eS_brk, eS_cnt, evT, eE_cst, eE_var, eE_bin, eE_not, eE_cmp, eE_cmp2, eE_and, eE_or, eE_ite, eE_tup, eE_lst, eE_idx, eE_slc, eE_rev, eE_nil, eE_call, eE_calli, eE_bi, eE_me, eE_lrg1, eE_isi, pk, evEs, evPs, evRs, rdE, rdP, rdL, get, put, sto, stoL, bind_ok, M.bind, callN, callIo, retE, fin, finS, finB, biD, bLen, lenD, ofO, truth, partI, slcV, revV, idxV, isNew, List.replicate, cmpD, ltD, isD, binD, Option.map, if_true, if_false, Bool.false_eq_true, Bool.true_eq_false, decide_true, decide_false, List.length_cons, List.length_nil, List.append_nil, List.cons_append, List.nil_append, List.drop_nil, chg, putV, appV, tst, Bool.not_true, Bool.not_false, beq_self_eq_true, bnd, bindP, bindL, plain_s, plain_i, plain_n, plain_b, eqD_s, eqD_i, eqD_b, bAbs, bInt, bMax, bMin, bAll, bAny, Bool.and_true, Bool.true_and, Bool.and_false, Bool.false_and, Nat.sub_self, Nat.zero_add, Nat.reduceAdd, Nat.reduceSub, Nat.reduceBEq, b3, isTy]
  | bl b => simp only [runF, Int.cast_ofNat_Int, blsD, List.all, id, startE, fill, cellsOf, endF, ioOf, eSs_nil, eSs_cons, eS_ret, eS_exp, eS_set, eS_setP, eS_put, eS_app, eS_ife, eS_pass, eS_brk, eS_cnt, evT, eE_cst, eE_var, eE_bin, eE_not, eE_cmp, eE_cmp2, eE_and, eE_or, eE_ite, eE_tup, eE_lst, eE_idx, eE_slc, eE_rev, eE_nil, eE_call, eE_calli, eE_bi, eE_me, eE_lrg1, eE_isi, pk, evEs, evPs, evRs, rdE, rdP, rdL, get, put, sto, stoL, bind_ok, M.bind, callN, callIo, retE, fin, finS, finB, biD, bLen, lenD, ofO, truth, partI, slcV, revV, idxV, isNew, List.replicate, cmpD, ltD, isD, binD, Option.map, if_true, if_false, Bool.false_eq_true, Bool.true_eq_false, decide_true, decide_false, List.length_cons, List.length_nil, List.append_nil, List.cons_append, List.nil_append, List.drop_nil, chg, putV, appV, tst, Bool.not_true, Bool.not_false, beq_self_eq_true, bnd, bindP, bindL, plain_s, plain_i, plain_n, plain_b, eqD_s, eqD_i, eqD_b, bAbs, bInt, bMax, bMin, bAll, bAny, Bool.and_true, Bool.true_and, Bool.and_false, Bool.false_and, Nat.sub_self, Nat.zero_add, Nat.reduceAdd, Nat.reduceSub, Nat.reduceBEq, b3, isTy]
  | int b => simp only [runF, Int.cast_ofNat_Int, blsD, List.all, id, startE, fill, cellsOf, endF, ioOf, eSs_nil, eSs_cons, eS_ret, eS_exp, eS_set, eS_setP, eS_put, eS_app, eS_ife, eS_pass, eS_brk, eS_cnt, evT, eE_cst, eE_var, eE_bin, eE_not, eE_cmp, eE_cmp2, eE_and, eE_or, eE_ite, eE_tup, eE_lst, eE_idx, eE_slc, eE_rev, eE_nil, eE_call, eE_calli, eE_bi, eE_me, eE_lrg1, eE_isi, pk, evEs, evPs, evRs, rdE, rdP, rdL, get, put, sto, stoL, bind_ok, M.bind, callN, callIo, retE, fin, finS, finB, biD, bLen, lenD, ofO, truth, partI, slcV, revV, idxV, isNew, List.replicate, cmpD, ltD, isD, binD, Option.map, if_true, if_false, Bool.false_eq_true, Bool.true_eq_false, decide_true, decide_false, List.length_cons, List.length_nil, List.append_nil, List.cons_append, List.nil_append, List.drop_nil, chg, putV, appV, tst, Bool.not_true, Bool.not_false, beq_self_eq_true, bnd, bindP, bindL, plain_s, plain_i, plain_n, plain_b, eqD_s, eqD_i, eqD_b, bAbs, bInt, bMax, bMin, bAll, bAny, Bool.and_true, Bool.true_and, Bool.and_false, Bool.false_and, Nat.sub_self, Nat.zero_add, Nat.reduceAdd, Nat.reduceSub, Nat.reduceBEq, b3, isTy]
  | str b => simp only [runF, Int.cast_ofNat_Int, blsD, List.all, id, startE, fill, cellsOf, endF, ioOf, eSs_nil, eSs_cons, eS_ret, eS_exp, eS_set, eS_setP, eS_put, eS_app, eS_ife, eS_pass, eS_brk, eS_cnt, evT, eE_cst, eE_var, eE_bin, eE_not, eE_cmp, eE_cmp2, eE_and, eE_or, eE_ite, eE_tup, eE_lst, eE_idx, eE_slc, eE_rev, eE_nil, eE_call, eE_calli, eE_bi, eE_me, eE_lrg1, eE_isi, pk, evEs, evPs, evRs, rdE, rdP, rdL, get, put, sto, stoL, bind_ok, M.bind, callN, callIo, retE, fin, finS, finB, biD, bLen, lenD, ofO, truth, partI, slcV, revV, idxV, isNew, List.replicate, cmpD, ltD, isD, binD, Option.map, if_true, if_false, Bool.false_eq_true, Bool.true_eq_false, decide_true, decide_false, List.length_cons, List.length_nil, List.append_nil, List.cons_append, List.nil_append, List.drop_nil, chg, putV, appV, tst, Bool.not_true, Bool.not_false, beq_self_eq_true, bnd, bindP, bindL, plain_s, plain_i, plain_n, plain_b, eqD_s, eqD_i, eqD_b, bAbs, bInt, bMax, bMin, bAll, bAny, Bool.and_true, Bool.true_and, Bool.and_false, Bool.false_and, Nat.sub_self, Nat.zero_add, Nat.reduceAdd, Nat.reduceSub, Nat.reduceBEq, b3, isTy]
  | lst b => simp only [runF, Int.cast_ofNat_Int, blsD, List.all, id, startE, fill, cellsOf, endF, ioOf, eSs_nil, eSs_cons, eS_ret, eS_exp, eS_set, eS_setP, eS_put, eS_app, eS_ife, eS_pass, eS_brk, eS_cnt, evT, eE_cst, eE_var, eE_bin, eE_not, eE_cmp, eE_cmp2, eE_and, eE_or, eE_ite, eE_tup, eE_lst, eE_idx, eE_slc, eE_rev, eE_nil, eE_call, eE_calli, eE_bi, eE_me, eE_lrg1, eE_isi, pk, evEs, evPs, evRs, rdE, rdP, rdL, get, put, sto, stoL, bind_ok, M.bind, callN, callIo, retE, fin, finS, finB, biD, bLen, lenD, ofO, truth, partI, slcV, revV, idxV, isNew, List.replicate, cmpD, ltD, isD, binD, Option.map, if_true, if_false, Bool.false_eq_true, Bool.true_eq_false, decide_true, decide_false, List.length_cons, List.length_nil, List.append_nil, List.cons_append, List.nil_append, List.drop_nil, chg, putV, appV, tst, Bool.not_true, Bool.not_false, beq_self_eq_true, bnd, bindP, bindL, plain_s, plain_i, plain_n, plain_b, eqD_s, eqD_i, eqD_b, bAbs, bInt, bMax, bMin, bAll, bAny, Bool.and_true, Bool.true_and, Bool.and_false, Bool.false_and, Nat.sub_self, Nat.zero_add, Nat.reduceAdd, Nat.reduceSub, Nat.reduceBEq, b3, isTy]
  | dct _ => cases n <;> simp [lkOk] at hx
  | set _ => cases n <;> simp [lkOk] at hx
  | rng _ _ _ => cases n <;> simp [lkOk] at hx
  | itr _ => cases n <;> simp [lkOk] at hx
  | scr _ => cases n <;> simp [lkOk] at hx
  | fn _ => cases n <;> simp [lkOk] at hx
  | exc _ _ => cases n <;> simp [lkOk] at hx
  | clo _ _ => cases n <;> simp [lkOk] at hx
theorem mirinM_ok (d : Nat) (w : List Nat) : (clOf T (d + 1)).run 358 [.str w] = .ok false (.bl (w == w.reverse)) none := by
  rw [run_def hM.h358]
  simp only [runF, Int.cast_ofNat_Int, blsD, List.all, id, startE, fill, cellsOf, endF, ioOf, eSs_nil, eSs_cons, eS_ret, eS_exp, eS_set, eS_setP, eS_put, eS_app, eS_ife, eS_pass, eS_brk, eS_cnt, evT, eE_cst, eE_var, eE_bin, eE_not, eE_cmp, eE_cmp2, eE_and, eE_or, eE_ite, eE_tup, eE_lst, eE_idx, eE_slc, eE_rev, eE_nil, eE_call, eE_calli, eE_bi, eE_me, eE_lrg1, eE_isi, pk, evEs, evPs, evRs, rdE, rdP, rdL, get, put, sto, stoL, bind_ok, M.bind, callN, callIo, retE, fin, finS, finB, biD, bLen, lenD, ofO, truth, partI, slcV, revV, idxV, isNew, List.replicate, cmpD, ltD, isD, binD, Option.map, if_true, if_false, Bool.false_eq_true, Bool.true_eq_false, decide_true, decide_false, List.length_cons, List.length_nil, List.append_nil, List.cons_append, List.nil_append, List.drop_nil, chg, putV, appV, tst, Bool.not_true, Bool.not_false, beq_self_eq_true, bnd, bindP, bindL, plain_s, plain_i, plain_n, plain_b, eqD_s, eqD_i, eqD_b, bAbs, bInt, bMax, bMin, bAll, bAny, Bool.and_true, Bool.true_and, Bool.and_false, Bool.false_and, Nat.sub_self, Nat.zero_add, Nat.reduceAdd, Nat.reduceSub, Nat.reduceBEq, b358]
theorem reachM_ok (d : Nat) {w : List Nat} {m : Nat} (hw : w.length ≤ 1000) (hm : m ≤ 2 * w.length) : (clOf T (d + 1)).run 359 [.str w, .int m] = .ok false (.int (reachN w m)) none := by
  rw [run_def hM.h359]
  have loop : ∀ (b e n : Nat), b < n → b ≤ w.length → b ≤ e → ∃ b' e' : Int, whlL (evT (clOf T d) (.and (.cmp .gt (.var 2) (.cst (.int 0))) (.and (.cmp .lt (.var 3) (.bi .len [(.var 0)])) (.cmp .eq (.idx (.var 0) (.bin .sub (.var 2) (.cst (.int 1)))) (.idx (.var 0) (.var 3)))))) (evSs (clOf T d) [(.setP [2, 3] [(.bin .sub (.var 2) (.cst (.int 1))), (.bin .add (.var 3) (.cst (.int 1)))])]) n
      [some (.shr, .str w), some (.shr, .int m), some (.shr, .int b), some (.shr, .int e)] = .ok .nx [some (.shr, .str w), some (.shr, .int m), some (.shr, .int b'), some (.shr, .int e')] ∧ e' - b' = (expand w b e : Nat) := by
    intro b
    induction b with
    | zero =>
      intro e n hn _ _
      obtain ⟨n, rfl⟩ : ∃ k, n = k + 1 := ⟨n - 1, by omega⟩
      refine ⟨0, e, ?_, by simp only [expand]; omega⟩
      have q : ¬ ((0 : Int) < ((0 : Nat) : Int)) := by omega
      simp only [whlL, runF, Int.cast_ofNat_Int, blsD, List.all, id, startE, fill, cellsOf, endF, ioOf, eSs_nil, eSs_cons, eS_ret, eS_exp, eS_set, eS_setP, eS_put, eS_app, eS_ife, eS_pass, eS_brk, eS_cnt, evT, eE_cst, eE_var, eE_bin, eE_not, eE_cmp, eE_cmp2, eE_and, eE_or, eE_ite, eE_tup, eE_lst, eE_idx, eE_slc, eE_rev, eE_nil, eE_call, eE_calli, eE_bi, eE_me, eE_lrg1, eE_isi, pk, evEs, evPs, evRs, rdE, rdP, rdL, get, put, sto, stoL, bind_ok, M.bind, callN, callIo, retE, fin, finS, finB, biD, bLen, lenD, ofO, truth, partI, slcV, revV, idxV, isNew, List.replicate, cmpD, ltD, isD, binD, Option.map, if_true, if_false, Bool.false_eq_true, Bool.true_eq_false, decide_true, decide_false, List.length_cons, List.length_nil, List.append_nil, List.cons_append, List.nil_append, List.drop_nil, chg, putV, appV, tst, Bool.not_true, Bool.not_false, beq_self_eq_true, bnd, bindP, bindL, plain_s, plain_i, plain_n, plain_b, eqD_s, eqD_i, eqD_b, bAbs, bInt, bMax, bMin, bAll, bAny, Bool.and_true, Bool.true_and, Bool.and_false, Bool.false_and, Nat.sub_self, Nat.zero_add, Nat.reduceAdd, Nat.reduceSub, Nat.reduceBEq, q]
      rfl
    | succ b ih =>
      intro e n hn hb hbe
      obtain ⟨n, rfl⟩ : ∃ k, n = k + 1 := ⟨n - 1, by omega⟩
      simp only [expand]
      have q0 : (0 : Int) < ((b + 1 : Nat) : Int) := by omega
      have s1 : ((b + 1 : Nat) : Int) - 1 = (b : Int) := by omega
      have s2 : (e : Int) + 1 = ((e + 1 : Nat) : Int) := rfl
      have hbw : b < w.length := by omega
      have a1 := atD_nat (l := w) hbw
      by_cases q : e < w.length
      · have q1 : ((e : Int) < (w.length : Int)) := by omega
        have a2 := atD_nat (l := w) q
        by_cases q2 : w[b]! = w[e]!
        · rw [if_pos ⟨q, q2⟩]
          obtain ⟨b', e', h1, h2⟩ := ih (e + 1) n (by omega) (by omega) (by omega)
          refine ⟨b', e', ?_, h2⟩
          rw [← h1]
          have q3 : ([w[b]!] == [w[e]!]) = true := by rw [q2]; exact beq_self_eq_true _
          simp only [whlL, runF, Int.cast_ofNat_Int, blsD, List.all, id, startE, fill, cellsOf, endF, ioOf, eSs_nil, eSs_cons, eS_ret, eS_exp, eS_set, eS_setP, eS_put, eS_app, eS_ife, eS_pass, eS_brk, eS_cnt, evT, eE_cst, eE_var, eE_bin, eE_not, eE_cmp, eE_cmp2, eE_and, eE_or, eE_ite, eE_tup, eE_lst, eE_idx, eE_slc, eE_rev, eE_nil, eE_call, eE_calli, eE_bi, eE_me, eE_lrg1, eE_isi, pk, evEs, evPs, evRs, rdE, rdP, rdL, get, put, sto, stoL, bind_ok, M.bind, callN, callIo, retE, fin, finS, finB, biD, bLen, lenD, ofO, truth, partI, slcV, revV, idxV, isNew, List.replicate, cmpD, ltD, isD, binD, Option.map, if_true, if_false, Bool.false_eq_true, Bool.true_eq_false, decide_true, decide_false, List.length_cons, List.length_nil, List.append_nil, List.cons_append, List.nil_append, List.drop_nil, chg, putV, appV, tst, Bool.not_true, Bool.not_false, beq_self_eq_true, bnd, bindP, bindL, plain_s, plain_i, plain_n, plain_b, eqD_s, eqD_i, eqD_b, bAbs, bInt, bMax, bMin, bAll, bAny, Bool.and_true, Bool.true_and, Bool.and_false, Bool.false_and, Nat.sub_self, Nat.zero_add, Nat.reduceAdd, Nat.reduceSub, Nat.reduceBEq, q0, q1, s1, s2, a1, a2, q3]
        · rw [if_neg fun h => q2 h.2]
          refine ⟨((b + 1 : Nat) : Int), e, ?_, ?_⟩
          · have q3 : ([w[b]!] == [w[e]!]) = false := beq_eq_false_iff_ne.mpr fun h => q2 (List.cons.inj h).1
            simp only [whlL, runF, Int.cast_ofNat_Int, blsD, List.all, id, startE, fill, cellsOf, endF, ioOf, eSs_nil, eSs_cons, eS_ret, eS_exp, eS_set, eS_setP, eS_put, eS_app, eS_ife, eS_pass, eS_brk, eS_cnt, evT, eE_cst, eE_var, eE_bin, eE_not, eE_cmp, eE_cmp2, eE_and, eE_or, eE_ite, eE_tup, eE_lst, eE_idx, eE_slc, eE_rev, eE_nil, eE_call, eE_calli, eE_bi, eE_me, eE_lrg1, eE_isi, pk, evEs, evPs, evRs, rdE, rdP, rdL, get, put, sto, stoL, bind_ok, M.bind, callN, callIo, retE, fin, finS, finB, biD, bLen, lenD, ofO, truth, partI, slcV, revV, idxV, isNew, List.replicate, cmpD, ltD, isD, binD, Option.map, if_true, if_false, Bool.false_eq_true, Bool.true_eq_false, decide_true, decide_false, List.length_cons, List.length_nil, List.append_nil, List.cons_append, List.nil_append, List.drop_nil, chg, putV, appV, tst, Bool.not_true, Bool.not_false, beq_self_eq_true, bnd, bindP, bindL, plain_s, plain_i, plain_n, plain_b, eqD_s, eqD_i, eqD_b, bAbs, bInt, bMax, bMin, bAll, bAny, Bool.and_true, Bool.true_and, Bool.and_false, Bool.false_and, Nat.sub_self, Nat.zero_add, Nat.reduceAdd, Nat.reduceSub, Nat.reduceBEq, q0, q1, s1, a1, a2, q3]
          · omega
      · rw [if_neg fun h => q h.1]
        refine ⟨((b + 1 : Nat) : Int), e, ?_, ?_⟩
        · have q1 : ¬ ((e : Int) < (w.length : Int)) := by omega
          simp only [whlL, runF, Int.cast_ofNat_Int, blsD, List.all, id, startE, fill, cellsOf, endF, ioOf, eSs_nil, eSs_cons, eS_ret, eS_exp, eS_set, eS_setP, eS_put, eS_app, eS_ife, eS_pass, eS_brk, eS_cnt, evT, eE_cst, eE_var, eE_bin, eE_not, eE_cmp, eE_cmp2, eE_and, eE_or, eE_ite, eE_tup, eE_lst, eE_idx, eE_slc, eE_rev, eE_nil, eE_call, eE_calli, eE_bi, eE_me, eE_lrg1, eE_isi, pk, evEs, evPs, evRs, rdE, rdP, rdL, get, put, sto, stoL, bind_ok, M.bind, callN, callIo, retE, fin, finS, finB, biD, bLen, lenD, ofO, truth, partI, slcV, revV, idxV, isNew, List.replicate, cmpD, ltD, isD, binD, Option.map, if_true, if_false, Bool.false_eq_true, Bool.true_eq_false, decide_true, decide_false, List.length_cons, List.length_nil, List.append_nil, List.cons_append, List.nil_append, List.drop_nil, chg, putV, appV, tst, Bool.not_true, Bool.not_false, beq_self_eq_true, bnd, bindP, bindL, plain_s, plain_i, plain_n, plain_b, eqD_s, eqD_i, eqD_b, bAbs, bInt, bMax, bMin, bAll, bAny, Bool.and_true, Bool.true_and, Bool.and_false, Bool.false_and, Nat.sub_self, Nat.zero_add, Nat.reduceAdd, Nat.reduceSub, Nat.reduceBEq, q0, q1]
        · omega
  obtain ⟨b', e', h1, h2⟩ := loop (m / 2) (m - m / 2) T.N (by have := hM.hN; omega) (by omega) (by omega)
  have s1 : (m : Int) - ((m / 2 : Nat) : Int) = ((m - m / 2 : Nat) : Int) := by omega
  have hF : evS (clOf T d) (.whl (.and (.cmp .gt (.var 2) (.cst (.int 0))) (.and (.cmp .lt (.var 3) (.bi .len [(.var 0)])) (.cmp .eq (.idx (.var 0) (.bin .sub (.var 2) (.cst (.int 1)))) (.idx (.var 0) (.var 3))))) [(.setP [2, 3] [(.bin .sub (.var 2) (.cst (.int 1))), (.bin .add (.var 3) (.cst (.int 1)))])]) [some (.shr, .str w), some (.shr, .int m), some (.shr, .int (m / 2 : Nat)), some (.shr, .int (m - m / 2 : Nat))] = .ok .nx [some (.shr, .str w), some (.shr, .int m), some (.shr, .int b'), some (.shr, .int e')] := by
    rw [eS_whl, clN]; exact h1
  simp only [runF, Int.cast_ofNat_Int, blsD, List.all, id, startE, fill, cellsOf, endF, ioOf, eSs_nil, eSs_cons, eS_ret, eS_exp, eS_set, eS_setP, eS_put, eS_app, eS_ife, eS_pass, eS_brk, eS_cnt, evT, eE_cst, eE_var, eE_bin, eE_not, eE_cmp, eE_cmp2, eE_and, eE_or, eE_ite, eE_tup, eE_lst, eE_idx, eE_slc, eE_rev, eE_nil, eE_call, eE_calli, eE_bi, eE_me, eE_lrg1, eE_isi, pk, evEs, evPs, evRs, rdE, rdP, rdL, get, put, sto, stoL, bind_ok, M.bind, callN, callIo, retE, fin, finS, finB, biD, bLen, lenD, ofO, truth, partI, slcV, revV, idxV, isNew, List.replicate, cmpD, ltD, isD, binD, Option.map, if_true, if_false, Bool.false_eq_true, Bool.true_eq_false, decide_true, decide_false, List.length_cons, List.length_nil, List.append_nil, List.cons_append, List.nil_append, List.drop_nil, chg, putV, appV, tst, Bool.not_true, Bool.not_false, beq_self_eq_true, bnd, bindP, bindL, plain_s, plain_i, plain_n, plain_b, eqD_s, eqD_i, eqD_b, bAbs, bInt, bMax, bMin, bAll, bAny, Bool.and_true, Bool.true_and, Bool.and_false, Bool.false_and, Nat.sub_self, Nat.zero_add, Nat.reduceAdd, Nat.reduceSub, Nat.reduceBEq, b359, dv2, fdiv2, s1, hF, h2]
  rfl
/-- reach_from, for all middles -/
theorem reachesM_ok (d : Nat) {w : List Nat} (hw : w.length ≤ 1000) : (clOf T (d + 2)).run 360 [.str w] = .ok true (.lst (natL (reaches w))) none := by
  rw [run_def hM.h360]
  have s1 : (2 : Int) * (w.length : Int) + 1 = ((2 * w.length + 1 : Nat) : Int) := by omega
  have m1 : mulOk 2 (w.length : Int) = true := mulOk_l (by decide)
  have W1 : evE (clOf T (d + 1)) (.comp [1] (.nm 1) (.rng1 (.bin .add (.bin .mul (.cst (.int 2)) (.bi .len [(.var 0)])) (.cst (.int 1)))) .yes (.call 359 [(.var 0), (.var 1)])) [some (.shr, .str w), none] = .ok (true, .lst (natL (reaches w))) [some (.shr, .str w), none] := by
    rw [comp_ok (ρ1 := [some (.shr, .str w), none]) (ds := rngL 0 (2 * w.length + 1 : Nat) 1) (fun ρ => ∃ t, ρ = [some (.shr, .str w), t]) (numF fun k => .int (reachN w k))
      (rng_it (n := 2 * w.length + 1) (b := false) (by simp only [runF, Int.cast_ofNat_Int, blsD, List.all, id, startE, fill, cellsOf, endF, ioOf, eSs_nil, eSs_cons, eS_ret, eS_exp, eS_set, eS_setP, eS_put, eS_app, eS_ife, eS_pass, eS_brk, eS_cnt, evT, eE_cst, eE_var, eE_bin, eE_not, eE_cmp, eE_cmp2, eE_and, eE_or, eE_ite, eE_tup, eE_lst, eE_idx, eE_slc, eE_rev, eE_nil, eE_call, eE_calli, eE_bi, eE_me, eE_lrg1, eE_isi, pk, evEs, evPs, evRs, rdE, rdP, rdL, get, put, sto, stoL, bind_ok, M.bind, callN, callIo, retE, fin, finS, finB, biD, bLen, lenD, ofO, truth, partI, slcV, revV, idxV, isNew, List.replicate, cmpD, ltD, isD, binD, Option.map, if_true, if_false, Bool.false_eq_true, Bool.true_eq_false, decide_true, decide_false, List.length_cons, List.length_nil, List.append_nil, List.cons_append, List.nil_append, List.drop_nil, chg, putV, appV, tst, Bool.not_true, Bool.not_false, beq_self_eq_true, bnd, bindP, bindL, plain_s, plain_i, plain_n, plain_b, eqD_s, eqD_i, eqD_b, bAbs, bInt, bMax, bMin, bAll, bAny, Bool.and_true, Bool.true_and, Bool.and_false, Bool.false_and, Nat.sub_self, Nat.zero_add, Nat.reduceAdd, Nat.reduceSub, Nat.reduceBEq, m1, s1]) (by omega)) ⟨_, rfl⟩ (by
        rintro x hx ρ ⟨t, rfl⟩
        rw [rngL_map] at hx
        obtain ⟨k, hk, rfl⟩ := List.mem_map.mp hx
        have hk := List.mem_range.mp hk
        have e := reachM_ok hM d hw (m := k) (by omega)
        refine ⟨_, ?_, some (.shr, .int k), rfl⟩
        simp only [runF, Int.cast_ofNat_Int, blsD, List.all, id, startE, fill, cellsOf, endF, ioOf, eSs_nil, eSs_cons, eS_ret, eS_exp, eS_set, eS_setP, eS_put, eS_app, eS_ife, eS_pass, eS_brk, eS_cnt, evT, eE_cst, eE_var, eE_bin, eE_not, eE_cmp, eE_cmp2, eE_and, eE_or, eE_ite, eE_tup, eE_lst, eE_idx, eE_slc, eE_rev, eE_nil, eE_call, eE_calli, eE_bi, eE_me, eE_lrg1, eE_isi, pk, evEs, evPs, evRs, rdE, rdP, rdL, get, put, sto, stoL, bind_ok, M.bind, callN, callIo, retE, fin, finS, finB, biD, bLen, lenD, ofO, truth, partI, slcV, revV, idxV, isNew, List.replicate, cmpD, ltD, isD, binD, Option.map, if_true, if_false, Bool.false_eq_true, Bool.true_eq_false, decide_true, decide_false, List.length_cons, List.length_nil, List.append_nil, List.cons_append, List.nil_append, List.drop_nil, chg, putV, appV, tst, Bool.not_true, Bool.not_false, beq_self_eq_true, bnd, bindP, bindL, plain_s, plain_i, plain_n, plain_b, eqD_s, eqD_i, eqD_b, bAbs, bInt, bMax, bMin, bAll, bAny, Bool.and_true, Bool.true_and, Bool.and_false, Bool.false_and, Nat.sub_self, Nat.zero_add, Nat.reduceAdd, Nat.reduceSub, Nat.reduceBEq, clr, numF, e, Int.toNat_natCast]) (by rintro ρ ⟨t, rfl⟩; rfl) rfl (lenOk_of (by rw [rngL_len, Int.toNat_natCast]; omega))]
    rw [rngL_map, fm_some (fun k => D.int (reachN w k : Nat)) (List.range (2 * w.length + 1)) (fun (k : Nat) => D.int k) _ (fun x _ => rfl)]
    unfold natL reaches
    rw [List.map_map]
    rfl
  simp only [runF, Int.cast_ofNat_Int, blsD, List.all, id, startE, fill, cellsOf, endF, ioOf, eSs_nil, eSs_cons, eS_ret, eS_exp, eS_set, eS_setP, eS_put, eS_app, eS_ife, eS_pass, eS_brk, eS_cnt, evT, eE_cst, eE_var, eE_bin, eE_not, eE_cmp, eE_cmp2, eE_and, eE_or, eE_ite, eE_tup, eE_lst, eE_idx, eE_slc, eE_rev, eE_nil, eE_call, eE_calli, eE_bi, eE_me, eE_lrg1, eE_isi, pk, evEs, evPs, evRs, rdE, rdP, rdL, get, put, sto, stoL, bind_ok, M.bind, callN, callIo, retE, fin, finS, finB, biD, bLen, lenD, ofO, truth, partI, slcV, revV, idxV, isNew, List.replicate, cmpD, ltD, isD, binD, Option.map, if_true, if_false, Bool.false_eq_true, Bool.true_eq_false, decide_true, decide_false, List.length_cons, List.length_nil, List.append_nil, List.cons_append, List.nil_append, List.drop_nil, chg, putV, appV, tst, Bool.not_true, Bool.not_false, beq_self_eq_true, bnd, bindP, bindL, plain_s, plain_i, plain_n, plain_b, eqD_s, eqD_i, eqD_b, bAbs, bInt, bMax, bMin, bAll, bAny, Bool.and_true, Bool.true_and, Bool.and_false, Bool.false_and, Nat.sub_self, Nat.zero_add, Nat.reduceAdd, Nat.reduceSub, Nat.reduceBEq, b360, W1]
theorem piecesM_ok (d : Nat) {l : List Nat} (hl : l.length ≤ 100000) : (clOf T (d + 1)).run 361 [.lst (natL l)] = .ok false (.int ((l.map fun r => (r + 1) / 2).sum : Nat)) none := by
  rw [run_def hM.h361]
  have W1 : evE (clOf T d) (.comp [1] (.nm 1) (.var 0) .yes (.bin .fdiv (.bin .add (.var 1) (.cst (.int 1))) (.cst (.int 2)))) [some (.shr, .lst (natL l)), none] = .ok (true, .lst (natL (l.map fun r => (r + 1) / 2))) [some (.shr, .lst (natL l)), none] := by
    rw [comp_ok (ρ1 := [some (.shr, .lst (natL l)), none]) (ds := natL l) (fun ρ => ∃ t, ρ = [some (.shr, .lst (natL l)), t]) (numF fun k => .int ((k + 1) / 2 : Nat))
      (by simp only [runF, Int.cast_ofNat_Int, blsD, List.all, id, startE, fill, cellsOf, endF, ioOf, eSs_nil, eSs_cons, eS_ret, eS_exp, eS_set, eS_setP, eS_put, eS_app, eS_ife, eS_pass, eS_brk, eS_cnt, evT, eE_cst, eE_var, eE_bin, eE_not, eE_cmp, eE_cmp2, eE_and, eE_or, eE_ite, eE_tup, eE_lst, eE_idx, eE_slc, eE_rev, eE_nil, eE_call, eE_calli, eE_bi, eE_me, eE_lrg1, eE_isi, pk, evEs, evPs, evRs, rdE, rdP, rdL, get, put, sto, stoL, bind_ok, M.bind, callN, callIo, retE, fin, finS, finB, biD, bLen, lenD, ofO, truth, partI, slcV, revV, idxV, isNew, List.replicate, cmpD, ltD, isD, binD, Option.map, if_true, if_false, Bool.false_eq_true, Bool.true_eq_false, decide_true, decide_false, List.length_cons, List.length_nil, List.append_nil, List.cons_append, List.nil_append, List.drop_nil, chg, putV, appV, tst, Bool.not_true, Bool.not_false, beq_self_eq_true, bnd, bindP, bindL, plain_s, plain_i, plain_n, plain_b, eqD_s, eqD_i, eqD_b, bAbs, bInt, bMax, bMin, bAll, bAny, Bool.and_true, Bool.true_and, Bool.and_false, Bool.false_and, Nat.sub_self, Nat.zero_add, Nat.reduceAdd, Nat.reduceSub, Nat.reduceBEq, itI]) ⟨_, rfl⟩ (by
        rintro x hx ρ ⟨t, rfl⟩
        obtain ⟨k, hk, rfl⟩ := List.mem_map.mp hx
        have s1 : (k : Int) + 1 = ((k + 1 : Nat) : Int) := rfl
        refine ⟨_, ?_, some (.shr, .int k), rfl⟩
        simp only [runF, Int.cast_ofNat_Int, blsD, List.all, id, startE, fill, cellsOf, endF, ioOf, eSs_nil, eSs_cons, eS_ret, eS_exp, eS_set, eS_setP, eS_put, eS_app, eS_ife, eS_pass, eS_brk, eS_cnt, evT, eE_cst, eE_var, eE_bin, eE_not, eE_cmp, eE_cmp2, eE_and, eE_or, eE_ite, eE_tup, eE_lst, eE_idx, eE_slc, eE_rev, eE_nil, eE_call, eE_calli, eE_bi, eE_me, eE_lrg1, eE_isi, pk, evEs, evPs, evRs, rdE, rdP, rdL, get, put, sto, stoL, bind_ok, M.bind, callN, callIo, retE, fin, finS, finB, biD, bLen, lenD, ofO, truth, partI, slcV, revV, idxV, isNew, List.replicate, cmpD, ltD, isD, binD, Option.map, if_true, if_false, Bool.false_eq_true, Bool.true_eq_false, decide_true, decide_false, List.length_cons, List.length_nil, List.append_nil, List.cons_append, List.nil_append, List.drop_nil, chg, putV, appV, tst, Bool.not_true, Bool.not_false, beq_self_eq_true, bnd, bindP, bindL, plain_s, plain_i, plain_n, plain_b, eqD_s, eqD_i, eqD_b, bAbs, bInt, bMax, bMin, bAll, bAny, Bool.and_true, Bool.true_and, Bool.and_false, Bool.false_and, Nat.sub_self, Nat.zero_add, Nat.reduceAdd, Nat.reduceSub, Nat.reduceBEq, clr, numF, dv2, s1, fdiv2, Int.toNat_natCast]) (by rintro ρ ⟨t, rfl⟩; rfl) rfl (lenOk_of (by rw [natL_len]; omega))]
    unfold natL
    rw [fm_some (fun (k : Nat) => D.int ((k + 1) / 2 : Nat)) l (fun (k : Nat) => D.int k) _ (fun x _ => rfl), List.map_map]
    rfl
  have e1 : bSum [.lst (natL (l.map fun r => (r + 1) / 2))] = some (.int ((l.map fun r => (r + 1) / 2).sum : Nat)) := by
    simp only [bSum, ints_natL, Option.map, sum_nat]
  simp only [runF, Int.cast_ofNat_Int, blsD, List.all, id, startE, fill, cellsOf, endF, ioOf, eSs_nil, eSs_cons, eS_ret, eS_exp, eS_set, eS_setP, eS_put, eS_app, eS_ife, eS_pass, eS_brk, eS_cnt, evT, eE_cst, eE_var, eE_bin, eE_not, eE_cmp, eE_cmp2, eE_and, eE_or, eE_ite, eE_tup, eE_lst, eE_idx, eE_slc, eE_rev, eE_nil, eE_call, eE_calli, eE_bi, eE_me, eE_lrg1, eE_isi, pk, evEs, evPs, evRs, rdE, rdP, rdL, get, put, sto, stoL, bind_ok, M.bind, callN, callIo, retE, fin, finS, finB, biD, bLen, lenD, ofO, truth, partI, slcV, revV, idxV, isNew, List.replicate, cmpD, ltD, isD, binD, Option.map, if_true, if_false, Bool.false_eq_true, Bool.true_eq_false, decide_true, decide_false, List.length_cons, List.length_nil, List.append_nil, List.cons_append, List.nil_append, List.drop_nil, chg, putV, appV, tst, Bool.not_true, Bool.not_false, beq_self_eq_true, bnd, bindP, bindL, plain_s, plain_i, plain_n, plain_b, eqD_s, eqD_i, eqD_b, bAbs, bInt, bMax, bMin, bAll, bAny, Bool.and_true, Bool.true_and, Bool.and_false, Bool.false_and, Nat.sub_self, Nat.zero_add, Nat.reduceAdd, Nat.reduceSub, Nat.reduceBEq, b361, W1, e1]
omit hM in
theorem cut_piece {w : List Nat} {b e : Nat} (hb : b ≤ w.length) (he : e ≤ w.length) : cut w (some (b : Int)) (some (e : Int)) = piece w b e := cut_nat hb he
/-- fits_piece, told plainly -/
def fitsD (w : List Nat) : D → Bool
  | .tup [.int x, .int y] => decide (0 ≤ x ∧ x < y ∧ y ≤ w.length) && palB w x.toNat y.toNat
  | _ => false
theorem fitsM_ok (d : Nat) {w : List Nat} {n : Nat} {v : D} (hv : lkOk n v = true) : (clOf T (d + 3)).run 362 [.str w, v] = .ok false (.bl (fitsD w v)) none := by
  rw [run_def hM.h362]
  by_cases ht : ∀ l, v ≠ .tup l
  · have e1 := istup_no (T := T) (d + 1) hM.h3 hv ht (lo := 2) (hi := 2)
    have e2 : fitsD w v = false := by
      unfold fitsD
      split
      · exact absurd rfl (ht _)
      · rfl
    simp only [runF, Int.cast_ofNat_Int, blsD, List.all, id, startE, fill, cellsOf, endF, ioOf, eSs_nil, eSs_cons, eS_ret, eS_exp, eS_set, eS_setP, eS_put, eS_app, eS_ife, eS_pass, eS_brk, eS_cnt, evT, eE_cst, eE_var, eE_bin, eE_not, eE_cmp, eE_cmp2, eE_and, eE_or, eE_ite, eE_tup, eE_lst, eE_idx, eE_slc, eE_rev, eE_nil, eE_call, eE_calli, eE_bi, eE_me, eE_lrg1, eE_isi, pk, evEs, evPs, evRs, rdE, rdP, rdL, get, put, sto, stoL, bind_ok, M.bind, callN, callIo, retE, fin, finS, finB, biD, bLen, lenD, ofO, truth, partI, slcV, revV, idxV, isNew, List.replicate, cmpD, ltD, isD, binD, Option.map, if_true, if_false, Bool.false_eq_true, Bool.true_eq_false, decide_true, decide_false, List.length_cons, List.length_nil, List.append_nil, List.cons_append, List.nil_append, List.drop_nil, chg, putV, appV, tst, Bool.not_true, Bool.not_false, beq_self_eq_true, bnd, bindP, bindL, plain_s, plain_i, plain_n, plain_b, eqD_s, eqD_i, eqD_b, bAbs, bInt, bMax, bMin, bAll, bAny, Bool.and_true, Bool.true_and, Bool.and_false, Bool.false_and, Nat.sub_self, Nat.zero_add, Nat.reduceAdd, Nat.reduceSub, Nat.reduceBEq, b362, e1, e2]
  · obtain ⟨l, rfl⟩ : ∃ l, v = .tup l := by
      apply Classical.byContradiction
      intro h
      exact ht fun l hl => h ⟨l, hl⟩
    obtain ⟨n, rfl⟩ : ∃ k, n = k + 1 := by cases n with
      | zero => simp [lkOk] at hv
      | succ k => exact ⟨k, rfl⟩
    simp only [lkOk, Bool.and_eq_true, decide_eq_true_eq] at hv
    obtain ⟨hl, ha⟩ := hv
    have e1 := istup_ok hM (d + 1) (l := l) hM.h3 (lo := 2) (hi := 2)
    by_cases h2 : l.length = 2
    · match l, h2, ha, e1 with
      | [x, y], _, ha, e1 =>
        simp only [List.all_cons, List.all_nil, Bool.and_true, Bool.and_eq_true] at ha
        have e1' : (clOf T (d + 2)).run 3 [.tup [x, y], .int 2, .int 2] = .ok false (.bl true) none := by rw [e1]; rfl
        have w1 := whole_any hM.h0 hM.h1 d ha.1 (lo := 0) (hi := (w.length : Int))
        have w2 := whole_any hM.h0 hM.h1 d ha.2 (lo := 0) (hi := (w.length : Int))
        have W1 : evE (clOf T (d + 2)) (.comp [2] (.nm 2) (.var 1) .yes (.call 1 [(.var 2), (.cst (.int 0)), (.bi .len [(.var 0)])])) [some (.shr, .str w), some (.shr, .tup [x, y]), none] = .ok (true, .lst [.bl (wholeD 0 w.length x), .bl (wholeD 0 w.length y)]) [some (.shr, .str w), some (.shr, .tup [x, y]), none] := by
          rw [comp_ok (ρ1 := [some (.shr, .str w), some (.shr, .tup [x, y]), none]) (ds := [x, y]) (fun ρ => ∃ t, ρ = [some (.shr, .str w), some (.shr, .tup [x, y]), t]) (fun v => some (.bl (wholeD 0 w.length v)))
            (by simp only [runF, Int.cast_ofNat_Int, blsD, List.all, id, startE, fill, cellsOf, endF, ioOf, eSs_nil, eSs_cons, eS_ret, eS_exp, eS_set, eS_setP, eS_put, eS_app, eS_ife, eS_pass, eS_brk, eS_cnt, evT, eE_cst, eE_var, eE_bin, eE_not, eE_cmp, eE_cmp2, eE_and, eE_or, eE_ite, eE_tup, eE_lst, eE_idx, eE_slc, eE_rev, eE_nil, eE_call, eE_calli, eE_bi, eE_me, eE_lrg1, eE_isi, pk, evEs, evPs, evRs, rdE, rdP, rdL, get, put, sto, stoL, bind_ok, M.bind, callN, callIo, retE, fin, finS, finB, biD, bLen, lenD, ofO, truth, partI, slcV, revV, idxV, isNew, List.replicate, cmpD, ltD, isD, binD, Option.map, if_true, if_false, Bool.false_eq_true, Bool.true_eq_false, decide_true, decide_false, List.length_cons, List.length_nil, List.append_nil, List.cons_append, List.nil_append, List.drop_nil, chg, putV, appV, tst, Bool.not_true, Bool.not_false, beq_self_eq_true, bnd, bindP, bindL, plain_s, plain_i, plain_n, plain_b, eqD_s, eqD_i, eqD_b, bAbs, bInt, bMax, bMin, bAll, bAny, Bool.and_true, Bool.true_and, Bool.and_false, Bool.false_and, Nat.sub_self, Nat.zero_add, Nat.reduceAdd, Nat.reduceSub, Nat.reduceBEq, itI]) ⟨_, rfl⟩ (by
              rintro v hv ρ ⟨t, rfl⟩
              have e : (clOf T (d + 2)).run 1 [v, .int 0, .int w.length] = .ok false (.bl (wholeD 0 w.length v)) none := by
                simp only [List.mem_cons, List.not_mem_nil, or_false] at hv
                rcases hv with rfl | rfl
                · exact w1
                · exact w2
              refine ⟨_, ?_, some (.shr, v), rfl⟩
              simp only [runF, Int.cast_ofNat_Int, blsD, List.all, id, startE, fill, cellsOf, endF, ioOf, eSs_nil, eSs_cons, eS_ret, eS_exp, eS_set, eS_setP, eS_put, eS_app, eS_ife, eS_pass, eS_brk, eS_cnt, evT, eE_cst, eE_var, eE_bin, eE_not, eE_cmp, eE_cmp2, eE_and, eE_or, eE_ite, eE_tup, eE_lst, eE_idx, eE_slc, eE_rev, eE_nil, eE_call, eE_calli, eE_bi, eE_me, eE_lrg1, eE_isi, pk, evEs, evPs, evRs, rdE, rdP, rdL, get, put, sto, stoL, bind_ok, M.bind, callN, callIo, retE, fin, finS, finB, biD, bLen, lenD, ofO, truth, partI, slcV, revV, idxV, isNew, List.replicate, cmpD, ltD, isD, binD, Option.map, if_true, if_false, Bool.false_eq_true, Bool.true_eq_false, decide_true, decide_false, List.length_cons, List.length_nil, List.append_nil, List.cons_append, List.nil_append, List.drop_nil, chg, putV, appV, tst, Bool.not_true, Bool.not_false, beq_self_eq_true, bnd, bindP, bindL, plain_s, plain_i, plain_n, plain_b, eqD_s, eqD_i, eqD_b, bAbs, bInt, bMax, bMin, bAll, bAny, Bool.and_true, Bool.true_and, Bool.and_false, Bool.false_and, Nat.sub_self, Nat.zero_add, Nat.reduceAdd, Nat.reduceSub, Nat.reduceBEq, clr, e]) (by rintro ρ ⟨t, rfl⟩; rfl) rfl rfl]
          rfl
        by_cases q : wholeD 0 w.length x = true ∧ wholeD 0 w.length y = true
        · obtain ⟨q1, q2⟩ := q
          cases x with
          | int x =>
            cases y with
            | int y =>
              simp only [wholeD, decide_eq_true_eq] at q1 q2
              obtain ⟨a, rfl⟩ := Int.eq_ofNat_of_zero_le q1.1
              obtain ⟨b, rfl⟩ := Int.eq_ofNat_of_zero_le q2.1
              have q3 : wholeD 0 w.length (.int a) = true := by simp only [wholeD, decide_eq_true_eq]; omega
              have q4 : wholeD 0 w.length (.int b) = true := by simp only [wholeD, decide_eq_true_eq]; omega
              rw [q3, q4] at W1
              have a0 : atD [D.int (a : Int), D.int b] 0 = some (.int a) := rfl
              have a1 : atD [D.int (a : Int), D.int b] 1 = some (.int b) := rfl
              by_cases h : a < b
              · have c := cut_piece (w := w) (b := a) (e := b) (by omega) (by omega)
                have h' : ((a : Int) < (b : Int)) := by omega
                have e5 : fitsD w (.tup [.int a, .int b]) = palB w a b := by
                  have : decide ((0 : Int) ≤ a ∧ (a : Int) < b ∧ (b : Int) ≤ w.length) = true := by simp; omega
                  simp only [fitsD, this, Bool.true_and, Int.toNat_natCast]
                have e6 := mirinM_ok hM (d + 1) (piece w a b)
                simp only [runF, Int.cast_ofNat_Int, blsD, List.all, id, startE, fill, cellsOf, endF, ioOf, eSs_nil, eSs_cons, eS_ret, eS_exp, eS_set, eS_setP, eS_put, eS_app, eS_ife, eS_pass, eS_brk, eS_cnt, evT, eE_cst, eE_var, eE_bin, eE_not, eE_cmp, eE_cmp2, eE_and, eE_or, eE_ite, eE_tup, eE_lst, eE_idx, eE_slc, eE_rev, eE_nil, eE_call, eE_calli, eE_bi, eE_me, eE_lrg1, eE_isi, pk, evEs, evPs, evRs, rdE, rdP, rdL, get, put, sto, stoL, bind_ok, M.bind, callN, callIo, retE, fin, finS, finB, biD, bLen, lenD, ofO, truth, partI, slcV, revV, idxV, isNew, List.replicate, cmpD, ltD, isD, binD, Option.map, if_true, if_false, Bool.false_eq_true, Bool.true_eq_false, decide_true, decide_false, List.length_cons, List.length_nil, List.append_nil, List.cons_append, List.nil_append, List.drop_nil, chg, putV, appV, tst, Bool.not_true, Bool.not_false, beq_self_eq_true, bnd, bindP, bindL, plain_s, plain_i, plain_n, plain_b, eqD_s, eqD_i, eqD_b, bAbs, bInt, bMax, bMin, bAll, bAny, Bool.and_true, Bool.true_and, Bool.and_false, Bool.false_and, Nat.sub_self, Nat.zero_add, Nat.reduceAdd, Nat.reduceSub, Nat.reduceBEq, b362, e1', W1, a0, a1, h', c, e5, e6, palB]
              · have h' : ¬ ((a : Int) < (b : Int)) := by omega
                have e5 : fitsD w (.tup [.int a, .int b]) = false := by
                  have : decide ((0 : Int) ≤ a ∧ (a : Int) < b ∧ (b : Int) ≤ w.length) = false := by simp; omega
                  simp only [fitsD, this, Bool.false_and]
                simp only [runF, Int.cast_ofNat_Int, blsD, List.all, id, startE, fill, cellsOf, endF, ioOf, eSs_nil, eSs_cons, eS_ret, eS_exp, eS_set, eS_setP, eS_put, eS_app, eS_ife, eS_pass, eS_brk, eS_cnt, evT, eE_cst, eE_var, eE_bin, eE_not, eE_cmp, eE_cmp2, eE_and, eE_or, eE_ite, eE_tup, eE_lst, eE_idx, eE_slc, eE_rev, eE_nil, eE_call, eE_calli, eE_bi, eE_me, eE_lrg1, eE_isi, pk, evEs, evPs, evRs, rdE, rdP, rdL, get, put, sto, stoL, bind_ok, M.bind, callN, callIo, retE, fin, finS, finB, biD, bLen, lenD, ofO, truth, partI, slcV, revV, idxV, isNew, List.replicate, cmpD, ltD, isD, binD, Option.map, if_true, if_false, Bool.false_eq_true, Bool.true_eq_false, decide_true, decide_false, List.length_cons, List.length_nil, List.append_nil, List.cons_append, List.nil_append, List.drop_nil, chg, putV, appV, tst, Bool.not_true, Bool.not_false, beq_self_eq_true, bnd, bindP, bindL, plain_s, plain_i, plain_n, plain_b, eqD_s, eqD_i, eqD_b, bAbs, bInt, bMax, bMin, bAll, bAny, Bool.and_true, Bool.true_and, Bool.and_false, Bool.false_and, Nat.sub_self, Nat.zero_add, Nat.reduceAdd, Nat.reduceSub, Nat.reduceBEq, b362, e1', W1, a0, a1, h', e5]
            | _ => simp [wholeD] at q2
          | _ => simp [wholeD] at q1
        · have e5 : fitsD w (.tup [x, y]) = false := by
            unfold fitsD
            split
            · rename_i heq
              simp only [D.tup.injEq, List.cons.injEq, and_true] at heq
              obtain ⟨rfl, rfl⟩ := heq
              rw [Bool.and_eq_false_iff]
              left
              simp only [wholeD, decide_eq_true_eq] at q
              rw [decide_eq_false_iff_not]
              omega
            · rfl
          have e6 : (wholeD 0 w.length x && (wholeD 0 w.length y && true)) = false := by
            cases h1 : wholeD 0 w.length x with
            | false => rfl
            | true => cases h2 : wholeD 0 w.length y with
              | false => rfl
              | true => exact absurd ⟨h1, h2⟩ q
          rw [Bool.and_true] at e6
          simp only [runF, Int.cast_ofNat_Int, blsD, List.all, id, startE, fill, cellsOf, endF, ioOf, eSs_nil, eSs_cons, eS_ret, eS_exp, eS_set, eS_setP, eS_put, eS_app, eS_ife, eS_pass, eS_brk, eS_cnt, evT, eE_cst, eE_var, eE_bin, eE_not, eE_cmp, eE_cmp2, eE_and, eE_or, eE_ite, eE_tup, eE_lst, eE_idx, eE_slc, eE_rev, eE_nil, eE_call, eE_calli, eE_bi, eE_me, eE_lrg1, eE_isi, pk, evEs, evPs, evRs, rdE, rdP, rdL, get, put, sto, stoL, bind_ok, M.bind, callN, callIo, retE, fin, finS, finB, biD, bLen, lenD, ofO, truth, partI, slcV, revV, idxV, isNew, List.replicate, cmpD, ltD, isD, binD, Option.map, if_true, if_false, Bool.false_eq_true, Bool.true_eq_false, decide_true, decide_false, List.length_cons, List.length_nil, List.append_nil, List.cons_append, List.nil_append, List.drop_nil, chg, putV, appV, tst, Bool.not_true, Bool.not_false, beq_self_eq_true, bnd, bindP, bindL, plain_s, plain_i, plain_n, plain_b, eqD_s, eqD_i, eqD_b, bAbs, bInt, bMax, bMin, bAll, bAny, Bool.and_true, Bool.true_and, Bool.and_false, Bool.false_and, Nat.sub_self, Nat.zero_add, Nat.reduceAdd, Nat.reduceSub, Nat.reduceBEq, b362, e1', W1, e5, e6]
    · have e1' : (clOf T (d + 2)).run 3 [.tup l, .int 2, .int 2] = .ok false (.bl false) none := by
        rw [e1]
        have : decide ((2 : Int) ≤ l.length ∧ (l.length : Int) ≤ 2) = false := by simp; omega
        rw [this]
      have e2 : fitsD w (.tup l) = false := by
        unfold fitsD
        split
        · rename_i heq
          simp only [D.tup.injEq] at heq
          subst heq
          exact absurd rfl h2
        · rfl
      simp only [runF, Int.cast_ofNat_Int, blsD, List.all, id, startE, fill, cellsOf, endF, ioOf, eSs_nil, eSs_cons, eS_ret, eS_exp, eS_set, eS_setP, eS_put, eS_app, eS_ife, eS_pass, eS_brk, eS_cnt, evT, eE_cst, eE_var, eE_bin, eE_not, eE_cmp, eE_cmp2, eE_and, eE_or, eE_ite, eE_tup, eE_lst, eE_idx, eE_slc, eE_rev, eE_nil, eE_call, eE_calli, eE_bi, eE_me, eE_lrg1, eE_isi, pk, evEs, evPs, evRs, rdE, rdP, rdL, get, put, sto, stoL, bind_ok, M.bind, callN, callIo, retE, fin, finS, finB, biD, bLen, lenD, ofO, truth, partI, slcV, revV, idxV, isNew, List.replicate, cmpD, ltD, isD, binD, Option.map, if_true, if_false, Bool.false_eq_true, Bool.true_eq_false, decide_true, decide_false, List.length_cons, List.length_nil, List.append_nil, List.cons_append, List.nil_append, List.drop_nil, chg, putV, appV, tst, Bool.not_true, Bool.not_false, beq_self_eq_true, bnd, bindP, bindL, plain_s, plain_i, plain_n, plain_b, eqD_s, eqD_i, eqD_b, bAbs, bInt, bMax, bMin, bAll, bAny, Bool.and_true, Bool.true_and, Bool.and_false, Bool.false_and, Nat.sub_self, Nat.zero_add, Nat.reduceAdd, Nat.reduceSub, Nat.reduceBEq, b362, e1', e2]
theorem beginsM_ok (d : Nat) {w : List Nat} {e : Nat} (he : e ≤ w.length) (hw : w.length ≤ 1000) : (clOf T (d + 2)).run 363 [.str w, .int e] = .ok true (.lst (natL (beginsTo w e))) none := by
  rw [run_def hM.h363]
  have W1 : evE (clOf T (d + 1)) (.comp [2] (.nm 2) (.rng1 (.var 1)) (.tru (.call 358 [(.slc (.var 0) (.var 2) (.var 1))])) (.var 2)) [some (.shr, .str w), some (.shr, .int e), none] = .ok (true, .lst (natL (beginsTo w e))) [some (.shr, .str w), some (.shr, .int e), none] := by
    rw [comp_ok (ρ1 := [some (.shr, .str w), some (.shr, .int e), none]) (ds := rngL 0 (e : Nat) 1) (fun ρ => ∃ t, ρ = [some (.shr, .str w), some (.shr, .int e), t]) (numG (fun b => palB w b e) fun k => .int k)
      (rng_it (n := e) (b := false) (by simp only [runF, Int.cast_ofNat_Int, blsD, List.all, id, startE, fill, cellsOf, endF, ioOf, eSs_nil, eSs_cons, eS_ret, eS_exp, eS_set, eS_setP, eS_put, eS_app, eS_ife, eS_pass, eS_brk, eS_cnt, evT, eE_cst, eE_var, eE_bin, eE_not, eE_cmp, eE_cmp2, eE_and, eE_or, eE_ite, eE_tup, eE_lst, eE_idx, eE_slc, eE_rev, eE_nil, eE_call, eE_calli, eE_bi, eE_me, eE_lrg1, eE_isi, pk, evEs, evPs, evRs, rdE, rdP, rdL, get, put, sto, stoL, bind_ok, M.bind, callN, callIo, retE, fin, finS, finB, biD, bLen, lenD, ofO, truth, partI, slcV, revV, idxV, isNew, List.replicate, cmpD, ltD, isD, binD, Option.map, if_true, if_false, Bool.false_eq_true, Bool.true_eq_false, decide_true, decide_false, List.length_cons, List.length_nil, List.append_nil, List.cons_append, List.nil_append, List.drop_nil, chg, putV, appV, tst, Bool.not_true, Bool.not_false, beq_self_eq_true, bnd, bindP, bindL, plain_s, plain_i, plain_n, plain_b, eqD_s, eqD_i, eqD_b, bAbs, bInt, bMax, bMin, bAll, bAny, Bool.and_true, Bool.true_and, Bool.and_false, Bool.false_and, Nat.sub_self, Nat.zero_add, Nat.reduceAdd, Nat.reduceSub, Nat.reduceBEq]) (by omega)) ⟨_, rfl⟩ (by
        rintro x hx ρ ⟨t, rfl⟩
        rw [rngL_map] at hx
        obtain ⟨k, hk, rfl⟩ := List.mem_map.mp hx
        have hk := List.mem_range.mp hk
        have c := cut_piece (w := w) (b := k) (e := e) (by omega) (by omega)
        have e6 := mirinM_ok hM d (piece w k e)
        refine ⟨_, ?_, some (.shr, .int k), rfl⟩
        by_cases q : (piece w k e == (piece w k e).reverse) = true
        · simp only [runF, Int.cast_ofNat_Int, blsD, List.all, id, startE, fill, cellsOf, endF, ioOf, eSs_nil, eSs_cons, eS_ret, eS_exp, eS_set, eS_setP, eS_put, eS_app, eS_ife, eS_pass, eS_brk, eS_cnt, evT, eE_cst, eE_var, eE_bin, eE_not, eE_cmp, eE_cmp2, eE_and, eE_or, eE_ite, eE_tup, eE_lst, eE_idx, eE_slc, eE_rev, eE_nil, eE_call, eE_calli, eE_bi, eE_me, eE_lrg1, eE_isi, pk, evEs, evPs, evRs, rdE, rdP, rdL, get, put, sto, stoL, bind_ok, M.bind, callN, callIo, retE, fin, finS, finB, biD, bLen, lenD, ofO, truth, partI, slcV, revV, idxV, isNew, List.replicate, cmpD, ltD, isD, binD, Option.map, if_true, if_false, Bool.false_eq_true, Bool.true_eq_false, decide_true, decide_false, List.length_cons, List.length_nil, List.append_nil, List.cons_append, List.nil_append, List.drop_nil, chg, putV, appV, tst, Bool.not_true, Bool.not_false, beq_self_eq_true, bnd, bindP, bindL, plain_s, plain_i, plain_n, plain_b, eqD_s, eqD_i, eqD_b, bAbs, bInt, bMax, bMin, bAll, bAny, Bool.and_true, Bool.true_and, Bool.and_false, Bool.false_and, Nat.sub_self, Nat.zero_add, Nat.reduceAdd, Nat.reduceSub, Nat.reduceBEq, clr, numG, c, e6, palB, q, Int.toNat_natCast]
        · have q' : (piece w k e == (piece w k e).reverse) = false := by simpa using q
          simp only [runF, Int.cast_ofNat_Int, blsD, List.all, id, startE, fill, cellsOf, endF, ioOf, eSs_nil, eSs_cons, eS_ret, eS_exp, eS_set, eS_setP, eS_put, eS_app, eS_ife, eS_pass, eS_brk, eS_cnt, evT, eE_cst, eE_var, eE_bin, eE_not, eE_cmp, eE_cmp2, eE_and, eE_or, eE_ite, eE_tup, eE_lst, eE_idx, eE_slc, eE_rev, eE_nil, eE_call, eE_calli, eE_bi, eE_me, eE_lrg1, eE_isi, pk, evEs, evPs, evRs, rdE, rdP, rdL, get, put, sto, stoL, bind_ok, M.bind, callN, callIo, retE, fin, finS, finB, biD, bLen, lenD, ofO, truth, partI, slcV, revV, idxV, isNew, List.replicate, cmpD, ltD, isD, binD, Option.map, if_true, if_false, Bool.false_eq_true, Bool.true_eq_false, decide_true, decide_false, List.length_cons, List.length_nil, List.append_nil, List.cons_append, List.nil_append, List.drop_nil, chg, putV, appV, tst, Bool.not_true, Bool.not_false, beq_self_eq_true, bnd, bindP, bindL, plain_s, plain_i, plain_n, plain_b, eqD_s, eqD_i, eqD_b, bAbs, bInt, bMax, bMin, bAll, bAny, Bool.and_true, Bool.true_and, Bool.and_false, Bool.false_and, Nat.sub_self, Nat.zero_add, Nat.reduceAdd, Nat.reduceSub, Nat.reduceBEq, clr, numG, c, e6, palB, q', Int.toNat_natCast]) (by rintro ρ ⟨t, rfl⟩; rfl) rfl (lenOk_of (by rw [rngL_len, Int.toNat_natCast]; omega))]
    rw [rngL_map, fm_filter (fun (k : Nat) => D.int k) (fun b => palB w b e) (List.range e) (fun (k : Nat) => D.int k) _ (fun x _ => rfl)]
    rfl
  simp only [runF, Int.cast_ofNat_Int, blsD, List.all, id, startE, fill, cellsOf, endF, ioOf, eSs_nil, eSs_cons, eS_ret, eS_exp, eS_set, eS_setP, eS_put, eS_app, eS_ife, eS_pass, eS_brk, eS_cnt, evT, eE_cst, eE_var, eE_bin, eE_not, eE_cmp, eE_cmp2, eE_and, eE_or, eE_ite, eE_tup, eE_lst, eE_idx, eE_slc, eE_rev, eE_nil, eE_call, eE_calli, eE_bi, eE_me, eE_lrg1, eE_isi, pk, evEs, evPs, evRs, rdE, rdP, rdL, get, put, sto, stoL, bind_ok, M.bind, callN, callIo, retE, fin, finS, finB, biD, bLen, lenD, ofO, truth, partI, slcV, revV, idxV, isNew, List.replicate, cmpD, ltD, isD, binD, Option.map, if_true, if_false, Bool.false_eq_true, Bool.true_eq_false, decide_true, decide_false, List.length_cons, List.length_nil, List.append_nil, List.cons_append, List.nil_append, List.drop_nil, chg, putV, appV, tst, Bool.not_true, Bool.not_false, beq_self_eq_true, bnd, bindP, bindL, plain_s, plain_i, plain_n, plain_b, eqD_s, eqD_i, eqD_b, bAbs, bInt, bMax, bMin, bAll, bAny, Bool.and_true, Bool.true_and, Bool.and_false, Bool.false_and, Nat.sub_self, Nat.zero_add, Nat.reduceAdd, Nat.reduceSub, Nat.reduceBEq, b363, W1]
end
end Py

/-! The program's mirrors: the doors. -/
namespace Py
section
variable {T : Tb} (hM : HasM T)
include hM
theorem needM_ok (d : Nat) {w : List Nat} (hl : w.length ≤ 200) (hw : LetOk 8 w) : (clOf T (d + 3)).run 7 [.str w] = .ok false .non none := needword_ok hM.h5 hM.h6 hM.h7 d hl hw
theorem iswordM_ok (h21 : T.fd 21 = some b21) (d : Nat) {w : List Nat} (hl : w.length ≤ 200) (hw : LetOk 8 w) : (clOf T (d + 3)).run 21 [.str w] = .ok false (.bl true) none := by
  rw [run_def h21]
  have e := fits_ok hM.h5 hM.h6 d hl hw
  simp only [runF, Int.cast_ofNat_Int, blsD, List.all, id, startE, fill, cellsOf, endF, ioOf, eSs_nil, eSs_cons, eS_ret, eS_exp, eS_set, eS_setP, eS_put, eS_app, eS_ife, eS_pass, eS_brk, eS_cnt, evT, eE_cst, eE_var, eE_bin, eE_not, eE_cmp, eE_cmp2, eE_and, eE_or, eE_ite, eE_tup, eE_lst, eE_idx, eE_slc, eE_rev, eE_nil, eE_call, eE_calli, eE_bi, eE_me, eE_lrg1, eE_isi, pk, evEs, evPs, evRs, rdE, rdP, rdL, get, put, sto, stoL, bind_ok, M.bind, callN, callIo, retE, fin, finS, finB, biD, bLen, lenD, ofO, truth, partI, slcV, revV, idxV, isNew, List.replicate, cmpD, ltD, isD, binD, Option.map, if_true, if_false, Bool.false_eq_true, Bool.true_eq_false, decide_true, decide_false, List.length_cons, List.length_nil, List.append_nil, List.cons_append, List.nil_append, List.drop_nil, chg, putV, appV, tst, Bool.not_true, Bool.not_false, beq_self_eq_true, bnd, bindP, bindL, plain_s, plain_i, plain_n, plain_b, eqD_s, eqD_i, eqD_b, bAbs, bInt, bMax, bMin, bAll, bAny, Bool.and_true, Bool.true_and, Bool.and_false, Bool.false_and, Nat.sub_self, Nat.zero_add, Nat.reduceAdd, Nat.reduceSub, Nat.reduceBEq, b21, e]
theorem backM_ok (h26 : T.fd 26 = some b26) (d : Nat) {w : List Nat} (hl : w.length ≤ 200) (hw : LetOk 8 w) : (clOf T (d + 4)).run 26 [.str w] = .ok false (.str w.reverse) none := by
  rw [run_def h26]
  have e := needM_ok hM d hl hw
  simp only [runF, Int.cast_ofNat_Int, blsD, List.all, id, startE, fill, cellsOf, endF, ioOf, eSs_nil, eSs_cons, eS_ret, eS_exp, eS_set, eS_setP, eS_put, eS_app, eS_ife, eS_pass, eS_brk, eS_cnt, evT, eE_cst, eE_var, eE_bin, eE_not, eE_cmp, eE_cmp2, eE_and, eE_or, eE_ite, eE_tup, eE_lst, eE_idx, eE_slc, eE_rev, eE_nil, eE_call, eE_calli, eE_bi, eE_me, eE_lrg1, eE_isi, pk, evEs, evPs, evRs, rdE, rdP, rdL, get, put, sto, stoL, bind_ok, M.bind, callN, callIo, retE, fin, finS, finB, biD, bLen, lenD, ofO, truth, partI, slcV, revV, idxV, isNew, List.replicate, cmpD, ltD, isD, binD, Option.map, if_true, if_false, Bool.false_eq_true, Bool.true_eq_false, decide_true, decide_false, List.length_cons, List.length_nil, List.append_nil, List.cons_append, List.nil_append, List.drop_nil, chg, putV, appV, tst, Bool.not_true, Bool.not_false, beq_self_eq_true, bnd, bindP, bindL, plain_s, plain_i, plain_n, plain_b, eqD_s, eqD_i, eqD_b, bAbs, bInt, bMax, bMin, bAll, bAny, Bool.and_true, Bool.true_and, Bool.and_false, Bool.false_and, Nat.sub_self, Nat.zero_add, Nat.reduceAdd, Nat.reduceSub, Nat.reduceBEq, b26, e]
theorem mirM_ok (h365 : T.fd 365 = some b365) (d : Nat) {w : List Nat} (hl : w.length ≤ 200) (hw : LetOk 8 w) : (clOf T (d + 4)).run 365 [.str w] = .ok false (.bl (w == w.reverse)) none := by
  rw [run_def h365]
  have e := needM_ok hM d hl hw
  have e2 := mirinM_ok hM (d + 2) w
  simp only [runF, Int.cast_ofNat_Int, blsD, List.all, id, startE, fill, cellsOf, endF, ioOf, eSs_nil, eSs_cons, eS_ret, eS_exp, eS_set, eS_setP, eS_put, eS_app, eS_ife, eS_pass, eS_brk, eS_cnt, evT, eE_cst, eE_var, eE_bin, eE_not, eE_cmp, eE_cmp2, eE_and, eE_or, eE_ite, eE_tup, eE_lst, eE_idx, eE_slc, eE_rev, eE_nil, eE_call, eE_calli, eE_bi, eE_me, eE_lrg1, eE_isi, pk, evEs, evPs, evRs, rdE, rdP, rdL, get, put, sto, stoL, bind_ok, M.bind, callN, callIo, retE, fin, finS, finB, biD, bLen, lenD, ofO, truth, partI, slcV, revV, idxV, isNew, List.replicate, cmpD, ltD, isD, binD, Option.map, if_true, if_false, Bool.false_eq_true, Bool.true_eq_false, decide_true, decide_false, List.length_cons, List.length_nil, List.append_nil, List.cons_append, List.nil_append, List.drop_nil, chg, putV, appV, tst, Bool.not_true, Bool.not_false, beq_self_eq_true, bnd, bindP, bindL, plain_s, plain_i, plain_n, plain_b, eqD_s, eqD_i, eqD_b, bAbs, bInt, bMax, bMin, bAll, bAny, Bool.and_true, Bool.true_and, Bool.and_false, Bool.false_and, Nat.sub_self, Nat.zero_add, Nat.reduceAdd, Nat.reduceSub, Nat.reduceBEq, b365, e, e2]
theorem middleM_ok (h366 : T.fd 366 = some b366) (d : Nat) {w : List Nat} (hl : w.length ≤ 200) (hw : LetOk 8 w) : (clOf T (d + 4)).run 366 [.str w] = .ok false (.tup (natL (reaches w))) none := by
  rw [run_def h366]
  have e := needM_ok hM d hl hw
  have e2 := reachesM_ok hM (d + 1) (w := w) (by omega)
  simp only [runF, Int.cast_ofNat_Int, blsD, List.all, id, startE, fill, cellsOf, endF, ioOf, eSs_nil, eSs_cons, eS_ret, eS_exp, eS_set, eS_setP, eS_put, eS_app, eS_ife, eS_pass, eS_brk, eS_cnt, evT, eE_cst, eE_var, eE_bin, eE_not, eE_cmp, eE_cmp2, eE_and, eE_or, eE_ite, eE_tup, eE_lst, eE_idx, eE_slc, eE_rev, eE_nil, eE_call, eE_calli, eE_bi, eE_me, eE_lrg1, eE_isi, pk, evEs, evPs, evRs, rdE, rdP, rdL, get, put, sto, stoL, bind_ok, M.bind, callN, callIo, retE, fin, finS, finB, biD, bLen, lenD, ofO, truth, partI, slcV, revV, idxV, isNew, List.replicate, cmpD, ltD, isD, binD, Option.map, if_true, if_false, Bool.false_eq_true, Bool.true_eq_false, decide_true, decide_false, List.length_cons, List.length_nil, List.append_nil, List.cons_append, List.nil_append, List.drop_nil, chg, putV, appV, tst, Bool.not_true, Bool.not_false, beq_self_eq_true, bnd, bindP, bindL, plain_s, plain_i, plain_n, plain_b, eqD_s, eqD_i, eqD_b, bAbs, bInt, bMax, bMin, bAll, bAny, Bool.and_true, Bool.true_and, Bool.and_false, Bool.false_and, Nat.sub_self, Nat.zero_add, Nat.reduceAdd, Nat.reduceSub, Nat.reduceBEq, b366, e, e2, bTuple]
theorem upM_ok (d : Nat) {z hi : Int} (h0 : 0 ≤ z) (h1 : z ≤ hi) : (clOf T (d + 3)).run 364 [.int z, .int hi] = .ok false .non none := by
  rw [run_def hM.h364]
  have e := whole_ok hM.h0 hM.h1 d h0 h1
  simp only [runF, Int.cast_ofNat_Int, blsD, List.all, id, startE, fill, cellsOf, endF, ioOf, eSs_nil, eSs_cons, eS_ret, eS_exp, eS_set, eS_setP, eS_put, eS_app, eS_ife, eS_pass, eS_brk, eS_cnt, evT, eE_cst, eE_var, eE_bin, eE_not, eE_cmp, eE_cmp2, eE_and, eE_or, eE_ite, eE_tup, eE_lst, eE_idx, eE_slc, eE_rev, eE_nil, eE_call, eE_calli, eE_bi, eE_me, eE_lrg1, eE_isi, pk, evEs, evPs, evRs, rdE, rdP, rdL, get, put, sto, stoL, bind_ok, M.bind, callN, callIo, retE, fin, finS, finB, biD, bLen, lenD, ofO, truth, partI, slcV, revV, idxV, isNew, List.replicate, cmpD, ltD, isD, binD, Option.map, if_true, if_false, Bool.false_eq_true, Bool.true_eq_false, decide_true, decide_false, List.length_cons, List.length_nil, List.append_nil, List.cons_append, List.nil_append, List.drop_nil, chg, putV, appV, tst, Bool.not_true, Bool.not_false, beq_self_eq_true, bnd, bindP, bindL, plain_s, plain_i, plain_n, plain_b, eqD_s, eqD_i, eqD_b, bAbs, bInt, bMax, bMin, bAll, bAny, Bool.and_true, Bool.true_and, Bool.and_false, Bool.false_and, Nat.sub_self, Nat.zero_add, Nat.reduceAdd, Nat.reduceSub, Nat.reduceBEq, b364, e]
theorem atM_ok (h367 : T.fd 367 = some b367) (d : Nat) {w : List Nat} {m : Nat} (hl : w.length ≤ 200) (hw : LetOk 8 w) (hm : m ≤ 2 * w.length) : (clOf T (d + 4)).run 367 [.str w, .int m] = .ok false (.int (reachN w m)) none := by
  rw [run_def h367]
  have e := needM_ok hM d hl hw
  have e2 := reachM_ok hM (d + 2) (w := w) (m := m) (by omega) hm
  have s1 : (2 : Int) * (w.length : Int) = ((2 * w.length : Nat) : Int) := by omega
  have e3 := upM_ok hM d (z := m) (hi := (2 * w.length : Nat)) (by omega) (by omega)
  have m1 : mulOk 2 (w.length : Int) = true := mulOk_l (by decide)
  simp only [runF, Int.cast_ofNat_Int, blsD, List.all, id, startE, fill, cellsOf, endF, ioOf, eSs_nil, eSs_cons, eS_ret, eS_exp, eS_set, eS_setP, eS_put, eS_app, eS_ife, eS_pass, eS_brk, eS_cnt, evT, eE_cst, eE_var, eE_bin, eE_not, eE_cmp, eE_cmp2, eE_and, eE_or, eE_ite, eE_tup, eE_lst, eE_idx, eE_slc, eE_rev, eE_nil, eE_call, eE_calli, eE_bi, eE_me, eE_lrg1, eE_isi, pk, evEs, evPs, evRs, rdE, rdP, rdL, get, put, sto, stoL, bind_ok, M.bind, callN, callIo, retE, fin, finS, finB, biD, bLen, lenD, ofO, truth, partI, slcV, revV, idxV, isNew, List.replicate, cmpD, ltD, isD, binD, Option.map, if_true, if_false, Bool.false_eq_true, Bool.true_eq_false, decide_true, decide_false, List.length_cons, List.length_nil, List.append_nil, List.cons_append, List.nil_append, List.drop_nil, chg, putV, appV, tst, Bool.not_true, Bool.not_false, beq_self_eq_true, bnd, bindP, bindL, plain_s, plain_i, plain_n, plain_b, eqD_s, eqD_i, eqD_b, bAbs, bInt, bMax, bMin, bAll, bAny, Bool.and_true, Bool.true_and, Bool.and_false, Bool.false_and, Nat.sub_self, Nat.zero_add, Nat.reduceAdd, Nat.reduceSub, Nat.reduceBEq, b367, e, e2, s1, e3, m1]
theorem pieceM_ok (h368 : T.fd 368 = some b368) (d : Nat) {w : List Nat} {n : Nat} {v : D} (hl : w.length ≤ 200) (hw : LetOk 8 w) (hv : lkOk n v = true) : (clOf T (d + 4)).run 368 [.str w, v] = .ok false (.bl (fitsD w v)) none := by
  rw [run_def h368]
  have e := needM_ok hM d hl hw
  have e2 := fitsM_ok hM d (w := w) hv
  simp only [runF, Int.cast_ofNat_Int, blsD, List.all, id, startE, fill, cellsOf, endF, ioOf, eSs_nil, eSs_cons, eS_ret, eS_exp, eS_set, eS_setP, eS_put, eS_app, eS_ife, eS_pass, eS_brk, eS_cnt, evT, eE_cst, eE_var, eE_bin, eE_not, eE_cmp, eE_cmp2, eE_and, eE_or, eE_ite, eE_tup, eE_lst, eE_idx, eE_slc, eE_rev, eE_nil, eE_call, eE_calli, eE_bi, eE_me, eE_lrg1, eE_isi, pk, evEs, evPs, evRs, rdE, rdP, rdL, get, put, sto, stoL, bind_ok, M.bind, callN, callIo, retE, fin, finS, finB, biD, bLen, lenD, ofO, truth, partI, slcV, revV, idxV, isNew, List.replicate, cmpD, ltD, isD, binD, Option.map, if_true, if_false, Bool.false_eq_true, Bool.true_eq_false, decide_true, decide_false, List.length_cons, List.length_nil, List.append_nil, List.cons_append, List.nil_append, List.drop_nil, chg, putV, appV, tst, Bool.not_true, Bool.not_false, beq_self_eq_true, bnd, bindP, bindL, plain_s, plain_i, plain_n, plain_b, eqD_s, eqD_i, eqD_b, bAbs, bInt, bMax, bMin, bAll, bAny, Bool.and_true, Bool.true_and, Bool.and_false, Bool.false_and, Nat.sub_self, Nat.zero_add, Nat.reduceAdd, Nat.reduceSub, Nat.reduceBEq, b368, e, e2]
theorem countM_ok (h369 : T.fd 369 = some b369) (d : Nat) {w : List Nat} (hl : w.length ≤ 200) (hw : LetOk 8 w) : (clOf T (d + 4)).run 369 [.str w] = .ok false (.int (pieces w)) none := by
  rw [run_def h369]
  have e := needM_ok hM d hl hw
  have e2 := reachesM_ok hM (d + 1) (w := w) (by omega)
  have e3 := piecesM_ok hM (d + 2) (l := reaches w) (by unfold reaches; simp; omega)
  simp only [runF, Int.cast_ofNat_Int, blsD, List.all, id, startE, fill, cellsOf, endF, ioOf, eSs_nil, eSs_cons, eS_ret, eS_exp, eS_set, eS_setP, eS_put, eS_app, eS_ife, eS_pass, eS_brk, eS_cnt, evT, eE_cst, eE_var, eE_bin, eE_not, eE_cmp, eE_cmp2, eE_and, eE_or, eE_ite, eE_tup, eE_lst, eE_idx, eE_slc, eE_rev, eE_nil, eE_call, eE_calli, eE_bi, eE_me, eE_lrg1, eE_isi, pk, evEs, evPs, evRs, rdE, rdP, rdL, get, put, sto, stoL, bind_ok, M.bind, callN, callIo, retE, fin, finS, finB, biD, bLen, lenD, ofO, truth, partI, slcV, revV, idxV, isNew, List.replicate, cmpD, ltD, isD, binD, Option.map, if_true, if_false, Bool.false_eq_true, Bool.true_eq_false, decide_true, decide_false, List.length_cons, List.length_nil, List.append_nil, List.cons_append, List.nil_append, List.drop_nil, chg, putV, appV, tst, Bool.not_true, Bool.not_false, beq_self_eq_true, bnd, bindP, bindL, plain_s, plain_i, plain_n, plain_b, eqD_s, eqD_i, eqD_b, bAbs, bInt, bMax, bMin, bAll, bAny, Bool.and_true, Bool.true_and, Bool.and_false, Bool.false_and, Nat.sub_self, Nat.zero_add, Nat.reduceAdd, Nat.reduceSub, Nat.reduceBEq, b369, e, e2, e3, pieces]
theorem uptoM_ok (h370 : T.fd 370 = some b370) (d : Nat) {w : List Nat} {k : Nat} (hl : w.length ≤ 200) (hw : LetOk 8 w) (hk : k ≤ w.length) : (clOf T (d + 4)).run 370 [.str w, .int k] = .ok false (.tup (natL (beginsTo w k))) none := by
  rw [run_def h370]
  have e := needM_ok hM d hl hw
  have e2 := upM_ok hM d (z := k) (hi := w.length) (by omega) (by omega)
  have e3 := beginsM_ok hM (d + 1) (w := w) (e := k) hk (by omega)
  simp only [runF, Int.cast_ofNat_Int, blsD, List.all, id, startE, fill, cellsOf, endF, ioOf, eSs_nil, eSs_cons, eS_ret, eS_exp, eS_set, eS_setP, eS_put, eS_app, eS_ife, eS_pass, eS_brk, eS_cnt, evT, eE_cst, eE_var, eE_bin, eE_not, eE_cmp, eE_cmp2, eE_and, eE_or, eE_ite, eE_tup, eE_lst, eE_idx, eE_slc, eE_rev, eE_nil, eE_call, eE_calli, eE_bi, eE_me, eE_lrg1, eE_isi, pk, evEs, evPs, evRs, rdE, rdP, rdL, get, put, sto, stoL, bind_ok, M.bind, callN, callIo, retE, fin, finS, finB, biD, bLen, lenD, ofO, truth, partI, slcV, revV, idxV, isNew, List.replicate, cmpD, ltD, isD, binD, Option.map, if_true, if_false, Bool.false_eq_true, Bool.true_eq_false, decide_true, decide_false, List.length_cons, List.length_nil, List.append_nil, List.cons_append, List.nil_append, List.drop_nil, chg, putV, appV, tst, Bool.not_true, Bool.not_false, beq_self_eq_true, bnd, bindP, bindL, plain_s, plain_i, plain_n, plain_b, eqD_s, eqD_i, eqD_b, bAbs, bInt, bMax, bMin, bAll, bAny, Bool.and_true, Bool.true_and, Bool.and_false, Bool.false_and, Nat.sub_self, Nat.zero_add, Nat.reduceAdd, Nat.reduceSub, Nat.reduceBEq, b370, e, e2, e3, bTuple]
theorem stretch_ok (h10 : T.fd 10 = some b10) (h22 : T.fd 22 = some b22) (d : Nat) {w : List Nat} {b e : Nat} (hl : w.length ≤ 200) (hw : LetOk 8 w) (h1 : b ≤ e) (h2 : e ≤ w.length) : (clOf T (d + 4)).run 22 [.str w, .int b, .int e] = .ok false (.str (piece w b e)) none := by
  rw [run_def h22]
  have e1 := needM_ok hM d hl hw
  have w1 := whole_ok hM.h0 hM.h1 d (z := b) (lo := 0) (hi := w.length) (by omega) (by omega)
  have w2 := whole_ok hM.h0 hM.h1 d (z := e) (lo := b) (hi := w.length) (by omega) (by omega)
  have e2 : (clOf T (d + 3)).run 10 [.str w, .int b, .int e] = .ok false .non none := by
    rw [run_def h10]
    simp only [runF, Int.cast_ofNat_Int, blsD, List.all, id, startE, fill, cellsOf, endF, ioOf, eSs_nil, eSs_cons, eS_ret, eS_exp, eS_set, eS_setP, eS_put, eS_app, eS_ife, eS_pass, eS_brk, eS_cnt, evT, eE_cst, eE_var, eE_bin, eE_not, eE_cmp, eE_cmp2, eE_and, eE_or, eE_ite, eE_tup, eE_lst, eE_idx, eE_slc, eE_rev, eE_nil, eE_call, eE_calli, eE_bi, eE_me, eE_lrg1, eE_isi, pk, evEs, evPs, evRs, rdE, rdP, rdL, get, put, sto, stoL, bind_ok, M.bind, callN, callIo, retE, fin, finS, finB, biD, bLen, lenD, ofO, truth, partI, slcV, revV, idxV, isNew, List.replicate, cmpD, ltD, isD, binD, Option.map, if_true, if_false, Bool.false_eq_true, Bool.true_eq_false, decide_true, decide_false, List.length_cons, List.length_nil, List.append_nil, List.cons_append, List.nil_append, List.drop_nil, chg, putV, appV, tst, Bool.not_true, Bool.not_false, beq_self_eq_true, bnd, bindP, bindL, plain_s, plain_i, plain_n, plain_b, eqD_s, eqD_i, eqD_b, bAbs, bInt, bMax, bMin, bAll, bAny, Bool.and_true, Bool.true_and, Bool.and_false, Bool.false_and, Nat.sub_self, Nat.zero_add, Nat.reduceAdd, Nat.reduceSub, Nat.reduceBEq, b10, w1, w2]
  have c := cut_piece (w := w) (b := b) (e := e) (by omega) (by omega)
  simp only [runF, Int.cast_ofNat_Int, blsD, List.all, id, startE, fill, cellsOf, endF, ioOf, eSs_nil, eSs_cons, eS_ret, eS_exp, eS_set, eS_setP, eS_put, eS_app, eS_ife, eS_pass, eS_brk, eS_cnt, evT, eE_cst, eE_var, eE_bin, eE_not, eE_cmp, eE_cmp2, eE_and, eE_or, eE_ite, eE_tup, eE_lst, eE_idx, eE_slc, eE_rev, eE_nil, eE_call, eE_calli, eE_bi, eE_me, eE_lrg1, eE_isi, pk, evEs, evPs, evRs, rdE, rdP, rdL, get, put, sto, stoL, bind_ok, M.bind, callN, callIo, retE, fin, finS, finB, biD, bLen, lenD, ofO, truth, partI, slcV, revV, idxV, isNew, List.replicate, cmpD, ltD, isD, binD, Option.map, if_true, if_false, Bool.false_eq_true, Bool.true_eq_false, decide_true, decide_false, List.length_cons, List.length_nil, List.append_nil, List.cons_append, List.nil_append, List.drop_nil, chg, putV, appV, tst, Bool.not_true, Bool.not_false, beq_self_eq_true, bnd, bindP, bindL, plain_s, plain_i, plain_n, plain_b, eqD_s, eqD_i, eqD_b, bAbs, bInt, bMax, bMin, bAll, bAny, Bool.and_true, Bool.true_and, Bool.and_false, Bool.false_and, Nat.sub_self, Nat.zero_add, Nat.reduceAdd, Nat.reduceSub, Nat.reduceBEq, b22, e1, e2, c]
end
end Py

/-! Roots, periods, borders: the plain part of k11, k13 and others. -/
namespace Py
def Per (f : Nat → Nat) (n p : Nat) : Prop := ∀ i, i + p < n → f i = f (i + p)
theorem Per.mono {f : Nat → Nat} {n m p : Nat} (h : Per f n p) (hm : m ≤ n) : Per f m p := fun i hi => h i (by omega)
theorem per_big {f : Nat → Nat} {n p : Nat} (h : n ≤ p) : Per f n p := fun i hi => by omega
theorem Per.mul {f : Nat → Nat} {n p : Nat} (h : Per f n p) : ∀ (k i : Nat), i + p * k < n → f i = f (i + p * k)
  | 0, i, _ => by simp
  | k + 1, i, hi => by
    rw [Nat.mul_succ] at hi ⊢
    rw [h.mul k i (by omega), h (i + p * k) (by omega), Nat.add_assoc]
theorem per_mod {f : Nat → Nat} {n p i : Nat} (h : Per f n p) (hi : i < n) : f i = f (i % p) := by
  have e := Nat.mod_add_div i p
  have := h.mul (i / p) (i % p) (by omega)
  rw [e] at this
  exact this.symm
theorem per_cong {f : Nat → Nat} {n p a b : Nat} (h : Per f n p) (ha : a < n) (hb : b < n) (e : a % p = b % p) : f a = f b := by
  rw [per_mod h ha, per_mod h hb, e]
theorem Per.mult {f : Nat → Nat} {n p q : Nat} (h : Per f n p) (hq : p ∣ q) : Per f n q := fun i hi => by
  obtain ⟨k, rfl⟩ := hq
  exact h.mul k i hi
/-- Fine and Wilf -/
theorem fw {f : Nat → Nat} : ∀ (s p q n : Nat), p + q = s → 0 < p → 0 < q → p + q ≤ n + Nat.gcd p q → Per f n p → Per f n q → Per f n (Nat.gcd p q) := by
  intro s
  induction s using Nat.strongRecOn with
  | _ s ih =>
    -- one side
    have half : ∀ (p q n : Nat), p + q = s → 0 < p → p < q → p + q ≤ n + Nat.gcd p q → Per f n p → Per f n q → Per f n (Nat.gcd p q) := by
      intro p q n hs hp hpq hn h1 h2
      have hg : Nat.gcd p (q - p) = Nat.gcd p q := by
        have := Nat.gcd_add_self_right p (q - p)
        rw [Nat.sub_add_cancel (by omega)] at this
        exact this.symm
      have hgp : Nat.gcd p q ∣ p := Nat.gcd_dvd_left p q
      have hgq : Nat.gcd p q ∣ q - p := by rw [← hg]; exact Nat.gcd_dvd_right p (q - p)
      have hg0 : 0 < Nat.gcd p q := Nat.gcd_pos_of_pos_left q hp
      have hgle : Nat.gcd p q ≤ q - p := Nat.le_of_dvd (by omega) hgq
      have hgle2 : Nat.gcd p q ≤ p := Nat.le_of_dvd hp hgp
      have k1 : Per f (n - p) p := h1.mono (by omega)
      have k2 : Per f (n - p) (q - p) := fun i hi => by
        have a := h2 i (by omega)
        have b := h1 (i + (q - p)) (by omega)
        rw [a, b]; congr 1; omega
      have k3 := ih (p + (q - p)) (by omega) p (q - p) (n - p) rfl hp (by omega) (by rw [hg]; omega) k1 k2
      rw [hg] at k3
      generalize hgg : Nat.gcd p q = g at *
      -- from the front part to the whole
      intro i
      induction i using Nat.strongRecOn with
      | _ i ih2 =>
        intro hi
        by_cases q1 : p ≤ i
        · have a := h1 (i - p) (by omega)
          have b := h1 (i + g - p) (by omega)
          have c := ih2 (i - p) (by omega) (by omega)
          rw [show i - p + p = i by omega] at a
          rw [show i + g - p + p = i + g by omega] at b
          rw [← a, ← b, c]; congr 1; omega
        · by_cases q2 : i + g < n - p
          · exact k3 i q2
          · have b := h1 (i + g - p) (by omega)
            rw [show i + g - p + p = i + g by omega] at b
            rw [← b]
            refine per_cong k3 (by omega) (by omega) ?_
            obtain ⟨c, rfl⟩ := hgp
            have : i = (i + g - g * c) + g * (c - 1) := by
              have : g * c = g * (c - 1) + g := by
                cases c with
                | zero => omega
                | succ c => rw [Nat.mul_succ]; rfl
              omega
            conv => lhs; rw [this]
            rw [Nat.add_mul_mod_self_left]
    intro p q n hs hp hq hn h1 h2
    rcases Nat.lt_trichotomy p q with h | h | h
    · exact half p q n hs hp h hn h1 h2
    · subst h; rw [Nat.gcd_self]; exact h1
    · rw [Nat.gcd_comm]
      exact half q p n (by omega) hq h (by rw [Nat.gcd_comm]; omega) h2 h1
/-! borders -/
def Bo (f : Nat → Nat) (k j : Nat) : Prop := j < k ∧ ∀ i, i < j → f i = f (k - j + i)
theorem Bo.per {f : Nat → Nat} {k j : Nat} (h : Bo f k j) : Per f k (k - j) := fun i hi => by
  rw [h.2 i (by have := h.1; omega)]; congr 1; omega
theorem Bo.of {f : Nat → Nat} {k p : Nat} (h : Per f k p) (h0 : 0 < p) (hp : p ≤ k) : Bo f k (k - p) := ⟨by omega, fun i hi => by
  rw [h i (by omega)]; congr 1; omega⟩
theorem bo_zero {f : Nat → Nat} {k : Nat} (h : 0 < k) : Bo f k 0 := ⟨h, fun i hi => by omega⟩
theorem bo_bo {f : Nat → Nat} {k h j : Nat} (hh : Bo f k h) (hj : j < h) : Bo f k j ↔ Bo f h j := by
  have h0 := hh.1
  have key : ∀ i, i < j → f (k - j + i) = f (h - j + i) := fun i hi => by
    rw [hh.2 (h - j + i) (by omega)]; congr 1; omega
  constructor
  · rintro ⟨h1, h2⟩
    exact ⟨hj, fun i hi => by rw [h2 i hi, key i hi]⟩
  · rintro ⟨h1, h2⟩
    exact ⟨by omega, fun i hi => by rw [h2 i hi, key i hi]⟩
theorem bo_succ {f : Nat → Nat} {k j : Nat} (hj : j < k) : Bo f (k + 1) (j + 1) ↔ Bo f k j ∧ f j = f k := by
  constructor
  · rintro ⟨h1, h2⟩
    refine ⟨⟨hj, fun i hi => ?_⟩, ?_⟩
    · rw [h2 i (by omega)]; congr 1; omega
    · rw [h2 j (by omega)]; congr 1; omega
  · rintro ⟨⟨h1, h2⟩, h3⟩
    refine ⟨by omega, fun i hi => ?_⟩
    by_cases q : i < j
    · rw [h2 i q]; congr 1; omega
    · have : i = j := by omega
      subst this
      rw [h3]; congr 1; omega
structure IsMax (f : Nat → Nat) (k b : Nat) : Prop where
  bo : Bo f k b
  mx : ∀ j, Bo f k j → j ≤ b
theorem isMax_one (f : Nat → Nat) : IsMax f 1 0 := ⟨bo_zero (by omega), fun j h => by have := h.1; omega⟩
/-- the state of the inner loop: h a border, the longer ones don't go on -/
structure Cand (f : Nat → Nat) (k h : Nat) : Prop where
  bo : Bo f k h
  no : ∀ j, h < j → Bo f k j → f j ≠ f k
theorem cand_start {f : Nat → Nat} {k b : Nat} (h : IsMax f k b) : Cand f k b := ⟨h.bo, fun j h1 h2 => by have := h.mx j h2; omega⟩
theorem cand_down {f : Nat → Nat} {k h b : Nat} (hc : Cand f k h) (hne : f h ≠ f k) (hb : IsMax f h b) : Cand f k b := by
  have hlt := hb.bo.1
  refine ⟨(bo_bo hc.bo hlt).mpr hb.bo, fun j h1 h2 => ?_⟩
  rcases Nat.lt_trichotomy j h with q | q | q
  · have := hb.mx j ((bo_bo hc.bo q).mp h2); omega
  · subst q; exact hne
  · exact hc.no j q h2
theorem cand_hit {f : Nat → Nat} {k h : Nat} (hc : Cand f k h) (e : f h = f k) : IsMax f (k + 1) (h + 1) := by
  have h0 := hc.bo.1
  refine ⟨(bo_succ h0).mpr ⟨hc.bo, e⟩, fun j hj => ?_⟩
  cases j with
  | zero => omega
  | succ j =>
    have hjk := hj.1
    have := (bo_succ (by omega)).mp hj
    apply Classical.byContradiction
    intro q
    exact hc.no j (by omega) this.1 this.2
theorem cand_miss {f : Nat → Nat} {k : Nat} (hc : Cand f k 0) (e : f 0 ≠ f k) : IsMax f (k + 1) 0 := by
  refine ⟨bo_zero (by omega), fun j hj => ?_⟩
  cases j with
  | zero => omega
  | succ j =>
    have hjk := hj.1
    have := (bo_succ (by omega)).mp hj
    exfalso
    by_cases q : j = 0
    · subst q; exact e this.2
    · exact hc.no j (by omega) this.1 this.2
/-! roots -/
def fnL (w : List Nat) : Nat → Nat := fun i => w[i]!
structure RootIs (w : List Nat) (s : Nat) : Prop where
  pos : 0 < s
  dvd : s ∣ w.length
  per : Per (fnL w) w.length s
  least : ∀ t, 0 < t → t ∣ w.length → Per (fnL w) w.length t → s ≤ t
theorem RootIs.uniq {w : List Nat} {s t : Nat} (h : RootIs w s) (g : RootIs w t) : s = t := Nat.le_antisymm (h.least t g.pos g.dvd g.per) (g.least s h.pos h.dvd h.per)
theorem RootIs.le {w : List Nat} {s : Nat} (h : RootIs w s) (hw : w ≠ []) : s ≤ w.length := Nat.le_of_dvd (List.length_pos_iff.mpr hw) h.dvd
theorem repL_get {l : List Nat} : ∀ (k i : Nat), i < k * l.length → (repL l k)[i]! = l[i % l.length]!
  | 0, i, h => by omega
  | k + 1, i, h => by
    rw [Nat.succ_mul] at h
    have hlen : (repL l (k + 1)).length = (k + 1) * l.length := repL_len
    have hi : i < (repL l (k + 1)).length := by rw [hlen, Nat.succ_mul]; omega
    simp only [repL]
    by_cases q : i < l.length
    · rw [Nat.mod_eq_of_lt q]
      rw [getElem!_pos _ i (by rw [List.length_append]; omega), List.getElem_append_left q, getElem!_pos _ i q]
    · have hk : i - l.length < (repL l k).length := by rw [repL_len (l := l)]; omega
      rw [getElem!_pos _ i (by rw [List.length_append]; omega), List.getElem_append_right (by omega)]
      have := repL_get (l := l) k (i - l.length) (by omega)
      rw [getElem!_pos (repL l k) _ hk] at this
      rw [this]
      congr 1
      conv => rhs; rw [show i = (i - l.length) + l.length by omega]
      rw [Nat.add_mod_right]
theorem ext_get {l m : List Nat} (h : l.length = m.length) (e : ∀ i, i < l.length → l[i]! = m[i]!) : l = m := by
  apply List.ext_getElem h
  intro i h1 h2
  have := e i h1
  rwa [getElem!_pos _ i h1, getElem!_pos _ i h2] at this
theorem take_get {l : List Nat} {n i : Nat} (h : i < n) (hl : i < l.length) : (l.take n)[i]! = l[i]! := by
  have h1 : i < (l.take n).length := by rw [List.length_take]; omega
  rw [getElem!_pos _ i h1, getElem!_pos _ i hl, List.getElem_take]
theorem rep_per {w : List Nat} {s : Nat} (hs : 0 < s) (hd : s ∣ w.length) : repL (w.take s) (w.length / s) = w ↔ Per (fnL w) w.length s := by
  by_cases hn : w.length = 0
  · have : w = [] := List.length_eq_zero_iff.mp hn
    subst this
    constructor
    · intro _ i hi; simp at hi
    · intro _
      simp [repL]
  · have hle : s ≤ w.length := Nat.le_of_dvd (by omega) hd
    have hl : (w.take s).length = s := by rw [List.length_take]; omega
    have hm : w.length / s * s = w.length := Nat.div_mul_cancel hd
    have hlen : (repL (w.take s) (w.length / s)).length = w.length := by rw [repL_len, hl, hm]
    have get : ∀ i, i < w.length → (repL (w.take s) (w.length / s))[i]! = fnL w (i % s) := fun i hi => by
      rw [repL_get _ _ (by rw [hl, hm]; exact hi), hl]
      exact take_get (Nat.mod_lt _ hs) (Nat.lt_of_lt_of_le (Nat.mod_lt _ hs) hle)
    constructor
    · intro e i hi
      have a := get i (by omega)
      have b := get (i + s) hi
      rw [e] at a b
      show w[i]! = w[i + s]!
      rw [a, b, Nat.add_mod_right]
    · intro h
      refine ext_get hlen fun i hi => ?_
      rw [hlen] at hi
      rw [get i hi]
      exact (per_mod h hi).symm
def rootTest (w : List Nat) (s : Nat) : Bool := w.length % s == 0 && repL (w.take s) (w.length / s) == w
def rootSz (w : List Nat) : Nat := ((List.range' 1 w.length).find? (rootTest w)).getD 0
def rootN (w : List Nat) : List Nat := w.take (rootSz w)
theorem find_range' (p : Nat → Bool) : ∀ (n a s : Nat), (List.range' a n).find? p = some s ↔ a ≤ s ∧ s < a + n ∧ p s = true ∧ ∀ t, a ≤ t → t < s → p t = false
  | 0, a, s => by
    constructor
    · intro h; simp at h
    · rintro ⟨h1, h2, _⟩; omega
  | n + 1, a, s => by
    rw [List.range'_succ, List.find?_cons]
    cases q : p a with
    | true =>
      constructor
      · intro h
        cases h
        exact ⟨by omega, by omega, q, fun t h1 h2 => by omega⟩
      · rintro ⟨h1, h2, h3, h4⟩
        by_cases e : a = s
        · subst e; rfl
        · rw [h4 a (by omega) (by omega)] at q; exact absurd q (by decide)
    | false =>
      show (List.range' (a + 1) n).find? p = some s ↔ _
      rw [find_range' p n (a + 1) s]
      constructor
      · rintro ⟨h1, h2, h3, h4⟩
        refine ⟨by omega, by omega, h3, fun t h5 h6 => ?_⟩
        by_cases e : t = a
        · subst e; exact q
        · exact h4 t (by omega) h6
      · rintro ⟨h1, h2, h3, h4⟩
        have : a ≠ s := by rintro rfl; rw [h3] at q; exact absurd q (by decide)
        exact ⟨by omega, by omega, h3, fun t h5 h6 => h4 t (by omega) h6⟩
theorem rootTest_iff {w : List Nat} {s : Nat} (hs : 0 < s) : rootTest w s = true ↔ s ∣ w.length ∧ Per (fnL w) w.length s := by
  unfold rootTest
  rw [Bool.and_eq_true, beq_iff_eq, beq_iff_eq]
  constructor
  · rintro ⟨h1, h2⟩
    have hd := Nat.dvd_of_mod_eq_zero h1
    exact ⟨hd, (rep_per hs hd).mp h2⟩
  · rintro ⟨h1, h2⟩
    exact ⟨Nat.mod_eq_zero_of_dvd h1, (rep_per hs h1).mpr h2⟩
theorem root_is {w : List Nat} (hw : w ≠ []) : RootIs w (rootSz w) := by
  have hn := List.length_pos_iff.mpr hw
  have ht : rootTest w w.length = true := (rootTest_iff hn).mpr ⟨Nat.dvd_refl _, per_big (Nat.le_refl _)⟩
  cases q : (List.range' 1 w.length).find? (rootTest w) with
  | none =>
    have := List.find?_eq_none.mp q w.length (List.mem_range'_1.mpr ⟨by omega, by omega⟩)
    rw [ht] at this
    exact absurd rfl this
  | some s =>
    have e : rootSz w = s := by unfold rootSz; rw [q]; rfl
    rw [e]
    obtain ⟨h1, h2, h3, h4⟩ := (find_range' _ _ _ _).mp q
    obtain ⟨h5, h6⟩ := (rootTest_iff (by omega)).mp h3
    refine ⟨by omega, h5, h6, fun t t0 t1 t2 => ?_⟩
    apply Classical.byContradiction
    intro hlt
    have := h4 t (by omega) (by omega)
    rw [(rootTest_iff t0).mpr ⟨t1, t2⟩] at this
    exact absurd this (by decide)
theorem rootN_len {w : List Nat} (hw : w ≠ []) : (rootN w).length = rootSz w := by
  have := (root_is hw).le hw
  unfold rootN; rw [List.length_take]; omega
theorem rootN_nil : rootN [] = [] := rfl
theorem rootN_ne {w : List Nat} (hw : w ≠ []) : rootN w ≠ [] := by
  intro h
  have := rootN_len hw
  rw [h] at this
  have := (root_is hw).pos
  simp at *; omega
theorem rootN_rep {w : List Nat} (hw : w ≠ []) : repL (rootN w) (w.length / rootSz w) = w :=
  (rep_per (root_is hw).pos (root_is hw).dvd).mpr (root_is hw).per
/-- the root by the least period, as the program reckons it -/
theorem root_by_step {w : List Nat} (hw : w ≠ []) {b : Nat} (h : IsMax (fnL w) w.length b) : rootN w = if w.length % (w.length - b) = 0 then w.take (w.length - b) else w := by
  have hb := h.bo.1
  have hp := h.bo.per
  have least : ∀ t, 0 < t → Per (fnL w) w.length t → t ≤ w.length → w.length - b ≤ t := fun t t0 t1 t2 => by
    have := h.mx _ (Bo.of t1 t0 t2); omega
  have hr := root_is hw
  have hrl := hr.le hw
  have h1 := least _ hr.pos hr.per hrl
  split
  · rename_i hm
    have hd := Nat.dvd_of_mod_eq_zero hm
    have := hr.least _ (by omega) hd hp
    unfold rootN
    rw [show rootSz w = w.length - b by omega]
  · rename_i hm
    have e : rootSz w = w.length := by
      apply Classical.byContradiction
      intro hne
      obtain ⟨c, hc⟩ := hr.dvd
      have hc2 : 2 ≤ c := by
        rcases Nat.lt_or_ge c 2 with q | q
        · have : c = 0 ∨ c = 1 := by omega
          rcases this with rfl | rfl
          · rw [Nat.mul_zero] at hc; omega
          · rw [Nat.mul_one] at hc; omega
        · exact q
      have h2s : 2 * rootSz w ≤ w.length := by
        rw [hc, Nat.mul_comm]; exact Nat.mul_le_mul_left _ hc2
      have g := fw _ (w.length - b) (rootSz w) w.length rfl (by omega) hr.pos (by omega) hp hr.per
      have g0 : 0 < Nat.gcd (w.length - b) (rootSz w) := Nat.gcd_pos_of_pos_right _ hr.pos
      have g1 : Nat.gcd (w.length - b) (rootSz w) ≤ w.length - b := Nat.le_of_dvd (by omega) (Nat.gcd_dvd_left _ _)
      have g2 : w.length - b ≤ Nat.gcd (w.length - b) (rootSz w) := least _ g0 g (by omega)
      have g3 : Nat.gcd (w.length - b) (rootSz w) = w.length - b := by omega
      have g4 : w.length - b ∣ rootSz w := by rw [← g3]; exact Nat.gcd_dvd_right _ _
      exact hm (Nat.mod_eq_zero_of_dvd (Nat.dvd_trans g4 hr.dvd))
    unfold rootN
    rw [e, List.take_length]
/-- the root of a power -/
theorem fnL_rep {z : List Nat} {k i : Nat} (h : i < k * z.length) : fnL (repL z k) i = fnL z (i % z.length) := repL_get k i h
theorem root_rep {z : List Nat} (hz : z ≠ []) {k : Nat} (hk : 0 < k) : rootSz (repL z k) = rootSz z := by
  have hn := List.length_pos_iff.mpr hz
  have hlen : (repL z k).length = k * z.length := repL_len
  have hne : repL z k ≠ [] := by
    intro h
    rw [h] at hlen
    have : 0 < k * z.length := Nat.mul_pos hk hn
    simp at hlen; omega
  have hr := root_is hz
  have hle := hr.le hz
  have hR := root_is hne
  have hkn : z.length ≤ k * z.length := Nat.le_mul_of_pos_left _ hk
  have toZ : ∀ t, Per (fnL (repL z k)) (k * z.length) t → Per (fnL z) z.length t := fun t ht i hi => by
    have := ht i (by omega)
    rw [fnL_rep (by omega), fnL_rep (by omega), Nat.mod_eq_of_lt (by omega), Nat.mod_eq_of_lt (by omega)] at this
    exact this
  have whole : Per (fnL (repL z k)) (k * z.length) z.length := fun i hi => by
    rw [fnL_rep (by omega), fnL_rep hi, Nat.add_mod_right]
  have fromZ : ∀ t, t ∣ z.length → 0 < t → Per (fnL z) z.length t → Per (fnL (repL z k)) (k * z.length) t := fun t td t0 ht i hi => by
    rw [fnL_rep (by omega), fnL_rep hi]
    refine per_cong ht (Nat.mod_lt _ hn) (Nat.mod_lt _ hn) ?_
    rw [Nat.mod_mod_of_dvd _ td, Nat.mod_mod_of_dvd _ td, Nat.add_mod_right]
  have : RootIs (repL z k) (rootSz z) := by
    refine ⟨hr.pos, ?_, ?_, fun t t0 t1 t2 => ?_⟩
    · rw [hlen]; exact Nat.dvd_trans hr.dvd (Nat.dvd_mul_left _ _)
    · rw [hlen]; exact fromZ _ hr.dvd hr.pos hr.per
    · rw [hlen] at t1 t2
      by_cases q : t ≤ z.length
      · by_cases q2 : k = 1
        · subst q2
          rw [Nat.one_mul] at t1
          exact hr.least t t0 t1 (toZ t t2)
        · have hk2 : 2 * z.length ≤ k * z.length := Nat.mul_le_mul_right _ (by omega)
          have g := fw _ t z.length (k * z.length) rfl t0 hn (by omega) t2 whole
          have g0 : 0 < Nat.gcd t z.length := Nat.gcd_pos_of_pos_left _ t0
          have g1 : Nat.gcd t z.length ≤ t := Nat.le_of_dvd t0 (Nat.gcd_dvd_left _ _)
          have := hr.least _ g0 (Nat.gcd_dvd_right _ _) (toZ _ g)
          omega
      · omega
  exact hR.uniq this
theorem rootN_repL {z : List Nat} (hz : z ≠ []) {k : Nat} (hk : 0 < k) : rootN (repL z k) = rootN z := by
  unfold rootN
  rw [root_rep hz hk]
  have hr := (root_is hz).le hz
  cases k with
  | zero => omega
  | succ k =>
    simp only [repL]
    rw [List.take_append_of_le_length hr]
end Py

/-! Words that move past one another: the plain part of k13. -/
namespace Py
theorem repL_add {α : Type} {r : List α} : ∀ (a b : Nat), repL r (a + b) = repL r a ++ repL r b
  | 0, b => by simp [repL]
  | a + 1, b => by
    rw [Nat.add_right_comm]
    simp only [repL, repL_add a b, List.append_assoc]
theorem repL_comm {α : Type} {r : List α} (a b : Nat) : repL r a ++ repL r b = repL r b ++ repL r a := by
  rw [← repL_add, ← repL_add, Nat.add_comm]
theorem app_get {x y : List Nat} {i : Nat} (h : i < x.length) : (x ++ y)[i]! = x[i]! := by
  rw [getElem!_pos _ i (by rw [List.length_append]; omega), List.getElem_append_left h, getElem!_pos _ i h]
theorem app_get2 {x y : List Nat} {i : Nat} (h : i < y.length) : (x ++ y)[i + x.length]! = y[i]! := by
  rw [getElem!_pos _ (i + x.length) (by rw [List.length_append]; omega), List.getElem_append_right (by omega), getElem!_pos _ i h]
  congr 1; omega
/-- two words alike in their first letters, as long as this theorem wants -/
theorem near_comm {x y : List Nat} (hx : x ≠ []) (hy : y ≠ []) (h : ∀ i, i < x.length + y.length - Nat.gcd x.length y.length → (x ++ y)[i]! = (y ++ x)[i]!) : ∃ z a b, z ≠ [] ∧ 0 < a ∧ 0 < b ∧ x = repL z a ∧ y = repL z b := by
  have m0 := List.length_pos_iff.mpr hx
  have n0 := List.length_pos_iff.mpr hy
  have gm := Nat.gcd_dvd_left x.length y.length
  have gn := Nat.gcd_dvd_right x.length y.length
  have g0 : 0 < Nat.gcd x.length y.length := Nat.gcd_pos_of_pos_left _ m0
  have gle := Nat.le_of_dvd m0 gm
  have gle2 := Nat.le_of_dvd n0 gn
  generalize hg : Nat.gcd x.length y.length = g at *
  have p1 : Per (fnL (x ++ y)) (x.length + y.length - g) x.length := fun i hi => by
    show (x ++ y)[i]! = (x ++ y)[i + x.length]!
    rw [app_get2 (by omega), h i (by omega), app_get (by omega)]
  have p2 : Per (fnL (x ++ y)) (x.length + y.length - g) y.length := fun i hi => by
    show (x ++ y)[i]! = (x ++ y)[i + y.length]!
    rw [h (i + y.length) (by omega), app_get2 (by omega), app_get (by omega)]
  have p3 := fw _ x.length y.length (x.length + y.length - g) rfl m0 n0 (by rw [hg]; omega) p1 p2
  rw [hg] at p3
  have px : Per (fnL x) x.length g := fun i hi => by
    have := p3 i (by omega)
    simp only [fnL] at this ⊢
    rw [app_get (by omega), app_get (by omega)] at this
    exact this
  have py : Per (fnL y) y.length g := fun i hi => by
    have := p3 i (by omega)
    simp only [fnL] at this ⊢
    rw [h i (by omega), h (i + g) (by omega), app_get (by omega), app_get (by omega)] at this
    exact this
  have ex := (rep_per g0 gm).mpr px
  have ey := (rep_per g0 gn).mpr py
  have e : y.take g = x.take g := by
    refine ext_get (by rw [List.length_take, List.length_take]; omega) fun i hi => ?_
    rw [List.length_take] at hi
    have h1 : i < g := by omega
    rw [take_get h1 (by omega), take_get h1 (by omega)]
    have := h i (by omega)
    rw [app_get (by omega), app_get (by omega)] at this
    exact this.symm
  rw [e] at ey
  refine ⟨x.take g, x.length / g, y.length / g, ?_, Nat.div_pos gle g0, Nat.div_pos gle2 g0, ex.symm, ey.symm⟩
  intro hz
  have : (x.take g).length = 0 := by rw [hz]; rfl
  rw [List.length_take] at this
  omega
theorem comm_common {x y : List Nat} (hx : x ≠ []) (hy : y ≠ []) (h : x ++ y = y ++ x) : ∃ z a b, z ≠ [] ∧ 0 < a ∧ 0 < b ∧ x = repL z a ∧ y = repL z b :=
  near_comm hx hy fun i _ => by rw [h]
def mvB (x y : List Nat) : Bool := x == [] || y == [] || rootN x == rootN y
theorem comm_iff {x y : List Nat} : x ++ y = y ++ x ↔ mvB x y = true := by
  unfold mvB
  simp only [Bool.or_eq_true, beq_iff_eq]
  constructor
  · intro h
    by_cases hx : x = []
    · exact .inl (.inl hx)
    · by_cases hy : y = []
      · exact .inl (.inr hy)
      · right
        obtain ⟨z, a, b, hz, ha, hb, rfl, rfl⟩ := comm_common hx hy h
        rw [rootN_repL hz ha, rootN_repL hz hb]
  · rintro ((rfl | rfl) | h)
    · simp
    · simp
    · by_cases hx : x = []
      · subst hx; simp
      · by_cases hy : y = []
        · subst hy; simp
        · have ex := rootN_rep hx
          have ey := rootN_rep hy
          rw [← ex, ← ey, h]
          exact repL_comm _ _
theorem comm_dec {x y : List Nat} : (x ++ y == y ++ x) = mvB x y := by
  cases h : mvB x y with
  | true => rw [beq_iff_eq]; exact comm_iff.mpr h
  | false =>
    rw [beq_eq_false_iff_ne]
    intro e
    rw [comm_iff.mp e] at h
    exact absurd h (by decide)
theorem mvB_symm {x y : List Nat} : mvB x y = mvB y x := by
  rw [← comm_dec, ← comm_dec]
  by_cases h : x ++ y = y ++ x
  · rw [h]
  · rw [beq_eq_false_iff_ne.mpr h, beq_eq_false_iff_ne.mpr fun e => h e.symm]
theorem rootN_app {x y : List Nat} (hx : x ≠ []) (h : mvB x y = true) : rootN (x ++ y) = rootN x := by
  by_cases hy : y = []
  · subst hy; rw [List.append_nil]
  · obtain ⟨z, a, b, hz, ha, hb, rfl, rfl⟩ := comm_common hx hy (comm_iff.mpr h)
    rw [← repL_add, rootN_repL hz (by omega), rootN_repL hz ha]
/-- the places of unlike letters -/
def unlike (u v : List Nat) : List Nat := (List.range u.length).filter fun i => u[i]! != v[i]!
theorem unlike_nil {u v : List Nat} (h : u.length = v.length) : unlike u v = [] ↔ u = v := by
  unfold unlike
  rw [List.filter_eq_nil_iff]
  constructor
  · intro hh
    refine ext_get h fun i hi => ?_
    have := hh i (List.mem_range.mpr hi)
    simpa using this
  · rintro rfl i hi
    simp
theorem unlike_first {u v : List Nat} {i : Nat} {l : List Nat} (h : unlike u v = i :: l) : ∀ j, j < i → u[j]! = v[j]! := by
  intro j hj
  have hi : i ∈ unlike u v := by rw [h]; exact List.mem_cons_self
  unfold unlike at hi h
  have hir := List.mem_range.mp (List.mem_filter.mp hi).1
  apply Classical.byContradiction
  intro hne
  have hjm : j ∈ (List.range u.length).filter fun i => u[i]! != v[i]! := List.mem_filter.mpr ⟨List.mem_range.mpr (by omega), by simpa using hne⟩
  rw [h] at hjm
  have hs : ((List.range u.length).filter fun i => u[i]! != v[i]!).Pairwise (· < ·) := List.Pairwise.filter _ List.pairwise_lt_range
  rw [h] at hs
  rcases List.mem_cons.mp hjm with q | q
  · omega
  · have := (List.pairwise_cons.mp hs).1 j q
    omega
theorem unlike_bound {x y : List Nat} {i : Nat} {l : List Nat} (h : unlike (x ++ y) (y ++ x) = i :: l) : i < x.length + y.length - Nat.gcd x.length y.length := by
  have hne : x ++ y ≠ y ++ x := by
    intro e
    have := (unlike_nil (u := x ++ y) (v := y ++ x) (by rw [List.length_append, List.length_append, Nat.add_comm])).mpr e
    rw [this] at h
    exact absurd h (by simp)
  apply Classical.byContradiction
  intro q
  have hx : x ≠ [] := by rintro rfl; simp at hne
  have hy : y ≠ [] := by rintro rfl; simp at hne
  obtain ⟨z, a, b, hz, ha, hb, rfl, rfl⟩ := near_comm hx hy fun j hj => unlike_first h j (by omega)
  exact hne (repL_comm _ _)
/-- the power of the root that has a size -/
def movN (w : List Nat) (n : Nat) : Option (List Nat) := if n % (rootN w).length = 0 then some (repL (rootN w) (n / (rootN w).length)) else none
theorem mov_iff {w o : List Nat} (hw : w ≠ []) : mvB w o = decide (movN w o.length = some o) := by
  have hr := List.length_pos_iff.mpr (rootN_ne hw)
  have key : mvB w o = true ↔ movN w o.length = some o := by
    unfold movN
    rw [← comm_iff]
    constructor
    · intro h
      by_cases ho : o = []
      · subst ho
        simp [repL]
      · have e : rootN w = rootN o := by
          have := comm_iff.mp h
          unfold mvB at this
          simp only [Bool.or_eq_true, beq_iff_eq] at this
          rcases this with (h1 | h1) | h1
          · exact absurd h1 hw
          · exact absurd h1 ho
          · exact h1
        rw [e, rootN_len ho, if_pos (Nat.mod_eq_zero_of_dvd (root_is ho).dvd), rootN_rep ho]
    · intro h
      split at h
      · have h := (Option.some.inj h).symm
        have ew := rootN_rep hw
        generalize o.length / (rootN w).length = k at h
        generalize w.length / rootSz w = a at ew
        rw [h]
        have e3 := repL_comm (r := rootN w) a k
        rw [ew] at e3
        exact e3
      · exact absurd h (by simp)
  cases h : mvB w o with
  | true => exact (decide_eq_true (key.mp h)).symm
  | false =>
    have : ¬ movN w o.length = some o := fun e => by rw [key.mpr e] at h; exact absurd h (by decide)
    exact (decide_eq_false this).symm
/-! lots -/
def fullL (ws : List (List Nat)) : List (List Nat) := ws.filter fun w => w != []
def allMv (ws : List (List Nat)) : Bool := match fullL ws with
  | [] => true
  | f :: l => (f :: l).all fun w => mvB f w
def lotR (ws : List (List Nat)) : Option (List Nat) := match fullL ws with
  | [] => some []
  | f :: _ => if allMv ws then some (rootN f) else none
/-- all pairs, as the law asks -/
def pairsOk : List (List Nat) → Prop
  | [] => True
  | w :: l => (∀ v, v ∈ l → mvB w v = true) ∧ pairsOk l
theorem full_ne {ws : List (List Nat)} {w : List Nat} (h : w ∈ fullL ws) : w ≠ [] := by
  have := (List.mem_filter.mp h).2
  simpa using this
theorem mv_root {x y : List Nat} (hx : x ≠ []) (hy : y ≠ []) : mvB x y = true ↔ rootN x = rootN y := by
  unfold mvB
  simp [hx, hy]
theorem allMv_iff (ws : List (List Nat)) : allMv ws = true ↔ ∀ v w, v ∈ ws → w ∈ ws → mvB v w = true := by
  have hf : ∀ w, w ∈ fullL ws ↔ w ∈ ws ∧ w ≠ [] := fun w => by unfold fullL; rw [List.mem_filter]; simp
  have em : ∀ w v, w = [] ∨ v = [] → mvB w v = true := by
    rintro w v (rfl | rfl) <;> simp [mvB]
  unfold allMv
  cases q : fullL ws with
  | nil =>
    refine ⟨fun _ v w hv hw => ?_, fun _ => rfl⟩
    refine em v w (.inl ?_)
    apply Classical.byContradiction
    intro h
    have := (hf v).mpr ⟨hv, h⟩
    rw [q] at this
    simp at this
  | cons f l =>
    show (f :: l).all (fun w => mvB f w) = true ↔ _
    rw [List.all_eq_true]
    have hfm : f ∈ fullL ws := by rw [q]; exact List.mem_cons_self
    have hfne := full_ne hfm
    constructor
    · intro h v w hv hw
      by_cases hv0 : v = []
      · exact em v w (.inl hv0)
      · by_cases hw0 : w = []
        · exact em v w (.inr hw0)
        · have h1 := h v (by rw [← q]; exact (hf v).mpr ⟨hv, hv0⟩)
          have h2 := h w (by rw [← q]; exact (hf w).mpr ⟨hw, hw0⟩)
          exact (mv_root hv0 hw0).mpr (((mv_root hfne hv0).mp h1).symm.trans ((mv_root hfne hw0).mp h2))
    · intro h w hw
      rw [← q] at hw
      exact h f w ((hf f).mp hfm).1 ((hf w).mp hw).1
theorem allMv_rev (ws : List (List Nat)) : allMv ws.reverse = allMv ws := by
  have h1 := allMv_iff ws
  have h2 := allMv_iff ws.reverse
  simp only [List.mem_reverse] at h2
  cases a : allMv ws with
  | true => exact h2.mpr (h1.mp a)
  | false => cases b : allMv ws.reverse with
    | false => rfl
    | true => rw [h1.mpr (h2.mp b)] at a; exact absurd a (by decide)
theorem lotR_rev (ws : List (List Nat)) : lotR ws.reverse = lotR ws := by
  have e : fullL ws.reverse = (fullL ws).reverse := by unfold fullL; rw [List.filter_reverse]
  unfold lotR
  rw [allMv_rev, e]
  cases q : fullL ws with
  | nil => rfl
  | cons f l =>
    cases q2 : (f :: l).reverse with
    | nil => simp at q2
    | cons g m =>
      show (if allMv ws then some (rootN g) else none) = if allMv ws then some (rootN f) else none
      cases a : allMv ws with
      | false => rfl
      | true =>
        have hg : g ∈ fullL ws := by rw [q, ← List.mem_reverse, q2]; exact List.mem_cons_self
        have hf : f ∈ fullL ws := by rw [q]; exact List.mem_cons_self
        have := (allMv_iff ws).mp a f g (List.mem_filter.mp hf).1 (List.mem_filter.mp hg).1
        rw [(mv_root (full_ne hf) (full_ne hg)).mp this]
/-- step by step, as the law reckons it -/
def goodTo (ws : List (List Nat)) : Nat → Bool
  | 0 => true
  | k + 1 => goodTo ws k && (ws.take k).all fun v => mvB ws[k]! v
theorem goodTo_iff (ws : List (List Nat)) : goodTo ws ws.length = allMv ws := by
  have key : ∀ k, k ≤ ws.length → (goodTo ws k = true ↔ ∀ v w, v ∈ ws.take k → w ∈ ws.take k → mvB v w = true) := by
    intro k
    induction k with
    | zero => intro _; simp [goodTo]
    | succ k ih =>
      intro hk
      have ht : ws.take (k + 1) = ws.take k ++ [ws[k]!] := by
        rw [List.take_succ_eq_append_getElem (by omega), getElem!_pos ws k (by omega)]
      simp only [goodTo, Bool.and_eq_true, List.all_eq_true]
      rw [ih (by omega), ht]
      constructor
      · rintro ⟨h1, h2⟩ v w hv hw
        rcases List.mem_append.mp hv with hv | hv
        · rcases List.mem_append.mp hw with hw | hw
          · exact h1 v w hv hw
          · rw [List.mem_singleton.mp hw, mvB_symm]; exact h2 v hv
        · rw [List.mem_singleton.mp hv]
          rcases List.mem_append.mp hw with hw | hw
          · exact h2 w hw
          · rw [List.mem_singleton.mp hw]
            unfold mvB; simp
      · intro h
        refine ⟨fun v w hv hw => h v w (List.mem_append_left _ hv) (List.mem_append_left _ hw), fun v hv => h _ v (List.mem_append_right _ (by simp)) (List.mem_append_left _ hv)⟩
  have h1 := key ws.length (Nat.le_refl _)
  rw [List.take_length, ← allMv_iff] at h1
  cases a : allMv ws with
  | true => exact h1.mpr a
  | false => cases b : goodTo ws ws.length with
    | false => rfl
    | true => rw [h1.mp b] at a; exact absurd a (by decide)
end Py

/-! Roots of words backwards, turned, with a letter more: the plain part of k11. -/
namespace Py
theorem rootN_idem {w : List Nat} (hw : w ≠ []) : rootN (rootN w) = rootN w := by
  have e := rootN_rep hw
  have hs := root_is hw
  have hpos : 0 < w.length / rootSz w := Nat.div_pos (hs.le hw) hs.pos
  have := rootN_repL (rootN_ne hw) hpos
  rw [e] at this
  exact this.symm
theorem rootSz_of {w : List Nat} (hw : w ≠ []) {s : Nat} (h : RootIs w s) : rootSz w = s := (root_is hw).uniq h
theorem rev_get {w : List Nat} {i : Nat} (h : i < w.length) : w.reverse[i]! = w[w.length - 1 - i]! := by
  rw [getElem!_pos _ i (by rw [List.length_reverse]; exact h), List.getElem_reverse, getElem!_pos w _ (by omega)]
theorem per_rev {w : List Nat} {t : Nat} (h : Per (fnL w) w.length t) : Per (fnL w.reverse) w.length t := fun i hi => by
  show w.reverse[i]! = w.reverse[i + t]!
  rw [rev_get (by omega), rev_get hi]
  have := h (w.length - 1 - (i + t)) (by omega)
  rw [show w.length - 1 - (i + t) + t = w.length - 1 - i by omega] at this
  exact this.symm
theorem root_rev {w : List Nat} (hw : w ≠ []) : RootIs w.reverse (rootSz w) := by
  have hs := root_is hw
  refine ⟨hs.pos, by rw [List.length_reverse]; exact hs.dvd, by rw [List.length_reverse]; exact per_rev hs.per, fun t t0 t1 t2 => ?_⟩
  rw [List.length_reverse] at t1 t2
  have := per_rev (w := w.reverse) (t := t) (by rw [List.length_reverse]; exact t2)
  rw [List.reverse_reverse, List.length_reverse] at this
  exact hs.least t t0 t1 this
theorem rootN_rev {w : List Nat} : rootN w.reverse = (rootN w).reverse := by
  by_cases hw : w = []
  · subst hw; rfl
  · have hs := root_is hw
    have hle := hs.le hw
    have hrne : w.reverse ≠ [] := by simpa using hw
    have e := rootSz_of hrne (root_rev hw)
    unfold rootN
    rw [e]
    have hl : (w.take (rootSz w)).length = rootSz w := by rw [List.length_take]; omega
    refine ext_get (by rw [List.length_take, List.length_reverse, List.length_reverse, List.length_take]) fun i hi => ?_
    rw [List.length_take, List.length_reverse] at hi
    have hi2 : i < rootSz w := by omega
    rw [take_get hi2 (by rw [List.length_reverse]; omega), rev_get (by omega), rev_get (by rw [hl]; exact hi2), hl, take_get (by omega) (by omega)]
    refine per_cong hs.per (by omega) (by omega) ?_
    obtain ⟨c, hc⟩ := hs.dvd
    have hc1 : 0 < c := by
      rcases Nat.eq_zero_or_pos c with h | h
      · subst h; rw [Nat.mul_zero] at hc; omega
      · exact h
    have : rootSz w * c = rootSz w + rootSz w * (c - 1) := by
      obtain ⟨k, rfl⟩ : ∃ k, c = k + 1 := ⟨c - 1, by omega⟩
      rw [Nat.mul_succ, Nat.add_sub_cancel]; omega
    have e2 : w.length - 1 - i = (rootSz w - 1 - i) + rootSz w * (c - 1) := by omega
    rw [e2, Nat.add_mul_mod_self_left]
/-! turned words -/
def rotN (w : List Nat) (a : Nat) : List Nat := w.drop a ++ w.take a
theorem rot_len {w : List Nat} {a : Nat} (h : a ≤ w.length) : (rotN w a).length = w.length := by
  unfold rotN; rw [List.length_append, List.length_drop, List.length_take]; omega
theorem rot_get {w : List Nat} {a i : Nat} (h : a ≤ w.length) (hi : i < w.length) : (rotN w a)[i]! = w[(i + a) % w.length]! := by
  unfold rotN
  by_cases q : i < w.length - a
  · rw [app_get (by rw [List.length_drop]; exact q), Nat.mod_eq_of_lt (by omega), getElem!_pos _ i (by rw [List.length_drop]; exact q), List.getElem_drop, getElem!_pos w _ (by omega)]
    congr 1; omega
  · have e : i = (i - (w.length - a)) + (w.drop a).length := by rw [List.length_drop]; omega
    have e2 : (i + a) % w.length = i + a - w.length := by
      rw [Nat.mod_eq_sub_mod (by omega), Nat.mod_eq_of_lt (by omega)]
    rw [e2]
    conv => lhs; rw [e]
    rw [app_get2 (by rw [List.length_take]; omega), take_get (by omega) (by omega)]
    congr 1; omega
theorem rot_back {w : List Nat} {a : Nat} (h : a ≤ w.length) : rotN (rotN w a) (w.length - a) = w := by
  unfold rotN
  have hl : (w.drop a).length = w.length - a := by rw [List.length_drop]
  rw [List.drop_left' hl, List.take_left' hl, List.take_append_drop]
theorem per_rot {w : List Nat} {a t : Nat} (h : a ≤ w.length) (ht : t ∣ w.length) (hp : Per (fnL w) w.length t) : Per (fnL (rotN w a)) w.length t := fun i hi => by
  show (rotN w a)[i]! = (rotN w a)[i + t]!
  rw [rot_get h (by omega), rot_get h hi]
  have n0 : 0 < w.length := by omega
  refine per_cong hp (Nat.mod_lt _ n0) (Nat.mod_lt _ n0) ?_
  rw [Nat.mod_mod_of_dvd _ ht, Nat.mod_mod_of_dvd _ ht, show i + t + a = i + a + t by omega, Nat.add_mod_right]
theorem root_rot {w : List Nat} (hw : w ≠ []) {a : Nat} (h : a ≤ w.length) : RootIs (rotN w a) (rootSz w) := by
  have hs := root_is hw
  have hl := rot_len h
  refine ⟨hs.pos, by rw [hl]; exact hs.dvd, by rw [hl]; exact per_rot h hs.dvd hs.per, fun t t0 t1 t2 => ?_⟩
  rw [hl] at t1 t2
  have := per_rot (w := rotN w a) (a := w.length - a) (t := t) (by rw [hl]; omega) (by rw [hl]; exact t1) (by rw [hl]; exact t2)
  rw [rot_back h, hl] at this
  exact hs.least t t0 t1 this
theorem rot_ne {w : List Nat} (hw : w ≠ []) {a : Nat} (h : a ≤ w.length) : rotN w a ≠ [] := fun e => by
  have := rot_len h
  rw [e] at this
  have := List.length_pos_iff.mpr hw
  simp at *; omega
theorem rootN_rot {w : List Nat} (hw : w ≠ []) {a : Nat} (h : a ≤ w.length) : rootN (rotN w a) = rotN (rootN w) (a % (rootN w).length) := by
  have hs := root_is hw
  have hle := hs.le hw
  have hrl := rootN_len hw
  have e := rootSz_of (rot_ne hw h) (root_rot hw h)
  have hlt : a % rootSz w < rootSz w := Nat.mod_lt _ hs.pos
  have n0 : 0 < w.length := by have := hs.pos; omega
  rw [hrl]
  have l1 : (rootN (rotN w a)).length = rootSz w := by rw [rootN_len (rot_ne hw h), e]
  refine ext_get (by rw [l1, rot_len (by rw [hrl]; omega), hrl]) fun i hi => ?_
  rw [l1] at hi
  rw [rot_get (by rw [hrl]; omega) (by rw [hrl]; exact hi), hrl]
  have lhs : (rootN (rotN w a))[i]! = (rotN w a)[i]! := by
    unfold rootN
    rw [e]
    exact take_get hi (by rw [rot_len h]; omega)
  have hm : (i + a % rootSz w) % rootSz w < rootSz w := Nat.mod_lt _ hs.pos
  have rhs : (rootN w)[(i + a % rootSz w) % rootSz w]! = w[(i + a % rootSz w) % rootSz w]! := by
    unfold rootN
    exact take_get hm (by omega)
  rw [lhs, rhs, rot_get h (by omega)]
  refine per_cong hs.per (Nat.mod_lt _ n0) (by omega) ?_
  rw [Nat.mod_mod_of_dvd _ hs.dvd, Nat.mod_mod, Nat.add_mod_mod]
/-- a letter more -/
theorem near_root {w : List Nat} {a : Nat} (hw : w ≠ []) (h1 : rootN w ≠ w) (h2 : rootN (w ++ [a]) ≠ w ++ [a]) : w ++ [a] = List.replicate (w.length + 1) a := by
  have hs := root_is hw
  have hle := hs.le hw
  have hv : w ++ [a] ≠ [] := by simp
  have ht := root_is hv
  have hlv : (w ++ [a]).length = w.length + 1 := by simp
  have hle2 := ht.le hv
  have half : ∀ {v : List Nat} {s : Nat}, s ∣ v.length → 0 < s → s ≤ v.length → v.take s ≠ v → 2 * s ≤ v.length := fun {v s} hd h0 hl hne => by
    obtain ⟨c, hc⟩ := hd
    rcases Nat.lt_or_ge c 2 with q | q
    · have : c = 0 ∨ c = 1 := by omega
      rcases this with rfl | rfl
      · rw [Nat.mul_zero] at hc; omega
      · rw [Nat.mul_one] at hc
        exact absurd (by rw [← hc, List.take_length]) hne
    · rw [hc, Nat.mul_comm]; exact Nat.mul_le_mul_left _ q
  have a1 := half hs.dvd hs.pos hle h1
  have a2 := half ht.dvd ht.pos hle2 h2
  rw [hlv] at a2
  have hp2 := ht.per
  rw [hlv] at hp2
  have hd2 := ht.dvd
  rw [hlv] at hd2
  have pw : Per (fnL w) w.length (rootSz (w ++ [a])) := fun i hi => by
    have := hp2 i (by omega)
    simp only [fnL] at this ⊢
    rwa [app_get (by omega), app_get hi] at this
  have g := fw _ (rootSz w) (rootSz (w ++ [a])) w.length rfl hs.pos ht.pos (by omega) hs.per pw
  have g1 : Nat.gcd (rootSz w) (rootSz (w ++ [a])) ∣ w.length := Nat.dvd_trans (Nat.gcd_dvd_left _ _) hs.dvd
  have g2 : Nat.gcd (rootSz w) (rootSz (w ++ [a])) ∣ w.length + 1 := Nat.dvd_trans (Nat.gcd_dvd_right _ _) hd2
  have g3 : Nat.gcd (rootSz w) (rootSz (w ++ [a])) = 1 := Nat.dvd_one.mp ((Nat.dvd_add_right g1).mp g2)
  rw [g3] at g
  have all : ∀ i, i < w.length → w[i]! = w[0]! := fun i hi => by
    have n0 := List.length_pos_iff.mpr hw
    exact per_cong g hi n0 (by rw [Nat.mod_one, Nat.mod_one])
  have last : a = w[0]! := by
    have h0 := ht.pos
    have := hp2 (w.length - rootSz (w ++ [a])) (by omega)
    rw [show w.length - rootSz (w ++ [a]) + rootSz (w ++ [a]) = w.length by omega] at this
    simp only [fnL] at this
    rw [app_get (by omega), all _ (by omega)] at this
    have e2 : (w ++ [a])[0 + w.length]! = a := by rw [app_get2 (by simp)]; rfl
    rw [Nat.zero_add] at e2
    rw [e2] at this
    exact this.symm
  refine ext_get (by rw [hlv, List.length_replicate]) fun i hi => ?_
  rw [hlv] at hi
  rw [getElem!_pos (List.replicate _ _) i (by rw [List.length_replicate]; exact hi), List.getElem_replicate]
  by_cases q : i < w.length
  · rw [app_get q, all i q, last]
  · have : i = 0 + w.length := by omega
    rw [this, app_get2 (by simp)]; rfl
end Py

/-! The program's roots and moves: what each def gives. -/
namespace Py
/-- 8: need_words(word, other) -/
def b8 : FD := ⟨2, false, [], 2, [(.exp (.call 7 [(.var 0)])), (.exp (.call 7 [(.var 1)]))]⟩
/-- 9: need_bare_word(value) -/
def b9 : FD := ⟨1, false, [], 1, [(.ife (.or (.not (.tru (.call 6 [(.var 0)]))) (.cmp .eq (.var 0) (.cst (.str [])))) [(.exp (.popD 0 .nil .nil))] [])]⟩
/-- 29: power_of(word, number) -/
def b29 : FD := ⟨2, false, [], 2, [(.exp (.call 7 [(.var 0)])), (.exp (.call 2 [(.var 1), (.cst (.int 0)), (.cst (.int 200))])), (.ife (.cmp .gt (.bin .mul (.bi .len [(.var 0)]) (.var 1)) (.cst (.int 200))) [(.exp (.popD 0 .nil .nil))] []), (.ret (.bin .mul (.var 0) (.var 1)))]⟩
/-- 523: step_in(word, found, here, place) -/
def b523 : FD := ⟨1, false, [], 4, [(.setP [1, 2] [(.lst [(.cst (.int 0))]), (.cst (.int 0))]), (.fors (.nm 3) (.rng2 (.cst (.int 1)) (.bi .len [(.var 0)])) [(.whl (.and (.cmp .gt (.var 2) (.cst (.int 0))) (.cmp .ne (.idx (.var 0) (.var 3)) (.idx (.var 0) (.var 2)))) [(.set 2 (.idx (.var 1) (.bin .sub (.var 2) (.cst (.int 1)))))]), (.set 2 (.ite (.cmp .eq (.idx (.var 0) (.var 3)) (.idx (.var 0) (.var 2))) (.bin .add (.var 2) (.cst (.int 1))) (.cst (.int 0)))), (.app 1 (.var 2))]), (.ret (.bin .sub (.bi .len [(.var 0)]) (.idx (.var 1) (.cst (.int (-1))))))]⟩
/-- 524: root_in(word, step) -/
def b524 : FD := ⟨1, false, [], 2, [(.ife (.cmp .eq (.var 0) (.cst (.str []))) [(.ret (.cst (.str [])))] []), (.set 1 (.call 523 [(.var 0)])), (.ret (.ite (.cmp .eq (.bin .mod (.bi .len [(.var 0)]) (.var 1)) (.cst (.int 0))) (.slc (.var 0) .nil (.var 1)) (.var 0)))]⟩
/-- 533: root_of(word) -/
def b533 : FD := ⟨1, false, [], 1, [(.exp (.call 7 [(.var 0)])), (.ret (.call 524 [(.var 0)]))]⟩
/-- 388: moves_in(word, other) -/
def b388 : FD := ⟨2, false, [], 2, [(.ret (.cmp .eq (.bin .add (.var 0) (.var 1)) (.bin .add (.var 1) (.var 0))))]⟩
/-- 389: break_in(word, other, one, two, found, place) -/
def b389 : FD := ⟨2, false, [], 6, [(.setP [2, 3] [(.bin .add (.var 0) (.var 1)), (.bin .add (.var 1) (.var 0))]), (.set 4 (.comp [5] (.nm 5) (.rng1 (.bi .len [(.var 2)])) (.cmp .ne (.idx (.var 2) (.var 5)) (.idx (.var 3) (.var 5))) (.var 5))), (.ret (.ite (.cmp .ne (.var 4) (.lst [])) (.idx (.var 4) (.cst (.int 0))) (.cst .non)))]⟩
/-- 390: fits_lot(value, word) -/
def b390 : FD := ⟨1, false, [], 2, [(.ret (.and (.call 3 [(.var 0), (.cst (.int 0)), (.cst (.int 20))]) (.bi .all [(.comp [1] (.nm 1) (.var 0) .yes (.call 6 [(.var 1)]))])))]⟩
/-- 391: need_lot(words) -/
def b391 : FD := ⟨1, false, [], 1, [(.ife (.not (.tru (.call 390 [(.var 0)]))) [(.exp (.popD 0 .nil .nil))] [])]⟩
/-- 392: all_move_in(words, full, word) -/
def b392 : FD := ⟨1, false, [], 3, [(.set 1 (.comp [2] (.nm 2) (.var 0) (.cmp .ne (.var 2) (.cst (.str []))) (.var 2))), (.ret (.ite (.cmp .ne (.var 1) (.lst [])) (.bi .all [(.comp [2] (.nm 2) (.var 1) .yes (.call 388 [(.idx (.var 1) (.cst (.int 0))), (.var 2)]))]) (.cst (.bl true))))]⟩
/-- 393: lot_root_in(words, full, word) -/
def b393 : FD := ⟨1, false, [], 3, [(.set 1 (.comp [2] (.nm 2) (.var 0) (.cmp .ne (.var 2) (.cst (.str []))) (.var 2))), (.ife (.cmp .eq (.var 1) (.lst [])) [(.ret (.cst (.str [])))] []), (.ret (.ite (.tru (.call 392 [(.var 0)])) (.call 524 [(.idx (.var 1) (.cst (.int 0)))]) (.cst .non)))]⟩
/-- 397: do_move_past(word, other) -/
def b397 : FD := ⟨2, false, [], 2, [(.exp (.call 8 [(.var 0), (.var 1)])), (.ret (.call 388 [(.var 0), (.var 1)]))]⟩
/-- 398: move_break(word, other) -/
def b398 : FD := ⟨2, false, [], 2, [(.exp (.call 8 [(.var 0), (.var 1)])), (.ret (.call 389 [(.var 0), (.var 1)]))]⟩
/-- 399: common_root(word, other) -/
def b399 : FD := ⟨2, false, [], 2, [(.exp (.call 8 [(.var 0), (.var 1)])), (.ret (.call 393 [(.tup [(.var 0), (.var 1)])]))]⟩
/-- 400: moving_word(word, size, root) -/
def b400 : FD := ⟨2, false, [], 3, [(.exp (.call 9 [(.var 0)])), (.exp (.call 2 [(.var 1), (.cst (.int 0)), (.cst (.int 200))])), (.set 2 (.call 524 [(.var 0)])), (.ret (.ite (.cmp .eq (.bin .mod (.var 1) (.bi .len [(.var 2)])) (.cst (.int 0))) (.bin .mul (.var 2) (.bin .fdiv (.var 1) (.bi .len [(.var 2)]))) (.cst .non)))]⟩
/-- 401: do_all_move(words) -/
def b401 : FD := ⟨1, false, [], 1, [(.exp (.call 391 [(.var 0)])), (.ret (.call 392 [(.var 0)]))]⟩
/-- 402: lot_root(words) -/
def b402 : FD := ⟨1, false, [], 1, [(.exp (.call 391 [(.var 0)])), (.ret (.call 393 [(.var 0)]))]⟩
theorem beq1 {a b : Nat} : ([a] == [b]) = (a == b) := by
  by_cases h : a = b
  · subst h; rw [beq_self_eq_true, beq_self_eq_true]
  · rw [beq_eq_false_iff_ne.mpr h, beq_eq_false_iff_ne.mpr fun e => h (List.cons.inj e).1]
theorem atD_last {l : List Nat} {k : Nat} (h : l.length = k + 1) : atD (natL l) (-1) = some (.int (l[k]! : Nat)) := by
  have e : ixD (natL l).length (-1) = some k := by
    rw [natL_len, h]
    unfold ixD
    rw [if_neg (by decide), if_pos (by omega)]
    congr 1; omega
  have hk : k < (natL l).length := by rw [natL_len]; omega
  unfold atD
  rw [e]
  show (natL l)[k]? = _
  rw [List.getElem?_eq_getElem hk, getElem!_pos l k (by omega)]
  simp only [natL, List.getElem_map]
def optS' : Option (List Nat) → D
  | some t => .str t
  | none => .non
def optN : Option Nat → D
  | some t => .int t
  | none => .non
structure HasR (T : Tb) : Prop where
  h0 : T.fd 0 = some b0
  h1 : T.fd 1 = some b1
  h2 : T.fd 2 = some b2
  h5 : T.fd 5 = some b5
  h6 : T.fd 6 = some b6
  h7 : T.fd 7 = some b7
  h523 : T.fd 523 = some b523
  h524 : T.fd 524 = some b524
  hN : 100000 < T.N
section
variable {T : Tb} (hR : HasR T)
include hR
theorem step_ok (d : Nat) {w : List Nat} (hw : w ≠ []) (hl : w.length ≤ 1000) : ∃ b, IsMax (fnL w) w.length b ∧ (clOf T (d + 1)).run 523 [.str w] = .ok false (.int (w.length - b : Nat)) none := by
  have hn := List.length_pos_iff.mpr hw
  rw [run_def hR.h523]
  obtain ⟨ρ', L1, L, b, t3, hL, hLm, hb, rfl⟩ := for_inv (f := fun x ρ => (bnd (.nm 3) x ρ).bind fun _ ρ => evSs (clOf T d) [(.whl (.and (.cmp .gt (.var 2) (.cst (.int 0))) (.cmp .ne (.idx (.var 0) (.var 3)) (.idx (.var 0) (.var 2)))) [(.set 2 (.idx (.var 1) (.bin .sub (.var 2) (.cst (.int 1)))))]), (.set 2 (.ite (.cmp .eq (.idx (.var 0) (.var 3)) (.idx (.var 0) (.var 2))) (.bin .add (.var 2) (.cst (.int 1))) (.cst (.int 0)))), (.app 1 (.var 2))] ρ) (rngL (1 : Nat) w.length 1)
    (fun k ρ => ∃ (L : List Nat) (b : Nat) (t3 : Cell), L.length = k + 1 ∧ (∀ j, j < k + 1 → IsMax (fnL w) (j + 1) L[j]!) ∧ IsMax (fnL w) (k + 1) b ∧ ρ = [some (.shr, .str w), some (.own, .lst (natL L)), some (.shr, .int b), t3])
    [some (.shr, .str w), some (.own, .lst (natL [0])), some (.shr, .int (0 : Nat)), none] (by
      rintro k x ρ hx ⟨L, b, t3, hL, hLm, hb, rfl⟩
      have hk : k < w.length - 1 ∧ x = .int ((k + 1 : Nat) : Int) := by
        rw [rngL_map2, List.getElem?_map] at hx
        cases q : (List.range' 1 (w.length - 1))[k]? with
        | none => rw [q] at hx; simp at hx
        | some y =>
          rw [q] at hx
          obtain ⟨h1, h2⟩ := List.getElem?_eq_some_iff.mp q
          rw [List.length_range'] at h1
          rw [List.getElem_range'] at h2
          refine ⟨h1, ?_⟩
          simp only [Option.map, Option.some.injEq] at hx
          rw [← hx, ← h2]
          congr 1; omega
      obtain ⟨hk, rfl⟩ := hk
      have hb0 := hb.bo.1
      have aK := atD_nat (l := w) (k := k + 1) (by omega)
      obtain ⟨ρ2, W, h, hc, hh, rfl⟩ := whl_ok (t := evT (clOf T d) (.and (.cmp .gt (.var 2) (.cst (.int 0))) (.cmp .ne (.idx (.var 0) (.var 3)) (.idx (.var 0) (.var 2))))) (f := evSs (clOf T d) [(.set 2 (.idx (.var 1) (.bin .sub (.var 2) (.cst (.int 1)))))]) (Q := fun ρ => ∃ h, Cand (fnL w) (k + 1) h ∧ (h = 0 ∨ fnL w h = fnL w (k + 1)) ∧ ρ = [some (.shr, .str w), some (.own, .lst (natL L)), some (.shr, .int (h : Nat)), some (.shr, .int ((k + 1 : Nat) : Int))])
        (fun m ρ => ∃ h, m = h ∧ Cand (fnL w) (k + 1) h ∧ ρ = [some (.shr, .str w), some (.own, .lst (natL L)), some (.shr, .int (h : Nat)), some (.shr, .int ((k + 1 : Nat) : Int))]) (by
          rintro m ρ ⟨h, rfl, hc, rfl⟩
          have hlt := hc.bo.1
          by_cases q : m = 0
          · left
            subst q
            have q1 : decide ((0 : Int) < 0) = false := rfl
            exact ⟨[some (.shr, .str w), some (.own, .lst (natL L)), some (.shr, .int ((0 : Nat) : Int)), some (.shr, .int ((k + 1 : Nat) : Int))], by simp only [runF, Int.cast_ofNat_Int, blsD, List.all, id, startE, fill, cellsOf, endF, ioOf, eSs_nil, eSs_cons, eS_ret, eS_exp, eS_set, eS_setP, eS_put, eS_app, eS_ife, eS_pass, eS_brk, eS_cnt, evT, eE_cst, eE_var, eE_bin, eE_not, eE_cmp, eE_cmp2, eE_and, eE_or, eE_ite, eE_tup, eE_lst, eE_idx, eE_slc, eE_rev, eE_nil, eE_call, eE_calli, eE_bi, eE_me, eE_lrg1, eE_isi, pk, evEs, evPs, evRs, rdE, rdP, rdL, get, put, sto, stoL, bind_ok, M.bind, callN, callIo, retE, fin, finS, finB, biD, bLen, lenD, ofO, truth, partI, slcV, revV, idxV, isNew, List.replicate, cmpD, ltD, isD, binD, Option.map, if_true, if_false, Bool.false_eq_true, Bool.true_eq_false, decide_true, decide_false, List.length_cons, List.length_nil, List.append_nil, List.cons_append, List.nil_append, List.drop_nil, chg, putV, appV, tst, Bool.not_true, Bool.not_false, beq_self_eq_true, bnd, bindP, bindL, plain_s, plain_i, plain_n, plain_b, eqD_s, eqD_i, eqD_b, bAbs, bInt, bMax, bMin, bAll, bAny, Bool.and_true, Bool.true_and, Bool.and_false, Bool.false_and, Nat.sub_self, Nat.zero_add, Nat.reduceAdd, Nat.reduceSub, Nat.reduceBEq, q1], 0, hc, .inl rfl, rfl⟩
          · have q1 : ((0 : Int) < (m : Int)) := by omega
            have aM := atD_nat (l := w) (k := m) (by omega)
            by_cases e : w[k + 1]! = w[m]!
            · left
              have e' : (w[k + 1]! == w[m]!) = true := by rw [e]; exact beq_self_eq_true _
              exact ⟨[some (.shr, .str w), some (.own, .lst (natL L)), some (.shr, .int (m : Nat)), some (.shr, .int ((k + 1 : Nat) : Int))], by simp only [runF, Int.cast_ofNat_Int, blsD, List.all, id, startE, fill, cellsOf, endF, ioOf, eSs_nil, eSs_cons, eS_ret, eS_exp, eS_set, eS_setP, eS_put, eS_app, eS_ife, eS_pass, eS_brk, eS_cnt, evT, eE_cst, eE_var, eE_bin, eE_not, eE_cmp, eE_cmp2, eE_and, eE_or, eE_ite, eE_tup, eE_lst, eE_idx, eE_slc, eE_rev, eE_nil, eE_call, eE_calli, eE_bi, eE_me, eE_lrg1, eE_isi, pk, evEs, evPs, evRs, rdE, rdP, rdL, get, put, sto, stoL, bind_ok, M.bind, callN, callIo, retE, fin, finS, finB, biD, bLen, lenD, ofO, truth, partI, slcV, revV, idxV, isNew, List.replicate, cmpD, ltD, isD, binD, Option.map, if_true, if_false, Bool.false_eq_true, Bool.true_eq_false, decide_true, decide_false, List.length_cons, List.length_nil, List.append_nil, List.cons_append, List.nil_append, List.drop_nil, chg, putV, appV, tst, Bool.not_true, Bool.not_false, beq_self_eq_true, bnd, bindP, bindL, plain_s, plain_i, plain_n, plain_b, eqD_s, eqD_i, eqD_b, bAbs, bInt, bMax, bMin, bAll, bAny, Bool.and_true, Bool.true_and, Bool.and_false, Bool.false_and, Nat.sub_self, Nat.zero_add, Nat.reduceAdd, Nat.reduceSub, Nat.reduceBEq, q1, aK, aM, beq1, e'], m, hc, .inr e.symm, rfl⟩
            · right
              have e' : (w[k + 1]! == w[m]!) = false := beq_eq_false_iff_ne.mpr e
              have s1 : (m : Int) - 1 = ((m - 1 : Nat) : Int) := by omega
              have aL := natL_at (l := L) (k := m - 1) (by omega)
              have hm := hLm (m - 1) (by omega)
              rw [show m - 1 + 1 = m by omega] at hm
              refine ⟨[some (.shr, .str w), some (.own, .lst (natL L)), some (.shr, .int (m : Nat)), some (.shr, .int ((k + 1 : Nat) : Int))], _, L[m - 1]!, by simp only [runF, Int.cast_ofNat_Int, blsD, List.all, id, startE, fill, cellsOf, endF, ioOf, eSs_nil, eSs_cons, eS_ret, eS_exp, eS_set, eS_setP, eS_put, eS_app, eS_ife, eS_pass, eS_brk, eS_cnt, evT, eE_cst, eE_var, eE_bin, eE_not, eE_cmp, eE_cmp2, eE_and, eE_or, eE_ite, eE_tup, eE_lst, eE_idx, eE_slc, eE_rev, eE_nil, eE_call, eE_calli, eE_bi, eE_me, eE_lrg1, eE_isi, pk, evEs, evPs, evRs, rdE, rdP, rdL, get, put, sto, stoL, bind_ok, M.bind, callN, callIo, retE, fin, finS, finB, biD, bLen, lenD, ofO, truth, partI, slcV, revV, idxV, isNew, List.replicate, cmpD, ltD, isD, binD, Option.map, if_true, if_false, Bool.false_eq_true, Bool.true_eq_false, decide_true, decide_false, List.length_cons, List.length_nil, List.append_nil, List.cons_append, List.nil_append, List.drop_nil, chg, putV, appV, tst, Bool.not_true, Bool.not_false, beq_self_eq_true, bnd, bindP, bindL, plain_s, plain_i, plain_n, plain_b, eqD_s, eqD_i, eqD_b, bAbs, bInt, bMax, bMin, bAll, bAny, Bool.and_true, Bool.true_and, Bool.and_false, Bool.false_and, Nat.sub_self, Nat.zero_add, Nat.reduceAdd, Nat.reduceSub, Nat.reduceBEq, q1, aK, aM, beq1, e'], ?_, hm.bo.1, L[m - 1]!, rfl, cand_down hc (fun e2 => e e2.symm) hm, rfl⟩
              simp only [runF, Int.cast_ofNat_Int, blsD, List.all, id, startE, fill, cellsOf, endF, ioOf, eSs_nil, eSs_cons, eS_ret, eS_exp, eS_set, eS_setP, eS_put, eS_app, eS_ife, eS_pass, eS_brk, eS_cnt, evT, eE_cst, eE_var, eE_bin, eE_not, eE_cmp, eE_cmp2, eE_and, eE_or, eE_ite, eE_tup, eE_lst, eE_idx, eE_slc, eE_rev, eE_nil, eE_call, eE_calli, eE_bi, eE_me, eE_lrg1, eE_isi, pk, evEs, evPs, evRs, rdE, rdP, rdL, get, put, sto, stoL, bind_ok, M.bind, callN, callIo, retE, fin, finS, finB, biD, bLen, lenD, ofO, truth, partI, slcV, revV, idxV, isNew, List.replicate, cmpD, ltD, isD, binD, Option.map, if_true, if_false, Bool.false_eq_true, Bool.true_eq_false, decide_true, decide_false, List.length_cons, List.length_nil, List.append_nil, List.cons_append, List.nil_append, List.drop_nil, chg, putV, appV, tst, Bool.not_true, Bool.not_false, beq_self_eq_true, bnd, bindP, bindL, plain_s, plain_i, plain_n, plain_b, eqD_s, eqD_i, eqD_b, bAbs, bInt, bMax, bMin, bAll, bAny, Bool.and_true, Bool.true_and, Bool.and_false, Bool.false_and, Nat.sub_self, Nat.zero_add, Nat.reduceAdd, Nat.reduceSub, Nat.reduceBEq, s1, aL]) T.N b _ (by have := hR.hN; omega) ⟨b, rfl, cand_start hb, rfl⟩
      have hhlt := hc.bo.1
      have aH := atD_nat (l := w) (k := h) (by omega)
      have hF : evS (clOf T d) (.whl (.and (.cmp .gt (.var 2) (.cst (.int 0))) (.cmp .ne (.idx (.var 0) (.var 3)) (.idx (.var 0) (.var 2)))) [(.set 2 (.idx (.var 1) (.bin .sub (.var 2) (.cst (.int 1)))))]) [some (.shr, .str w), some (.own, .lst (natL L)), some (.shr, .int (b : Nat)), some (.shr, .int ((k + 1 : Nat) : Int))] = .ok .nx [some (.shr, .str w), some (.own, .lst (natL L)), some (.shr, .int (h : Nat)), some (.shr, .int ((k + 1 : Nat) : Int))] := by
        rw [eS_whl, clN]; exact W
      have key : ∃ b', IsMax (fnL w) (k + 2) b' ∧ evE (clOf T d) (.ite (.cmp .eq (.idx (.var 0) (.var 3)) (.idx (.var 0) (.var 2))) (.bin .add (.var 2) (.cst (.int 1))) (.cst (.int 0))) [some (.shr, .str w), some (.own, .lst (natL L)), some (.shr, .int (h : Nat)), some (.shr, .int ((k + 1 : Nat) : Int))] = .ok (false, .int (b' : Nat)) [some (.shr, .str w), some (.own, .lst (natL L)), some (.shr, .int (h : Nat)), some (.shr, .int ((k + 1 : Nat) : Int))] := by
        by_cases e : fnL w h = fnL w (k + 1)
        · have e' : (w[k + 1]! == w[h]!) = true := beq_iff_eq.mpr e.symm
          have s1 : (h : Int) + 1 = ((h + 1 : Nat) : Int) := rfl
          exact ⟨h + 1, cand_hit hc e, by simp only [runF, Int.cast_ofNat_Int, blsD, List.all, id, startE, fill, cellsOf, endF, ioOf, eSs_nil, eSs_cons, eS_ret, eS_exp, eS_set, eS_setP, eS_put, eS_app, eS_ife, eS_pass, eS_brk, eS_cnt, evT, eE_cst, eE_var, eE_bin, eE_not, eE_cmp, eE_cmp2, eE_and, eE_or, eE_ite, eE_tup, eE_lst, eE_idx, eE_slc, eE_rev, eE_nil, eE_call, eE_calli, eE_bi, eE_me, eE_lrg1, eE_isi, pk, evEs, evPs, evRs, rdE, rdP, rdL, get, put, sto, stoL, bind_ok, M.bind, callN, callIo, retE, fin, finS, finB, biD, bLen, lenD, ofO, truth, partI, slcV, revV, idxV, isNew, List.replicate, cmpD, ltD, isD, binD, Option.map, if_true, if_false, Bool.false_eq_true, Bool.true_eq_false, decide_true, decide_false, List.length_cons, List.length_nil, List.append_nil, List.cons_append, List.nil_append, List.drop_nil, chg, putV, appV, tst, Bool.not_true, Bool.not_false, beq_self_eq_true, bnd, bindP, bindL, plain_s, plain_i, plain_n, plain_b, eqD_s, eqD_i, eqD_b, bAbs, bInt, bMax, bMin, bAll, bAny, Bool.and_true, Bool.true_and, Bool.and_false, Bool.false_and, Nat.sub_self, Nat.zero_add, Nat.reduceAdd, Nat.reduceSub, Nat.reduceBEq, aK, aH, beq1, e', s1]⟩
        · have e' : (w[k + 1]! == w[h]!) = false := beq_eq_false_iff_ne.mpr fun e2 => e e2.symm
          have h0 : h = 0 := by rcases hh with h0 | h0; exact h0; exact absurd h0 e
          exact ⟨0, by rw [h0] at hc e; exact cand_miss hc e, by simp only [runF, Int.cast_ofNat_Int, blsD, List.all, id, startE, fill, cellsOf, endF, ioOf, eSs_nil, eSs_cons, eS_ret, eS_exp, eS_set, eS_setP, eS_put, eS_app, eS_ife, eS_pass, eS_brk, eS_cnt, evT, eE_cst, eE_var, eE_bin, eE_not, eE_cmp, eE_cmp2, eE_and, eE_or, eE_ite, eE_tup, eE_lst, eE_idx, eE_slc, eE_rev, eE_nil, eE_call, eE_calli, eE_bi, eE_me, eE_lrg1, eE_isi, pk, evEs, evPs, evRs, rdE, rdP, rdL, get, put, sto, stoL, bind_ok, M.bind, callN, callIo, retE, fin, finS, finB, biD, bLen, lenD, ofO, truth, partI, slcV, revV, idxV, isNew, List.replicate, cmpD, ltD, isD, binD, Option.map, if_true, if_false, Bool.false_eq_true, Bool.true_eq_false, decide_true, decide_false, List.length_cons, List.length_nil, List.append_nil, List.cons_append, List.nil_append, List.drop_nil, chg, putV, appV, tst, Bool.not_true, Bool.not_false, beq_self_eq_true, bnd, bindP, bindL, plain_s, plain_i, plain_n, plain_b, eqD_s, eqD_i, eqD_b, bAbs, bInt, bMax, bMin, bAll, bAny, Bool.and_true, Bool.true_and, Bool.and_false, Bool.false_and, Nat.sub_self, Nat.zero_add, Nat.reduceAdd, Nat.reduceSub, Nat.reduceBEq, aK, aH, beq1, e']⟩
      obtain ⟨b', hb', hE⟩ := key
      have blt : Nat.blt L.length sz = true := by
        have : L.length < sz := by unfold sz; omega
        exact Nat.blt_eq.mpr this
      have app : natL L ++ [D.int (b' : Nat)] = natL (L ++ [b']) := by unfold natL; rw [List.map_append]; rfl
      refine ⟨_, ?_, L ++ [b'], b', some (.shr, .int ((k + 1 : Nat) : Int)), by rw [List.length_append, hL]; rfl, ?_, hb', rfl⟩
      · simp only [runF, Int.cast_ofNat_Int, blsD, List.all, id, startE, fill, cellsOf, endF, ioOf, eSs_nil, eSs_cons, eS_ret, eS_exp, eS_set, eS_setP, eS_put, eS_app, eS_ife, eS_pass, eS_brk, eS_cnt, evT, eE_cst, eE_var, eE_bin, eE_not, eE_cmp, eE_cmp2, eE_and, eE_or, eE_ite, eE_tup, eE_lst, eE_idx, eE_slc, eE_rev, eE_nil, eE_call, eE_calli, eE_bi, eE_me, eE_lrg1, eE_isi, pk, evEs, evPs, evRs, rdE, rdP, rdL, get, put, sto, stoL, bind_ok, M.bind, callN, callIo, retE, fin, finS, finB, biD, bLen, lenD, ofO, truth, partI, slcV, revV, idxV, isNew, List.replicate, cmpD, ltD, isD, binD, Option.map, if_true, if_false, Bool.false_eq_true, Bool.true_eq_false, decide_true, decide_false, List.length_cons, List.length_nil, List.append_nil, List.cons_append, List.nil_append, List.drop_nil, chg, putV, appV, tst, Bool.not_true, Bool.not_false, beq_self_eq_true, bnd, bindP, bindL, plain_s, plain_i, plain_n, plain_b, eqD_s, eqD_i, eqD_b, bAbs, bInt, bMax, bMin, bAll, bAny, Bool.and_true, Bool.true_and, Bool.and_false, Bool.false_and, Nat.sub_self, Nat.zero_add, Nat.reduceAdd, Nat.reduceSub, Nat.reduceBEq, hF, hE, natL_len, blt, app]
      · intro j hj
        by_cases q : j < k + 1
        · have e1 : (L ++ [b'])[j]! = L[j]! := app_get (by omega)
          rw [e1]; exact hLm j q
        · have : j = k + 1 := by omega
          subst this
          have e1 : (L ++ [b'])[0 + L.length]! = b' := by rw [app_get2 (by simp)]; rfl
          rw [hL, Nat.zero_add] at e1
          rw [e1]; exact hb') ⟨[0], 0, none, rfl, by
        intro j hj
        have : j = 0 := by omega
        subst this
        exact isMax_one _, isMax_one _, rfl⟩
  have hlen : (rngL (1 : Nat) w.length 1).length + 1 = w.length := by rw [rngL_map2, List.length_map, List.length_range']; omega
  rw [hlen] at hL hLm hb
  have hm := hLm (w.length - 1) (by omega)
  rw [show w.length - 1 + 1 = w.length by omega] at hm
  refine ⟨_, hm, ?_⟩
  have hF := for_ok (C := clOf T d) (p := .nm 3) (it := .rng2 (.cst (.int 1)) (.bi .len [(.var 0)])) (ρ := [some (.shr, .str w), some (.own, .lst (natL [0])), some (.shr, .int (0 : Nat)), none]) (ρ1 := [some (.shr, .str w), some (.own, .lst (natL [0])), some (.shr, .int (0 : Nat)), none]) (rng2_it (a := 1) (b := w.length) (s := false) (t := false) (ρ1 := [some (.shr, .str w), some (.own, .lst (natL [0])), some (.shr, .int (0 : Nat)), none]) (by simp only [runF, Int.cast_ofNat_Int, blsD, List.all, id, startE, fill, cellsOf, endF, ioOf, eSs_nil, eSs_cons, eS_ret, eS_exp, eS_set, eS_setP, eS_put, eS_app, eS_ife, eS_pass, eS_brk, eS_cnt, evT, eE_cst, eE_var, eE_bin, eE_not, eE_cmp, eE_cmp2, eE_and, eE_or, eE_ite, eE_tup, eE_lst, eE_idx, eE_slc, eE_rev, eE_nil, eE_call, eE_calli, eE_bi, eE_me, eE_lrg1, eE_isi, pk, evEs, evPs, evRs, rdE, rdP, rdL, get, put, sto, stoL, bind_ok, M.bind, callN, callIo, retE, fin, finS, finB, biD, bLen, lenD, ofO, truth, partI, slcV, revV, idxV, isNew, List.replicate, cmpD, ltD, isD, binD, Option.map, if_true, if_false, Bool.false_eq_true, Bool.true_eq_false, decide_true, decide_false, List.length_cons, List.length_nil, List.append_nil, List.cons_append, List.nil_append, List.drop_nil, chg, putV, appV, tst, Bool.not_true, Bool.not_false, beq_self_eq_true, bnd, bindP, bindL, plain_s, plain_i, plain_n, plain_b, eqD_s, eqD_i, eqD_b, bAbs, bInt, bMax, bMin, bAll, bAny, Bool.and_true, Bool.true_and, Bool.and_false, Bool.false_and, Nat.sub_self, Nat.zero_add, Nat.reduceAdd, Nat.reduceSub, Nat.reduceBEq]) (by simp only [runF, Int.cast_ofNat_Int, blsD, List.all, id, startE, fill, cellsOf, endF, ioOf, eSs_nil, eSs_cons, eS_ret, eS_exp, eS_set, eS_setP, eS_put, eS_app, eS_ife, eS_pass, eS_brk, eS_cnt, evT, eE_cst, eE_var, eE_bin, eE_not, eE_cmp, eE_cmp2, eE_and, eE_or, eE_ite, eE_tup, eE_lst, eE_idx, eE_slc, eE_rev, eE_nil, eE_call, eE_calli, eE_bi, eE_me, eE_lrg1, eE_isi, pk, evEs, evPs, evRs, rdE, rdP, rdL, get, put, sto, stoL, bind_ok, M.bind, callN, callIo, retE, fin, finS, finB, biD, bLen, lenD, ofO, truth, partI, slcV, revV, idxV, isNew, List.replicate, cmpD, ltD, isD, binD, Option.map, if_true, if_false, Bool.false_eq_true, Bool.true_eq_false, decide_true, decide_false, List.length_cons, List.length_nil, List.append_nil, List.cons_append, List.nil_append, List.drop_nil, chg, putV, appV, tst, Bool.not_true, Bool.not_false, beq_self_eq_true, bnd, bindP, bindL, plain_s, plain_i, plain_n, plain_b, eqD_s, eqD_i, eqD_b, bAbs, bInt, bMax, bMin, bAll, bAny, Bool.and_true, Bool.true_and, Bool.and_false, Bool.false_and, Nat.sub_self, Nat.zero_add, Nat.reduceAdd, Nat.reduceSub, Nat.reduceBEq]) (by omega) (by omega)) L1
  have hF' : evS (clOf T d) (.fors (.nm 3) (.rng2 (.cst (.int 1)) (.bi .len [(.var 0)])) [(.whl (.and (.cmp .gt (.var 2) (.cst (.int 0))) (.cmp .ne (.idx (.var 0) (.var 3)) (.idx (.var 0) (.var 2)))) [(.set 2 (.idx (.var 1) (.bin .sub (.var 2) (.cst (.int 1)))))]), (.set 2 (.ite (.cmp .eq (.idx (.var 0) (.var 3)) (.idx (.var 0) (.var 2))) (.bin .add (.var 2) (.cst (.int 1))) (.cst (.int 0)))), (.app 1 (.var 2))]) [some (.shr, .str w), some (.own, .lst [.int 0]), some (.shr, .int 0), none] = _ := hF
  have aL := atD_last (l := L) (k := w.length - 1) (by omega)
  have hml := hm.bo.1
  have s1 : (w.length : Int) - ((L[w.length - 1]! : Nat) : Int) = ((w.length - L[w.length - 1]! : Nat) : Int) := by omega
  simp only [runF, Int.cast_ofNat_Int, blsD, List.all, id, startE, fill, cellsOf, endF, ioOf, eSs_nil, eSs_cons, eS_ret, eS_exp, eS_set, eS_setP, eS_put, eS_app, eS_ife, eS_pass, eS_brk, eS_cnt, evT, eE_cst, eE_var, eE_bin, eE_not, eE_cmp, eE_cmp2, eE_and, eE_or, eE_ite, eE_tup, eE_lst, eE_idx, eE_slc, eE_rev, eE_nil, eE_call, eE_calli, eE_bi, eE_me, eE_lrg1, eE_isi, pk, evEs, evPs, evRs, rdE, rdP, rdL, get, put, sto, stoL, bind_ok, M.bind, callN, callIo, retE, fin, finS, finB, biD, bLen, lenD, ofO, truth, partI, slcV, revV, idxV, isNew, List.replicate, cmpD, ltD, isD, binD, Option.map, if_true, if_false, Bool.false_eq_true, Bool.true_eq_false, decide_true, decide_false, List.length_cons, List.length_nil, List.append_nil, List.cons_append, List.nil_append, List.drop_nil, chg, putV, appV, tst, Bool.not_true, Bool.not_false, beq_self_eq_true, bnd, bindP, bindL, plain_s, plain_i, plain_n, plain_b, eqD_s, eqD_i, eqD_b, bAbs, bInt, bMax, bMin, bAll, bAny, Bool.and_true, Bool.true_and, Bool.and_false, Bool.false_and, Nat.sub_self, Nat.zero_add, Nat.reduceAdd, Nat.reduceSub, Nat.reduceBEq, b523, hF', aL, s1]
theorem rootin_ok (d : Nat) {w : List Nat} (hl : w.length ≤ 1000) : (clOf T (d + 2)).run 524 [.str w] = .ok false (.str (rootN w)) none := by
  rw [run_def hR.h524]
  by_cases hw : w = []
  · subst hw
    simp only [runF, Int.cast_ofNat_Int, blsD, List.all, id, startE, fill, cellsOf, endF, ioOf, eSs_nil, eSs_cons, eS_ret, eS_exp, eS_set, eS_setP, eS_put, eS_app, eS_ife, eS_pass, eS_brk, eS_cnt, evT, eE_cst, eE_var, eE_bin, eE_not, eE_cmp, eE_cmp2, eE_and, eE_or, eE_ite, eE_tup, eE_lst, eE_idx, eE_slc, eE_rev, eE_nil, eE_call, eE_calli, eE_bi, eE_me, eE_lrg1, eE_isi, pk, evEs, evPs, evRs, rdE, rdP, rdL, get, put, sto, stoL, bind_ok, M.bind, callN, callIo, retE, fin, finS, finB, biD, bLen, lenD, ofO, truth, partI, slcV, revV, idxV, isNew, List.replicate, cmpD, ltD, isD, binD, Option.map, if_true, if_false, Bool.false_eq_true, Bool.true_eq_false, decide_true, decide_false, List.length_cons, List.length_nil, List.append_nil, List.cons_append, List.nil_append, List.drop_nil, chg, putV, appV, tst, Bool.not_true, Bool.not_false, beq_self_eq_true, bnd, bindP, bindL, plain_s, plain_i, plain_n, plain_b, eqD_s, eqD_i, eqD_b, bAbs, bInt, bMax, bMin, bAll, bAny, Bool.and_true, Bool.true_and, Bool.and_false, Bool.false_and, Nat.sub_self, Nat.zero_add, Nat.reduceAdd, Nat.reduceSub, Nat.reduceBEq, b524]; rfl
  · obtain ⟨b, hm, e⟩ := step_ok hR d hw hl
    have q : (w == []) = false := beq_eq_false_iff_ne.mpr hw
    have hb := hm.bo.1
    have z : (((w.length - b : Nat) : Int) == 0) = false := beq_eq_false_iff_ne.mpr (by omega)
    have r := root_by_step hw hm
    have fm := fmodN w.length (w.length - b)
    have c : cut w none (some ((w.length - b : Nat) : Int)) = w.take (w.length - b) := cut_toN
    by_cases h : w.length % (w.length - b) = 0
    · rw [if_pos h] at r
      have h' : (((w.length % (w.length - b) : Nat) : Int) == 0) = true := by rw [h]; rfl
      simp only [runF, Int.cast_ofNat_Int, blsD, List.all, id, startE, fill, cellsOf, endF, ioOf, eSs_nil, eSs_cons, eS_ret, eS_exp, eS_set, eS_setP, eS_put, eS_app, eS_ife, eS_pass, eS_brk, eS_cnt, evT, eE_cst, eE_var, eE_bin, eE_not, eE_cmp, eE_cmp2, eE_and, eE_or, eE_ite, eE_tup, eE_lst, eE_idx, eE_slc, eE_rev, eE_nil, eE_call, eE_calli, eE_bi, eE_me, eE_lrg1, eE_isi, pk, evEs, evPs, evRs, rdE, rdP, rdL, get, put, sto, stoL, bind_ok, M.bind, callN, callIo, retE, fin, finS, finB, biD, bLen, lenD, ofO, truth, partI, slcV, revV, idxV, isNew, List.replicate, cmpD, ltD, isD, binD, Option.map, if_true, if_false, Bool.false_eq_true, Bool.true_eq_false, decide_true, decide_false, List.length_cons, List.length_nil, List.append_nil, List.cons_append, List.nil_append, List.drop_nil, chg, putV, appV, tst, Bool.not_true, Bool.not_false, beq_self_eq_true, bnd, bindP, bindL, plain_s, plain_i, plain_n, plain_b, eqD_s, eqD_i, eqD_b, bAbs, bInt, bMax, bMin, bAll, bAny, Bool.and_true, Bool.true_and, Bool.and_false, Bool.false_and, Nat.sub_self, Nat.zero_add, Nat.reduceAdd, Nat.reduceSub, Nat.reduceBEq, b524, q, e, z, fm, h', c, r]
    · rw [if_neg h] at r
      have h' : (((w.length % (w.length - b) : Nat) : Int) == 0) = false := beq_eq_false_iff_ne.mpr (by omega)
      simp only [runF, Int.cast_ofNat_Int, blsD, List.all, id, startE, fill, cellsOf, endF, ioOf, eSs_nil, eSs_cons, eS_ret, eS_exp, eS_set, eS_setP, eS_put, eS_app, eS_ife, eS_pass, eS_brk, eS_cnt, evT, eE_cst, eE_var, eE_bin, eE_not, eE_cmp, eE_cmp2, eE_and, eE_or, eE_ite, eE_tup, eE_lst, eE_idx, eE_slc, eE_rev, eE_nil, eE_call, eE_calli, eE_bi, eE_me, eE_lrg1, eE_isi, pk, evEs, evPs, evRs, rdE, rdP, rdL, get, put, sto, stoL, bind_ok, M.bind, callN, callIo, retE, fin, finS, finB, biD, bLen, lenD, ofO, truth, partI, slcV, revV, idxV, isNew, List.replicate, cmpD, ltD, isD, binD, Option.map, if_true, if_false, Bool.false_eq_true, Bool.true_eq_false, decide_true, decide_false, List.length_cons, List.length_nil, List.append_nil, List.cons_append, List.nil_append, List.drop_nil, chg, putV, appV, tst, Bool.not_true, Bool.not_false, beq_self_eq_true, bnd, bindP, bindL, plain_s, plain_i, plain_n, plain_b, eqD_s, eqD_i, eqD_b, bAbs, bInt, bMax, bMin, bAll, bAny, Bool.and_true, Bool.true_and, Bool.and_false, Bool.false_and, Nat.sub_self, Nat.zero_add, Nat.reduceAdd, Nat.reduceSub, Nat.reduceBEq, b524, q, e, z, fm, h', r]
end
end Py

/-! The program's moves: the doors. -/
namespace Py
theorem strs_it {C : Cl} {ρ ρ1 : Env} {e : E} {l : List D} {b : Bool} (h : evE C e ρ = .ok (b, .lst l) ρ1) : (evE C e ρ).bind itI = .ok l ρ1 := by rw [h]; rfl
def strsL (ws : List (List Nat)) : List D := ws.map .str
def mvD (f : List Nat) : D → Option D
  | .str w => some (.bl (mvB f w))
  | _ => none
def neD : D → Option D
  | .str w => if w == [] then none else some (.str w)
  | _ => none
theorem fm_full (ws : List (List Nat)) : (strsL ws).filterMap neD = strsL (fullL ws) := by
  unfold strsL fullL
  exact fm_filter D.str (fun w => w != []) ws D.str neD (fun x _ => by
    show (if x == [] then none else some (D.str x)) = if x != [] then some (D.str x) else none
    cases h : x == [] with
    | true => rw [show (x != []) = false by simp [bne, h]]; rfl
    | false => rw [show (x != []) = true by simp [bne, h]]; rfl)
theorem full_len (ws : List (List Nat)) : (fullL ws).length ≤ ws.length := List.length_filter_le _ _
theorem eqD_ln : eqD (.lst []) (.lst []) = true := rfl
theorem eqD_lc {a : D} {l : List D} : eqD (.lst (a :: l)) (.lst []) = false := rfl
theorem plain_ln : plain (.lst []) = true := rfl
def blsL (l : List Bool) : List D := l.map .bl
theorem blsD_L : ∀ (l : List Bool), blsD (blsL l) = some l
  | [] => rfl
  | x :: l => by
    show (blsD (blsL l)).map (x :: ·) = _
    rw [blsD_L l]; rfl
theorem bAll_L (l : List Bool) : bAll [.lst (blsL l)] = some (.bl (l.all id)) := by
  show (blsD (blsL l)).map _ = _
  rw [blsD_L]; rfl
theorem natL_cons {a : Nat} {l : List Nat} : natL (a :: l) = .int a :: natL l := rfl
theorem natL_nil : natL [] = [] := rfl
theorem plain_natL (l : List Nat) : plain (.lst (natL l)) = true := by
  show (natL l).all (plainN 39) = true
  unfold natL
  rw [List.all_map, List.all_eq_true]
  intro x _; rfl
theorem plain_natc {a : Nat} {l : List Nat} : plain (.lst (.int a :: natL l)) = true := plain_natL (a :: l)
section
variable {T : Tb} (hR : HasR T)
include hR
theorem needR_ok (d : Nat) {w : List Nat} (hl : w.length ≤ 200) (hw : LetOk 8 w) : (clOf T (d + 3)).run 7 [.str w] = .ok false .non none := needword_ok hR.h5 hR.h6 hR.h7 d hl hw
theorem backR_ok (h26 : T.fd 26 = some b26) (d : Nat) {w : List Nat} (hl : w.length ≤ 200) (hw : LetOk 8 w) : (clOf T (d + 4)).run 26 [.str w] = .ok false (.str w.reverse) none := by
  rw [run_def h26]
  have e := needR_ok hR d hl hw
  simp only [runF, Int.cast_ofNat_Int, blsD, List.all, id, startE, fill, cellsOf, endF, ioOf, eSs_nil, eSs_cons, eS_ret, eS_exp, eS_set, eS_setP, eS_put, eS_app, eS_ife, eS_pass, eS_brk, eS_cnt, evT, eE_cst, eE_var, eE_bin, eE_not, eE_cmp, eE_cmp2, eE_and, eE_or, eE_ite, eE_tup, eE_lst, eE_idx, eE_slc, eE_rev, eE_nil, eE_call, eE_calli, eE_bi, eE_me, eE_lrg1, eE_isi, pk, evEs, evPs, evRs, rdE, rdP, rdL, get, put, sto, stoL, bind_ok, M.bind, callN, callIo, retE, fin, finS, finB, biD, bLen, lenD, ofO, truth, partI, slcV, revV, idxV, isNew, List.replicate, cmpD, ltD, isD, binD, Option.map, if_true, if_false, Bool.false_eq_true, Bool.true_eq_false, decide_true, decide_false, List.length_cons, List.length_nil, List.append_nil, List.cons_append, List.nil_append, List.drop_nil, chg, putV, appV, tst, Bool.not_true, Bool.not_false, beq_self_eq_true, bnd, bindP, bindL, plain_s, plain_i, plain_n, plain_b, eqD_s, eqD_i, eqD_b, bAbs, bInt, bMax, bMin, bAll, bAny, Bool.and_true, Bool.true_and, Bool.and_false, Bool.false_and, Nat.sub_self, Nat.zero_add, Nat.reduceAdd, Nat.reduceSub, Nat.reduceBEq, b26, e]
theorem rootof_ok (h533 : T.fd 533 = some b533) (d : Nat) {w : List Nat} (hl : w.length ≤ 200) (hw : LetOk 8 w) : (clOf T (d + 4)).run 533 [.str w] = .ok false (.str (rootN w)) none := by
  rw [run_def h533]
  have e := needR_ok hR d hl hw
  have e2 := rootin_ok hR (d + 1) (w := w) (by omega)
  simp only [runF, Int.cast_ofNat_Int, blsD, List.all, id, startE, fill, cellsOf, endF, ioOf, eSs_nil, eSs_cons, eS_ret, eS_exp, eS_set, eS_setP, eS_put, eS_app, eS_ife, eS_pass, eS_brk, eS_cnt, evT, eE_cst, eE_var, eE_bin, eE_not, eE_cmp, eE_cmp2, eE_and, eE_or, eE_ite, eE_tup, eE_lst, eE_idx, eE_slc, eE_rev, eE_nil, eE_call, eE_calli, eE_bi, eE_me, eE_lrg1, eE_isi, pk, evEs, evPs, evRs, rdE, rdP, rdL, get, put, sto, stoL, bind_ok, M.bind, callN, callIo, retE, fin, finS, finB, biD, bLen, lenD, ofO, truth, partI, slcV, revV, idxV, isNew, List.replicate, cmpD, ltD, isD, binD, Option.map, if_true, if_false, Bool.false_eq_true, Bool.true_eq_false, decide_true, decide_false, List.length_cons, List.length_nil, List.append_nil, List.cons_append, List.nil_append, List.drop_nil, chg, putV, appV, tst, Bool.not_true, Bool.not_false, beq_self_eq_true, bnd, bindP, bindL, plain_s, plain_i, plain_n, plain_b, eqD_s, eqD_i, eqD_b, bAbs, bInt, bMax, bMin, bAll, bAny, Bool.and_true, Bool.true_and, Bool.and_false, Bool.false_and, Nat.sub_self, Nat.zero_add, Nat.reduceAdd, Nat.reduceSub, Nat.reduceBEq, b533, e, e2]
theorem power_okR (h29 : T.fd 29 = some b29) (d : Nat) {w : List Nat} {k : Nat} (hl : w.length ≤ 200) (hw : LetOk 8 w) (hk : k ≤ 200) (hkl : w.length * k ≤ 200) : (clOf T (d + 4)).run 29 [.str w, .int k] = .ok false (.str (repL w k)) none := by
  rw [run_def h29]
  have e := needR_ok hR d hl hw
  have e2 := needw_ok hR.h0 hR.h1 hR.h2 d (z := k) (lo := 0) (hi := 200) (by omega) (by omega)
  have s1 : (w.length : Int) * (k : Int) = ((w.length * k : Nat) : Int) := (Int.natCast_mul _ _).symm
  have m1 : mulOk (w.length : Int) (k : Int) = true := mulOk_l (by unfold two64; omega)
  have q : ¬ ((200 : Int) < ((w.length * k : Nat) : Int)) := by omega
  have sm := small_nat (n := k) (by omega)
  have lo := lenOk_of (n := w.length * k) (by omega)
  simp only [runF, Int.cast_ofNat_Int, blsD, List.all, id, startE, fill, cellsOf, endF, ioOf, eSs_nil, eSs_cons, eS_ret, eS_exp, eS_set, eS_setP, eS_put, eS_app, eS_ife, eS_pass, eS_brk, eS_cnt, evT, eE_cst, eE_var, eE_bin, eE_not, eE_cmp, eE_cmp2, eE_and, eE_or, eE_ite, eE_tup, eE_lst, eE_idx, eE_slc, eE_rev, eE_nil, eE_call, eE_calli, eE_bi, eE_me, eE_lrg1, eE_isi, pk, evEs, evPs, evRs, rdE, rdP, rdL, get, put, sto, stoL, bind_ok, M.bind, callN, callIo, retE, fin, finS, finB, biD, bLen, lenD, ofO, truth, partI, slcV, revV, idxV, isNew, List.replicate, cmpD, ltD, isD, binD, Option.map, if_true, if_false, Bool.false_eq_true, Bool.true_eq_false, decide_true, decide_false, List.length_cons, List.length_nil, List.append_nil, List.cons_append, List.nil_append, List.drop_nil, chg, putV, appV, tst, Bool.not_true, Bool.not_false, beq_self_eq_true, bnd, bindP, bindL, plain_s, plain_i, plain_n, plain_b, eqD_s, eqD_i, eqD_b, bAbs, bInt, bMax, bMin, bAll, bAny, Bool.and_true, Bool.true_and, Bool.and_false, Bool.false_and, Nat.sub_self, Nat.zero_add, Nat.reduceAdd, Nat.reduceSub, Nat.reduceBEq, b29, e, e2, s1, m1, q, sm, lo, Int.toNat_natCast]
theorem bare_ok (h9 : T.fd 9 = some b9) (d : Nat) {w : List Nat} (hl : w.length ≤ 200) (hw : LetOk 8 w) (hne : w ≠ []) : (clOf T (d + 3)).run 9 [.str w] = .ok false .non none := by
  rw [run_def h9]
  have e := fits_ok hR.h5 hR.h6 d hl hw
  have q : (w == []) = false := beq_eq_false_iff_ne.mpr hne
  simp only [runF, Int.cast_ofNat_Int, blsD, List.all, id, startE, fill, cellsOf, endF, ioOf, eSs_nil, eSs_cons, eS_ret, eS_exp, eS_set, eS_setP, eS_put, eS_app, eS_ife, eS_pass, eS_brk, eS_cnt, evT, eE_cst, eE_var, eE_bin, eE_not, eE_cmp, eE_cmp2, eE_and, eE_or, eE_ite, eE_tup, eE_lst, eE_idx, eE_slc, eE_rev, eE_nil, eE_call, eE_calli, eE_bi, eE_me, eE_lrg1, eE_isi, pk, evEs, evPs, evRs, rdE, rdP, rdL, get, put, sto, stoL, bind_ok, M.bind, callN, callIo, retE, fin, finS, finB, biD, bLen, lenD, ofO, truth, partI, slcV, revV, idxV, isNew, List.replicate, cmpD, ltD, isD, binD, Option.map, if_true, if_false, Bool.false_eq_true, Bool.true_eq_false, decide_true, decide_false, List.length_cons, List.length_nil, List.append_nil, List.cons_append, List.nil_append, List.drop_nil, chg, putV, appV, tst, Bool.not_true, Bool.not_false, beq_self_eq_true, bnd, bindP, bindL, plain_s, plain_i, plain_n, plain_b, eqD_s, eqD_i, eqD_b, bAbs, bInt, bMax, bMin, bAll, bAny, Bool.and_true, Bool.true_and, Bool.and_false, Bool.false_and, Nat.sub_self, Nat.zero_add, Nat.reduceAdd, Nat.reduceSub, Nat.reduceBEq, b9, e, q]
omit hR in
theorem moves_ok (h388 : T.fd 388 = some b388) (d : Nat) {x y : List Nat} (hx : x.length ≤ 1000) (hy : y.length ≤ 1000) : (clOf T (d + 1)).run 388 [.str x, .str y] = .ok false (.bl (mvB x y)) none := by
  rw [run_def h388]
  have l1 := lenOk_of (n := x.length + y.length) (by omega)
  have l2 := lenOk_of (n := y.length + x.length) (by omega)
  simp only [runF, Int.cast_ofNat_Int, blsD, List.all, id, startE, fill, cellsOf, endF, ioOf, eSs_nil, eSs_cons, eS_ret, eS_exp, eS_set, eS_setP, eS_put, eS_app, eS_ife, eS_pass, eS_brk, eS_cnt, evT, eE_cst, eE_var, eE_bin, eE_not, eE_cmp, eE_cmp2, eE_and, eE_or, eE_ite, eE_tup, eE_lst, eE_idx, eE_slc, eE_rev, eE_nil, eE_call, eE_calli, eE_bi, eE_me, eE_lrg1, eE_isi, pk, evEs, evPs, evRs, rdE, rdP, rdL, get, put, sto, stoL, bind_ok, M.bind, callN, callIo, retE, fin, finS, finB, biD, bLen, lenD, ofO, truth, partI, slcV, revV, idxV, isNew, List.replicate, cmpD, ltD, isD, binD, Option.map, if_true, if_false, Bool.false_eq_true, Bool.true_eq_false, decide_true, decide_false, List.length_cons, List.length_nil, List.append_nil, List.cons_append, List.nil_append, List.drop_nil, chg, putV, appV, tst, Bool.not_true, Bool.not_false, beq_self_eq_true, bnd, bindP, bindL, plain_s, plain_i, plain_n, plain_b, eqD_s, eqD_i, eqD_b, bAbs, bInt, bMax, bMin, bAll, bAny, Bool.and_true, Bool.true_and, Bool.and_false, Bool.false_and, Nat.sub_self, Nat.zero_add, Nat.reduceAdd, Nat.reduceSub, Nat.reduceBEq, b388, l1, l2, comm_dec]
theorem words2_ok (h8 : T.fd 8 = some b8) (d : Nat) {x y : List Nat} (hx : x.length ≤ 200) (hxL : LetOk 8 x) (hy : y.length ≤ 200) (hyL : LetOk 8 y) : (clOf T (d + 4)).run 8 [.str x, .str y] = .ok false .non none := by
  rw [run_def h8]
  have e := needR_ok hR d hx hxL
  have e2 := needR_ok hR d hy hyL
  simp only [runF, Int.cast_ofNat_Int, blsD, List.all, id, startE, fill, cellsOf, endF, ioOf, eSs_nil, eSs_cons, eS_ret, eS_exp, eS_set, eS_setP, eS_put, eS_app, eS_ife, eS_pass, eS_brk, eS_cnt, evT, eE_cst, eE_var, eE_bin, eE_not, eE_cmp, eE_cmp2, eE_and, eE_or, eE_ite, eE_tup, eE_lst, eE_idx, eE_slc, eE_rev, eE_nil, eE_call, eE_calli, eE_bi, eE_me, eE_lrg1, eE_isi, pk, evEs, evPs, evRs, rdE, rdP, rdL, get, put, sto, stoL, bind_ok, M.bind, callN, callIo, retE, fin, finS, finB, biD, bLen, lenD, ofO, truth, partI, slcV, revV, idxV, isNew, List.replicate, cmpD, ltD, isD, binD, Option.map, if_true, if_false, Bool.false_eq_true, Bool.true_eq_false, decide_true, decide_false, List.length_cons, List.length_nil, List.append_nil, List.cons_append, List.nil_append, List.drop_nil, chg, putV, appV, tst, Bool.not_true, Bool.not_false, beq_self_eq_true, bnd, bindP, bindL, plain_s, plain_i, plain_n, plain_b, eqD_s, eqD_i, eqD_b, bAbs, bInt, bMax, bMin, bAll, bAny, Bool.and_true, Bool.true_and, Bool.and_false, Bool.false_and, Nat.sub_self, Nat.zero_add, Nat.reduceAdd, Nat.reduceSub, Nat.reduceBEq, b8, e, e2]
theorem movepast_ok (h8 : T.fd 8 = some b8) (h388 : T.fd 388 = some b388) (h397 : T.fd 397 = some b397) (d : Nat) {x y : List Nat} (hx : x.length ≤ 200) (hxL : LetOk 8 x) (hy : y.length ≤ 200) (hyL : LetOk 8 y) : (clOf T (d + 5)).run 397 [.str x, .str y] = .ok false (.bl (mvB x y)) none := by
  rw [run_def h397]
  have e := words2_ok hR h8 d hx hxL hy hyL
  have e2 := moves_ok (T := T) h388 (d + 3) (x := x) (y := y) (by omega) (by omega)
  simp only [runF, Int.cast_ofNat_Int, blsD, List.all, id, startE, fill, cellsOf, endF, ioOf, eSs_nil, eSs_cons, eS_ret, eS_exp, eS_set, eS_setP, eS_put, eS_app, eS_ife, eS_pass, eS_brk, eS_cnt, evT, eE_cst, eE_var, eE_bin, eE_not, eE_cmp, eE_cmp2, eE_and, eE_or, eE_ite, eE_tup, eE_lst, eE_idx, eE_slc, eE_rev, eE_nil, eE_call, eE_calli, eE_bi, eE_me, eE_lrg1, eE_isi, pk, evEs, evPs, evRs, rdE, rdP, rdL, get, put, sto, stoL, bind_ok, M.bind, callN, callIo, retE, fin, finS, finB, biD, bLen, lenD, ofO, truth, partI, slcV, revV, idxV, isNew, List.replicate, cmpD, ltD, isD, binD, Option.map, if_true, if_false, Bool.false_eq_true, Bool.true_eq_false, decide_true, decide_false, List.length_cons, List.length_nil, List.append_nil, List.cons_append, List.nil_append, List.drop_nil, chg, putV, appV, tst, Bool.not_true, Bool.not_false, beq_self_eq_true, bnd, bindP, bindL, plain_s, plain_i, plain_n, plain_b, eqD_s, eqD_i, eqD_b, bAbs, bInt, bMax, bMin, bAll, bAny, Bool.and_true, Bool.true_and, Bool.and_false, Bool.false_and, Nat.sub_self, Nat.zero_add, Nat.reduceAdd, Nat.reduceSub, Nat.reduceBEq, b397, e, e2]
def unD (u v : List Nat) : D → Option D
  | .int k => if u[k.toNat]! != v[k.toNat]! then some (.int k) else none
  | _ => none
omit hR in
theorem unlike_len (u v : List Nat) : (unlike u v).length ≤ u.length := by
  unfold unlike
  have := List.length_filter_le (fun i => u[i]! != v[i]!) (List.range u.length)
  rw [List.length_range] at this
  exact this
omit hR in
theorem unlike_fm (u v : List Nat) : (rngL 0 u.length 1).filterMap (unD u v) = natL (unlike u v) := by
  rw [rngL_map, fm_filter (fun (k : Nat) => D.int k) (fun i => u[i]! != v[i]!) (List.range u.length) (fun (k : Nat) => D.int k) _ (fun x _ => rfl)]
  rfl
omit hR in
theorem break_ok (h389 : T.fd 389 = some b389) (d : Nat) {x y : List Nat} (hx : x.length ≤ 1000) (hy : y.length ≤ 1000) : (clOf T (d + 1)).run 389 [.str x, .str y] = .ok false (optN (unlike (x ++ y) (y ++ x)).head?) none := by
  rw [run_def h389]
  have l1 := lenOk_of (n := x.length + y.length) (by omega)
  have l2 := lenOk_of (n := y.length + x.length) (by omega)
  have W : evE (clOf T d) (.comp [5] (.nm 5) (.rng1 (.bi .len [(.var 2)])) (.cmp .ne (.idx (.var 2) (.var 5)) (.idx (.var 3) (.var 5))) (.var 5)) [some (.shr, .str x), some (.shr, .str y), some (.shr, .str (x ++ y)), some (.shr, .str (y ++ x)), none, none] = .ok (true, .lst (natL (unlike (x ++ y) (y ++ x)))) [some (.shr, .str x), some (.shr, .str y), some (.shr, .str (x ++ y)), some (.shr, .str (y ++ x)), none, none] := by
    rw [comp_ok (ρ1 := [some (.shr, .str x), some (.shr, .str y), some (.shr, .str (x ++ y)), some (.shr, .str (y ++ x)), none, none]) (ds := rngL 0 (x ++ y).length 1) (fun ρ => ∃ t, ρ = [some (.shr, .str x), some (.shr, .str y), some (.shr, .str (x ++ y)), some (.shr, .str (y ++ x)), none, t]) (unD (x ++ y) (y ++ x))
      (rng_it (n := (x ++ y).length) (b := false) (by simp only [runF, Int.cast_ofNat_Int, blsD, List.all, id, startE, fill, cellsOf, endF, ioOf, eSs_nil, eSs_cons, eS_ret, eS_exp, eS_set, eS_setP, eS_put, eS_app, eS_ife, eS_pass, eS_brk, eS_cnt, evT, eE_cst, eE_var, eE_bin, eE_not, eE_cmp, eE_cmp2, eE_and, eE_or, eE_ite, eE_tup, eE_lst, eE_idx, eE_slc, eE_rev, eE_nil, eE_call, eE_calli, eE_bi, eE_me, eE_lrg1, eE_isi, pk, evEs, evPs, evRs, rdE, rdP, rdL, get, put, sto, stoL, bind_ok, M.bind, callN, callIo, retE, fin, finS, finB, biD, bLen, lenD, ofO, truth, partI, slcV, revV, idxV, isNew, List.replicate, cmpD, ltD, isD, binD, Option.map, if_true, if_false, Bool.false_eq_true, Bool.true_eq_false, decide_true, decide_false, List.length_cons, List.length_nil, List.append_nil, List.cons_append, List.nil_append, List.drop_nil, chg, putV, appV, tst, Bool.not_true, Bool.not_false, beq_self_eq_true, bnd, bindP, bindL, plain_s, plain_i, plain_n, plain_b, eqD_s, eqD_i, eqD_b, bAbs, bInt, bMax, bMin, bAll, bAny, Bool.and_true, Bool.true_and, Bool.and_false, Bool.false_and, Nat.sub_self, Nat.zero_add, Nat.reduceAdd, Nat.reduceSub, Nat.reduceBEq]) (by rw [List.length_append]; omega)) ⟨_, rfl⟩ (by
        rintro z hz ρ ⟨t, rfl⟩
        rw [rngL_map] at hz
        obtain ⟨k, hk, rfl⟩ := List.mem_map.mp hz
        have hk := List.mem_range.mp hk
        have a1 := atD_nat (l := x ++ y) (k := k) hk
        have a2 := atD_nat (l := y ++ x) (k := k) (by rw [List.length_append] at hk ⊢; omega)
        refine ⟨_, ?_, some (.shr, .int k), rfl⟩
        by_cases q : (x ++ y)[k]! = (y ++ x)[k]!
        · have q1 : ((x ++ y)[k]! == (y ++ x)[k]!) = true := by rw [q]; exact beq_self_eq_true _
          have q2 : ((x ++ y)[k]! != (y ++ x)[k]!) = false := by simp only [bne, q1]; rfl
          simp only [runF, Int.cast_ofNat_Int, blsD, List.all, id, startE, fill, cellsOf, endF, ioOf, eSs_nil, eSs_cons, eS_ret, eS_exp, eS_set, eS_setP, eS_put, eS_app, eS_ife, eS_pass, eS_brk, eS_cnt, evT, eE_cst, eE_var, eE_bin, eE_not, eE_cmp, eE_cmp2, eE_and, eE_or, eE_ite, eE_tup, eE_lst, eE_idx, eE_slc, eE_rev, eE_nil, eE_call, eE_calli, eE_bi, eE_me, eE_lrg1, eE_isi, pk, evEs, evPs, evRs, rdE, rdP, rdL, get, put, sto, stoL, bind_ok, M.bind, callN, callIo, retE, fin, finS, finB, biD, bLen, lenD, ofO, truth, partI, slcV, revV, idxV, isNew, List.replicate, cmpD, ltD, isD, binD, Option.map, if_true, if_false, Bool.false_eq_true, Bool.true_eq_false, decide_true, decide_false, List.length_cons, List.length_nil, List.append_nil, List.cons_append, List.nil_append, List.drop_nil, chg, putV, appV, tst, Bool.not_true, Bool.not_false, beq_self_eq_true, bnd, bindP, bindL, plain_s, plain_i, plain_n, plain_b, eqD_s, eqD_i, eqD_b, bAbs, bInt, bMax, bMin, bAll, bAny, Bool.and_true, Bool.true_and, Bool.and_false, Bool.false_and, Nat.sub_self, Nat.zero_add, Nat.reduceAdd, Nat.reduceSub, Nat.reduceBEq, clr, unD, a1, a2, beq1, q1, q2, Int.toNat_natCast]
        · have q1 : ((x ++ y)[k]! == (y ++ x)[k]!) = false := beq_eq_false_iff_ne.mpr q
          have q2 : ((x ++ y)[k]! != (y ++ x)[k]!) = true := by simp only [bne, q1]; rfl
          simp only [runF, Int.cast_ofNat_Int, blsD, List.all, id, startE, fill, cellsOf, endF, ioOf, eSs_nil, eSs_cons, eS_ret, eS_exp, eS_set, eS_setP, eS_put, eS_app, eS_ife, eS_pass, eS_brk, eS_cnt, evT, eE_cst, eE_var, eE_bin, eE_not, eE_cmp, eE_cmp2, eE_and, eE_or, eE_ite, eE_tup, eE_lst, eE_idx, eE_slc, eE_rev, eE_nil, eE_call, eE_calli, eE_bi, eE_me, eE_lrg1, eE_isi, pk, evEs, evPs, evRs, rdE, rdP, rdL, get, put, sto, stoL, bind_ok, M.bind, callN, callIo, retE, fin, finS, finB, biD, bLen, lenD, ofO, truth, partI, slcV, revV, idxV, isNew, List.replicate, cmpD, ltD, isD, binD, Option.map, if_true, if_false, Bool.false_eq_true, Bool.true_eq_false, decide_true, decide_false, List.length_cons, List.length_nil, List.append_nil, List.cons_append, List.nil_append, List.drop_nil, chg, putV, appV, tst, Bool.not_true, Bool.not_false, beq_self_eq_true, bnd, bindP, bindL, plain_s, plain_i, plain_n, plain_b, eqD_s, eqD_i, eqD_b, bAbs, bInt, bMax, bMin, bAll, bAny, Bool.and_true, Bool.true_and, Bool.and_false, Bool.false_and, Nat.sub_self, Nat.zero_add, Nat.reduceAdd, Nat.reduceSub, Nat.reduceBEq, clr, unD, a1, a2, beq1, q1, q2, Int.toNat_natCast]) (by rintro ρ ⟨t, rfl⟩; rfl) rfl (lenOk_of (by rw [rngL_len, Int.toNat_natCast, List.length_append]; omega))]
    rw [unlike_fm]
  cases hu : unlike (x ++ y) (y ++ x) with
  | nil =>
    rw [hu, natL_nil] at W
    simp only [runF, Int.cast_ofNat_Int, blsD, List.all, id, startE, fill, cellsOf, endF, ioOf, eSs_nil, eSs_cons, eS_ret, eS_exp, eS_set, eS_setP, eS_put, eS_app, eS_ife, eS_pass, eS_brk, eS_cnt, evT, eE_cst, eE_var, eE_bin, eE_not, eE_cmp, eE_cmp2, eE_and, eE_or, eE_ite, eE_tup, eE_lst, eE_idx, eE_slc, eE_rev, eE_nil, eE_call, eE_calli, eE_bi, eE_me, eE_lrg1, eE_isi, pk, evEs, evPs, evRs, rdE, rdP, rdL, get, put, sto, stoL, bind_ok, M.bind, callN, callIo, retE, fin, finS, finB, biD, bLen, lenD, ofO, truth, partI, slcV, revV, idxV, isNew, List.replicate, cmpD, ltD, isD, binD, Option.map, if_true, if_false, Bool.false_eq_true, Bool.true_eq_false, decide_true, decide_false, List.length_cons, List.length_nil, List.append_nil, List.cons_append, List.nil_append, List.drop_nil, chg, putV, appV, tst, Bool.not_true, Bool.not_false, beq_self_eq_true, bnd, bindP, bindL, plain_s, plain_i, plain_n, plain_b, eqD_s, eqD_i, eqD_b, bAbs, bInt, bMax, bMin, bAll, bAny, Bool.and_true, Bool.true_and, Bool.and_false, Bool.false_and, Nat.sub_self, Nat.zero_add, Nat.reduceAdd, Nat.reduceSub, Nat.reduceBEq, b389, l1, l2, W, plain_ln, eqD_ln, List.head?_nil, optN]
  | cons a l =>
    rw [hu, natL_cons] at W
    simp only [runF, Int.cast_ofNat_Int, blsD, List.all, id, startE, fill, cellsOf, endF, ioOf, eSs_nil, eSs_cons, eS_ret, eS_exp, eS_set, eS_setP, eS_put, eS_app, eS_ife, eS_pass, eS_brk, eS_cnt, evT, eE_cst, eE_var, eE_bin, eE_not, eE_cmp, eE_cmp2, eE_and, eE_or, eE_ite, eE_tup, eE_lst, eE_idx, eE_slc, eE_rev, eE_nil, eE_call, eE_calli, eE_bi, eE_me, eE_lrg1, eE_isi, pk, evEs, evPs, evRs, rdE, rdP, rdL, get, put, sto, stoL, bind_ok, M.bind, callN, callIo, retE, fin, finS, finB, biD, bLen, lenD, ofO, truth, partI, slcV, revV, idxV, isNew, List.replicate, cmpD, ltD, isD, binD, Option.map, if_true, if_false, Bool.false_eq_true, Bool.true_eq_false, decide_true, decide_false, List.length_cons, List.length_nil, List.append_nil, List.cons_append, List.nil_append, List.drop_nil, chg, putV, appV, tst, Bool.not_true, Bool.not_false, beq_self_eq_true, bnd, bindP, bindL, plain_s, plain_i, plain_n, plain_b, eqD_s, eqD_i, eqD_b, bAbs, bInt, bMax, bMin, bAll, bAny, Bool.and_true, Bool.true_and, Bool.and_false, Bool.false_and, Nat.sub_self, Nat.zero_add, Nat.reduceAdd, Nat.reduceSub, Nat.reduceBEq, b389, l1, l2, W, plain_ln, plain_natc, eqD_lc, atD_zero, List.head?_cons, optN]
theorem movebreak_ok (h8 : T.fd 8 = some b8) (h389 : T.fd 389 = some b389) (h398 : T.fd 398 = some b398) (d : Nat) {x y : List Nat} (hx : x.length ≤ 200) (hxL : LetOk 8 x) (hy : y.length ≤ 200) (hyL : LetOk 8 y) : (clOf T (d + 5)).run 398 [.str x, .str y] = .ok false (optN (unlike (x ++ y) (y ++ x)).head?) none := by
  rw [run_def h398]
  have e := words2_ok hR h8 d hx hxL hy hyL
  have e2 := break_ok (T := T) h389 (d + 3) (x := x) (y := y) (by omega) (by omega)
  simp only [runF, Int.cast_ofNat_Int, blsD, List.all, id, startE, fill, cellsOf, endF, ioOf, eSs_nil, eSs_cons, eS_ret, eS_exp, eS_set, eS_setP, eS_put, eS_app, eS_ife, eS_pass, eS_brk, eS_cnt, evT, eE_cst, eE_var, eE_bin, eE_not, eE_cmp, eE_cmp2, eE_and, eE_or, eE_ite, eE_tup, eE_lst, eE_idx, eE_slc, eE_rev, eE_nil, eE_call, eE_calli, eE_bi, eE_me, eE_lrg1, eE_isi, pk, evEs, evPs, evRs, rdE, rdP, rdL, get, put, sto, stoL, bind_ok, M.bind, callN, callIo, retE, fin, finS, finB, biD, bLen, lenD, ofO, truth, partI, slcV, revV, idxV, isNew, List.replicate, cmpD, ltD, isD, binD, Option.map, if_true, if_false, Bool.false_eq_true, Bool.true_eq_false, decide_true, decide_false, List.length_cons, List.length_nil, List.append_nil, List.cons_append, List.nil_append, List.drop_nil, chg, putV, appV, tst, Bool.not_true, Bool.not_false, beq_self_eq_true, bnd, bindP, bindL, plain_s, plain_i, plain_n, plain_b, eqD_s, eqD_i, eqD_b, bAbs, bInt, bMax, bMin, bAll, bAny, Bool.and_true, Bool.true_and, Bool.and_false, Bool.false_and, Nat.sub_self, Nat.zero_add, Nat.reduceAdd, Nat.reduceSub, Nat.reduceBEq, b398, e, e2]
/-- all_move_in, lot_root_in of a tuple of words -/
theorem fullcomp_ok (d : Nat) {ws : List (List Nat)} (hw : ws.length ≤ 1000) {t : Cell} : evE (clOf T d) (.comp [2] (.nm 2) (.var 0) (.cmp .ne (.var 2) (.cst (.str []))) (.var 2)) [some (.shr, .tup (strsL ws)), t, none] = .ok (true, .lst (strsL (fullL ws))) [some (.shr, .tup (strsL ws)), t, none] := by
  rw [comp_ok (ρ1 := [some (.shr, .tup (strsL ws)), t, none]) (ds := strsL ws) (fun ρ => ∃ u, ρ = [some (.shr, .tup (strsL ws)), t, u]) neD
    (by simp only [runF, Int.cast_ofNat_Int, blsD, List.all, id, startE, fill, cellsOf, endF, ioOf, eSs_nil, eSs_cons, eS_ret, eS_exp, eS_set, eS_setP, eS_put, eS_app, eS_ife, eS_pass, eS_brk, eS_cnt, evT, eE_cst, eE_var, eE_bin, eE_not, eE_cmp, eE_cmp2, eE_and, eE_or, eE_ite, eE_tup, eE_lst, eE_idx, eE_slc, eE_rev, eE_nil, eE_call, eE_calli, eE_bi, eE_me, eE_lrg1, eE_isi, pk, evEs, evPs, evRs, rdE, rdP, rdL, get, put, sto, stoL, bind_ok, M.bind, callN, callIo, retE, fin, finS, finB, biD, bLen, lenD, ofO, truth, partI, slcV, revV, idxV, isNew, List.replicate, cmpD, ltD, isD, binD, Option.map, if_true, if_false, Bool.false_eq_true, Bool.true_eq_false, decide_true, decide_false, List.length_cons, List.length_nil, List.append_nil, List.cons_append, List.nil_append, List.drop_nil, chg, putV, appV, tst, Bool.not_true, Bool.not_false, beq_self_eq_true, bnd, bindP, bindL, plain_s, plain_i, plain_n, plain_b, eqD_s, eqD_i, eqD_b, bAbs, bInt, bMax, bMin, bAll, bAny, Bool.and_true, Bool.true_and, Bool.and_false, Bool.false_and, Nat.sub_self, Nat.zero_add, Nat.reduceAdd, Nat.reduceSub, Nat.reduceBEq, itI]) ⟨_, rfl⟩ (by
      rintro z hz ρ ⟨u, rfl⟩
      obtain ⟨w, hw, rfl⟩ := List.mem_map.mp hz
      refine ⟨_, ?_, some (.shr, .str w), rfl⟩
      by_cases q : (w == []) = true
      · simp only [runF, Int.cast_ofNat_Int, blsD, List.all, id, startE, fill, cellsOf, endF, ioOf, eSs_nil, eSs_cons, eS_ret, eS_exp, eS_set, eS_setP, eS_put, eS_app, eS_ife, eS_pass, eS_brk, eS_cnt, evT, eE_cst, eE_var, eE_bin, eE_not, eE_cmp, eE_cmp2, eE_and, eE_or, eE_ite, eE_tup, eE_lst, eE_idx, eE_slc, eE_rev, eE_nil, eE_call, eE_calli, eE_bi, eE_me, eE_lrg1, eE_isi, pk, evEs, evPs, evRs, rdE, rdP, rdL, get, put, sto, stoL, bind_ok, M.bind, callN, callIo, retE, fin, finS, finB, biD, bLen, lenD, ofO, truth, partI, slcV, revV, idxV, isNew, List.replicate, cmpD, ltD, isD, binD, Option.map, if_true, if_false, Bool.false_eq_true, Bool.true_eq_false, decide_true, decide_false, List.length_cons, List.length_nil, List.append_nil, List.cons_append, List.nil_append, List.drop_nil, chg, putV, appV, tst, Bool.not_true, Bool.not_false, beq_self_eq_true, bnd, bindP, bindL, plain_s, plain_i, plain_n, plain_b, eqD_s, eqD_i, eqD_b, bAbs, bInt, bMax, bMin, bAll, bAny, Bool.and_true, Bool.true_and, Bool.and_false, Bool.false_and, Nat.sub_self, Nat.zero_add, Nat.reduceAdd, Nat.reduceSub, Nat.reduceBEq, clr, neD, q]
      · have q' : (w == []) = false := by simpa using q
        simp only [runF, Int.cast_ofNat_Int, blsD, List.all, id, startE, fill, cellsOf, endF, ioOf, eSs_nil, eSs_cons, eS_ret, eS_exp, eS_set, eS_setP, eS_put, eS_app, eS_ife, eS_pass, eS_brk, eS_cnt, evT, eE_cst, eE_var, eE_bin, eE_not, eE_cmp, eE_cmp2, eE_and, eE_or, eE_ite, eE_tup, eE_lst, eE_idx, eE_slc, eE_rev, eE_nil, eE_call, eE_calli, eE_bi, eE_me, eE_lrg1, eE_isi, pk, evEs, evPs, evRs, rdE, rdP, rdL, get, put, sto, stoL, bind_ok, M.bind, callN, callIo, retE, fin, finS, finB, biD, bLen, lenD, ofO, truth, partI, slcV, revV, idxV, isNew, List.replicate, cmpD, ltD, isD, binD, Option.map, if_true, if_false, Bool.false_eq_true, Bool.true_eq_false, decide_true, decide_false, List.length_cons, List.length_nil, List.append_nil, List.cons_append, List.nil_append, List.drop_nil, chg, putV, appV, tst, Bool.not_true, Bool.not_false, beq_self_eq_true, bnd, bindP, bindL, plain_s, plain_i, plain_n, plain_b, eqD_s, eqD_i, eqD_b, bAbs, bInt, bMax, bMin, bAll, bAny, Bool.and_true, Bool.true_and, Bool.and_false, Bool.false_and, Nat.sub_self, Nat.zero_add, Nat.reduceAdd, Nat.reduceSub, Nat.reduceBEq, clr, neD, q']) (by rintro ρ ⟨t, rfl⟩; rfl) rfl (lenOk_of (by unfold strsL; rw [List.length_map]; omega)), fm_full]
theorem allmove_ok (h388 : T.fd 388 = some b388) (h392 : T.fd 392 = some b392) (d : Nat) {ws : List (List Nat)} (hw : ws.length ≤ 1000) (hl : ∀ w, w ∈ ws → w.length ≤ 1000) : (clOf T (d + 2)).run 392 [.tup (strsL ws)] = .ok false (.bl (allMv ws)) none := by
  rw [run_def h392]
  have W1 := fullcomp_ok hR (d + 1) hw (t := none)
  have hfl := full_len ws
  cases hf : fullL ws with
  | nil =>
    have e : allMv ws = true := by unfold allMv; rw [hf]
    rw [hf] at W1
    simp only [strsL, List.map_nil] at W1
    simp only [runF, Int.cast_ofNat_Int, blsD, List.all, id, startE, fill, cellsOf, endF, ioOf, eSs_nil, eSs_cons, eS_ret, eS_exp, eS_set, eS_setP, eS_put, eS_app, eS_ife, eS_pass, eS_brk, eS_cnt, evT, eE_cst, eE_var, eE_bin, eE_not, eE_cmp, eE_cmp2, eE_and, eE_or, eE_ite, eE_tup, eE_lst, eE_idx, eE_slc, eE_rev, eE_nil, eE_call, eE_calli, eE_bi, eE_me, eE_lrg1, eE_isi, pk, evEs, evPs, evRs, rdE, rdP, rdL, get, put, sto, stoL, bind_ok, M.bind, callN, callIo, retE, fin, finS, finB, biD, bLen, lenD, ofO, truth, partI, slcV, revV, idxV, isNew, List.replicate, cmpD, ltD, isD, binD, Option.map, if_true, if_false, Bool.false_eq_true, Bool.true_eq_false, decide_true, decide_false, List.length_cons, List.length_nil, List.append_nil, List.cons_append, List.nil_append, List.drop_nil, chg, putV, appV, tst, Bool.not_true, Bool.not_false, beq_self_eq_true, bnd, bindP, bindL, plain_s, plain_i, plain_n, plain_b, eqD_s, eqD_i, eqD_b, bAbs, bInt, bMax, bMin, bAll, bAny, Bool.and_true, Bool.true_and, Bool.and_false, Bool.false_and, Nat.sub_self, Nat.zero_add, Nat.reduceAdd, Nat.reduceSub, Nat.reduceBEq, b392, strsL, W1, plain_ln, eqD_ln, e]
  | cons f l =>
    have e : allMv ws = (f :: l).all fun w => mvB f w := by unfold allMv; rw [hf]
    rw [hf] at W1 hfl
    have hm : ∀ w, w ∈ f :: l → w.length ≤ 1000 := fun w h => hl w (List.mem_filter.mp (by rw [← hf] at h; exact h)).1
    have W2 : evE (clOf T (d + 1)) (.comp [2] (.nm 2) (.var 1) .yes (.call 388 [(.idx (.var 1) (.cst (.int 0))), (.var 2)])) [some (.shr, .tup (strsL ws)), some (.own, .lst (strsL (f :: l))), none] = .ok (true, .lst (blsL ((f :: l).map fun w => mvB f w))) [some (.shr, .tup (strsL ws)), some (.shr, .lst (strsL (f :: l))), none] := by
      rw [comp_ok (ρ1 := [some (.shr, .tup (strsL ws)), some (.shr, .lst (strsL (f :: l))), none]) (ds := strsL (f :: l)) (fun ρ => ∃ u, ρ = [some (.shr, .tup (strsL ws)), some (.shr, .lst (strsL (f :: l))), u]) (mvD f)
        (by simp only [runF, Int.cast_ofNat_Int, blsD, List.all, id, startE, fill, cellsOf, endF, ioOf, eSs_nil, eSs_cons, eS_ret, eS_exp, eS_set, eS_setP, eS_put, eS_app, eS_ife, eS_pass, eS_brk, eS_cnt, evT, eE_cst, eE_var, eE_bin, eE_not, eE_cmp, eE_cmp2, eE_and, eE_or, eE_ite, eE_tup, eE_lst, eE_idx, eE_slc, eE_rev, eE_nil, eE_call, eE_calli, eE_bi, eE_me, eE_lrg1, eE_isi, pk, evEs, evPs, evRs, rdE, rdP, rdL, get, put, sto, stoL, bind_ok, M.bind, callN, callIo, retE, fin, finS, finB, biD, bLen, lenD, ofO, truth, partI, slcV, revV, idxV, isNew, List.replicate, cmpD, ltD, isD, binD, Option.map, if_true, if_false, Bool.false_eq_true, Bool.true_eq_false, decide_true, decide_false, List.length_cons, List.length_nil, List.append_nil, List.cons_append, List.nil_append, List.drop_nil, chg, putV, appV, tst, Bool.not_true, Bool.not_false, beq_self_eq_true, bnd, bindP, bindL, plain_s, plain_i, plain_n, plain_b, eqD_s, eqD_i, eqD_b, bAbs, bInt, bMax, bMin, bAll, bAny, Bool.and_true, Bool.true_and, Bool.and_false, Bool.false_and, Nat.sub_self, Nat.zero_add, Nat.reduceAdd, Nat.reduceSub, Nat.reduceBEq, itI]) ⟨_, rfl⟩ (by
          rintro z hz ρ ⟨u, rfl⟩
          obtain ⟨w, hw, rfl⟩ := List.mem_map.mp hz
          have e2 := moves_ok (T := T) h388 d (x := f) (y := w) (hm f List.mem_cons_self) (hm w hw)
          refine ⟨_, ?_, some (.shr, .str w), rfl⟩
          have a0 : atD (strsL (f :: l)) 0 = some (.str f) := atD_zero
          simp only [runF, Int.cast_ofNat_Int, blsD, List.all, id, startE, fill, cellsOf, endF, ioOf, eSs_nil, eSs_cons, eS_ret, eS_exp, eS_set, eS_setP, eS_put, eS_app, eS_ife, eS_pass, eS_brk, eS_cnt, evT, eE_cst, eE_var, eE_bin, eE_not, eE_cmp, eE_cmp2, eE_and, eE_or, eE_ite, eE_tup, eE_lst, eE_idx, eE_slc, eE_rev, eE_nil, eE_call, eE_calli, eE_bi, eE_me, eE_lrg1, eE_isi, pk, evEs, evPs, evRs, rdE, rdP, rdL, get, put, sto, stoL, bind_ok, M.bind, callN, callIo, retE, fin, finS, finB, biD, bLen, lenD, ofO, truth, partI, slcV, revV, idxV, isNew, List.replicate, cmpD, ltD, isD, binD, Option.map, if_true, if_false, Bool.false_eq_true, Bool.true_eq_false, decide_true, decide_false, List.length_cons, List.length_nil, List.append_nil, List.cons_append, List.nil_append, List.drop_nil, chg, putV, appV, tst, Bool.not_true, Bool.not_false, beq_self_eq_true, bnd, bindP, bindL, plain_s, plain_i, plain_n, plain_b, eqD_s, eqD_i, eqD_b, bAbs, bInt, bMax, bMin, bAll, bAny, Bool.and_true, Bool.true_and, Bool.and_false, Bool.false_and, Nat.sub_self, Nat.zero_add, Nat.reduceAdd, Nat.reduceSub, Nat.reduceBEq, clr, mvD, a0, e2]) (by rintro ρ ⟨t, rfl⟩; rfl) rfl (lenOk_of (by unfold strsL; rw [List.length_map]; omega))]
      unfold strsL blsL
      rw [fm_some (fun w => D.bl (mvB f w)) (f :: l) D.str (mvD f) (fun x _ => rfl), List.map_map]
      rfl
    have p1 : plain (.lst (strsL (f :: l))) = true := plain_strs (f :: l)
    have q1 : eqD (.lst (strsL (f :: l))) (.lst []) = false := rfl
    have b2 := blsD_L ((f :: l).map fun w => mvB f w)
    have b3 : ((f :: l).map fun w => mvB f w).all id = allMv ws := by rw [e, List.all_map]; rfl
    generalize ((f :: l).map fun w => mvB f w) = L at *
    generalize strsL (f :: l) = fl at *
    generalize blsL L = bl at *
    simp only [runF, Int.cast_ofNat_Int, blsD, List.all, id, startE, fill, cellsOf, endF, ioOf, eSs_nil, eSs_cons, eS_ret, eS_exp, eS_set, eS_setP, eS_put, eS_app, eS_ife, eS_pass, eS_brk, eS_cnt, evT, eE_cst, eE_var, eE_bin, eE_not, eE_cmp, eE_cmp2, eE_and, eE_or, eE_ite, eE_tup, eE_lst, eE_idx, eE_slc, eE_rev, eE_nil, eE_call, eE_calli, eE_bi, eE_me, eE_lrg1, eE_isi, pk, evEs, evPs, evRs, rdE, rdP, rdL, get, put, sto, stoL, bind_ok, M.bind, callN, callIo, retE, fin, finS, finB, biD, bLen, lenD, ofO, truth, partI, slcV, revV, idxV, isNew, List.replicate, cmpD, ltD, isD, binD, Option.map, if_true, if_false, Bool.false_eq_true, Bool.true_eq_false, decide_true, decide_false, List.length_cons, List.length_nil, List.append_nil, List.cons_append, List.nil_append, List.drop_nil, chg, putV, appV, tst, Bool.not_true, Bool.not_false, beq_self_eq_true, bnd, bindP, bindL, plain_s, plain_i, plain_n, plain_b, eqD_s, eqD_i, eqD_b, bAbs, bInt, bMax, bMin, bAll, bAny, Bool.and_true, Bool.true_and, Bool.and_false, Bool.false_and, Nat.sub_self, Nat.zero_add, Nat.reduceAdd, Nat.reduceSub, Nat.reduceBEq, b392, W1, W2, plain_ln, p1, q1, b2, b3]
theorem lotroot_ok (h388 : T.fd 388 = some b388) (h392 : T.fd 392 = some b392) (h393 : T.fd 393 = some b393) (d : Nat) {ws : List (List Nat)} (hw : ws.length ≤ 1000) (hl : ∀ w, w ∈ ws → w.length ≤ 1000) : (clOf T (d + 3)).run 393 [.tup (strsL ws)] = .ok false (optS' (lotR ws)) none := by
  rw [run_def h393]
  have W1 := fullcomp_ok hR (d + 2) hw (t := none)
  have e1 := allmove_ok hR h388 h392 d hw hl
  cases hf : fullL ws with
  | nil =>
    have e : lotR ws = some [] := by unfold lotR; rw [hf]
    rw [hf] at W1
    simp only [strsL, List.map_nil] at W1
    simp only [runF, Int.cast_ofNat_Int, blsD, List.all, id, startE, fill, cellsOf, endF, ioOf, eSs_nil, eSs_cons, eS_ret, eS_exp, eS_set, eS_setP, eS_put, eS_app, eS_ife, eS_pass, eS_brk, eS_cnt, evT, eE_cst, eE_var, eE_bin, eE_not, eE_cmp, eE_cmp2, eE_and, eE_or, eE_ite, eE_tup, eE_lst, eE_idx, eE_slc, eE_rev, eE_nil, eE_call, eE_calli, eE_bi, eE_me, eE_lrg1, eE_isi, pk, evEs, evPs, evRs, rdE, rdP, rdL, get, put, sto, stoL, bind_ok, M.bind, callN, callIo, retE, fin, finS, finB, biD, bLen, lenD, ofO, truth, partI, slcV, revV, idxV, isNew, List.replicate, cmpD, ltD, isD, binD, Option.map, if_true, if_false, Bool.false_eq_true, Bool.true_eq_false, decide_true, decide_false, List.length_cons, List.length_nil, List.append_nil, List.cons_append, List.nil_append, List.drop_nil, chg, putV, appV, tst, Bool.not_true, Bool.not_false, beq_self_eq_true, bnd, bindP, bindL, plain_s, plain_i, plain_n, plain_b, eqD_s, eqD_i, eqD_b, bAbs, bInt, bMax, bMin, bAll, bAny, Bool.and_true, Bool.true_and, Bool.and_false, Bool.false_and, Nat.sub_self, Nat.zero_add, Nat.reduceAdd, Nat.reduceSub, Nat.reduceBEq, b393, strsL, W1, plain_ln, eqD_ln, e, optS']
  | cons f l =>
    have e : lotR ws = if allMv ws then some (rootN f) else none := by unfold lotR; rw [hf]
    rw [hf] at W1
    have p1 : plain (.lst (strsL (f :: l))) = true := plain_strs (f :: l)
    have q1 : eqD (.lst (strsL (f :: l))) (.lst []) = false := rfl
    have a0 : atD (strsL (f :: l)) 0 = some (.str f) := atD_zero
    have hfm : f ∈ ws := (List.mem_filter.mp (show f ∈ fullL ws by rw [hf]; exact List.mem_cons_self)).1
    have e2 := rootin_ok hR d (w := f) (hl f hfm)
    generalize strsL (f :: l) = fl at *
    cases a : allMv ws with
    | true =>
      rw [a] at e1 e
      simp only [runF, Int.cast_ofNat_Int, blsD, List.all, id, startE, fill, cellsOf, endF, ioOf, eSs_nil, eSs_cons, eS_ret, eS_exp, eS_set, eS_setP, eS_put, eS_app, eS_ife, eS_pass, eS_brk, eS_cnt, evT, eE_cst, eE_var, eE_bin, eE_not, eE_cmp, eE_cmp2, eE_and, eE_or, eE_ite, eE_tup, eE_lst, eE_idx, eE_slc, eE_rev, eE_nil, eE_call, eE_calli, eE_bi, eE_me, eE_lrg1, eE_isi, pk, evEs, evPs, evRs, rdE, rdP, rdL, get, put, sto, stoL, bind_ok, M.bind, callN, callIo, retE, fin, finS, finB, biD, bLen, lenD, ofO, truth, partI, slcV, revV, idxV, isNew, List.replicate, cmpD, ltD, isD, binD, Option.map, if_true, if_false, Bool.false_eq_true, Bool.true_eq_false, decide_true, decide_false, List.length_cons, List.length_nil, List.append_nil, List.cons_append, List.nil_append, List.drop_nil, chg, putV, appV, tst, Bool.not_true, Bool.not_false, beq_self_eq_true, bnd, bindP, bindL, plain_s, plain_i, plain_n, plain_b, eqD_s, eqD_i, eqD_b, bAbs, bInt, bMax, bMin, bAll, bAny, Bool.and_true, Bool.true_and, Bool.and_false, Bool.false_and, Nat.sub_self, Nat.zero_add, Nat.reduceAdd, Nat.reduceSub, Nat.reduceBEq, b393, W1, plain_ln, p1, q1, e1, a0, e2, e, optS']
    | false =>
      rw [a] at e1 e
      simp only [runF, Int.cast_ofNat_Int, blsD, List.all, id, startE, fill, cellsOf, endF, ioOf, eSs_nil, eSs_cons, eS_ret, eS_exp, eS_set, eS_setP, eS_put, eS_app, eS_ife, eS_pass, eS_brk, eS_cnt, evT, eE_cst, eE_var, eE_bin, eE_not, eE_cmp, eE_cmp2, eE_and, eE_or, eE_ite, eE_tup, eE_lst, eE_idx, eE_slc, eE_rev, eE_nil, eE_call, eE_calli, eE_bi, eE_me, eE_lrg1, eE_isi, pk, evEs, evPs, evRs, rdE, rdP, rdL, get, put, sto, stoL, bind_ok, M.bind, callN, callIo, retE, fin, finS, finB, biD, bLen, lenD, ofO, truth, partI, slcV, revV, idxV, isNew, List.replicate, cmpD, ltD, isD, binD, Option.map, if_true, if_false, Bool.false_eq_true, Bool.true_eq_false, decide_true, decide_false, List.length_cons, List.length_nil, List.append_nil, List.cons_append, List.nil_append, List.drop_nil, chg, putV, appV, tst, Bool.not_true, Bool.not_false, beq_self_eq_true, bnd, bindP, bindL, plain_s, plain_i, plain_n, plain_b, eqD_s, eqD_i, eqD_b, bAbs, bInt, bMax, bMin, bAll, bAny, Bool.and_true, Bool.true_and, Bool.and_false, Bool.false_and, Nat.sub_self, Nat.zero_add, Nat.reduceAdd, Nat.reduceSub, Nat.reduceBEq, b393, W1, plain_ln, p1, q1, e1, a0, e2, e, optS']
theorem common_ok (h8 : T.fd 8 = some b8) (h388 : T.fd 388 = some b388) (h392 : T.fd 392 = some b392) (h393 : T.fd 393 = some b393) (h399 : T.fd 399 = some b399) (d : Nat) {x y : List Nat} (hx : x.length ≤ 200) (hxL : LetOk 8 x) (hy : y.length ≤ 200) (hyL : LetOk 8 y) : (clOf T (d + 5)).run 399 [.str x, .str y] = .ok false (optS' (lotR [x, y])) none := by
  rw [run_def h399]
  have e := words2_ok hR h8 d hx hxL hy hyL
  have e2 := lotroot_ok hR h388 h392 h393 (d + 1) (ws := [x, y]) (by simp) (fun w hw => by
    simp only [List.mem_cons, List.not_mem_nil, or_false] at hw
    rcases hw with rfl | rfl <;> omega)
  simp only [strsL, List.map_cons, List.map_nil] at e2
  simp only [runF, Int.cast_ofNat_Int, blsD, List.all, id, startE, fill, cellsOf, endF, ioOf, eSs_nil, eSs_cons, eS_ret, eS_exp, eS_set, eS_setP, eS_put, eS_app, eS_ife, eS_pass, eS_brk, eS_cnt, evT, eE_cst, eE_var, eE_bin, eE_not, eE_cmp, eE_cmp2, eE_and, eE_or, eE_ite, eE_tup, eE_lst, eE_idx, eE_slc, eE_rev, eE_nil, eE_call, eE_calli, eE_bi, eE_me, eE_lrg1, eE_isi, pk, evEs, evPs, evRs, rdE, rdP, rdL, get, put, sto, stoL, bind_ok, M.bind, callN, callIo, retE, fin, finS, finB, biD, bLen, lenD, ofO, truth, partI, slcV, revV, idxV, isNew, List.replicate, cmpD, ltD, isD, binD, Option.map, if_true, if_false, Bool.false_eq_true, Bool.true_eq_false, decide_true, decide_false, List.length_cons, List.length_nil, List.append_nil, List.cons_append, List.nil_append, List.drop_nil, chg, putV, appV, tst, Bool.not_true, Bool.not_false, beq_self_eq_true, bnd, bindP, bindL, plain_s, plain_i, plain_n, plain_b, eqD_s, eqD_i, eqD_b, bAbs, bInt, bMax, bMin, bAll, bAny, Bool.and_true, Bool.true_and, Bool.and_false, Bool.false_and, Nat.sub_self, Nat.zero_add, Nat.reduceAdd, Nat.reduceSub, Nat.reduceBEq, b399, e, e2]
theorem moving_ok (h9 : T.fd 9 = some b9) (h400 : T.fd 400 = some b400) (d : Nat) {w : List Nat} {n : Nat} (hl : w.length ≤ 200) (hw : LetOk 8 w) (hne : w ≠ []) (hn : n ≤ 200) : (clOf T (d + 4)).run 400 [.str w, .int n] = .ok false (optS' (movN w n)) none := by
  rw [run_def h400]
  have e := bare_ok hR h9 d hl hw hne
  have e2 := needw_ok hR.h0 hR.h1 hR.h2 d (z := n) (lo := 0) (hi := 200) (by omega) (by omega)
  have e3 := rootin_ok hR (d + 1) (w := w) (by omega)
  have hr := List.length_pos_iff.mpr (rootN_ne hne)
  have hr2 : (rootN w).length ≤ 200 := by rw [rootN_len hne]; have := (root_is hne).le hne; omega
  have z : (((rootN w).length : Int) == 0) = false := beq_eq_false_iff_ne.mpr (by omega)
  have fm := fmodN n (rootN w).length
  have fv := fdivN n (rootN w).length
  have dv : divOk ((rootN w).length : Int) = true := divOk_small (by omega) (by omega)
  have hq : n / (rootN w).length ≤ n := Nat.div_le_self _ _
  have hm : (rootN w).length * (n / (rootN w).length) ≤ n := Nat.mul_div_le _ _
  have sm := small_nat (n := n / (rootN w).length) (by omega)
  have lo := lenOk_of (n := (rootN w).length * (n / (rootN w).length)) (by omega)
  unfold movN
  by_cases q : n % (rootN w).length = 0
  · have q' : (((n % (rootN w).length : Nat) : Int) == 0) = true := by rw [q]; rfl
    rw [if_pos q]
    simp only [runF, Int.cast_ofNat_Int, blsD, List.all, id, startE, fill, cellsOf, endF, ioOf, eSs_nil, eSs_cons, eS_ret, eS_exp, eS_set, eS_setP, eS_put, eS_app, eS_ife, eS_pass, eS_brk, eS_cnt, evT, eE_cst, eE_var, eE_bin, eE_not, eE_cmp, eE_cmp2, eE_and, eE_or, eE_ite, eE_tup, eE_lst, eE_idx, eE_slc, eE_rev, eE_nil, eE_call, eE_calli, eE_bi, eE_me, eE_lrg1, eE_isi, pk, evEs, evPs, evRs, rdE, rdP, rdL, get, put, sto, stoL, bind_ok, M.bind, callN, callIo, retE, fin, finS, finB, biD, bLen, lenD, ofO, truth, partI, slcV, revV, idxV, isNew, List.replicate, cmpD, ltD, isD, binD, Option.map, if_true, if_false, Bool.false_eq_true, Bool.true_eq_false, decide_true, decide_false, List.length_cons, List.length_nil, List.append_nil, List.cons_append, List.nil_append, List.drop_nil, chg, putV, appV, tst, Bool.not_true, Bool.not_false, beq_self_eq_true, bnd, bindP, bindL, plain_s, plain_i, plain_n, plain_b, eqD_s, eqD_i, eqD_b, bAbs, bInt, bMax, bMin, bAll, bAny, Bool.and_true, Bool.true_and, Bool.and_false, Bool.false_and, Nat.sub_self, Nat.zero_add, Nat.reduceAdd, Nat.reduceSub, Nat.reduceBEq, b400, e, e2, e3, z, fm, fv, dv, q', sm, lo, Int.toNat_natCast, optS']
  · have q' : (((n % (rootN w).length : Nat) : Int) == 0) = false := beq_eq_false_iff_ne.mpr (by omega)
    rw [if_neg q]
    simp only [runF, Int.cast_ofNat_Int, blsD, List.all, id, startE, fill, cellsOf, endF, ioOf, eSs_nil, eSs_cons, eS_ret, eS_exp, eS_set, eS_setP, eS_put, eS_app, eS_ife, eS_pass, eS_brk, eS_cnt, evT, eE_cst, eE_var, eE_bin, eE_not, eE_cmp, eE_cmp2, eE_and, eE_or, eE_ite, eE_tup, eE_lst, eE_idx, eE_slc, eE_rev, eE_nil, eE_call, eE_calli, eE_bi, eE_me, eE_lrg1, eE_isi, pk, evEs, evPs, evRs, rdE, rdP, rdL, get, put, sto, stoL, bind_ok, M.bind, callN, callIo, retE, fin, finS, finB, biD, bLen, lenD, ofO, truth, partI, slcV, revV, idxV, isNew, List.replicate, cmpD, ltD, isD, binD, Option.map, if_true, if_false, Bool.false_eq_true, Bool.true_eq_false, decide_true, decide_false, List.length_cons, List.length_nil, List.append_nil, List.cons_append, List.nil_append, List.drop_nil, chg, putV, appV, tst, Bool.not_true, Bool.not_false, beq_self_eq_true, bnd, bindP, bindL, plain_s, plain_i, plain_n, plain_b, eqD_s, eqD_i, eqD_b, bAbs, bInt, bMax, bMin, bAll, bAny, Bool.and_true, Bool.true_and, Bool.and_false, Bool.false_and, Nat.sub_self, Nat.zero_add, Nat.reduceAdd, Nat.reduceSub, Nat.reduceBEq, b400, e, e2, e3, z, fm, q', optS']
theorem needlot_ok (h3 : T.fd 3 = some b3) (h390 : T.fd 390 = some b390) (h391 : T.fd 391 = some b391) (d : Nat) {ws : List (List Nat)} (hw : ws.length ≤ 20) (hl : ∀ w, w ∈ ws → w.length ≤ 200 ∧ LetOk 8 w) : (clOf T (d + 4)).run 391 [.tup (strsL ws)] = .ok false .non none := by
  rw [run_def h391]
  have e1 : (clOf T (d + 2)).run 3 [.tup (strsL ws), .int 0, .int 20] = .ok false (.bl true) none := by
    rw [run_def h3]
    have hlen : (strsL ws).length = ws.length := by unfold strsL; rw [List.length_map]
    have q1 : (!decide (((strsL ws).length : Int) < 0)) = true := by rw [hlen]; simp
    have q2 : (!decide ((20 : Int) < ((strsL ws).length : Int))) = true := by rw [hlen]; simp; omega
    simp only [runF, Int.cast_ofNat_Int, blsD, List.all, id, startE, fill, cellsOf, endF, ioOf, eSs_nil, eSs_cons, eS_ret, eS_exp, eS_set, eS_setP, eS_put, eS_app, eS_ife, eS_pass, eS_brk, eS_cnt, evT, eE_cst, eE_var, eE_bin, eE_not, eE_cmp, eE_cmp2, eE_and, eE_or, eE_ite, eE_tup, eE_lst, eE_idx, eE_slc, eE_rev, eE_nil, eE_call, eE_calli, eE_bi, eE_me, eE_lrg1, eE_isi, pk, evEs, evPs, evRs, rdE, rdP, rdL, get, put, sto, stoL, bind_ok, M.bind, callN, callIo, retE, fin, finS, finB, biD, bLen, lenD, ofO, truth, partI, slcV, revV, idxV, isNew, List.replicate, cmpD, ltD, isD, binD, Option.map, if_true, if_false, Bool.false_eq_true, Bool.true_eq_false, decide_true, decide_false, List.length_cons, List.length_nil, List.append_nil, List.cons_append, List.nil_append, List.drop_nil, chg, putV, appV, tst, Bool.not_true, Bool.not_false, beq_self_eq_true, bnd, bindP, bindL, plain_s, plain_i, plain_n, plain_b, eqD_s, eqD_i, eqD_b, bAbs, bInt, bMax, bMin, bAll, bAny, Bool.and_true, Bool.true_and, Bool.and_false, Bool.false_and, Nat.sub_self, Nat.zero_add, Nat.reduceAdd, Nat.reduceSub, Nat.reduceBEq, b3, isTy, q1, q2]
  have W2 : evE (clOf T (d + 2)) (.comp [1] (.nm 1) (.var 0) .yes (.call 6 [(.var 1)])) [some (.shr, .tup (strsL ws)), none] = .ok (true, .lst (blsL (ws.map fun _ => true))) [some (.shr, .tup (strsL ws)), none] := by
    rw [comp_ok (ρ1 := [some (.shr, .tup (strsL ws)), none]) (ds := strsL ws) (fun ρ => ∃ u, ρ = [some (.shr, .tup (strsL ws)), u]) (fun _ => some (.bl true))
      (by simp only [runF, Int.cast_ofNat_Int, blsD, List.all, id, startE, fill, cellsOf, endF, ioOf, eSs_nil, eSs_cons, eS_ret, eS_exp, eS_set, eS_setP, eS_put, eS_app, eS_ife, eS_pass, eS_brk, eS_cnt, evT, eE_cst, eE_var, eE_bin, eE_not, eE_cmp, eE_cmp2, eE_and, eE_or, eE_ite, eE_tup, eE_lst, eE_idx, eE_slc, eE_rev, eE_nil, eE_call, eE_calli, eE_bi, eE_me, eE_lrg1, eE_isi, pk, evEs, evPs, evRs, rdE, rdP, rdL, get, put, sto, stoL, bind_ok, M.bind, callN, callIo, retE, fin, finS, finB, biD, bLen, lenD, ofO, truth, partI, slcV, revV, idxV, isNew, List.replicate, cmpD, ltD, isD, binD, Option.map, if_true, if_false, Bool.false_eq_true, Bool.true_eq_false, decide_true, decide_false, List.length_cons, List.length_nil, List.append_nil, List.cons_append, List.nil_append, List.drop_nil, chg, putV, appV, tst, Bool.not_true, Bool.not_false, beq_self_eq_true, bnd, bindP, bindL, plain_s, plain_i, plain_n, plain_b, eqD_s, eqD_i, eqD_b, bAbs, bInt, bMax, bMin, bAll, bAny, Bool.and_true, Bool.true_and, Bool.and_false, Bool.false_and, Nat.sub_self, Nat.zero_add, Nat.reduceAdd, Nat.reduceSub, Nat.reduceBEq, itI]) ⟨_, rfl⟩ (by
        rintro z hz ρ ⟨u, rfl⟩
        obtain ⟨w, hw, rfl⟩ := List.mem_map.mp hz
        have e2 := fits_ok hR.h5 hR.h6 d (w := w) (hl w hw).1 (hl w hw).2
        refine ⟨_, ?_, some (.shr, .str w), rfl⟩
        simp only [runF, Int.cast_ofNat_Int, blsD, List.all, id, startE, fill, cellsOf, endF, ioOf, eSs_nil, eSs_cons, eS_ret, eS_exp, eS_set, eS_setP, eS_put, eS_app, eS_ife, eS_pass, eS_brk, eS_cnt, evT, eE_cst, eE_var, eE_bin, eE_not, eE_cmp, eE_cmp2, eE_and, eE_or, eE_ite, eE_tup, eE_lst, eE_idx, eE_slc, eE_rev, eE_nil, eE_call, eE_calli, eE_bi, eE_me, eE_lrg1, eE_isi, pk, evEs, evPs, evRs, rdE, rdP, rdL, get, put, sto, stoL, bind_ok, M.bind, callN, callIo, retE, fin, finS, finB, biD, bLen, lenD, ofO, truth, partI, slcV, revV, idxV, isNew, List.replicate, cmpD, ltD, isD, binD, Option.map, if_true, if_false, Bool.false_eq_true, Bool.true_eq_false, decide_true, decide_false, List.length_cons, List.length_nil, List.append_nil, List.cons_append, List.nil_append, List.drop_nil, chg, putV, appV, tst, Bool.not_true, Bool.not_false, beq_self_eq_true, bnd, bindP, bindL, plain_s, plain_i, plain_n, plain_b, eqD_s, eqD_i, eqD_b, bAbs, bInt, bMax, bMin, bAll, bAny, Bool.and_true, Bool.true_and, Bool.and_false, Bool.false_and, Nat.sub_self, Nat.zero_add, Nat.reduceAdd, Nat.reduceSub, Nat.reduceBEq, clr, e2]) (by rintro ρ ⟨t, rfl⟩; rfl) rfl (lenOk_of (by unfold strsL; rw [List.length_map]; omega))]
    unfold strsL blsL
    rw [fm_some (fun _ => D.bl true) ws D.str _ (fun x _ => rfl), List.map_map]
    rfl
  have b2 := blsD_L (ws.map fun _ => true)
  have b3 : (ws.map fun _ => true).all id = true := by
    rw [List.all_map, List.all_eq_true]
    intro x _; rfl
  have e2 : (clOf T (d + 3)).run 390 [.tup (strsL ws)] = .ok false (.bl true) none := by
    rw [run_def h390]
    generalize (ws.map fun _ => true) = L at *
    generalize strsL ws = sl at *
    generalize blsL L = bl at *
    simp only [runF, Int.cast_ofNat_Int, blsD, List.all, id, startE, fill, cellsOf, endF, ioOf, eSs_nil, eSs_cons, eS_ret, eS_exp, eS_set, eS_setP, eS_put, eS_app, eS_ife, eS_pass, eS_brk, eS_cnt, evT, eE_cst, eE_var, eE_bin, eE_not, eE_cmp, eE_cmp2, eE_and, eE_or, eE_ite, eE_tup, eE_lst, eE_idx, eE_slc, eE_rev, eE_nil, eE_call, eE_calli, eE_bi, eE_me, eE_lrg1, eE_isi, pk, evEs, evPs, evRs, rdE, rdP, rdL, get, put, sto, stoL, bind_ok, M.bind, callN, callIo, retE, fin, finS, finB, biD, bLen, lenD, ofO, truth, partI, slcV, revV, idxV, isNew, List.replicate, cmpD, ltD, isD, binD, Option.map, if_true, if_false, Bool.false_eq_true, Bool.true_eq_false, decide_true, decide_false, List.length_cons, List.length_nil, List.append_nil, List.cons_append, List.nil_append, List.drop_nil, chg, putV, appV, tst, Bool.not_true, Bool.not_false, beq_self_eq_true, bnd, bindP, bindL, plain_s, plain_i, plain_n, plain_b, eqD_s, eqD_i, eqD_b, bAbs, bInt, bMax, bMin, bAll, bAny, Bool.and_true, Bool.true_and, Bool.and_false, Bool.false_and, Nat.sub_self, Nat.zero_add, Nat.reduceAdd, Nat.reduceSub, Nat.reduceBEq, b390, e1, W2, b2, b3]
  simp only [runF, Int.cast_ofNat_Int, blsD, List.all, id, startE, fill, cellsOf, endF, ioOf, eSs_nil, eSs_cons, eS_ret, eS_exp, eS_set, eS_setP, eS_put, eS_app, eS_ife, eS_pass, eS_brk, eS_cnt, evT, eE_cst, eE_var, eE_bin, eE_not, eE_cmp, eE_cmp2, eE_and, eE_or, eE_ite, eE_tup, eE_lst, eE_idx, eE_slc, eE_rev, eE_nil, eE_call, eE_calli, eE_bi, eE_me, eE_lrg1, eE_isi, pk, evEs, evPs, evRs, rdE, rdP, rdL, get, put, sto, stoL, bind_ok, M.bind, callN, callIo, retE, fin, finS, finB, biD, bLen, lenD, ofO, truth, partI, slcV, revV, idxV, isNew, List.replicate, cmpD, ltD, isD, binD, Option.map, if_true, if_false, Bool.false_eq_true, Bool.true_eq_false, decide_true, decide_false, List.length_cons, List.length_nil, List.append_nil, List.cons_append, List.nil_append, List.drop_nil, chg, putV, appV, tst, Bool.not_true, Bool.not_false, beq_self_eq_true, bnd, bindP, bindL, plain_s, plain_i, plain_n, plain_b, eqD_s, eqD_i, eqD_b, bAbs, bInt, bMax, bMin, bAll, bAny, Bool.and_true, Bool.true_and, Bool.and_false, Bool.false_and, Nat.sub_self, Nat.zero_add, Nat.reduceAdd, Nat.reduceSub, Nat.reduceBEq, b391, e2]
theorem doall_ok (h3 : T.fd 3 = some b3) (h390 : T.fd 390 = some b390) (h391 : T.fd 391 = some b391) (h388 : T.fd 388 = some b388) (h392 : T.fd 392 = some b392) (h401 : T.fd 401 = some b401) (d : Nat) {ws : List (List Nat)} (hw : ws.length ≤ 20) (hl : ∀ w, w ∈ ws → w.length ≤ 200 ∧ LetOk 8 w) : (clOf T (d + 5)).run 401 [.tup (strsL ws)] = .ok false (.bl (allMv ws)) none := by
  rw [run_def h401]
  have e1 := needlot_ok hR h3 h390 h391 d hw hl
  have e2 := allmove_ok hR h388 h392 (d + 2) (ws := ws) (by omega) (fun w h => by have := (hl w h).1; omega)
  simp only [runF, Int.cast_ofNat_Int, blsD, List.all, id, startE, fill, cellsOf, endF, ioOf, eSs_nil, eSs_cons, eS_ret, eS_exp, eS_set, eS_setP, eS_put, eS_app, eS_ife, eS_pass, eS_brk, eS_cnt, evT, eE_cst, eE_var, eE_bin, eE_not, eE_cmp, eE_cmp2, eE_and, eE_or, eE_ite, eE_tup, eE_lst, eE_idx, eE_slc, eE_rev, eE_nil, eE_call, eE_calli, eE_bi, eE_me, eE_lrg1, eE_isi, pk, evEs, evPs, evRs, rdE, rdP, rdL, get, put, sto, stoL, bind_ok, M.bind, callN, callIo, retE, fin, finS, finB, biD, bLen, lenD, ofO, truth, partI, slcV, revV, idxV, isNew, List.replicate, cmpD, ltD, isD, binD, Option.map, if_true, if_false, Bool.false_eq_true, Bool.true_eq_false, decide_true, decide_false, List.length_cons, List.length_nil, List.append_nil, List.cons_append, List.nil_append, List.drop_nil, chg, putV, appV, tst, Bool.not_true, Bool.not_false, beq_self_eq_true, bnd, bindP, bindL, plain_s, plain_i, plain_n, plain_b, eqD_s, eqD_i, eqD_b, bAbs, bInt, bMax, bMin, bAll, bAny, Bool.and_true, Bool.true_and, Bool.and_false, Bool.false_and, Nat.sub_self, Nat.zero_add, Nat.reduceAdd, Nat.reduceSub, Nat.reduceBEq, b401, e1, e2]
theorem dolot_ok (h3 : T.fd 3 = some b3) (h390 : T.fd 390 = some b390) (h391 : T.fd 391 = some b391) (h388 : T.fd 388 = some b388) (h392 : T.fd 392 = some b392) (h393 : T.fd 393 = some b393) (h402 : T.fd 402 = some b402) (d : Nat) {ws : List (List Nat)} (hw : ws.length ≤ 20) (hl : ∀ w, w ∈ ws → w.length ≤ 200 ∧ LetOk 8 w) : (clOf T (d + 5)).run 402 [.tup (strsL ws)] = .ok false (optS' (lotR ws)) none := by
  rw [run_def h402]
  have e1 := needlot_ok hR h3 h390 h391 d hw hl
  have e2 := lotroot_ok hR h388 h392 h393 (d + 1) (ws := ws) (by omega) (fun w h => by have := (hl w h).1; omega)
  simp only [runF, Int.cast_ofNat_Int, blsD, List.all, id, startE, fill, cellsOf, endF, ioOf, eSs_nil, eSs_cons, eS_ret, eS_exp, eS_set, eS_setP, eS_put, eS_app, eS_ife, eS_pass, eS_brk, eS_cnt, evT, eE_cst, eE_var, eE_bin, eE_not, eE_cmp, eE_cmp2, eE_and, eE_or, eE_ite, eE_tup, eE_lst, eE_idx, eE_slc, eE_rev, eE_nil, eE_call, eE_calli, eE_bi, eE_me, eE_lrg1, eE_isi, pk, evEs, evPs, evRs, rdE, rdP, rdL, get, put, sto, stoL, bind_ok, M.bind, callN, callIo, retE, fin, finS, finB, biD, bLen, lenD, ofO, truth, partI, slcV, revV, idxV, isNew, List.replicate, cmpD, ltD, isD, binD, Option.map, if_true, if_false, Bool.false_eq_true, Bool.true_eq_false, decide_true, decide_false, List.length_cons, List.length_nil, List.append_nil, List.cons_append, List.nil_append, List.drop_nil, chg, putV, appV, tst, Bool.not_true, Bool.not_false, beq_self_eq_true, bnd, bindP, bindL, plain_s, plain_i, plain_n, plain_b, eqD_s, eqD_i, eqD_b, bAbs, bInt, bMax, bMin, bAll, bAny, Bool.and_true, Bool.true_and, Bool.and_false, Bool.false_and, Nat.sub_self, Nat.zero_add, Nat.reduceAdd, Nat.reduceSub, Nat.reduceBEq, b402, e1, e2]
end
end Py

/-! Borders, periods, rows: the plain part of k03. -/
namespace Py
def perB (w : List Nat) (p : Nat) : Bool := w.drop p == w.take (w.length - p)
def perL (w : List Nat) : List Nat := (List.range' 1 w.length).filter (perB w)
def borB (w : List Nat) (j : Nat) : Bool := perB w (w.length - j)
def bordL (w : List Nat) : List Nat := (List.range w.length).filter (borB w)
theorem drop_get {l : List Nat} {n i : Nat} (h : n + i < l.length) : (l.drop n)[i]! = l[n + i]! := by
  rw [getElem!_pos _ i (by rw [List.length_drop]; omega), List.getElem_drop, getElem!_pos l _ h]
theorem perB_iff {w : List Nat} {p : Nat} (hp : p ≤ w.length) : perB w p = true ↔ Per (fnL w) w.length p := by
  unfold perB
  rw [beq_iff_eq]
  constructor
  · intro e i hi
    show w[i]! = w[i + p]!
    have h1 := take_get (l := w) (n := w.length - p) (i := i) (by omega) (by omega)
    have h2 := drop_get (l := w) (n := p) (i := i) (by omega)
    rw [← h1, ← e, h2, Nat.add_comm]
  · intro h
    refine ext_get (by rw [List.length_drop, List.length_take]; omega) fun i hi => ?_
    rw [List.length_drop] at hi
    rw [drop_get (by omega), take_get (by omega) (by omega), Nat.add_comm]
    exact (h i (by omega)).symm
theorem bo_per {w : List Nat} {j : Nat} : borB w j = true ∧ j < w.length ↔ Bo (fnL w) w.length j := by
  unfold borB
  constructor
  · rintro ⟨h1, h2⟩
    have := Bo.of ((perB_iff (by omega)).mp h1) (by omega) (by omega)
    rwa [show w.length - (w.length - j) = j by omega] at this
  · intro h
    have := h.1
    exact ⟨(perB_iff (by omega)).mpr h.per, this⟩
theorem mem_perL {w : List Nat} {p : Nat} : p ∈ perL w ↔ 0 < p ∧ p ≤ w.length ∧ Per (fnL w) w.length p := by
  unfold perL
  rw [List.mem_filter, List.mem_range'_1]
  constructor
  · rintro ⟨h1, h2⟩
    exact ⟨by omega, by omega, (perB_iff (by omega)).mp h2⟩
  · rintro ⟨h1, h2, h3⟩
    exact ⟨by omega, (perB_iff h2).mpr h3⟩
theorem range_flip : ∀ (n : Nat), ((List.range' 1 n).reverse).map (fun p => n - p) = List.range n := by
  intro n
  refine List.ext_getElem (by simp) fun i h1 h2 => ?_
  simp at h1 h2
  simp
  omega
theorem bord_per (w : List Nat) : (perL w).reverse.map (fun p => w.length - p) = bordL w := by
  unfold perL bordL
  rw [← List.filter_reverse, ← range_flip w.length, List.filter_map]
  congr 1
  apply List.filter_congr
  intro p hp
  have hp := List.mem_range'_1.mp (List.mem_reverse.mp hp)
  show perB w p = perB w (w.length - (w.length - p))
  rw [show w.length - (w.length - p) = p by omega]
theorem per_bord (w : List Nat) : (bordL w).reverse.map (fun j => w.length - j) = perL w := by
  rw [← bord_per, ← List.map_reverse, List.reverse_reverse, List.map_map]
  conv => rhs; rw [← List.map_id (perL w)]
  apply List.map_congr_left
  intro p hp
  have := (mem_perL.mp hp).2.1
  show w.length - (w.length - p) = p
  omega
theorem per_rev' (w : List Nat) : perL w.reverse = perL w := by
  unfold perL
  rw [List.length_reverse]
  apply List.filter_congr
  intro p hp
  have hp := List.mem_range'_1.mp hp
  have h1 := perB_iff (w := w) (p := p) (by omega)
  have h2 := perB_iff (w := w.reverse) (p := p) (by rw [List.length_reverse]; omega)
  rw [List.length_reverse] at h2
  cases a : perB w p with
  | true => exact h2.mpr (per_rev (h1.mp a))
  | false => cases b : perB w.reverse p with
    | false => rfl
    | true =>
      have := per_rev (w := w.reverse) (t := p) (by rw [List.length_reverse]; exact h2.mp b)
      rw [List.reverse_reverse, List.length_reverse] at this
      rw [h1.mpr this] at a
      exact absurd a (by decide)
/-- the borders above b, b the greatest one below h -/
theorem chain_step (p : Nat → Bool) (b h : Nat) (hb : b < h) (hp : p h = true) (no : ∀ j, b < j → j < h → p j = false) : ∀ n, h < n → (List.range n).filter (fun j => p j && decide (b < j)) = h :: (List.range n).filter (fun j => p j && decide (h < j)) := by
  intro n
  induction n with
  | zero => intro h1; omega
  | succ n ih =>
    intro h1
    rw [List.range_succ, List.filter_append, List.filter_append]
    by_cases q : h < n
    · rw [ih q]
      have e1 : decide (b < n) = true := decide_eq_true (by omega)
      have e2 : decide (h < n) = true := decide_eq_true q
      simp only [List.filter_cons, List.filter_nil, e1, e2, List.cons_append]
    · have : h = n := by omega
      subst this
      have e0 : (List.range h).filter (fun j => p j && decide (b < j)) = [] := by
        rw [List.filter_eq_nil_iff]
        intro j hj
        have := List.mem_range.mp hj
        by_cases q2 : b < j
        · rw [no j q2 this]; simp
        · simp [q2]
      have e3 : (List.range h).filter (fun j => p j && decide (h < j)) = [] := by
        rw [List.filter_eq_nil_iff]
        intro j hj
        have := List.mem_range.mp hj
        have : ¬ h < j := by omega
        simp [this]
      rw [e0, e3]
      have e1 : decide (b < h) = true := decide_eq_true hb
      have e2 : decide (h < h) = false := decide_eq_false (by omega)
      simp only [List.filter_cons, List.filter_nil, e1, e2, hp, Bool.and_true, Bool.and_false, Bool.false_eq_true, if_true, if_false, List.nil_append]
def above (w : List Nat) (h : Nat) : List Nat := ((List.range w.length).filter fun j => borB w j && decide (h < j)).reverse
theorem above_step {w : List Nat} {h b : Nat} (hh : Bo (fnL w) w.length h) (hm : IsMax (fnL w) h b) : above w b = above w h ++ [h] := by
  unfold above
  have h0 := bo_per.mpr hh
  have hb := hm.bo.1
  rw [chain_step (borB w) b h hb h0.1 (fun j h1 h2 => ?_) w.length h0.2, List.reverse_cons]
  cases q : borB w j with
  | false => rfl
  | true =>
    have := hm.mx j ((bo_bo hh h2).mp (bo_per.mp ⟨q, by omega⟩))
    omega
theorem above_top {w : List Nat} {b : Nat} (hm : IsMax (fnL w) w.length b) : above w b = [] := by
  unfold above
  rw [List.reverse_eq_nil_iff, List.filter_eq_nil_iff]
  intro j hj
  have hj := List.mem_range.mp hj
  intro q
  rw [Bool.and_eq_true, decide_eq_true_eq] at q
  have := hm.mx j (bo_per.mp ⟨q.1, hj⟩)
  omega
theorem above_zero {w : List Nat} (hw : w ≠ []) : 0 :: (above w 0).reverse = bordL w := by
  have hn := List.length_pos_iff.mpr hw
  unfold above bordL
  rw [List.reverse_reverse]
  have h0 : borB w 0 = true := (bo_per.mpr (bo_zero hn)).1
  have key : ∀ n, 0 < n → (List.range n).filter (borB w) = 0 :: (List.range n).filter (fun j => borB w j && decide (0 < j)) := by
    intro n
    induction n with
    | zero => intro h; omega
    | succ n ih =>
      intro _
      rw [List.range_succ, List.filter_append, List.filter_append]
      by_cases q : 0 < n
      · rw [ih q]
        have e1 : decide (0 < n) = true := decide_eq_true q
        simp only [List.filter_cons, List.filter_nil, e1, Bool.and_true, List.cons_append]
      · have : n = 0 := by omega
        subst this
        simp [h0]
  exact (key w.length hn).symm
theorem bord_len (w : List Nat) : (bordL w).length ≤ w.length := by
  unfold bordL
  have := List.length_filter_le (borB w) (List.range w.length)
  rw [List.length_range] at this
  exact this
theorem per_len (w : List Nat) : (perL w).length ≤ w.length := by
  unfold perL
  have := List.length_filter_le (perB w) (List.range' 1 w.length)
  rw [List.length_range'] at this
  exact this
theorem isMax_uniq {f : Nat → Nat} {k a b : Nat} (h : IsMax f k a) (g : IsMax f k b) : a = b := Nat.le_antisymm (g.mx a h.bo) (h.mx b g.bo)
/-- the last border is the greatest -/
theorem bord_last {w : List Nat} {b : Nat} (hw : w ≠ []) (hm : IsMax (fnL w) w.length b) : ∃ l, bordL w = l ++ [b] := by
  have h0 := bo_per.mpr hm.bo
  have key : ∀ n, b < n → n ≤ w.length → ∃ l, (List.range n).filter (borB w) = l ++ [b] := by
    intro n
    induction n with
    | zero => intro h; omega
    | succ n ih =>
      intro h1 h2
      rw [List.range_succ, List.filter_append]
      by_cases q : b < n
      · obtain ⟨l, e⟩ := ih q (by omega)
        refine ⟨l, ?_⟩
        have : borB w n = false := by
          cases z : borB w n with
          | false => rfl
          | true =>
            have := hm.mx n (bo_per.mp ⟨z, by omega⟩)
            omega
        rw [e]
        simp only [List.filter_cons, this, List.filter_nil, Bool.false_eq_true, if_false, List.append_nil]
      · have : b = n := by omega
        subst this
        exact ⟨(List.range b).filter (borB w), by simp only [List.filter_cons, h0.1, List.filter_nil, if_true]⟩
  exact key w.length h0.2 (Nat.le_refl _)
theorem per_first {w : List Nat} {b : Nat} (hw : w ≠ []) (hm : IsMax (fnL w) w.length b) : ∃ l, perL w = (w.length - b) :: l := by
  obtain ⟨l, e⟩ := bord_last hw hm
  refine ⟨l.reverse.map fun j => w.length - j, ?_⟩
  rw [← per_bord, e, List.reverse_append]
  rfl
/-! breaks -/
def unl (w : List Nat) (k : Nat) : List Nat := (List.range (w.length - k)).filter fun i => w[i]! != w[i + k]!
theorem unl_per {w : List Nat} {k : Nat} : unl w k = [] ↔ Per (fnL w) w.length k := by
  unfold unl
  rw [List.filter_eq_nil_iff]
  constructor
  · intro h i hi
    have := h i (List.mem_range.mpr (by omega))
    simp only [bne_iff_ne, ne_eq, Decidable.not_not] at this
    exact this
  · intro h i hi
    have := List.mem_range.mp hi
    simp only [bne_iff_ne, ne_eq, Decidable.not_not]
    exact h i (by omega)
/-! alike lengths -/
structure IsZ (f : Nat → Nat) (n p k : Nat) : Prop where
  le : p + k ≤ n
  eq : ∀ i, i < k → f i = f (p + i)
  mx : p + k < n → f k ≠ f (p + k)
theorem IsZ.uniq {f : Nat → Nat} {n p a b : Nat} (h : IsZ f n p a) (g : IsZ f n p b) : a = b := by
  rcases Nat.lt_trichotomy a b with q | q | q
  · have := g.le
    exact absurd (g.eq a q) (h.mx (by omega))
  · exact q
  · have := h.le
    exact absurd (h.eq b q) (g.mx (by omega))
theorem isZ_zero {f : Nat → Nat} {n : Nat} : IsZ f n 0 n := ⟨by omega, fun i _ => by rw [Nat.zero_add], fun h => by omega⟩
theorem z_per {f : Nat → Nat} {n p k : Nat} (h : IsZ f n p k) : p + k = n ↔ (p ≤ n ∧ Per f n p) := by
  have hle := h.le
  constructor
  · intro e
    refine ⟨by omega, fun i hi => ?_⟩
    rw [h.eq i (by omega), Nat.add_comm]
  · rintro ⟨h1, h2⟩
    apply Classical.byContradiction
    intro q
    have := h2 k (by omega)
    rw [Nat.add_comm] at this
    exact h.mx (by omega) this
/-- the box known so far -/
structure Box (f : Nat → Nat) (n b e : Nat) : Prop where
  le : e ≤ n
  be : b ≤ e
  eq : ∀ i, b + i < e → f (b + i) = f i
theorem box_start {f : Nat → Nat} {n : Nat} : Box f n 0 0 := ⟨by omega, by omega, fun i h => by omega⟩
theorem box_of {f : Nat → Nat} {n p k : Nat} (h : IsZ f n p k) : Box f n p (p + k) := ⟨h.le, by omega, fun i hi => (h.eq i (by omega)).symm⟩
/-- what the box tells -/
theorem box_cand {f : Nat → Nat} {n b e p z : Nat} (B : Box f n b e) (hb : b ≤ p) (hp : p < e) (hz : IsZ f n (p - b) z) : p + min (e - p) z ≤ n ∧ ∀ i, i < min (e - p) z → f i = f (p + i) := by
  have h1 := B.le
  refine ⟨by omega, fun i hi => ?_⟩
  rw [hz.eq i (by omega)]
  have := B.eq (p - b + i) (by omega)
  rw [show b + (p - b + i) = p + i by omega] at this
  exact this.symm
end Py

/-! k03: the program's borders. -/
namespace Py
theorem chars_at {l : List Nat} {k : Nat} {x : D} (h : (chars l)[k]? = some x) : k < l.length ∧ x = .str [l[k]!] := by
  rw [chars_eq, List.getElem?_map] at h
  cases q : l[k]? with
  | none => rw [q] at h; simp at h
  | some c =>
    rw [q] at h
    obtain ⟨h1, h2⟩ := List.getElem?_eq_some_iff.mp q
    simp only [Option.map, Option.some.injEq] at h
    refine ⟨h1, ?_⟩
    rw [← h, getElem!_pos l k h1, h2]
theorem forL_rt {f : D → Env → M Fw} {x : D} {l : List D} {ρ ρ1 : Env} {fr : Bool} {d : D} (h : f x ρ = .ok (.rt fr d) ρ1) : forL f (x :: l) ρ = .ok (.rt fr d) ρ1 := by simp only [forL, h, M.bind]
theorem natL_app (L : List Nat) (b : Nat) : natL L ++ [D.int (b : Nat)] = natL (L ++ [b]) := by unfold natL; rw [List.map_append]; rfl
structure HasS (T : Tb) : Prop where
  h0 : T.fd 0 = some b0
  h1 : T.fd 1 = some b1
  h2 : T.fd 2 = some b2
  h5 : T.fd 5 = some b5
  h6 : T.fd 6 = some b6
  h7 : T.fd 7 = some b7
  hN : 100000 < T.N
section
variable {T : Tb} (hR : HasS T)
include hR
theorem needS_ok (d : Nat) {w : List Nat} (hl : w.length ≤ 200) (hw : LetOk 8 w) : (clOf T (d + 3)).run 7 [.str w] = .ok false .non none := needword_ok hR.h5 hR.h6 hR.h7 d hl hw
theorem backS_ok (h26 : T.fd 26 = some b26) (d : Nat) {w : List Nat} (hl : w.length ≤ 200) (hw : LetOk 8 w) : (clOf T (d + 4)).run 26 [.str w] = .ok false (.str w.reverse) none := by
  rw [run_def h26]
  have e := needS_ok hR d hl hw
  simp only [runF, Int.cast_ofNat_Int, blsD, List.all, id, startE, fill, cellsOf, endF, ioOf, eSs_nil, eSs_cons, eS_ret, eS_exp, eS_set, eS_setP, eS_put, eS_app, eS_ife, eS_pass, eS_brk, eS_cnt, evT, eE_cst, eE_var, eE_bin, eE_not, eE_cmp, eE_cmp2, eE_and, eE_or, eE_ite, eE_tup, eE_lst, eE_idx, eE_slc, eE_rev, eE_nil, eE_call, eE_calli, eE_bi, eE_me, eE_lrg1, eE_isi, pk, evEs, evPs, evRs, rdE, rdP, rdL, get, put, sto, stoL, bind_ok, M.bind, callN, callIo, retE, fin, finS, finB, biD, bLen, lenD, ofO, truth, partI, slcV, revV, idxV, isNew, List.replicate, cmpD, ltD, isD, binD, Option.map, if_true, if_false, Bool.false_eq_true, Bool.true_eq_false, decide_true, decide_false, List.length_cons, List.length_nil, List.append_nil, List.cons_append, List.nil_append, List.drop_nil, chg, putV, appV, tst, Bool.not_true, Bool.not_false, beq_self_eq_true, bnd, bindP, bindL, plain_s, plain_i, plain_n, plain_b, eqD_s, eqD_i, eqD_b, bAbs, bInt, bMax, bMin, bAll, bAny, Bool.and_true, Bool.true_and, Bool.and_false, Bool.false_and, Nat.sub_self, Nat.zero_add, Nat.reduceAdd, Nat.reduceSub, Nat.reduceBEq, b26, e]
theorem bare_okS (h9 : T.fd 9 = some b9) (d : Nat) {w : List Nat} (hl : w.length ≤ 200) (hw : LetOk 8 w) (hne : w ≠ []) : (clOf T (d + 3)).run 9 [.str w] = .ok false .non none := by
  rw [run_def h9]
  have e := fits_ok hR.h5 hR.h6 d hl hw
  have q : (w == []) = false := beq_eq_false_iff_ne.mpr hne
  simp only [runF, Int.cast_ofNat_Int, blsD, List.all, id, startE, fill, cellsOf, endF, ioOf, eSs_nil, eSs_cons, eS_ret, eS_exp, eS_set, eS_setP, eS_put, eS_app, eS_ife, eS_pass, eS_brk, eS_cnt, evT, eE_cst, eE_var, eE_bin, eE_not, eE_cmp, eE_cmp2, eE_and, eE_or, eE_ite, eE_tup, eE_lst, eE_idx, eE_slc, eE_rev, eE_nil, eE_call, eE_calli, eE_bi, eE_me, eE_lrg1, eE_isi, pk, evEs, evPs, evRs, rdE, rdP, rdL, get, put, sto, stoL, bind_ok, M.bind, callN, callIo, retE, fin, finS, finB, biD, bLen, lenD, ofO, truth, partI, slcV, revV, idxV, isNew, List.replicate, cmpD, ltD, isD, binD, Option.map, if_true, if_false, Bool.false_eq_true, Bool.true_eq_false, decide_true, decide_false, List.length_cons, List.length_nil, List.append_nil, List.cons_append, List.nil_append, List.drop_nil, chg, putV, appV, tst, Bool.not_true, Bool.not_false, beq_self_eq_true, bnd, bindP, bindL, plain_s, plain_i, plain_n, plain_b, eqD_s, eqD_i, eqD_b, bAbs, bInt, bMax, bMin, bAll, bAny, Bool.and_true, Bool.true_and, Bool.and_false, Bool.false_and, Nat.sub_self, Nat.zero_add, Nat.reduceAdd, Nat.reduceSub, Nat.reduceBEq, b9, e, q]
theorem words2_okS (h8 : T.fd 8 = some b8) (d : Nat) {x y : List Nat} (hx : x.length ≤ 200) (hxL : LetOk 8 x) (hy : y.length ≤ 200) (hyL : LetOk 8 y) : (clOf T (d + 4)).run 8 [.str x, .str y] = .ok false .non none := by
  rw [run_def h8]
  have e := needS_ok hR d hx hxL
  have e2 := needS_ok hR d hy hyL
  simp only [runF, Int.cast_ofNat_Int, blsD, List.all, id, startE, fill, cellsOf, endF, ioOf, eSs_nil, eSs_cons, eS_ret, eS_exp, eS_set, eS_setP, eS_put, eS_app, eS_ife, eS_pass, eS_brk, eS_cnt, evT, eE_cst, eE_var, eE_bin, eE_not, eE_cmp, eE_cmp2, eE_and, eE_or, eE_ite, eE_tup, eE_lst, eE_idx, eE_slc, eE_rev, eE_nil, eE_call, eE_calli, eE_bi, eE_me, eE_lrg1, eE_isi, pk, evEs, evPs, evRs, rdE, rdP, rdL, get, put, sto, stoL, bind_ok, M.bind, callN, callIo, retE, fin, finS, finB, biD, bLen, lenD, ofO, truth, partI, slcV, revV, idxV, isNew, List.replicate, cmpD, ltD, isD, binD, Option.map, if_true, if_false, Bool.false_eq_true, Bool.true_eq_false, decide_true, decide_false, List.length_cons, List.length_nil, List.append_nil, List.cons_append, List.nil_append, List.drop_nil, chg, putV, appV, tst, Bool.not_true, Bool.not_false, beq_self_eq_true, bnd, bindP, bindL, plain_s, plain_i, plain_n, plain_b, eqD_s, eqD_i, eqD_b, bAbs, bInt, bMax, bMin, bAll, bAny, Bool.and_true, Bool.true_and, Bool.and_false, Bool.false_and, Nat.sub_self, Nat.zero_add, Nat.reduceAdd, Nat.reduceSub, Nat.reduceBEq, b8, e, e2]
end
structure RowIs (w : List Nat) (L : List Nat) : Prop where
  len : L.length = w.length
  mx : ∀ j, j < w.length → IsMax (fnL w) (j + 1) L[j]!
theorem RowIs.uniq {w L M : List Nat} (h : RowIs w L) (g : RowIs w M) : L = M := ext_get (h.len.trans g.len.symm) fun i hi => isMax_uniq (h.mx i (by rw [h.len] at hi; exact hi)) (g.mx i (by rw [h.len] at hi; exact hi))
structure ZRow (w : List Nat) (L : List Nat) : Prop where
  len : L.length = w.length
  z : ∀ j, j < w.length → IsZ (fnL w) w.length j L[j]!
theorem ZRow.uniq {w L M : List Nat} (h : ZRow w L) (g : ZRow w M) : L = M := ext_get (h.len.trans g.len.symm) fun i hi => (h.z i (by rw [h.len] at hi; exact hi)).uniq (g.z i (by rw [h.len] at hi; exact hi))
theorem snoc_at {L : List Nat} {b : Nat} {P : Nat → Nat → Prop} {k : Nat} (hl : L.length = k) (h : ∀ j, j < k → P j L[j]!) (hb : P k b) : ∀ j, j < k + 1 → P j (L ++ [b])[j]! := fun j hj => by
  by_cases q : j < k
  · rw [app_get (by omega)]; exact h j q
  · have : j = 0 + L.length := by omega
    rw [this, app_get2 (by simp)]
    have e : 0 + L.length = k := by omega
    rw [e]; exact hb
section
variable {T : Tb} (hT : Has T) (hR : HasS T)
include hT hR
theorem row_ok (d : Nat) {w : List Nat} (hw : w ≠ []) (hl : w.length ≤ 1000) : ∃ L, RowIs w L ∧ (clOf T (d + 1)).run 36 [.str w] = .ok true (.lst (natL L)) none := by
  have hn := List.length_pos_iff.mpr hw
  rw [run_def hT.h36]
  have hdl : (w.drop 1).length = w.length - 1 := List.length_drop
  obtain ⟨ρ', L1, L, t2, t3, hL, hLm, rfl⟩ := for_inv (f := fun x ρ => (bnd (.nm 2) x ρ).bind fun _ ρ => evSs (clOf T d) [(.set 3 (.idx (.var 1) (.cst (.int (-1))))), (.whl (.and (.cmp .gt (.var 3) (.cst (.int 0))) (.cmp .ne (.idx (.var 0) (.var 3)) (.var 2))) [(.set 3 (.idx (.var 1) (.bin .sub (.var 3) (.cst (.int 1)))))]), (.app 1 (.ite (.cmp .eq (.idx (.var 0) (.var 3)) (.var 2)) (.bin .add (.var 3) (.cst (.int 1))) (.cst (.int 0))))] ρ) (chars (w.drop 1))
    (fun k ρ => ∃ (L : List Nat) (t2 t3 : Cell), L.length = k + 1 ∧ (∀ j, j < k + 1 → IsMax (fnL w) (j + 1) L[j]!) ∧ ρ = [some (.shr, .str w), some (.own, .lst (natL (L))), t2, t3]) [some (.shr, .str w), some (.own, .lst (natL ([0]))), none, none] (by
      rintro k x ρ hx ⟨L, t2, t3, hL, hLm, rfl⟩
      obtain ⟨hk, rfl⟩ := chars_at hx
      rw [hdl] at hk
      have hxl : (w.drop 1)[k]! = w[k + 1]! := by rw [drop_get (by omega), Nat.add_comm]
      rw [hxl]
      have hb := hLm k (by omega)
      have aL := atD_last (l := L) (k := k) hL
      generalize hbb : L[k]! = b at *
      obtain ⟨ρ2, W, h, hc, hh, rfl⟩ := whl_ok (t := evT (clOf T d) (.and (.cmp .gt (.var 3) (.cst (.int 0))) (.cmp .ne (.idx (.var 0) (.var 3)) (.var 2)))) (f := evSs (clOf T d) [(.set 3 (.idx (.var 1) (.bin .sub (.var 3) (.cst (.int 1)))))]) (Q := fun ρ => ∃ h, Cand (fnL w) (k + 1) h ∧ (h = 0 ∨ fnL w h = fnL w (k + 1)) ∧ ρ = [some (.shr, .str w), some (.own, .lst (natL L)), some (.shr, .str [w[k + 1]!]), some (.shr, .int (h : Nat))])
        (fun m ρ => ∃ h, m = h ∧ Cand (fnL w) (k + 1) h ∧ ρ = [some (.shr, .str w), some (.own, .lst (natL L)), some (.shr, .str [w[k + 1]!]), some (.shr, .int (h : Nat))]) (by
          rintro m ρ ⟨h, rfl, hc, rfl⟩
          have hlt := hc.bo.1
          by_cases q : m = 0
          · left
            subst q
            have q1 : decide ((0 : Int) < 0) = false := rfl
            exact ⟨[some (.shr, .str w), some (.own, .lst (natL L)), some (.shr, .str [w[k + 1]!]), some (.shr, .int (0 : Nat))], by simp only [runF, Int.cast_ofNat_Int, blsD, List.all, id, startE, fill, cellsOf, endF, ioOf, eSs_nil, eSs_cons, eS_ret, eS_exp, eS_set, eS_setP, eS_put, eS_app, eS_ife, eS_pass, eS_brk, eS_cnt, evT, eE_cst, eE_var, eE_bin, eE_not, eE_cmp, eE_cmp2, eE_and, eE_or, eE_ite, eE_tup, eE_lst, eE_idx, eE_slc, eE_rev, eE_nil, eE_call, eE_calli, eE_bi, eE_me, eE_lrg1, eE_isi, pk, evEs, evPs, evRs, rdE, rdP, rdL, get, put, sto, stoL, bind_ok, M.bind, callN, callIo, retE, fin, finS, finB, biD, bLen, lenD, ofO, truth, partI, slcV, revV, idxV, isNew, List.replicate, cmpD, ltD, isD, binD, Option.map, if_true, if_false, Bool.false_eq_true, Bool.true_eq_false, decide_true, decide_false, List.length_cons, List.length_nil, List.append_nil, List.cons_append, List.nil_append, List.drop_nil, chg, putV, appV, tst, Bool.not_true, Bool.not_false, beq_self_eq_true, bnd, bindP, bindL, plain_s, plain_i, plain_n, plain_b, eqD_s, eqD_i, eqD_b, bAbs, bInt, bMax, bMin, bAll, bAny, Bool.and_true, Bool.true_and, Bool.and_false, Bool.false_and, Nat.sub_self, Nat.zero_add, Nat.reduceAdd, Nat.reduceSub, Nat.reduceBEq, q1], 0, hc, .inl rfl, rfl⟩
          · have q1 : ((0 : Int) < (m : Int)) := by omega
            have aM := atD_nat (l := w) (k := m) (by omega)
            by_cases e : w[m]! = w[k + 1]!
            · left
              have e' : (w[m]! == w[k + 1]!) = true := by rw [e]; exact beq_self_eq_true _
              exact ⟨[some (.shr, .str w), some (.own, .lst (natL L)), some (.shr, .str [w[k + 1]!]), some (.shr, .int (m : Nat))], by simp only [runF, Int.cast_ofNat_Int, blsD, List.all, id, startE, fill, cellsOf, endF, ioOf, eSs_nil, eSs_cons, eS_ret, eS_exp, eS_set, eS_setP, eS_put, eS_app, eS_ife, eS_pass, eS_brk, eS_cnt, evT, eE_cst, eE_var, eE_bin, eE_not, eE_cmp, eE_cmp2, eE_and, eE_or, eE_ite, eE_tup, eE_lst, eE_idx, eE_slc, eE_rev, eE_nil, eE_call, eE_calli, eE_bi, eE_me, eE_lrg1, eE_isi, pk, evEs, evPs, evRs, rdE, rdP, rdL, get, put, sto, stoL, bind_ok, M.bind, callN, callIo, retE, fin, finS, finB, biD, bLen, lenD, ofO, truth, partI, slcV, revV, idxV, isNew, List.replicate, cmpD, ltD, isD, binD, Option.map, if_true, if_false, Bool.false_eq_true, Bool.true_eq_false, decide_true, decide_false, List.length_cons, List.length_nil, List.append_nil, List.cons_append, List.nil_append, List.drop_nil, chg, putV, appV, tst, Bool.not_true, Bool.not_false, beq_self_eq_true, bnd, bindP, bindL, plain_s, plain_i, plain_n, plain_b, eqD_s, eqD_i, eqD_b, bAbs, bInt, bMax, bMin, bAll, bAny, Bool.and_true, Bool.true_and, Bool.and_false, Bool.false_and, Nat.sub_self, Nat.zero_add, Nat.reduceAdd, Nat.reduceSub, Nat.reduceBEq, q1, aM, beq1, e'], m, hc, .inr e, rfl⟩
            · right
              have e' : (w[m]! == w[k + 1]!) = false := beq_eq_false_iff_ne.mpr e
              have s1 : (m : Int) - 1 = ((m - 1 : Nat) : Int) := by omega
              have aL2 := natL_at (l := L) (k := m - 1) (by omega)
              have hm := hLm (m - 1) (by omega)
              rw [show m - 1 + 1 = m by omega] at hm
              refine ⟨[some (.shr, .str w), some (.own, .lst (natL L)), some (.shr, .str [w[k + 1]!]), some (.shr, .int (m : Nat))], _, L[m - 1]!, by simp only [runF, Int.cast_ofNat_Int, blsD, List.all, id, startE, fill, cellsOf, endF, ioOf, eSs_nil, eSs_cons, eS_ret, eS_exp, eS_set, eS_setP, eS_put, eS_app, eS_ife, eS_pass, eS_brk, eS_cnt, evT, eE_cst, eE_var, eE_bin, eE_not, eE_cmp, eE_cmp2, eE_and, eE_or, eE_ite, eE_tup, eE_lst, eE_idx, eE_slc, eE_rev, eE_nil, eE_call, eE_calli, eE_bi, eE_me, eE_lrg1, eE_isi, pk, evEs, evPs, evRs, rdE, rdP, rdL, get, put, sto, stoL, bind_ok, M.bind, callN, callIo, retE, fin, finS, finB, biD, bLen, lenD, ofO, truth, partI, slcV, revV, idxV, isNew, List.replicate, cmpD, ltD, isD, binD, Option.map, if_true, if_false, Bool.false_eq_true, Bool.true_eq_false, decide_true, decide_false, List.length_cons, List.length_nil, List.append_nil, List.cons_append, List.nil_append, List.drop_nil, chg, putV, appV, tst, Bool.not_true, Bool.not_false, beq_self_eq_true, bnd, bindP, bindL, plain_s, plain_i, plain_n, plain_b, eqD_s, eqD_i, eqD_b, bAbs, bInt, bMax, bMin, bAll, bAny, Bool.and_true, Bool.true_and, Bool.and_false, Bool.false_and, Nat.sub_self, Nat.zero_add, Nat.reduceAdd, Nat.reduceSub, Nat.reduceBEq, q1, aM, beq1, e'], ?_, hm.bo.1, L[m - 1]!, rfl, cand_down hc e hm, rfl⟩
              simp only [runF, Int.cast_ofNat_Int, blsD, List.all, id, startE, fill, cellsOf, endF, ioOf, eSs_nil, eSs_cons, eS_ret, eS_exp, eS_set, eS_setP, eS_put, eS_app, eS_ife, eS_pass, eS_brk, eS_cnt, evT, eE_cst, eE_var, eE_bin, eE_not, eE_cmp, eE_cmp2, eE_and, eE_or, eE_ite, eE_tup, eE_lst, eE_idx, eE_slc, eE_rev, eE_nil, eE_call, eE_calli, eE_bi, eE_me, eE_lrg1, eE_isi, pk, evEs, evPs, evRs, rdE, rdP, rdL, get, put, sto, stoL, bind_ok, M.bind, callN, callIo, retE, fin, finS, finB, biD, bLen, lenD, ofO, truth, partI, slcV, revV, idxV, isNew, List.replicate, cmpD, ltD, isD, binD, Option.map, if_true, if_false, Bool.false_eq_true, Bool.true_eq_false, decide_true, decide_false, List.length_cons, List.length_nil, List.append_nil, List.cons_append, List.nil_append, List.drop_nil, chg, putV, appV, tst, Bool.not_true, Bool.not_false, beq_self_eq_true, bnd, bindP, bindL, plain_s, plain_i, plain_n, plain_b, eqD_s, eqD_i, eqD_b, bAbs, bInt, bMax, bMin, bAll, bAny, Bool.and_true, Bool.true_and, Bool.and_false, Bool.false_and, Nat.sub_self, Nat.zero_add, Nat.reduceAdd, Nat.reduceSub, Nat.reduceBEq, s1, aL2]) T.N b [some (.shr, .str w), some (.own, .lst (natL L)), some (.shr, .str [w[k + 1]!]), some (.shr, .int (b : Nat))] (by have := hR.hN; have := hb.bo.1; omega) ⟨b, rfl, cand_start hb, rfl⟩
      have hhlt := hc.bo.1
      have aH := atD_nat (l := w) (k := h) (by omega)
      have hF : evS (clOf T d) (.whl (.and (.cmp .gt (.var 3) (.cst (.int 0))) (.cmp .ne (.idx (.var 0) (.var 3)) (.var 2))) [(.set 3 (.idx (.var 1) (.bin .sub (.var 3) (.cst (.int 1)))))]) [some (.shr, .str w), some (.own, .lst (natL L)), some (.shr, .str [w[k + 1]!]), some (.shr, .int (b : Nat))] = .ok .nx [some (.shr, .str w), some (.own, .lst (natL L)), some (.shr, .str [w[k + 1]!]), some (.shr, .int (h : Nat))] := by
        rw [eS_whl, clN]; exact W
      have key : ∃ b', IsMax (fnL w) (k + 2) b' ∧ evE (clOf T d) (.ite (.cmp .eq (.idx (.var 0) (.var 3)) (.var 2)) (.bin .add (.var 3) (.cst (.int 1))) (.cst (.int 0))) [some (.shr, .str w), some (.own, .lst (natL L)), some (.shr, .str [w[k + 1]!]), some (.shr, .int (h : Nat))] = .ok (false, .int (b' : Nat)) [some (.shr, .str w), some (.own, .lst (natL L)), some (.shr, .str [w[k + 1]!]), some (.shr, .int (h : Nat))] := by
        by_cases e : fnL w h = fnL w (k + 1)
        · have e' : (w[h]! == w[k + 1]!) = true := beq_iff_eq.mpr e
          have s1 : (h : Int) + 1 = ((h + 1 : Nat) : Int) := rfl
          exact ⟨h + 1, cand_hit hc e, by simp only [runF, Int.cast_ofNat_Int, blsD, List.all, id, startE, fill, cellsOf, endF, ioOf, eSs_nil, eSs_cons, eS_ret, eS_exp, eS_set, eS_setP, eS_put, eS_app, eS_ife, eS_pass, eS_brk, eS_cnt, evT, eE_cst, eE_var, eE_bin, eE_not, eE_cmp, eE_cmp2, eE_and, eE_or, eE_ite, eE_tup, eE_lst, eE_idx, eE_slc, eE_rev, eE_nil, eE_call, eE_calli, eE_bi, eE_me, eE_lrg1, eE_isi, pk, evEs, evPs, evRs, rdE, rdP, rdL, get, put, sto, stoL, bind_ok, M.bind, callN, callIo, retE, fin, finS, finB, biD, bLen, lenD, ofO, truth, partI, slcV, revV, idxV, isNew, List.replicate, cmpD, ltD, isD, binD, Option.map, if_true, if_false, Bool.false_eq_true, Bool.true_eq_false, decide_true, decide_false, List.length_cons, List.length_nil, List.append_nil, List.cons_append, List.nil_append, List.drop_nil, chg, putV, appV, tst, Bool.not_true, Bool.not_false, beq_self_eq_true, bnd, bindP, bindL, plain_s, plain_i, plain_n, plain_b, eqD_s, eqD_i, eqD_b, bAbs, bInt, bMax, bMin, bAll, bAny, Bool.and_true, Bool.true_and, Bool.and_false, Bool.false_and, Nat.sub_self, Nat.zero_add, Nat.reduceAdd, Nat.reduceSub, Nat.reduceBEq, aH, beq1, e', s1]⟩
        · have e' : (w[h]! == w[k + 1]!) = false := beq_eq_false_iff_ne.mpr e
          have h0 : h = 0 := by rcases hh with h0 | h0; exact h0; exact absurd h0 e
          exact ⟨0, by rw [h0] at hc e; exact cand_miss hc e, by simp only [runF, Int.cast_ofNat_Int, blsD, List.all, id, startE, fill, cellsOf, endF, ioOf, eSs_nil, eSs_cons, eS_ret, eS_exp, eS_set, eS_setP, eS_put, eS_app, eS_ife, eS_pass, eS_brk, eS_cnt, evT, eE_cst, eE_var, eE_bin, eE_not, eE_cmp, eE_cmp2, eE_and, eE_or, eE_ite, eE_tup, eE_lst, eE_idx, eE_slc, eE_rev, eE_nil, eE_call, eE_calli, eE_bi, eE_me, eE_lrg1, eE_isi, pk, evEs, evPs, evRs, rdE, rdP, rdL, get, put, sto, stoL, bind_ok, M.bind, callN, callIo, retE, fin, finS, finB, biD, bLen, lenD, ofO, truth, partI, slcV, revV, idxV, isNew, List.replicate, cmpD, ltD, isD, binD, Option.map, if_true, if_false, Bool.false_eq_true, Bool.true_eq_false, decide_true, decide_false, List.length_cons, List.length_nil, List.append_nil, List.cons_append, List.nil_append, List.drop_nil, chg, putV, appV, tst, Bool.not_true, Bool.not_false, beq_self_eq_true, bnd, bindP, bindL, plain_s, plain_i, plain_n, plain_b, eqD_s, eqD_i, eqD_b, bAbs, bInt, bMax, bMin, bAll, bAny, Bool.and_true, Bool.true_and, Bool.and_false, Bool.false_and, Nat.sub_self, Nat.zero_add, Nat.reduceAdd, Nat.reduceSub, Nat.reduceBEq, aH, beq1, e']⟩
      obtain ⟨b', hb', hE⟩ := key
      have blt : Nat.blt L.length sz = true := by
        have : L.length < sz := by unfold sz; omega
        exact Nat.blt_eq.mpr this
      refine ⟨_, ?_, L ++ [b'], some (.shr, .str [w[k + 1]!]), some (.shr, .int (h : Nat)), by rw [List.length_append, hL]; rfl, snoc_at (P := fun j x => IsMax (fnL w) (j + 1) x) hL hLm hb', rfl⟩
      simp only [runF, Int.cast_ofNat_Int, blsD, List.all, id, startE, fill, cellsOf, endF, ioOf, eSs_nil, eSs_cons, eS_ret, eS_exp, eS_set, eS_setP, eS_put, eS_app, eS_ife, eS_pass, eS_brk, eS_cnt, evT, eE_cst, eE_var, eE_bin, eE_not, eE_cmp, eE_cmp2, eE_and, eE_or, eE_ite, eE_tup, eE_lst, eE_idx, eE_slc, eE_rev, eE_nil, eE_call, eE_calli, eE_bi, eE_me, eE_lrg1, eE_isi, pk, evEs, evPs, evRs, rdE, rdP, rdL, get, put, sto, stoL, bind_ok, M.bind, callN, callIo, retE, fin, finS, finB, biD, bLen, lenD, ofO, truth, partI, slcV, revV, idxV, isNew, List.replicate, cmpD, ltD, isD, binD, Option.map, if_true, if_false, Bool.false_eq_true, Bool.true_eq_false, decide_true, decide_false, List.length_cons, List.length_nil, List.append_nil, List.cons_append, List.nil_append, List.drop_nil, chg, putV, appV, tst, Bool.not_true, Bool.not_false, beq_self_eq_true, bnd, bindP, bindL, plain_s, plain_i, plain_n, plain_b, eqD_s, eqD_i, eqD_b, bAbs, bInt, bMax, bMin, bAll, bAny, Bool.and_true, Bool.true_and, Bool.and_false, Bool.false_and, Nat.sub_self, Nat.zero_add, Nat.reduceAdd, Nat.reduceSub, Nat.reduceBEq, aL, hF, hE, natL_len, blt, natL_app]) ⟨[0], none, none, rfl, fun j hj => by
        have : j = 0 := by omega
        subst this
        exact isMax_one _, rfl⟩
  have hlen : (chars (w.drop 1)).length + 1 = w.length := by rw [chars_eq, List.length_map, hdl]; omega
  rw [hlen] at hL hLm
  refine ⟨L, ⟨hL, hLm⟩, ?_⟩
  have c1 : cut w (some (1 : Int)) none = w.drop 1 := cut_fromN (b := 1) (by omega)
  have hF := for_ok (C := clOf T d) (p := (.nm 2)) (it := (.slc (.var 0) (.cst (.int 1)) .nil)) (ρ := [some (.shr, .str w), some (.own, .lst (natL ([0]))), none, none]) (ρ1 := [some (.shr, .str w), some (.own, .lst (natL ([0]))), none, none]) (by simp only [runF, Int.cast_ofNat_Int, blsD, List.all, id, startE, fill, cellsOf, endF, ioOf, eSs_nil, eSs_cons, eS_ret, eS_exp, eS_set, eS_setP, eS_put, eS_app, eS_ife, eS_pass, eS_brk, eS_cnt, evT, eE_cst, eE_var, eE_bin, eE_not, eE_cmp, eE_cmp2, eE_and, eE_or, eE_ite, eE_tup, eE_lst, eE_idx, eE_slc, eE_rev, eE_nil, eE_call, eE_calli, eE_bi, eE_me, eE_lrg1, eE_isi, pk, evEs, evPs, evRs, rdE, rdP, rdL, get, put, sto, stoL, bind_ok, M.bind, callN, callIo, retE, fin, finS, finB, biD, bLen, lenD, ofO, truth, partI, slcV, revV, idxV, isNew, List.replicate, cmpD, ltD, isD, binD, Option.map, if_true, if_false, Bool.false_eq_true, Bool.true_eq_false, decide_true, decide_false, List.length_cons, List.length_nil, List.append_nil, List.cons_append, List.nil_append, List.drop_nil, chg, putV, appV, tst, Bool.not_true, Bool.not_false, beq_self_eq_true, bnd, bindP, bindL, plain_s, plain_i, plain_n, plain_b, eqD_s, eqD_i, eqD_b, bAbs, bInt, bMax, bMin, bAll, bAny, Bool.and_true, Bool.true_and, Bool.and_false, Bool.false_and, Nat.sub_self, Nat.zero_add, Nat.reduceAdd, Nat.reduceSub, Nat.reduceBEq, c1, itI]) L1
  have hF' : evS (clOf T d) (.fors (.nm 2) (.slc (.var 0) (.cst (.int 1)) .nil) [(.set 3 (.idx (.var 1) (.cst (.int (-1))))), (.whl (.and (.cmp .gt (.var 3) (.cst (.int 0))) (.cmp .ne (.idx (.var 0) (.var 3)) (.var 2))) [(.set 3 (.idx (.var 1) (.bin .sub (.var 3) (.cst (.int 1)))))]), (.app 1 (.ite (.cmp .eq (.idx (.var 0) (.var 3)) (.var 2)) (.bin .add (.var 3) (.cst (.int 1))) (.cst (.int 0))))]) [some (.shr, .str w), some (.own, .lst [.int 0]), none, none] = _ := hF
  simp only [runF, Int.cast_ofNat_Int, blsD, List.all, id, startE, fill, cellsOf, endF, ioOf, eSs_nil, eSs_cons, eS_ret, eS_exp, eS_set, eS_setP, eS_put, eS_app, eS_ife, eS_pass, eS_brk, eS_cnt, evT, eE_cst, eE_var, eE_bin, eE_not, eE_cmp, eE_cmp2, eE_and, eE_or, eE_ite, eE_tup, eE_lst, eE_idx, eE_slc, eE_rev, eE_nil, eE_call, eE_calli, eE_bi, eE_me, eE_lrg1, eE_isi, pk, evEs, evPs, evRs, rdE, rdP, rdL, get, put, sto, stoL, bind_ok, M.bind, callN, callIo, retE, fin, finS, finB, biD, bLen, lenD, ofO, truth, partI, slcV, revV, idxV, isNew, List.replicate, cmpD, ltD, isD, binD, Option.map, if_true, if_false, Bool.false_eq_true, Bool.true_eq_false, decide_true, decide_false, List.length_cons, List.length_nil, List.append_nil, List.cons_append, List.nil_append, List.drop_nil, chg, putV, appV, tst, Bool.not_true, Bool.not_false, beq_self_eq_true, bnd, bindP, bindL, plain_s, plain_i, plain_n, plain_b, eqD_s, eqD_i, eqD_b, bAbs, bInt, bMax, bMin, bAll, bAny, Bool.and_true, Bool.true_and, Bool.and_false, Bool.false_and, Nat.sub_self, Nat.zero_add, Nat.reduceAdd, Nat.reduceSub, Nat.reduceBEq, f36, hF']
theorem bords_ok (d : Nat) {w : List Nat} (hw : w ≠ []) (hl : w.length ≤ 1000) : (clOf T (d + 2)).run 37 [.str w] = .ok true (.lst (natL (bordL w))) none := by
  have hn := List.length_pos_iff.mpr hw
  obtain ⟨L, hL, e⟩ := row_ok hT hR d hw hl
  rw [run_def hT.h37]
  have hll := hL.len
  have hm := hL.mx (w.length - 1) (by omega)
  rw [show w.length - 1 + 1 = w.length by omega] at hm
  have aL := atD_last (l := L) (k := w.length - 1) (by omega)
  generalize L[w.length - 1]! = b at *
  obtain ⟨ρ2, W, rfl⟩ := whl_ok (t := evT (clOf T (d + 1)) (.cmp .gt (.var 3) (.cst (.int 0)))) (f := evSs (clOf T (d + 1)) [(.app 2 (.var 3)), (.set 3 (.idx (.var 1) (.bin .sub (.var 3) (.cst (.int 1)))))]) (Q := fun ρ => ρ = [some (.shr, .str w), some (.own, .lst (natL L)), some (.own, .lst (natL (above w 0))), some (.shr, .int (0 : Nat))])
    (fun m ρ => ∃ h, m = h ∧ (h = 0 ∨ Bo (fnL w) w.length h) ∧ ρ = [some (.shr, .str w), some (.own, .lst (natL L)), some (.own, .lst (natL (above w h))), some (.shr, .int (h : Nat))]) (by
      rintro m ρ ⟨h, rfl, hb, rfl⟩
      by_cases q : m = 0
      · left
        subst q
        have q1 : decide ((0 : Int) < 0) = false := rfl
        exact ⟨_, by simp only [runF, Int.cast_ofNat_Int, blsD, List.all, id, startE, fill, cellsOf, endF, ioOf, eSs_nil, eSs_cons, eS_ret, eS_exp, eS_set, eS_setP, eS_put, eS_app, eS_ife, eS_pass, eS_brk, eS_cnt, evT, eE_cst, eE_var, eE_bin, eE_not, eE_cmp, eE_cmp2, eE_and, eE_or, eE_ite, eE_tup, eE_lst, eE_idx, eE_slc, eE_rev, eE_nil, eE_call, eE_calli, eE_bi, eE_me, eE_lrg1, eE_isi, pk, evEs, evPs, evRs, rdE, rdP, rdL, get, put, sto, stoL, bind_ok, M.bind, callN, callIo, retE, fin, finS, finB, biD, bLen, lenD, ofO, truth, partI, slcV, revV, idxV, isNew, List.replicate, cmpD, ltD, isD, binD, Option.map, if_true, if_false, Bool.false_eq_true, Bool.true_eq_false, decide_true, decide_false, List.length_cons, List.length_nil, List.append_nil, List.cons_append, List.nil_append, List.drop_nil, chg, putV, appV, tst, Bool.not_true, Bool.not_false, beq_self_eq_true, bnd, bindP, bindL, plain_s, plain_i, plain_n, plain_b, eqD_s, eqD_i, eqD_b, bAbs, bInt, bMax, bMin, bAll, bAny, Bool.and_true, Bool.true_and, Bool.and_false, Bool.false_and, Nat.sub_self, Nat.zero_add, Nat.reduceAdd, Nat.reduceSub, Nat.reduceBEq, q1], rfl⟩
      · right
        have hbo : Bo (fnL w) w.length m := by rcases hb with h | h; exact absurd h q; exact h
        have hlt := hbo.1
        have q1 : ((0 : Int) < (m : Int)) := by omega
        have s1 : (m : Int) - 1 = ((m - 1 : Nat) : Int) := by omega
        have aL2 := natL_at (l := L) (k := m - 1) (by omega)
        have hm2 := hL.mx (m - 1) (by omega)
        rw [show m - 1 + 1 = m by omega] at hm2
        have hab := above_step hbo hm2
        have blt : Nat.blt (above w m).length sz = true := by
          have : (above w m).length ≤ w.length := by
            unfold above
            rw [List.length_reverse]
            have := List.length_filter_le (fun j => borB w j && decide (m < j)) (List.range w.length)
            rw [List.length_range] at this
            exact this
          exact Nat.blt_eq.mpr (by unfold sz; omega)
        refine ⟨[some (.shr, .str w), some (.own, .lst (natL L)), some (.own, .lst (natL (above w m))), some (.shr, .int (m : Nat))], [some (.shr, .str w), some (.own, .lst (natL L)), some (.own, .lst (natL (above w L[m - 1]!))), some (.shr, .int (L[m - 1]! : Nat))], L[m - 1]!, by simp only [runF, Int.cast_ofNat_Int, blsD, List.all, id, startE, fill, cellsOf, endF, ioOf, eSs_nil, eSs_cons, eS_ret, eS_exp, eS_set, eS_setP, eS_put, eS_app, eS_ife, eS_pass, eS_brk, eS_cnt, evT, eE_cst, eE_var, eE_bin, eE_not, eE_cmp, eE_cmp2, eE_and, eE_or, eE_ite, eE_tup, eE_lst, eE_idx, eE_slc, eE_rev, eE_nil, eE_call, eE_calli, eE_bi, eE_me, eE_lrg1, eE_isi, pk, evEs, evPs, evRs, rdE, rdP, rdL, get, put, sto, stoL, bind_ok, M.bind, callN, callIo, retE, fin, finS, finB, biD, bLen, lenD, ofO, truth, partI, slcV, revV, idxV, isNew, List.replicate, cmpD, ltD, isD, binD, Option.map, if_true, if_false, Bool.false_eq_true, Bool.true_eq_false, decide_true, decide_false, List.length_cons, List.length_nil, List.append_nil, List.cons_append, List.nil_append, List.drop_nil, chg, putV, appV, tst, Bool.not_true, Bool.not_false, beq_self_eq_true, bnd, bindP, bindL, plain_s, plain_i, plain_n, plain_b, eqD_s, eqD_i, eqD_b, bAbs, bInt, bMax, bMin, bAll, bAny, Bool.and_true, Bool.true_and, Bool.and_false, Bool.false_and, Nat.sub_self, Nat.zero_add, Nat.reduceAdd, Nat.reduceSub, Nat.reduceBEq, q1], ?_, hm2.bo.1, L[m - 1]!, rfl, ?_, rfl⟩
        · rw [hab]
          simp only [runF, Int.cast_ofNat_Int, blsD, List.all, id, startE, fill, cellsOf, endF, ioOf, eSs_nil, eSs_cons, eS_ret, eS_exp, eS_set, eS_setP, eS_put, eS_app, eS_ife, eS_pass, eS_brk, eS_cnt, evT, eE_cst, eE_var, eE_bin, eE_not, eE_cmp, eE_cmp2, eE_and, eE_or, eE_ite, eE_tup, eE_lst, eE_idx, eE_slc, eE_rev, eE_nil, eE_call, eE_calli, eE_bi, eE_me, eE_lrg1, eE_isi, pk, evEs, evPs, evRs, rdE, rdP, rdL, get, put, sto, stoL, bind_ok, M.bind, callN, callIo, retE, fin, finS, finB, biD, bLen, lenD, ofO, truth, partI, slcV, revV, idxV, isNew, List.replicate, cmpD, ltD, isD, binD, Option.map, if_true, if_false, Bool.false_eq_true, Bool.true_eq_false, decide_true, decide_false, List.length_cons, List.length_nil, List.append_nil, List.cons_append, List.nil_append, List.drop_nil, chg, putV, appV, tst, Bool.not_true, Bool.not_false, beq_self_eq_true, bnd, bindP, bindL, plain_s, plain_i, plain_n, plain_b, eqD_s, eqD_i, eqD_b, bAbs, bInt, bMax, bMin, bAll, bAny, Bool.and_true, Bool.true_and, Bool.and_false, Bool.false_and, Nat.sub_self, Nat.zero_add, Nat.reduceAdd, Nat.reduceSub, Nat.reduceBEq, s1, aL2, natL_len, blt, natL_app]
        · right
          exact (bo_bo hbo hm2.bo.1).mpr hm2.bo) T.N b [some (.shr, .str w), some (.own, .lst (natL L)), some (.own, .lst (natL (above w b))), some (.shr, .int (b : Nat))] (by have := hR.hN; have := hm.bo.1; omega) ⟨b, rfl, .inr hm.bo, rfl⟩
  have hF : evS (clOf T (d + 1)) (.whl (.cmp .gt (.var 3) (.cst (.int 0))) [(.app 2 (.var 3)), (.set 3 (.idx (.var 1) (.bin .sub (.var 3) (.cst (.int 1)))))]) [some (.shr, .str w), some (.own, .lst (natL L)), some (.own, .lst (natL (above w b))), some (.shr, .int (b : Nat))] = .ok .nx [some (.shr, .str w), some (.own, .lst (natL L)), some (.own, .lst (natL (above w 0))), some (.shr, .int (0 : Nat))] := by
    rw [eS_whl, clN]; exact W
  rw [above_top hm] at hF
  have hF' : evS (clOf T (d + 1)) (.whl (.cmp .gt (.var 3) (.cst (.int 0))) [(.app 2 (.var 3)), (.set 3 (.idx (.var 1) (.bin .sub (.var 3) (.cst (.int 1)))))]) [some (.shr, .str w), some (.own, .lst (natL L)), some (.own, .lst []), some (.shr, .int (b : Nat))] = _ := hF
  have r1 : (natL (above w 0)).reverse = natL (above w 0).reverse := by unfold natL; rw [List.map_reverse]
  have r2 : D.int 0 :: natL (above w 0).reverse = natL (bordL w) := by rw [← above_zero hw]; rfl
  have al : (above w 0).length ≤ w.length := by
    unfold above
    rw [List.length_reverse]
    have := List.length_filter_le (fun j => borB w j && decide (0 < j)) (List.range w.length)
    rw [List.length_range] at this
    exact this
  have lo := lenOk_of (n := 1 + (above w 0).length) (by omega)
  simp only [runF, Int.cast_ofNat_Int, blsD, List.all, id, startE, fill, cellsOf, endF, ioOf, eSs_nil, eSs_cons, eS_ret, eS_exp, eS_set, eS_setP, eS_put, eS_app, eS_ife, eS_pass, eS_brk, eS_cnt, evT, eE_cst, eE_var, eE_bin, eE_not, eE_cmp, eE_cmp2, eE_and, eE_or, eE_ite, eE_tup, eE_lst, eE_idx, eE_slc, eE_rev, eE_nil, eE_call, eE_calli, eE_bi, eE_me, eE_lrg1, eE_isi, pk, evEs, evPs, evRs, rdE, rdP, rdL, get, put, sto, stoL, bind_ok, M.bind, callN, callIo, retE, fin, finS, finB, biD, bLen, lenD, ofO, truth, partI, slcV, revV, idxV, isNew, List.replicate, cmpD, ltD, isD, binD, Option.map, if_true, if_false, Bool.false_eq_true, Bool.true_eq_false, decide_true, decide_false, List.length_cons, List.length_nil, List.append_nil, List.cons_append, List.nil_append, List.drop_nil, chg, putV, appV, tst, Bool.not_true, Bool.not_false, beq_self_eq_true, bnd, bindP, bindL, plain_s, plain_i, plain_n, plain_b, eqD_s, eqD_i, eqD_b, bAbs, bInt, bMax, bMin, bAll, bAny, Bool.and_true, Bool.true_and, Bool.and_false, Bool.false_and, Nat.sub_self, Nat.zero_add, Nat.reduceAdd, Nat.reduceSub, Nat.reduceBEq, f37, e, aL, hF', r1, natL_len, List.length_reverse, lo, r2]
theorem pers_ok (d : Nat) {w : List Nat} (hw : w ≠ []) (hl : w.length ≤ 1000) : (clOf T (d + 3)).run 38 [.str w] = .ok true (.lst (natL (perL w))) none := by
  have e := bords_ok hT hR d hw hl
  rw [run_def hT.h38]
  have W1 : evE (clOf T (d + 2)) (.comp [1] (.nm 1) (.rev (.call 37 [(.var 0)])) .yes (.bin .sub (.bi .len [(.var 0)]) (.var 1))) [some (.shr, .str w), none] = .ok (true, .lst (natL (perL w))) [some (.shr, .str w), none] := by
    have r1 : (natL (bordL w)).reverse = natL (bordL w).reverse := by unfold natL; rw [List.map_reverse]
    have bl := bord_len w
    rw [comp_ok (ρ1 := [some (.shr, .str w), none]) (ds := natL (bordL w).reverse) (fun ρ => ∃ t, ρ = [some (.shr, .str w), t]) (numF fun j => .int (w.length - j : Nat))
      (by simp only [runF, Int.cast_ofNat_Int, blsD, List.all, id, startE, fill, cellsOf, endF, ioOf, eSs_nil, eSs_cons, eS_ret, eS_exp, eS_set, eS_setP, eS_put, eS_app, eS_ife, eS_pass, eS_brk, eS_cnt, evT, eE_cst, eE_var, eE_bin, eE_not, eE_cmp, eE_cmp2, eE_and, eE_or, eE_ite, eE_tup, eE_lst, eE_idx, eE_slc, eE_rev, eE_nil, eE_call, eE_calli, eE_bi, eE_me, eE_lrg1, eE_isi, pk, evEs, evPs, evRs, rdE, rdP, rdL, get, put, sto, stoL, bind_ok, M.bind, callN, callIo, retE, fin, finS, finB, biD, bLen, lenD, ofO, truth, partI, slcV, revV, idxV, isNew, List.replicate, cmpD, ltD, isD, binD, Option.map, if_true, if_false, Bool.false_eq_true, Bool.true_eq_false, decide_true, decide_false, List.length_cons, List.length_nil, List.append_nil, List.cons_append, List.nil_append, List.drop_nil, chg, putV, appV, tst, Bool.not_true, Bool.not_false, beq_self_eq_true, bnd, bindP, bindL, plain_s, plain_i, plain_n, plain_b, eqD_s, eqD_i, eqD_b, bAbs, bInt, bMax, bMin, bAll, bAny, Bool.and_true, Bool.true_and, Bool.and_false, Bool.false_and, Nat.sub_self, Nat.zero_add, Nat.reduceAdd, Nat.reduceSub, Nat.reduceBEq, e, r1, itI]) ⟨_, rfl⟩ (by
        rintro x hx ρ ⟨t, rfl⟩
        obtain ⟨j, hj, rfl⟩ := List.mem_map.mp hx
        have hj := List.mem_range.mp (List.mem_filter.mp (List.mem_reverse.mp hj)).1
        have s1 : (w.length : Int) - (j : Int) = ((w.length - j : Nat) : Int) := by omega
        refine ⟨_, ?_, some (.shr, .int j), rfl⟩
        simp only [runF, Int.cast_ofNat_Int, blsD, List.all, id, startE, fill, cellsOf, endF, ioOf, eSs_nil, eSs_cons, eS_ret, eS_exp, eS_set, eS_setP, eS_put, eS_app, eS_ife, eS_pass, eS_brk, eS_cnt, evT, eE_cst, eE_var, eE_bin, eE_not, eE_cmp, eE_cmp2, eE_and, eE_or, eE_ite, eE_tup, eE_lst, eE_idx, eE_slc, eE_rev, eE_nil, eE_call, eE_calli, eE_bi, eE_me, eE_lrg1, eE_isi, pk, evEs, evPs, evRs, rdE, rdP, rdL, get, put, sto, stoL, bind_ok, M.bind, callN, callIo, retE, fin, finS, finB, biD, bLen, lenD, ofO, truth, partI, slcV, revV, idxV, isNew, List.replicate, cmpD, ltD, isD, binD, Option.map, if_true, if_false, Bool.false_eq_true, Bool.true_eq_false, decide_true, decide_false, List.length_cons, List.length_nil, List.append_nil, List.cons_append, List.nil_append, List.drop_nil, chg, putV, appV, tst, Bool.not_true, Bool.not_false, beq_self_eq_true, bnd, bindP, bindL, plain_s, plain_i, plain_n, plain_b, eqD_s, eqD_i, eqD_b, bAbs, bInt, bMax, bMin, bAll, bAny, Bool.and_true, Bool.true_and, Bool.and_false, Bool.false_and, Nat.sub_self, Nat.zero_add, Nat.reduceAdd, Nat.reduceSub, Nat.reduceBEq, clr, numF, s1, Int.toNat_natCast]) (by rintro ρ ⟨t, rfl⟩; rfl) rfl (lenOk_of (by rw [natL_len, List.length_reverse]; omega))]
    rw [← per_bord]
    unfold natL
    rw [fm_some (fun (j : Nat) => D.int (w.length - j : Nat)) (bordL w).reverse (fun (k : Nat) => D.int k) _ (fun x _ => rfl), List.map_map]
    rfl
  simp only [runF, Int.cast_ofNat_Int, blsD, List.all, id, startE, fill, cellsOf, endF, ioOf, eSs_nil, eSs_cons, eS_ret, eS_exp, eS_set, eS_setP, eS_put, eS_app, eS_ife, eS_pass, eS_brk, eS_cnt, evT, eE_cst, eE_var, eE_bin, eE_not, eE_cmp, eE_cmp2, eE_and, eE_or, eE_ite, eE_tup, eE_lst, eE_idx, eE_slc, eE_rev, eE_nil, eE_call, eE_calli, eE_bi, eE_me, eE_lrg1, eE_isi, pk, evEs, evPs, evRs, rdE, rdP, rdL, get, put, sto, stoL, bind_ok, M.bind, callN, callIo, retE, fin, finS, finB, biD, bLen, lenD, ofO, truth, partI, slcV, revV, idxV, isNew, List.replicate, cmpD, ltD, isD, binD, Option.map, if_true, if_false, Bool.false_eq_true, Bool.true_eq_false, decide_true, decide_false, List.length_cons, List.length_nil, List.append_nil, List.cons_append, List.nil_append, List.drop_nil, chg, putV, appV, tst, Bool.not_true, Bool.not_false, beq_self_eq_true, bnd, bindP, bindL, plain_s, plain_i, plain_n, plain_b, eqD_s, eqD_i, eqD_b, bAbs, bInt, bMax, bMin, bAll, bAny, Bool.and_true, Bool.true_and, Bool.and_false, Bool.false_and, Nat.sub_self, Nat.zero_add, Nat.reduceAdd, Nat.reduceSub, Nat.reduceBEq, f38, W1]
theorem brk_ok (d : Nat) {w : List Nat} {k : Nat} (hk : k ≤ w.length) (hl : w.length ≤ 1000) : (clOf T (d + 1)).run 40 [.str w, .int k] = .ok false (optN (unl w k).head?) none := by
  rw [run_def hT.h40]
  have loop : ∀ (l : List Nat) (t : Cell), (∀ i, i ∈ l → i + k < w.length) → ∃ t', forL (fun x ρ => (bnd (.nm 2) x ρ).bind fun _ ρ => evSs (clOf T d) [(.ife (.cmp .ne (.idx (.var 0) (.var 2)) (.idx (.var 0) (.bin .add (.var 2) (.var 1)))) [(.ret (.var 2))] [])] ρ) (l.map fun (i : Nat) => .int i) [some (.shr, .str w), some (.shr, .int k), t] = match (l.filter fun i => w[i]! != w[i + k]!).head? with
      | some i => .ok (.rt false (.int (i : Nat))) [some (.shr, .str w), some (.shr, .int k), t']
      | none => .ok .nx [some (.shr, .str w), some (.shr, .int k), t'] := by
    intro l
    induction l with
    | nil => intro t _; exact ⟨t, rfl⟩
    | cons i l ih =>
      intro t hi
      have hi0 := hi i List.mem_cons_self
      have a1 := atD_nat (l := w) (k := i) (by omega)
      have a2 := atD_nat (l := w) (k := i + k) hi0
      have s1 : (i : Int) + (k : Int) = ((i + k : Nat) : Int) := rfl
      rw [List.map_cons, List.filter_cons]
      by_cases q : w[i]! = w[i + k]!
      · have q1 : (w[i]! == w[i + k]!) = true := by rw [q]; exact beq_self_eq_true _
        have q2 : (w[i]! != w[i + k]!) = false := by simp only [bne, q1]; rfl
        rw [q2]
        obtain ⟨t', e⟩ := ih (some (.shr, .int i)) (fun j hj => hi j (List.mem_cons_of_mem _ hj))
        refine ⟨t', (forL_nx (ρ1 := [some (.shr, .str w), some (.shr, .int k), some (.shr, .int i)]) ?_).trans e⟩
        simp only [runF, Int.cast_ofNat_Int, blsD, List.all, id, startE, fill, cellsOf, endF, ioOf, eSs_nil, eSs_cons, eS_ret, eS_exp, eS_set, eS_setP, eS_put, eS_app, eS_ife, eS_pass, eS_brk, eS_cnt, evT, eE_cst, eE_var, eE_bin, eE_not, eE_cmp, eE_cmp2, eE_and, eE_or, eE_ite, eE_tup, eE_lst, eE_idx, eE_slc, eE_rev, eE_nil, eE_call, eE_calli, eE_bi, eE_me, eE_lrg1, eE_isi, pk, evEs, evPs, evRs, rdE, rdP, rdL, get, put, sto, stoL, bind_ok, M.bind, callN, callIo, retE, fin, finS, finB, biD, bLen, lenD, ofO, truth, partI, slcV, revV, idxV, isNew, List.replicate, cmpD, ltD, isD, binD, Option.map, if_true, if_false, Bool.false_eq_true, Bool.true_eq_false, decide_true, decide_false, List.length_cons, List.length_nil, List.append_nil, List.cons_append, List.nil_append, List.drop_nil, chg, putV, appV, tst, Bool.not_true, Bool.not_false, beq_self_eq_true, bnd, bindP, bindL, plain_s, plain_i, plain_n, plain_b, eqD_s, eqD_i, eqD_b, bAbs, bInt, bMax, bMin, bAll, bAny, Bool.and_true, Bool.true_and, Bool.and_false, Bool.false_and, Nat.sub_self, Nat.zero_add, Nat.reduceAdd, Nat.reduceSub, Nat.reduceBEq, s1, a1, a2, beq1, q1]
      · have q1 : (w[i]! == w[i + k]!) = false := beq_eq_false_iff_ne.mpr q
        have q2 : (w[i]! != w[i + k]!) = true := by simp only [bne, q1]; rfl
        rw [q2]
        refine ⟨some (.shr, .int i), ?_⟩
        have st : (bnd (.nm 2) (.int (i : Nat)) [some (.shr, .str w), some (.shr, .int k), t]).bind (fun _ ρ => evSs (clOf T d) [(.ife (.cmp .ne (.idx (.var 0) (.var 2)) (.idx (.var 0) (.bin .add (.var 2) (.var 1)))) [(.ret (.var 2))] [])] ρ) = .ok (.rt false (.int (i : Nat))) [some (.shr, .str w), some (.shr, .int k), some (.shr, .int i)] := by
          simp only [runF, Int.cast_ofNat_Int, blsD, List.all, id, startE, fill, cellsOf, endF, ioOf, eSs_nil, eSs_cons, eS_ret, eS_exp, eS_set, eS_setP, eS_put, eS_app, eS_ife, eS_pass, eS_brk, eS_cnt, evT, eE_cst, eE_var, eE_bin, eE_not, eE_cmp, eE_cmp2, eE_and, eE_or, eE_ite, eE_tup, eE_lst, eE_idx, eE_slc, eE_rev, eE_nil, eE_call, eE_calli, eE_bi, eE_me, eE_lrg1, eE_isi, pk, evEs, evPs, evRs, rdE, rdP, rdL, get, put, sto, stoL, bind_ok, M.bind, callN, callIo, retE, fin, finS, finB, biD, bLen, lenD, ofO, truth, partI, slcV, revV, idxV, isNew, List.replicate, cmpD, ltD, isD, binD, Option.map, if_true, if_false, Bool.false_eq_true, Bool.true_eq_false, decide_true, decide_false, List.length_cons, List.length_nil, List.append_nil, List.cons_append, List.nil_append, List.drop_nil, chg, putV, appV, tst, Bool.not_true, Bool.not_false, beq_self_eq_true, bnd, bindP, bindL, plain_s, plain_i, plain_n, plain_b, eqD_s, eqD_i, eqD_b, bAbs, bInt, bMax, bMin, bAll, bAny, Bool.and_true, Bool.true_and, Bool.and_false, Bool.false_and, Nat.sub_self, Nat.zero_add, Nat.reduceAdd, Nat.reduceSub, Nat.reduceBEq, s1, a1, a2, beq1, q1]
        simp only [if_true, List.head?_cons]
        exact forL_rt st
  obtain ⟨t', L⟩ := loop (List.range (w.length - k)) none (fun i hi => by have := List.mem_range.mp hi; omega)
  rw [← rngL_map] at L
  have s2 : (w.length : Int) - (k : Int) = ((w.length - k : Nat) : Int) := by omega
  have hF := for_ok (C := clOf T d) (p := (.nm 2)) (it := (.rng1 (.bin .sub (.bi .len [(.var 0)]) (.var 1)))) (ρ := [some (.shr, .str w), some (.shr, .int k), none]) (ρ1 := [some (.shr, .str w), some (.shr, .int k), none]) (rng_it (n := w.length - k) (b := false) (by simp only [runF, Int.cast_ofNat_Int, blsD, List.all, id, startE, fill, cellsOf, endF, ioOf, eSs_nil, eSs_cons, eS_ret, eS_exp, eS_set, eS_setP, eS_put, eS_app, eS_ife, eS_pass, eS_brk, eS_cnt, evT, eE_cst, eE_var, eE_bin, eE_not, eE_cmp, eE_cmp2, eE_and, eE_or, eE_ite, eE_tup, eE_lst, eE_idx, eE_slc, eE_rev, eE_nil, eE_call, eE_calli, eE_bi, eE_me, eE_lrg1, eE_isi, pk, evEs, evPs, evRs, rdE, rdP, rdL, get, put, sto, stoL, bind_ok, M.bind, callN, callIo, retE, fin, finS, finB, biD, bLen, lenD, ofO, truth, partI, slcV, revV, idxV, isNew, List.replicate, cmpD, ltD, isD, binD, Option.map, if_true, if_false, Bool.false_eq_true, Bool.true_eq_false, decide_true, decide_false, List.length_cons, List.length_nil, List.append_nil, List.cons_append, List.nil_append, List.drop_nil, chg, putV, appV, tst, Bool.not_true, Bool.not_false, beq_self_eq_true, bnd, bindP, bindL, plain_s, plain_i, plain_n, plain_b, eqD_s, eqD_i, eqD_b, bAbs, bInt, bMax, bMin, bAll, bAny, Bool.and_true, Bool.true_and, Bool.and_false, Bool.false_and, Nat.sub_self, Nat.zero_add, Nat.reduceAdd, Nat.reduceSub, Nat.reduceBEq, s2]) (by omega)) L
  unfold unl
  cases q : ((List.range (w.length - k)).filter fun i => w[i]! != w[i + k]!).head? with
  | some i =>
    rw [q] at hF
    simp only [runF, Int.cast_ofNat_Int, blsD, List.all, id, startE, fill, cellsOf, endF, ioOf, eSs_nil, eSs_cons, eS_ret, eS_exp, eS_set, eS_setP, eS_put, eS_app, eS_ife, eS_pass, eS_brk, eS_cnt, evT, eE_cst, eE_var, eE_bin, eE_not, eE_cmp, eE_cmp2, eE_and, eE_or, eE_ite, eE_tup, eE_lst, eE_idx, eE_slc, eE_rev, eE_nil, eE_call, eE_calli, eE_bi, eE_me, eE_lrg1, eE_isi, pk, evEs, evPs, evRs, rdE, rdP, rdL, get, put, sto, stoL, bind_ok, M.bind, callN, callIo, retE, fin, finS, finB, biD, bLen, lenD, ofO, truth, partI, slcV, revV, idxV, isNew, List.replicate, cmpD, ltD, isD, binD, Option.map, if_true, if_false, Bool.false_eq_true, Bool.true_eq_false, decide_true, decide_false, List.length_cons, List.length_nil, List.append_nil, List.cons_append, List.nil_append, List.drop_nil, chg, putV, appV, tst, Bool.not_true, Bool.not_false, beq_self_eq_true, bnd, bindP, bindL, plain_s, plain_i, plain_n, plain_b, eqD_s, eqD_i, eqD_b, bAbs, bInt, bMax, bMin, bAll, bAny, Bool.and_true, Bool.true_and, Bool.and_false, Bool.false_and, Nat.sub_self, Nat.zero_add, Nat.reduceAdd, Nat.reduceSub, Nat.reduceBEq, f40, hF, optN]
  | none =>
    rw [q] at hF
    simp only [runF, Int.cast_ofNat_Int, blsD, List.all, id, startE, fill, cellsOf, endF, ioOf, eSs_nil, eSs_cons, eS_ret, eS_exp, eS_set, eS_setP, eS_put, eS_app, eS_ife, eS_pass, eS_brk, eS_cnt, evT, eE_cst, eE_var, eE_bin, eE_not, eE_cmp, eE_cmp2, eE_and, eE_or, eE_ite, eE_tup, eE_lst, eE_idx, eE_slc, eE_rev, eE_nil, eE_call, eE_calli, eE_bi, eE_me, eE_lrg1, eE_isi, pk, evEs, evPs, evRs, rdE, rdP, rdL, get, put, sto, stoL, bind_ok, M.bind, callN, callIo, retE, fin, finS, finB, biD, bLen, lenD, ofO, truth, partI, slcV, revV, idxV, isNew, List.replicate, cmpD, ltD, isD, binD, Option.map, if_true, if_false, Bool.false_eq_true, Bool.true_eq_false, decide_true, decide_false, List.length_cons, List.length_nil, List.append_nil, List.cons_append, List.nil_append, List.drop_nil, chg, putV, appV, tst, Bool.not_true, Bool.not_false, beq_self_eq_true, bnd, bindP, bindL, plain_s, plain_i, plain_n, plain_b, eqD_s, eqD_i, eqD_b, bAbs, bInt, bMax, bMin, bAll, bAny, Bool.and_true, Bool.true_and, Bool.and_false, Bool.false_and, Nat.sub_self, Nat.zero_add, Nat.reduceAdd, Nat.reduceSub, Nat.reduceBEq, f40, hF, optN]
end
end Py

/-! k03: alike lengths, the doors, the law's small defs. -/
namespace Py
theorem min_nat {x z : Nat} : (if (z : Int) < (x : Int) then (z : Int) else (x : Int)) = (min x z : Nat) := by
  by_cases q : (z : Int) < (x : Int)
  · rw [if_pos q, Nat.min_eq_right (by omega)]
  · rw [if_neg q, Nat.min_eq_left (by omega)]
theorem memD_nat {k : Nat} : ∀ {l : List Nat}, memD (.int k) (natL l) = l.any (fun x => x == k)
  | [] => rfl
  | x :: l => by
    rw [natL_cons, List.any_cons]
    show (eqD (.int x) (.int k) || memD (.int k) (natL l)) = _
    rw [memD_nat (l := l), eqD_i, castbeq]
theorem plainL_nat (l : List Nat) : plainL (natL l) = true := by
  unfold plainL natL
  rw [List.all_map, List.all_eq_true]
  intro x _; rfl
theorem mem_unl {w : List Nat} {k : Nat} (h0 : 0 < k) (hk : k ≤ w.length) : ((perL w).any fun x => x == k) = (unl w k).isEmpty := by
  have h : k ∈ perL w ↔ unl w k = [] := by
    rw [mem_perL, unl_per]
    exact ⟨fun h => h.2.2, fun h => ⟨h0, hk, h⟩⟩
  cases a : (unl w k).isEmpty with
  | true =>
    rw [List.any_eq_true]
    exact ⟨k, h.mpr (List.isEmpty_iff.mp a), beq_self_eq_true _⟩
  | false =>
    rw [List.any_eq_false]
    intro x hx
    rw [beq_iff_eq]
    rintro rfl
    rw [h.mp hx] at a
    exact absurd a (by decide)
section
variable {T : Tb} (hT : Has T) (hR : HasS T)
include hT hR
theorem alike_ok (d : Nat) {w : List Nat} (hw : w ≠ []) (hl : w.length ≤ 1000) : ∃ L, ZRow w L ∧ (clOf T (d + 1)).run 39 [.str w] = .ok true (.lst (natL L)) none := by
  have hn := List.length_pos_iff.mpr hw
  rw [run_def hT.h39]
  obtain ⟨ρ', L1, L, b, e, t4, t5, hL, hLz, B, hbe, hbk, rfl⟩ := for_inv (f := fun x ρ => (bnd (.nm 4) x ρ).bind fun _ ρ => evSs (clOf T d) [(.set 5 (.ite (.cmp .lt (.var 4) (.var 3)) (.bi .min [(.bin .sub (.var 3) (.var 4)), (.idx (.var 1) (.bin .sub (.var 4) (.var 2)))]) (.cst (.int 0)))), (.whl (.and (.cmp .lt (.bin .add (.var 4) (.var 5)) (.bi .len [(.var 0)])) (.cmp .eq (.idx (.var 0) (.var 5)) (.idx (.var 0) (.bin .add (.var 4) (.var 5))))) [(.set 5 (.bin .add (.var 5) (.cst (.int 1))))]), (.ife (.cmp .gt (.bin .add (.var 4) (.var 5)) (.var 3)) [(.setP [2, 3] [(.var 4), (.bin .add (.var 4) (.var 5))])] []), (.app 1 (.var 5))] ρ) (rngL (1 : Nat) w.length 1)
    (fun k ρ => ∃ (L : List Nat) (b e : Nat) (t4 t5 : Cell), L.length = k + 1 ∧ (∀ j, j < k + 1 → IsZ (fnL w) w.length j L[j]!) ∧ Box (fnL w) w.length b e ∧ (e = 0 ∨ 1 ≤ b) ∧ b ≤ k ∧ ρ = [some (.shr, .str w), some (.own, .lst (natL (L))), some (.shr, .int (b : Nat)), some (.shr, .int (e : Nat)), t4, t5]) [some (.shr, .str w), some (.own, .lst (natL ([w.length]))), some (.shr, .int (0 : Nat)), some (.shr, .int (0 : Nat)), none, none] (by
      rintro k x ρ hx ⟨L, b, e, t4, t5, hL, hLz, B, hbe, hbk, rfl⟩
      have hk : k < w.length - 1 ∧ x = .int ((k + 1 : Nat) : Int) := by
        rw [rngL_map2, List.getElem?_map] at hx
        cases q : (List.range' 1 (w.length - 1))[k]? with
        | none => rw [q] at hx; simp at hx
        | some y =>
          rw [q] at hx
          obtain ⟨h1, h2⟩ := List.getElem?_eq_some_iff.mp q
          rw [List.length_range'] at h1
          rw [List.getElem_range'] at h2
          refine ⟨h1, ?_⟩
          simp only [Option.map, Option.some.injEq] at hx
          rw [← hx, ← h2]
          congr 1; omega
      obtain ⟨hk, rfl⟩ := hk
      have hle := B.le
      have key : ∃ m0, k + 1 + m0 ≤ w.length ∧ (∀ i, i < m0 → fnL w i = fnL w (k + 1 + i)) ∧ evE (clOf T d) (.ite (.cmp .lt (.var 4) (.var 3)) (.bi .min [(.bin .sub (.var 3) (.var 4)), (.idx (.var 1) (.bin .sub (.var 4) (.var 2)))]) (.cst (.int 0))) [some (.shr, .str w), some (.own, .lst (natL (L))), some (.shr, .int (b : Nat)), some (.shr, .int (e : Nat)), some (.shr, .int ((k + 1 : Nat) : Int)), t5] = .ok (false, .int (m0 : Nat)) [some (.shr, .str w), some (.own, .lst (natL (L))), some (.shr, .int (b : Nat)), some (.shr, .int (e : Nat)), some (.shr, .int ((k + 1 : Nat) : Int)), t5] := by
        by_cases q : k + 1 < e
        · have hb1 : 1 ≤ b := by rcases hbe with h | h; omega; exact h
          have hz := hLz (k + 1 - b) (by omega)
          have c := box_cand B (by omega) q hz
          have q1 : (((k + 1 : Nat) : Int) < (e : Int)) := by omega
          have s1 : (e : Int) - ((k + 1 : Nat) : Int) = ((e - (k + 1) : Nat) : Int) := by omega
          have s2 : ((k + 1 : Nat) : Int) - (b : Int) = ((k + 1 - b : Nat) : Int) := by omega
          have aL := natL_at (l := L) (k := k + 1 - b) (by omega)
          have mn := min_nat (x := e - (k + 1)) (z := L[k + 1 - b]!)
          exact ⟨_, c.1, c.2, by simp only [runF, Int.cast_ofNat_Int, blsD, List.all, id, startE, fill, cellsOf, endF, ioOf, eSs_nil, eSs_cons, eS_ret, eS_exp, eS_set, eS_setP, eS_put, eS_app, eS_ife, eS_pass, eS_brk, eS_cnt, evT, eE_cst, eE_var, eE_bin, eE_not, eE_cmp, eE_cmp2, eE_and, eE_or, eE_ite, eE_tup, eE_lst, eE_idx, eE_slc, eE_rev, eE_nil, eE_call, eE_calli, eE_bi, eE_me, eE_lrg1, eE_isi, pk, evEs, evPs, evRs, rdE, rdP, rdL, get, put, sto, stoL, bind_ok, M.bind, callN, callIo, retE, fin, finS, finB, biD, bLen, lenD, ofO, truth, partI, slcV, revV, idxV, isNew, List.replicate, cmpD, ltD, isD, binD, Option.map, if_true, if_false, Bool.false_eq_true, Bool.true_eq_false, decide_true, decide_false, List.length_cons, List.length_nil, List.append_nil, List.cons_append, List.nil_append, List.drop_nil, chg, putV, appV, tst, Bool.not_true, Bool.not_false, beq_self_eq_true, bnd, bindP, bindL, plain_s, plain_i, plain_n, plain_b, eqD_s, eqD_i, eqD_b, bAbs, bInt, bMax, bMin, bAll, bAny, Bool.and_true, Bool.true_and, Bool.and_false, Bool.false_and, Nat.sub_self, Nat.zero_add, Nat.reduceAdd, Nat.reduceSub, Nat.reduceBEq, q1, s1, s2, aL, mn]⟩
        · have q1 : ¬ (((k + 1 : Nat) : Int) < (e : Int)) := by omega
          exact ⟨0, by omega, fun i hi => by omega, by simp only [runF, Int.cast_ofNat_Int, blsD, List.all, id, startE, fill, cellsOf, endF, ioOf, eSs_nil, eSs_cons, eS_ret, eS_exp, eS_set, eS_setP, eS_put, eS_app, eS_ife, eS_pass, eS_brk, eS_cnt, evT, eE_cst, eE_var, eE_bin, eE_not, eE_cmp, eE_cmp2, eE_and, eE_or, eE_ite, eE_tup, eE_lst, eE_idx, eE_slc, eE_rev, eE_nil, eE_call, eE_calli, eE_bi, eE_me, eE_lrg1, eE_isi, pk, evEs, evPs, evRs, rdE, rdP, rdL, get, put, sto, stoL, bind_ok, M.bind, callN, callIo, retE, fin, finS, finB, biD, bLen, lenD, ofO, truth, partI, slcV, revV, idxV, isNew, List.replicate, cmpD, ltD, isD, binD, Option.map, if_true, if_false, Bool.false_eq_true, Bool.true_eq_false, decide_true, decide_false, List.length_cons, List.length_nil, List.append_nil, List.cons_append, List.nil_append, List.drop_nil, chg, putV, appV, tst, Bool.not_true, Bool.not_false, beq_self_eq_true, bnd, bindP, bindL, plain_s, plain_i, plain_n, plain_b, eqD_s, eqD_i, eqD_b, bAbs, bInt, bMax, bMin, bAll, bAny, Bool.and_true, Bool.true_and, Bool.and_false, Bool.false_and, Nat.sub_self, Nat.zero_add, Nat.reduceAdd, Nat.reduceSub, Nat.reduceBEq, q1]⟩
      obtain ⟨m0, h1, h2, hE⟩ := key
      obtain ⟨ρ2, W, m, hz, rfl⟩ := whl_ok (t := evT (clOf T d) (.and (.cmp .lt (.bin .add (.var 4) (.var 5)) (.bi .len [(.var 0)])) (.cmp .eq (.idx (.var 0) (.var 5)) (.idx (.var 0) (.bin .add (.var 4) (.var 5)))))) (f := evSs (clOf T d) [(.set 5 (.bin .add (.var 5) (.cst (.int 1))))]) (Q := fun ρ => ∃ m, IsZ (fnL w) w.length (k + 1) m ∧ ρ = [some (.shr, .str w), some (.own, .lst (natL (L))), some (.shr, .int (b : Nat)), some (.shr, .int (e : Nat)), some (.shr, .int ((k + 1 : Nat) : Int)), some (.shr, .int (m : Nat))])
        (fun q ρ => ∃ m, q = w.length - (k + 1 + m) ∧ k + 1 + m ≤ w.length ∧ (∀ i, i < m → fnL w i = fnL w (k + 1 + i)) ∧ ρ = [some (.shr, .str w), some (.own, .lst (natL (L))), some (.shr, .int (b : Nat)), some (.shr, .int (e : Nat)), some (.shr, .int ((k + 1 : Nat) : Int)), some (.shr, .int (m : Nat))]) (by
          rintro q ρ ⟨m, rfl, hm1, hm2, rfl⟩
          have s1 : ((k + 1 : Nat) : Int) + (m : Int) = ((k + 1 + m : Nat) : Int) := by omega
          by_cases q1 : k + 1 + m < w.length
          · have q1' : (((k + 1 + m : Nat) : Int) < (w.length : Int)) := by omega
            have a1 := atD_nat (l := w) (k := m) (by omega)
            have a2 := atD_nat (l := w) (k := k + 1 + m) q1
            by_cases ew : w[m]! = w[k + 1 + m]!
            · right
              have e' : (w[m]! == w[k + 1 + m]!) = true := by rw [ew]; exact beq_self_eq_true _
              have s2 : (m : Int) + 1 = ((m + 1 : Nat) : Int) := rfl
              refine ⟨[some (.shr, .str w), some (.own, .lst (natL (L))), some (.shr, .int (b : Nat)), some (.shr, .int (e : Nat)), some (.shr, .int ((k + 1 : Nat) : Int)), some (.shr, .int (m : Nat))], _, w.length - (k + 1 + (m + 1)), by simp only [runF, Int.cast_ofNat_Int, blsD, List.all, id, startE, fill, cellsOf, endF, ioOf, eSs_nil, eSs_cons, eS_ret, eS_exp, eS_set, eS_setP, eS_put, eS_app, eS_ife, eS_pass, eS_brk, eS_cnt, evT, eE_cst, eE_var, eE_bin, eE_not, eE_cmp, eE_cmp2, eE_and, eE_or, eE_ite, eE_tup, eE_lst, eE_idx, eE_slc, eE_rev, eE_nil, eE_call, eE_calli, eE_bi, eE_me, eE_lrg1, eE_isi, pk, evEs, evPs, evRs, rdE, rdP, rdL, get, put, sto, stoL, bind_ok, M.bind, callN, callIo, retE, fin, finS, finB, biD, bLen, lenD, ofO, truth, partI, slcV, revV, idxV, isNew, List.replicate, cmpD, ltD, isD, binD, Option.map, if_true, if_false, Bool.false_eq_true, Bool.true_eq_false, decide_true, decide_false, List.length_cons, List.length_nil, List.append_nil, List.cons_append, List.nil_append, List.drop_nil, chg, putV, appV, tst, Bool.not_true, Bool.not_false, beq_self_eq_true, bnd, bindP, bindL, plain_s, plain_i, plain_n, plain_b, eqD_s, eqD_i, eqD_b, bAbs, bInt, bMax, bMin, bAll, bAny, Bool.and_true, Bool.true_and, Bool.and_false, Bool.false_and, Nat.sub_self, Nat.zero_add, Nat.reduceAdd, Nat.reduceSub, Nat.reduceBEq, s1, q1', a1, a2, beq1, e'], ?_, by omega, m + 1, rfl, by omega, fun i hi => ?_, rfl⟩
              · simp only [runF, Int.cast_ofNat_Int, blsD, List.all, id, startE, fill, cellsOf, endF, ioOf, eSs_nil, eSs_cons, eS_ret, eS_exp, eS_set, eS_setP, eS_put, eS_app, eS_ife, eS_pass, eS_brk, eS_cnt, evT, eE_cst, eE_var, eE_bin, eE_not, eE_cmp, eE_cmp2, eE_and, eE_or, eE_ite, eE_tup, eE_lst, eE_idx, eE_slc, eE_rev, eE_nil, eE_call, eE_calli, eE_bi, eE_me, eE_lrg1, eE_isi, pk, evEs, evPs, evRs, rdE, rdP, rdL, get, put, sto, stoL, bind_ok, M.bind, callN, callIo, retE, fin, finS, finB, biD, bLen, lenD, ofO, truth, partI, slcV, revV, idxV, isNew, List.replicate, cmpD, ltD, isD, binD, Option.map, if_true, if_false, Bool.false_eq_true, Bool.true_eq_false, decide_true, decide_false, List.length_cons, List.length_nil, List.append_nil, List.cons_append, List.nil_append, List.drop_nil, chg, putV, appV, tst, Bool.not_true, Bool.not_false, beq_self_eq_true, bnd, bindP, bindL, plain_s, plain_i, plain_n, plain_b, eqD_s, eqD_i, eqD_b, bAbs, bInt, bMax, bMin, bAll, bAny, Bool.and_true, Bool.true_and, Bool.and_false, Bool.false_and, Nat.sub_self, Nat.zero_add, Nat.reduceAdd, Nat.reduceSub, Nat.reduceBEq, s2]
              · by_cases z : i < m
                · exact hm2 i z
                · have : i = m := by omega
                  subst this
                  exact ew
            · left
              have e' : (w[m]! == w[k + 1 + m]!) = false := beq_eq_false_iff_ne.mpr ew
              exact ⟨[some (.shr, .str w), some (.own, .lst (natL (L))), some (.shr, .int (b : Nat)), some (.shr, .int (e : Nat)), some (.shr, .int ((k + 1 : Nat) : Int)), some (.shr, .int (m : Nat))], by simp only [runF, Int.cast_ofNat_Int, blsD, List.all, id, startE, fill, cellsOf, endF, ioOf, eSs_nil, eSs_cons, eS_ret, eS_exp, eS_set, eS_setP, eS_put, eS_app, eS_ife, eS_pass, eS_brk, eS_cnt, evT, eE_cst, eE_var, eE_bin, eE_not, eE_cmp, eE_cmp2, eE_and, eE_or, eE_ite, eE_tup, eE_lst, eE_idx, eE_slc, eE_rev, eE_nil, eE_call, eE_calli, eE_bi, eE_me, eE_lrg1, eE_isi, pk, evEs, evPs, evRs, rdE, rdP, rdL, get, put, sto, stoL, bind_ok, M.bind, callN, callIo, retE, fin, finS, finB, biD, bLen, lenD, ofO, truth, partI, slcV, revV, idxV, isNew, List.replicate, cmpD, ltD, isD, binD, Option.map, if_true, if_false, Bool.false_eq_true, Bool.true_eq_false, decide_true, decide_false, List.length_cons, List.length_nil, List.append_nil, List.cons_append, List.nil_append, List.drop_nil, chg, putV, appV, tst, Bool.not_true, Bool.not_false, beq_self_eq_true, bnd, bindP, bindL, plain_s, plain_i, plain_n, plain_b, eqD_s, eqD_i, eqD_b, bAbs, bInt, bMax, bMin, bAll, bAny, Bool.and_true, Bool.true_and, Bool.and_false, Bool.false_and, Nat.sub_self, Nat.zero_add, Nat.reduceAdd, Nat.reduceSub, Nat.reduceBEq, s1, q1', a1, a2, beq1, e'], m, ⟨hm1, hm2, fun _ => ew⟩, rfl⟩
          · left
            have q1' : ¬ (((k + 1 + m : Nat) : Int) < (w.length : Int)) := by omega
            exact ⟨[some (.shr, .str w), some (.own, .lst (natL (L))), some (.shr, .int (b : Nat)), some (.shr, .int (e : Nat)), some (.shr, .int ((k + 1 : Nat) : Int)), some (.shr, .int (m : Nat))], by simp only [runF, Int.cast_ofNat_Int, blsD, List.all, id, startE, fill, cellsOf, endF, ioOf, eSs_nil, eSs_cons, eS_ret, eS_exp, eS_set, eS_setP, eS_put, eS_app, eS_ife, eS_pass, eS_brk, eS_cnt, evT, eE_cst, eE_var, eE_bin, eE_not, eE_cmp, eE_cmp2, eE_and, eE_or, eE_ite, eE_tup, eE_lst, eE_idx, eE_slc, eE_rev, eE_nil, eE_call, eE_calli, eE_bi, eE_me, eE_lrg1, eE_isi, pk, evEs, evPs, evRs, rdE, rdP, rdL, get, put, sto, stoL, bind_ok, M.bind, callN, callIo, retE, fin, finS, finB, biD, bLen, lenD, ofO, truth, partI, slcV, revV, idxV, isNew, List.replicate, cmpD, ltD, isD, binD, Option.map, if_true, if_false, Bool.false_eq_true, Bool.true_eq_false, decide_true, decide_false, List.length_cons, List.length_nil, List.append_nil, List.cons_append, List.nil_append, List.drop_nil, chg, putV, appV, tst, Bool.not_true, Bool.not_false, beq_self_eq_true, bnd, bindP, bindL, plain_s, plain_i, plain_n, plain_b, eqD_s, eqD_i, eqD_b, bAbs, bInt, bMax, bMin, bAll, bAny, Bool.and_true, Bool.true_and, Bool.and_false, Bool.false_and, Nat.sub_self, Nat.zero_add, Nat.reduceAdd, Nat.reduceSub, Nat.reduceBEq, s1, q1'], m, ⟨hm1, hm2, fun h => absurd h q1⟩, rfl⟩) T.N (w.length - (k + 1 + m0)) [some (.shr, .str w), some (.own, .lst (natL (L))), some (.shr, .int (b : Nat)), some (.shr, .int (e : Nat)), some (.shr, .int ((k + 1 : Nat) : Int)), some (.shr, .int (m0 : Nat))] (by have := hR.hN; omega) ⟨m0, rfl, h1, h2, rfl⟩
      have hF : evS (clOf T d) (.whl (.and (.cmp .lt (.bin .add (.var 4) (.var 5)) (.bi .len [(.var 0)])) (.cmp .eq (.idx (.var 0) (.var 5)) (.idx (.var 0) (.bin .add (.var 4) (.var 5))))) [(.set 5 (.bin .add (.var 5) (.cst (.int 1))))]) [some (.shr, .str w), some (.own, .lst (natL (L))), some (.shr, .int (b : Nat)), some (.shr, .int (e : Nat)), some (.shr, .int ((k + 1 : Nat) : Int)), some (.shr, .int (m0 : Nat))] = .ok .nx [some (.shr, .str w), some (.own, .lst (natL (L))), some (.shr, .int (b : Nat)), some (.shr, .int (e : Nat)), some (.shr, .int ((k + 1 : Nat) : Int)), some (.shr, .int (m : Nat))] := by
        rw [eS_whl, clN]; exact W
      have blt : Nat.blt L.length sz = true := by
        have : L.length < sz := by unfold sz; omega
        exact Nat.blt_eq.mpr this
      have s1 : ((k + 1 : Nat) : Int) + (m : Int) = ((k + 1 + m : Nat) : Int) := by omega
      by_cases q : e < k + 1 + m
      · have q' : ((e : Int) < ((k + 1 + m : Nat) : Int)) := by omega
        refine ⟨_, ?_, L ++ [m], k + 1, k + 1 + m, some (.shr, .int ((k + 1 : Nat) : Int)), some (.shr, .int (m : Nat)), by rw [List.length_append, hL]; rfl, snoc_at (P := fun j x => IsZ (fnL w) w.length j x) hL hLz hz, box_of hz, .inr (by omega), by omega, rfl⟩
        simp only [runF, Int.cast_ofNat_Int, blsD, List.all, id, startE, fill, cellsOf, endF, ioOf, eSs_nil, eSs_cons, eS_ret, eS_exp, eS_set, eS_setP, eS_put, eS_app, eS_ife, eS_pass, eS_brk, eS_cnt, evT, eE_cst, eE_var, eE_bin, eE_not, eE_cmp, eE_cmp2, eE_and, eE_or, eE_ite, eE_tup, eE_lst, eE_idx, eE_slc, eE_rev, eE_nil, eE_call, eE_calli, eE_bi, eE_me, eE_lrg1, eE_isi, pk, evEs, evPs, evRs, rdE, rdP, rdL, get, put, sto, stoL, bind_ok, M.bind, callN, callIo, retE, fin, finS, finB, biD, bLen, lenD, ofO, truth, partI, slcV, revV, idxV, isNew, List.replicate, cmpD, ltD, isD, binD, Option.map, if_true, if_false, Bool.false_eq_true, Bool.true_eq_false, decide_true, decide_false, List.length_cons, List.length_nil, List.append_nil, List.cons_append, List.nil_append, List.drop_nil, chg, putV, appV, tst, Bool.not_true, Bool.not_false, beq_self_eq_true, bnd, bindP, bindL, plain_s, plain_i, plain_n, plain_b, eqD_s, eqD_i, eqD_b, bAbs, bInt, bMax, bMin, bAll, bAny, Bool.and_true, Bool.true_and, Bool.and_false, Bool.false_and, Nat.sub_self, Nat.zero_add, Nat.reduceAdd, Nat.reduceSub, Nat.reduceBEq, hE, hF, s1, q', natL_len, blt, natL_app]
      · have q' : ¬ ((e : Int) < ((k + 1 + m : Nat) : Int)) := by omega
        refine ⟨_, ?_, L ++ [m], b, e, some (.shr, .int ((k + 1 : Nat) : Int)), some (.shr, .int (m : Nat)), by rw [List.length_append, hL]; rfl, snoc_at (P := fun j x => IsZ (fnL w) w.length j x) hL hLz hz, B, hbe, by omega, rfl⟩
        simp only [runF, Int.cast_ofNat_Int, blsD, List.all, id, startE, fill, cellsOf, endF, ioOf, eSs_nil, eSs_cons, eS_ret, eS_exp, eS_set, eS_setP, eS_put, eS_app, eS_ife, eS_pass, eS_brk, eS_cnt, evT, eE_cst, eE_var, eE_bin, eE_not, eE_cmp, eE_cmp2, eE_and, eE_or, eE_ite, eE_tup, eE_lst, eE_idx, eE_slc, eE_rev, eE_nil, eE_call, eE_calli, eE_bi, eE_me, eE_lrg1, eE_isi, pk, evEs, evPs, evRs, rdE, rdP, rdL, get, put, sto, stoL, bind_ok, M.bind, callN, callIo, retE, fin, finS, finB, biD, bLen, lenD, ofO, truth, partI, slcV, revV, idxV, isNew, List.replicate, cmpD, ltD, isD, binD, Option.map, if_true, if_false, Bool.false_eq_true, Bool.true_eq_false, decide_true, decide_false, List.length_cons, List.length_nil, List.append_nil, List.cons_append, List.nil_append, List.drop_nil, chg, putV, appV, tst, Bool.not_true, Bool.not_false, beq_self_eq_true, bnd, bindP, bindL, plain_s, plain_i, plain_n, plain_b, eqD_s, eqD_i, eqD_b, bAbs, bInt, bMax, bMin, bAll, bAny, Bool.and_true, Bool.true_and, Bool.and_false, Bool.false_and, Nat.sub_self, Nat.zero_add, Nat.reduceAdd, Nat.reduceSub, Nat.reduceBEq, hE, hF, s1, q', natL_len, blt, natL_app]) ⟨[w.length], 0, 0, none, none, rfl, fun j hj => by
        have : j = 0 := by omega
        subst this
        exact isZ_zero, box_start, .inl rfl, by omega, rfl⟩
  have hlen : (rngL (1 : Nat) w.length 1).length + 1 = w.length := by rw [rngL_map2, List.length_map, List.length_range']; omega
  rw [hlen] at hL hLz
  refine ⟨L, ⟨hL, hLz⟩, ?_⟩
  have hF := for_ok (C := clOf T d) (p := (.nm 4)) (it := (.rng2 (.cst (.int 1)) (.bi .len [(.var 0)]))) (ρ := [some (.shr, .str w), some (.own, .lst (natL ([w.length]))), some (.shr, .int (0 : Nat)), some (.shr, .int (0 : Nat)), none, none]) (ρ1 := [some (.shr, .str w), some (.own, .lst (natL ([w.length]))), some (.shr, .int (0 : Nat)), some (.shr, .int (0 : Nat)), none, none]) (rng2_it (a := 1) (b := w.length) (s := false) (t := false) (ρ1 := [some (.shr, .str w), some (.own, .lst (natL ([w.length]))), some (.shr, .int (0 : Nat)), some (.shr, .int (0 : Nat)), none, none]) (by simp only [runF, Int.cast_ofNat_Int, blsD, List.all, id, startE, fill, cellsOf, endF, ioOf, eSs_nil, eSs_cons, eS_ret, eS_exp, eS_set, eS_setP, eS_put, eS_app, eS_ife, eS_pass, eS_brk, eS_cnt, evT, eE_cst, eE_var, eE_bin, eE_not, eE_cmp, eE_cmp2, eE_and, eE_or, eE_ite, eE_tup, eE_lst, eE_idx, eE_slc, eE_rev, eE_nil, eE_call, eE_calli, eE_bi, eE_me, eE_lrg1, eE_isi, pk, evEs, evPs, evRs, rdE, rdP, rdL, get, put, sto, stoL, bind_ok, M.bind, callN, callIo, retE, fin, finS, finB, biD, bLen, lenD, ofO, truth, partI, slcV, revV, idxV, isNew, List.replicate, cmpD, ltD, isD, binD, Option.map, if_true, if_false, Bool.false_eq_true, Bool.true_eq_false, decide_true, decide_false, List.length_cons, List.length_nil, List.append_nil, List.cons_append, List.nil_append, List.drop_nil, chg, putV, appV, tst, Bool.not_true, Bool.not_false, beq_self_eq_true, bnd, bindP, bindL, plain_s, plain_i, plain_n, plain_b, eqD_s, eqD_i, eqD_b, bAbs, bInt, bMax, bMin, bAll, bAny, Bool.and_true, Bool.true_and, Bool.and_false, Bool.false_and, Nat.sub_self, Nat.zero_add, Nat.reduceAdd, Nat.reduceSub, Nat.reduceBEq]) (by simp only [runF, Int.cast_ofNat_Int, blsD, List.all, id, startE, fill, cellsOf, endF, ioOf, eSs_nil, eSs_cons, eS_ret, eS_exp, eS_set, eS_setP, eS_put, eS_app, eS_ife, eS_pass, eS_brk, eS_cnt, evT, eE_cst, eE_var, eE_bin, eE_not, eE_cmp, eE_cmp2, eE_and, eE_or, eE_ite, eE_tup, eE_lst, eE_idx, eE_slc, eE_rev, eE_nil, eE_call, eE_calli, eE_bi, eE_me, eE_lrg1, eE_isi, pk, evEs, evPs, evRs, rdE, rdP, rdL, get, put, sto, stoL, bind_ok, M.bind, callN, callIo, retE, fin, finS, finB, biD, bLen, lenD, ofO, truth, partI, slcV, revV, idxV, isNew, List.replicate, cmpD, ltD, isD, binD, Option.map, if_true, if_false, Bool.false_eq_true, Bool.true_eq_false, decide_true, decide_false, List.length_cons, List.length_nil, List.append_nil, List.cons_append, List.nil_append, List.drop_nil, chg, putV, appV, tst, Bool.not_true, Bool.not_false, beq_self_eq_true, bnd, bindP, bindL, plain_s, plain_i, plain_n, plain_b, eqD_s, eqD_i, eqD_b, bAbs, bInt, bMax, bMin, bAll, bAny, Bool.and_true, Bool.true_and, Bool.and_false, Bool.false_and, Nat.sub_self, Nat.zero_add, Nat.reduceAdd, Nat.reduceSub, Nat.reduceBEq]) (by omega) (by omega)) L1
  have hF' : evS (clOf T d) (.fors (.nm 4) (.rng2 (.cst (.int 1)) (.bi .len [(.var 0)])) [(.set 5 (.ite (.cmp .lt (.var 4) (.var 3)) (.bi .min [(.bin .sub (.var 3) (.var 4)), (.idx (.var 1) (.bin .sub (.var 4) (.var 2)))]) (.cst (.int 0)))), (.whl (.and (.cmp .lt (.bin .add (.var 4) (.var 5)) (.bi .len [(.var 0)])) (.cmp .eq (.idx (.var 0) (.var 5)) (.idx (.var 0) (.bin .add (.var 4) (.var 5))))) [(.set 5 (.bin .add (.var 5) (.cst (.int 1))))]), (.ife (.cmp .gt (.bin .add (.var 4) (.var 5)) (.var 3)) [(.setP [2, 3] [(.var 4), (.bin .add (.var 4) (.var 5))])] []), (.app 1 (.var 5))]) [some (.shr, .str w), some (.own, .lst [.int w.length]), some (.shr, .int 0), some (.shr, .int 0), none, none] = _ := hF
  simp only [runF, Int.cast_ofNat_Int, blsD, List.all, id, startE, fill, cellsOf, endF, ioOf, eSs_nil, eSs_cons, eS_ret, eS_exp, eS_set, eS_setP, eS_put, eS_app, eS_ife, eS_pass, eS_brk, eS_cnt, evT, eE_cst, eE_var, eE_bin, eE_not, eE_cmp, eE_cmp2, eE_and, eE_or, eE_ite, eE_tup, eE_lst, eE_idx, eE_slc, eE_rev, eE_nil, eE_call, eE_calli, eE_bi, eE_me, eE_lrg1, eE_isi, pk, evEs, evPs, evRs, rdE, rdP, rdL, get, put, sto, stoL, bind_ok, M.bind, callN, callIo, retE, fin, finS, finB, biD, bLen, lenD, ofO, truth, partI, slcV, revV, idxV, isNew, List.replicate, cmpD, ltD, isD, binD, Option.map, if_true, if_false, Bool.false_eq_true, Bool.true_eq_false, decide_true, decide_false, List.length_cons, List.length_nil, List.append_nil, List.cons_append, List.nil_append, List.drop_nil, chg, putV, appV, tst, Bool.not_true, Bool.not_false, beq_self_eq_true, bnd, bindP, bindL, plain_s, plain_i, plain_n, plain_b, eqD_s, eqD_i, eqD_b, bAbs, bInt, bMax, bMin, bAll, bAny, Bool.and_true, Bool.true_and, Bool.and_false, Bool.false_and, Nat.sub_self, Nat.zero_add, Nat.reduceAdd, Nat.reduceSub, Nat.reduceBEq, f39, hF']
theorem d42_ok (d : Nat) {w : List Nat} (hl : w.length ≤ 200) (hw : LetOk 8 w) (hne : w ≠ []) : (clOf T (d + 4)).run 42 [.str w] = .ok false (.tup (natL (bordL w))) none := by
  rw [run_def hT.h42]
  have e := bare_okS hR hT.h9 d hl hw hne
  have e2 := bords_ok hT hR (d + 1) hne (by omega)
  simp only [runF, Int.cast_ofNat_Int, blsD, List.all, id, startE, fill, cellsOf, endF, ioOf, eSs_nil, eSs_cons, eS_ret, eS_exp, eS_set, eS_setP, eS_put, eS_app, eS_ife, eS_pass, eS_brk, eS_cnt, evT, eE_cst, eE_var, eE_bin, eE_not, eE_cmp, eE_cmp2, eE_and, eE_or, eE_ite, eE_tup, eE_lst, eE_idx, eE_slc, eE_rev, eE_nil, eE_call, eE_calli, eE_bi, eE_me, eE_lrg1, eE_isi, pk, evEs, evPs, evRs, rdE, rdP, rdL, get, put, sto, stoL, bind_ok, M.bind, callN, callIo, retE, fin, finS, finB, biD, bLen, lenD, ofO, truth, partI, slcV, revV, idxV, isNew, List.replicate, cmpD, ltD, isD, binD, Option.map, if_true, if_false, Bool.false_eq_true, Bool.true_eq_false, decide_true, decide_false, List.length_cons, List.length_nil, List.append_nil, List.cons_append, List.nil_append, List.drop_nil, chg, putV, appV, tst, Bool.not_true, Bool.not_false, beq_self_eq_true, bnd, bindP, bindL, plain_s, plain_i, plain_n, plain_b, eqD_s, eqD_i, eqD_b, bAbs, bInt, bMax, bMin, bAll, bAny, Bool.and_true, Bool.true_and, Bool.and_false, Bool.false_and, Nat.sub_self, Nat.zero_add, Nat.reduceAdd, Nat.reduceSub, Nat.reduceBEq, f42, e, e2, bTuple]
theorem d43_ok (d : Nat) {w : List Nat} (hl : w.length ≤ 200) (hw : LetOk 8 w) (hne : w ≠ []) : (clOf T (d + 4)).run 43 [.str w] = .ok false (.tup (natL (perL w))) none := by
  rw [run_def hT.h43]
  have e := bare_okS hR hT.h9 d hl hw hne
  have e2 := pers_ok hT hR d hne (by omega)
  simp only [runF, Int.cast_ofNat_Int, blsD, List.all, id, startE, fill, cellsOf, endF, ioOf, eSs_nil, eSs_cons, eS_ret, eS_exp, eS_set, eS_setP, eS_put, eS_app, eS_ife, eS_pass, eS_brk, eS_cnt, evT, eE_cst, eE_var, eE_bin, eE_not, eE_cmp, eE_cmp2, eE_and, eE_or, eE_ite, eE_tup, eE_lst, eE_idx, eE_slc, eE_rev, eE_nil, eE_call, eE_calli, eE_bi, eE_me, eE_lrg1, eE_isi, pk, evEs, evPs, evRs, rdE, rdP, rdL, get, put, sto, stoL, bind_ok, M.bind, callN, callIo, retE, fin, finS, finB, biD, bLen, lenD, ofO, truth, partI, slcV, revV, idxV, isNew, List.replicate, cmpD, ltD, isD, binD, Option.map, if_true, if_false, Bool.false_eq_true, Bool.true_eq_false, decide_true, decide_false, List.length_cons, List.length_nil, List.append_nil, List.cons_append, List.nil_append, List.drop_nil, chg, putV, appV, tst, Bool.not_true, Bool.not_false, beq_self_eq_true, bnd, bindP, bindL, plain_s, plain_i, plain_n, plain_b, eqD_s, eqD_i, eqD_b, bAbs, bInt, bMax, bMin, bAll, bAny, Bool.and_true, Bool.true_and, Bool.and_false, Bool.false_and, Nat.sub_self, Nat.zero_add, Nat.reduceAdd, Nat.reduceSub, Nat.reduceBEq, f43, e, e2, bTuple]
theorem d4445_ok (d : Nat) {w : List Nat} (hl : w.length ≤ 200) (hw : LetOk 8 w) (hne : w ≠ []) : ∃ b, IsMax (fnL w) w.length b ∧ (clOf T (d + 4)).run 44 [.str w] = .ok false (.int (b : Nat)) none ∧ (clOf T (d + 4)).run 45 [.str w] = .ok false (.int (w.length - b : Nat)) none := by
  have hn := List.length_pos_iff.mpr hne
  obtain ⟨L, hL, e2⟩ := row_ok hT hR (d + 2) hne (by omega)
  have e := bare_okS hR hT.h9 d hl hw hne
  have hm := hL.mx (w.length - 1) (by omega)
  rw [show w.length - 1 + 1 = w.length by omega] at hm
  have hll := hL.len
  have aL := atD_last (l := L) (k := w.length - 1) (by omega)
  have hb := hm.bo.1
  have s1 : (w.length : Int) - ((L[w.length - 1]! : Nat) : Int) = ((w.length - L[w.length - 1]! : Nat) : Int) := by omega
  refine ⟨_, hm, ?_, ?_⟩
  · rw [run_def hT.h44]
    simp only [runF, Int.cast_ofNat_Int, blsD, List.all, id, startE, fill, cellsOf, endF, ioOf, eSs_nil, eSs_cons, eS_ret, eS_exp, eS_set, eS_setP, eS_put, eS_app, eS_ife, eS_pass, eS_brk, eS_cnt, evT, eE_cst, eE_var, eE_bin, eE_not, eE_cmp, eE_cmp2, eE_and, eE_or, eE_ite, eE_tup, eE_lst, eE_idx, eE_slc, eE_rev, eE_nil, eE_call, eE_calli, eE_bi, eE_me, eE_lrg1, eE_isi, pk, evEs, evPs, evRs, rdE, rdP, rdL, get, put, sto, stoL, bind_ok, M.bind, callN, callIo, retE, fin, finS, finB, biD, bLen, lenD, ofO, truth, partI, slcV, revV, idxV, isNew, List.replicate, cmpD, ltD, isD, binD, Option.map, if_true, if_false, Bool.false_eq_true, Bool.true_eq_false, decide_true, decide_false, List.length_cons, List.length_nil, List.append_nil, List.cons_append, List.nil_append, List.drop_nil, chg, putV, appV, tst, Bool.not_true, Bool.not_false, beq_self_eq_true, bnd, bindP, bindL, plain_s, plain_i, plain_n, plain_b, eqD_s, eqD_i, eqD_b, bAbs, bInt, bMax, bMin, bAll, bAny, Bool.and_true, Bool.true_and, Bool.and_false, Bool.false_and, Nat.sub_self, Nat.zero_add, Nat.reduceAdd, Nat.reduceSub, Nat.reduceBEq, f44, e, e2, aL]
  · rw [run_def hT.h45]
    simp only [runF, Int.cast_ofNat_Int, blsD, List.all, id, startE, fill, cellsOf, endF, ioOf, eSs_nil, eSs_cons, eS_ret, eS_exp, eS_set, eS_setP, eS_put, eS_app, eS_ife, eS_pass, eS_brk, eS_cnt, evT, eE_cst, eE_var, eE_bin, eE_not, eE_cmp, eE_cmp2, eE_and, eE_or, eE_ite, eE_tup, eE_lst, eE_idx, eE_slc, eE_rev, eE_nil, eE_call, eE_calli, eE_bi, eE_me, eE_lrg1, eE_isi, pk, evEs, evPs, evRs, rdE, rdP, rdL, get, put, sto, stoL, bind_ok, M.bind, callN, callIo, retE, fin, finS, finB, biD, bLen, lenD, ofO, truth, partI, slcV, revV, idxV, isNew, List.replicate, cmpD, ltD, isD, binD, Option.map, if_true, if_false, Bool.false_eq_true, Bool.true_eq_false, decide_true, decide_false, List.length_cons, List.length_nil, List.append_nil, List.cons_append, List.nil_append, List.drop_nil, chg, putV, appV, tst, Bool.not_true, Bool.not_false, beq_self_eq_true, bnd, bindP, bindL, plain_s, plain_i, plain_n, plain_b, eqD_s, eqD_i, eqD_b, bAbs, bInt, bMax, bMin, bAll, bAny, Bool.and_true, Bool.true_and, Bool.and_false, Bool.false_and, Nat.sub_self, Nat.zero_add, Nat.reduceAdd, Nat.reduceSub, Nat.reduceBEq, f45, e, e2, aL, s1]
theorem d46_ok (d : Nat) {w : List Nat} (hl : w.length ≤ 200) (hw : LetOk 8 w) (hne : w ≠ []) : ∃ L, RowIs w L ∧ (clOf T (d + 4)).run 46 [.str w] = .ok false (.tup (natL L)) none := by
  obtain ⟨L, hL, e2⟩ := row_ok hT hR (d + 2) hne (by omega)
  have e := bare_okS hR hT.h9 d hl hw hne
  refine ⟨L, hL, ?_⟩
  rw [run_def hT.h46]
  simp only [runF, Int.cast_ofNat_Int, blsD, List.all, id, startE, fill, cellsOf, endF, ioOf, eSs_nil, eSs_cons, eS_ret, eS_exp, eS_set, eS_setP, eS_put, eS_app, eS_ife, eS_pass, eS_brk, eS_cnt, evT, eE_cst, eE_var, eE_bin, eE_not, eE_cmp, eE_cmp2, eE_and, eE_or, eE_ite, eE_tup, eE_lst, eE_idx, eE_slc, eE_rev, eE_nil, eE_call, eE_calli, eE_bi, eE_me, eE_lrg1, eE_isi, pk, evEs, evPs, evRs, rdE, rdP, rdL, get, put, sto, stoL, bind_ok, M.bind, callN, callIo, retE, fin, finS, finB, biD, bLen, lenD, ofO, truth, partI, slcV, revV, idxV, isNew, List.replicate, cmpD, ltD, isD, binD, Option.map, if_true, if_false, Bool.false_eq_true, Bool.true_eq_false, decide_true, decide_false, List.length_cons, List.length_nil, List.append_nil, List.cons_append, List.nil_append, List.drop_nil, chg, putV, appV, tst, Bool.not_true, Bool.not_false, beq_self_eq_true, bnd, bindP, bindL, plain_s, plain_i, plain_n, plain_b, eqD_s, eqD_i, eqD_b, bAbs, bInt, bMax, bMin, bAll, bAny, Bool.and_true, Bool.true_and, Bool.and_false, Bool.false_and, Nat.sub_self, Nat.zero_add, Nat.reduceAdd, Nat.reduceSub, Nat.reduceBEq, f46, e, e2, bTuple]
theorem d47_ok (d : Nat) {w : List Nat} (hl : w.length ≤ 200) (hw : LetOk 8 w) (hne : w ≠ []) : ∃ L, ZRow w L ∧ (clOf T (d + 4)).run 47 [.str w] = .ok false (.tup (natL L)) none := by
  obtain ⟨L, hL, e2⟩ := alike_ok hT hR (d + 2) hne (by omega)
  have e := bare_okS hR hT.h9 d hl hw hne
  refine ⟨L, hL, ?_⟩
  rw [run_def hT.h47]
  simp only [runF, Int.cast_ofNat_Int, blsD, List.all, id, startE, fill, cellsOf, endF, ioOf, eSs_nil, eSs_cons, eS_ret, eS_exp, eS_set, eS_setP, eS_put, eS_app, eS_ife, eS_pass, eS_brk, eS_cnt, evT, eE_cst, eE_var, eE_bin, eE_not, eE_cmp, eE_cmp2, eE_and, eE_or, eE_ite, eE_tup, eE_lst, eE_idx, eE_slc, eE_rev, eE_nil, eE_call, eE_calli, eE_bi, eE_me, eE_lrg1, eE_isi, pk, evEs, evPs, evRs, rdE, rdP, rdL, get, put, sto, stoL, bind_ok, M.bind, callN, callIo, retE, fin, finS, finB, biD, bLen, lenD, ofO, truth, partI, slcV, revV, idxV, isNew, List.replicate, cmpD, ltD, isD, binD, Option.map, if_true, if_false, Bool.false_eq_true, Bool.true_eq_false, decide_true, decide_false, List.length_cons, List.length_nil, List.append_nil, List.cons_append, List.nil_append, List.drop_nil, chg, putV, appV, tst, Bool.not_true, Bool.not_false, beq_self_eq_true, bnd, bindP, bindL, plain_s, plain_i, plain_n, plain_b, eqD_s, eqD_i, eqD_b, bAbs, bInt, bMax, bMin, bAll, bAny, Bool.and_true, Bool.true_and, Bool.and_false, Bool.false_and, Nat.sub_self, Nat.zero_add, Nat.reduceAdd, Nat.reduceSub, Nat.reduceBEq, f47, e, e2, bTuple]
theorem d4849_ok (d : Nat) {w : List Nat} {k : Nat} (hl : w.length ≤ 200) (hw : LetOk 8 w) (hne : w ≠ []) (h0 : 0 < k) (hk : k ≤ w.length) : (clOf T (d + 5)).run 48 [.str w, .int k] = .ok false (.bl (unl w k).isEmpty) none ∧ (clOf T (d + 5)).run 49 [.str w, .int k] = .ok false (optN (unl w k).head?) none := by
  have e := bare_okS hR hT.h9 d hl hw hne
  have e1 := needw_ok hR.h0 hR.h1 hR.h2 d (z := k) (lo := 1) (hi := w.length) (by omega) (by omega)
  have e2 : (clOf T (d + 4)).run 41 [.str w, .int k] = .ok false .non none := by
    rw [run_def hT.h41]
    simp only [runF, Int.cast_ofNat_Int, blsD, List.all, id, startE, fill, cellsOf, endF, ioOf, eSs_nil, eSs_cons, eS_ret, eS_exp, eS_set, eS_setP, eS_put, eS_app, eS_ife, eS_pass, eS_brk, eS_cnt, evT, eE_cst, eE_var, eE_bin, eE_not, eE_cmp, eE_cmp2, eE_and, eE_or, eE_ite, eE_tup, eE_lst, eE_idx, eE_slc, eE_rev, eE_nil, eE_call, eE_calli, eE_bi, eE_me, eE_lrg1, eE_isi, pk, evEs, evPs, evRs, rdE, rdP, rdL, get, put, sto, stoL, bind_ok, M.bind, callN, callIo, retE, fin, finS, finB, biD, bLen, lenD, ofO, truth, partI, slcV, revV, idxV, isNew, List.replicate, cmpD, ltD, isD, binD, Option.map, if_true, if_false, Bool.false_eq_true, Bool.true_eq_false, decide_true, decide_false, List.length_cons, List.length_nil, List.append_nil, List.cons_append, List.nil_append, List.drop_nil, chg, putV, appV, tst, Bool.not_true, Bool.not_false, beq_self_eq_true, bnd, bindP, bindL, plain_s, plain_i, plain_n, plain_b, eqD_s, eqD_i, eqD_b, bAbs, bInt, bMax, bMin, bAll, bAny, Bool.and_true, Bool.true_and, Bool.and_false, Bool.false_and, Nat.sub_self, Nat.zero_add, Nat.reduceAdd, Nat.reduceSub, Nat.reduceBEq, f41, e, e1]
  have e3 := brk_ok hT hR (d + 3) hk (by omega)
  constructor
  · rw [run_def hT.h48]
    cases q : unl w k with
    | nil =>
      rw [q, List.head?_nil] at e3
      simp only [optN] at e3
      simp only [runF, Int.cast_ofNat_Int, blsD, List.all, id, startE, fill, cellsOf, endF, ioOf, eSs_nil, eSs_cons, eS_ret, eS_exp, eS_set, eS_setP, eS_put, eS_app, eS_ife, eS_pass, eS_brk, eS_cnt, evT, eE_cst, eE_var, eE_bin, eE_not, eE_cmp, eE_cmp2, eE_and, eE_or, eE_ite, eE_tup, eE_lst, eE_idx, eE_slc, eE_rev, eE_nil, eE_call, eE_calli, eE_bi, eE_me, eE_lrg1, eE_isi, pk, evEs, evPs, evRs, rdE, rdP, rdL, get, put, sto, stoL, bind_ok, M.bind, callN, callIo, retE, fin, finS, finB, biD, bLen, lenD, ofO, truth, partI, slcV, revV, idxV, isNew, List.replicate, cmpD, ltD, isD, binD, Option.map, if_true, if_false, Bool.false_eq_true, Bool.true_eq_false, decide_true, decide_false, List.length_cons, List.length_nil, List.append_nil, List.cons_append, List.nil_append, List.drop_nil, chg, putV, appV, tst, Bool.not_true, Bool.not_false, beq_self_eq_true, bnd, bindP, bindL, plain_s, plain_i, plain_n, plain_b, eqD_s, eqD_i, eqD_b, bAbs, bInt, bMax, bMin, bAll, bAny, Bool.and_true, Bool.true_and, Bool.and_false, Bool.false_and, Nat.sub_self, Nat.zero_add, Nat.reduceAdd, Nat.reduceSub, Nat.reduceBEq, f48, e2, e3, List.isEmpty]
    | cons a l =>
      rw [q, List.head?_cons] at e3
      simp only [optN] at e3
      simp only [runF, Int.cast_ofNat_Int, blsD, List.all, id, startE, fill, cellsOf, endF, ioOf, eSs_nil, eSs_cons, eS_ret, eS_exp, eS_set, eS_setP, eS_put, eS_app, eS_ife, eS_pass, eS_brk, eS_cnt, evT, eE_cst, eE_var, eE_bin, eE_not, eE_cmp, eE_cmp2, eE_and, eE_or, eE_ite, eE_tup, eE_lst, eE_idx, eE_slc, eE_rev, eE_nil, eE_call, eE_calli, eE_bi, eE_me, eE_lrg1, eE_isi, pk, evEs, evPs, evRs, rdE, rdP, rdL, get, put, sto, stoL, bind_ok, M.bind, callN, callIo, retE, fin, finS, finB, biD, bLen, lenD, ofO, truth, partI, slcV, revV, idxV, isNew, List.replicate, cmpD, ltD, isD, binD, Option.map, if_true, if_false, Bool.false_eq_true, Bool.true_eq_false, decide_true, decide_false, List.length_cons, List.length_nil, List.append_nil, List.cons_append, List.nil_append, List.drop_nil, chg, putV, appV, tst, Bool.not_true, Bool.not_false, beq_self_eq_true, bnd, bindP, bindL, plain_s, plain_i, plain_n, plain_b, eqD_s, eqD_i, eqD_b, bAbs, bInt, bMax, bMin, bAll, bAny, Bool.and_true, Bool.true_and, Bool.and_false, Bool.false_and, Nat.sub_self, Nat.zero_add, Nat.reduceAdd, Nat.reduceSub, Nat.reduceBEq, f48, e2, e3, List.isEmpty]
  · rw [run_def hT.h49]
    simp only [runF, Int.cast_ofNat_Int, blsD, List.all, id, startE, fill, cellsOf, endF, ioOf, eSs_nil, eSs_cons, eS_ret, eS_exp, eS_set, eS_setP, eS_put, eS_app, eS_ife, eS_pass, eS_brk, eS_cnt, evT, eE_cst, eE_var, eE_bin, eE_not, eE_cmp, eE_cmp2, eE_and, eE_or, eE_ite, eE_tup, eE_lst, eE_idx, eE_slc, eE_rev, eE_nil, eE_call, eE_calli, eE_bi, eE_me, eE_lrg1, eE_isi, pk, evEs, evPs, evRs, rdE, rdP, rdL, get, put, sto, stoL, bind_ok, M.bind, callN, callIo, retE, fin, finS, finB, biD, bLen, lenD, ofO, truth, partI, slcV, revV, idxV, isNew, List.replicate, cmpD, ltD, isD, binD, Option.map, if_true, if_false, Bool.false_eq_true, Bool.true_eq_false, decide_true, decide_false, List.length_cons, List.length_nil, List.append_nil, List.cons_append, List.nil_append, List.drop_nil, chg, putV, appV, tst, Bool.not_true, Bool.not_false, beq_self_eq_true, bnd, bindP, bindL, plain_s, plain_i, plain_n, plain_b, eqD_s, eqD_i, eqD_b, bAbs, bInt, bMax, bMin, bAll, bAny, Bool.and_true, Bool.true_and, Bool.and_false, Bool.false_and, Nat.sub_self, Nat.zero_add, Nat.reduceAdd, Nat.reduceSub, Nat.reduceBEq, f49, e2, e3]
theorem begin_ok (d : Nat) {w : List Nat} {j : Nat} (hl : w.length ≤ 200) (hw : LetOk 8 w) (hj : j ≤ w.length) : (clOf T (d + 5)).run 34 [.str w, .str (w.take j)] = .ok false (.bl true) none := by
  rw [run_def hT.h34]
  have hlj : (w.take j).length = j := by rw [List.length_take]; omega
  have e := words2_okS hR hT.h8 d hl hw (y := w.take j) (by omega) (hw.sub fun x hx => List.mem_of_mem_take hx)
  have c : cut w none (some (j : Int)) = w.take j := cut_toN
  simp only [runF, Int.cast_ofNat_Int, blsD, List.all, id, startE, fill, cellsOf, endF, ioOf, eSs_nil, eSs_cons, eS_ret, eS_exp, eS_set, eS_setP, eS_put, eS_app, eS_ife, eS_pass, eS_brk, eS_cnt, evT, eE_cst, eE_var, eE_bin, eE_not, eE_cmp, eE_cmp2, eE_and, eE_or, eE_ite, eE_tup, eE_lst, eE_idx, eE_slc, eE_rev, eE_nil, eE_call, eE_calli, eE_bi, eE_me, eE_lrg1, eE_isi, pk, evEs, evPs, evRs, rdE, rdP, rdL, get, put, sto, stoL, bind_ok, M.bind, callN, callIo, retE, fin, finS, finB, biD, bLen, lenD, ofO, truth, partI, slcV, revV, idxV, isNew, List.replicate, cmpD, ltD, isD, binD, Option.map, if_true, if_false, Bool.false_eq_true, Bool.true_eq_false, decide_true, decide_false, List.length_cons, List.length_nil, List.append_nil, List.cons_append, List.nil_append, List.drop_nil, chg, putV, appV, tst, Bool.not_true, Bool.not_false, beq_self_eq_true, bnd, bindP, bindL, plain_s, plain_i, plain_n, plain_b, eqD_s, eqD_i, eqD_b, bAbs, bInt, bMax, bMin, bAll, bAny, Bool.and_true, Bool.true_and, Bool.and_false, Bool.false_and, Nat.sub_self, Nat.zero_add, Nat.reduceAdd, Nat.reduceSub, Nat.reduceBEq, f34, e, hlj, c]
theorem end_ok (d : Nat) {w : List Nat} {j : Nat} (hl : w.length ≤ 200) (hw : LetOk 8 w) (hj : j < w.length) (hb : borB w j = true) : (clOf T (d + 5)).run 35 [.str w, .str (w.take j)] = .ok false (.bl true) none := by
  rw [run_def hT.h35]
  have hlj : (w.take j).length = j := by rw [List.length_take]; omega
  have e := words2_okS hR hT.h8 d hl hw (y := w.take j) (by omega) (hw.sub fun x hx => List.mem_of_mem_take hx)
  have s1 : (w.length : Int) - (j : Int) = ((w.length - j : Nat) : Int) := by omega
  have mx : (if ((w.length - j : Nat) : Int) > 0 then ((w.length - j : Nat) : Int) else 0) = ((w.length - j : Nat) : Int) := if_pos (by omega)
  have c : cut w (some ((w.length - j : Nat) : Int)) none = w.drop (w.length - j) := cut_fromN (by omega)
  have hb' : (w.drop (w.length - j) == w.take j) = true := by
    unfold borB perB at hb
    rwa [show w.length - (w.length - j) = j by omega] at hb
  simp only [runF, Int.cast_ofNat_Int, blsD, List.all, id, startE, fill, cellsOf, endF, ioOf, eSs_nil, eSs_cons, eS_ret, eS_exp, eS_set, eS_setP, eS_put, eS_app, eS_ife, eS_pass, eS_brk, eS_cnt, evT, eE_cst, eE_var, eE_bin, eE_not, eE_cmp, eE_cmp2, eE_and, eE_or, eE_ite, eE_tup, eE_lst, eE_idx, eE_slc, eE_rev, eE_nil, eE_call, eE_calli, eE_bi, eE_me, eE_lrg1, eE_isi, pk, evEs, evPs, evRs, rdE, rdP, rdL, get, put, sto, stoL, bind_ok, M.bind, callN, callIo, retE, fin, finS, finB, biD, bLen, lenD, ofO, truth, partI, slcV, revV, idxV, isNew, List.replicate, cmpD, ltD, isD, binD, Option.map, if_true, if_false, Bool.false_eq_true, Bool.true_eq_false, decide_true, decide_false, List.length_cons, List.length_nil, List.append_nil, List.cons_append, List.nil_append, List.drop_nil, chg, putV, appV, tst, Bool.not_true, Bool.not_false, beq_self_eq_true, bnd, bindP, bindL, plain_s, plain_i, plain_n, plain_b, eqD_s, eqD_i, eqD_b, bAbs, bInt, bMax, bMin, bAll, bAny, Bool.and_true, Bool.true_and, Bool.and_false, Bool.false_and, Nat.sub_self, Nat.zero_add, Nat.reduceAdd, Nat.reduceSub, Nat.reduceBEq, f35, e, hlj, s1, mx, c, hb']
omit hR in
theorem lper_ok (d : Nat) {w : List Nat} (hl : w.length ≤ 1000) : (clOf T (d + 1)).run 1006 [.str w] = .ok false (.tup (natL (perL w))) none := by
  rw [run_def hT.h1006]
  have s2 : (w.length : Int) + 1 = ((w.length + 1 : Nat) : Int) := rfl
  have W1 : evE (clOf T d) (.comp [1] (.nm 1) (.rng2 (.cst (.int 1)) (.bin .add (.bi .len [(.var 0)]) (.cst (.int 1)))) (.cmp .eq (.slc (.var 0) (.var 1) .nil) (.slc (.var 0) .nil (.bin .sub (.bi .len [(.var 0)]) (.var 1)))) (.var 1)) [some (.shr, .str w), none] = .ok (true, .lst (natL (perL w))) [some (.shr, .str w), none] := by
    rw [comp_ok (ρ1 := [some (.shr, .str w), none]) (ds := rngL (1 : Nat) (w.length + 1 : Nat) 1) (fun ρ => ∃ t, ρ = [some (.shr, .str w), t]) (numG (perB w) fun p => .int p)
      (rng2_it (a := 1) (b := w.length + 1) (s := false) (t := false) (ρ1 := [some (.shr, .str w), none]) (by simp only [runF, Int.cast_ofNat_Int, blsD, List.all, id, startE, fill, cellsOf, endF, ioOf, eSs_nil, eSs_cons, eS_ret, eS_exp, eS_set, eS_setP, eS_put, eS_app, eS_ife, eS_pass, eS_brk, eS_cnt, evT, eE_cst, eE_var, eE_bin, eE_not, eE_cmp, eE_cmp2, eE_and, eE_or, eE_ite, eE_tup, eE_lst, eE_idx, eE_slc, eE_rev, eE_nil, eE_call, eE_calli, eE_bi, eE_me, eE_lrg1, eE_isi, pk, evEs, evPs, evRs, rdE, rdP, rdL, get, put, sto, stoL, bind_ok, M.bind, callN, callIo, retE, fin, finS, finB, biD, bLen, lenD, ofO, truth, partI, slcV, revV, idxV, isNew, List.replicate, cmpD, ltD, isD, binD, Option.map, if_true, if_false, Bool.false_eq_true, Bool.true_eq_false, decide_true, decide_false, List.length_cons, List.length_nil, List.append_nil, List.cons_append, List.nil_append, List.drop_nil, chg, putV, appV, tst, Bool.not_true, Bool.not_false, beq_self_eq_true, bnd, bindP, bindL, plain_s, plain_i, plain_n, plain_b, eqD_s, eqD_i, eqD_b, bAbs, bInt, bMax, bMin, bAll, bAny, Bool.and_true, Bool.true_and, Bool.and_false, Bool.false_and, Nat.sub_self, Nat.zero_add, Nat.reduceAdd, Nat.reduceSub, Nat.reduceBEq]) (by simp only [runF, Int.cast_ofNat_Int, blsD, List.all, id, startE, fill, cellsOf, endF, ioOf, eSs_nil, eSs_cons, eS_ret, eS_exp, eS_set, eS_setP, eS_put, eS_app, eS_ife, eS_pass, eS_brk, eS_cnt, evT, eE_cst, eE_var, eE_bin, eE_not, eE_cmp, eE_cmp2, eE_and, eE_or, eE_ite, eE_tup, eE_lst, eE_idx, eE_slc, eE_rev, eE_nil, eE_call, eE_calli, eE_bi, eE_me, eE_lrg1, eE_isi, pk, evEs, evPs, evRs, rdE, rdP, rdL, get, put, sto, stoL, bind_ok, M.bind, callN, callIo, retE, fin, finS, finB, biD, bLen, lenD, ofO, truth, partI, slcV, revV, idxV, isNew, List.replicate, cmpD, ltD, isD, binD, Option.map, if_true, if_false, Bool.false_eq_true, Bool.true_eq_false, decide_true, decide_false, List.length_cons, List.length_nil, List.append_nil, List.cons_append, List.nil_append, List.drop_nil, chg, putV, appV, tst, Bool.not_true, Bool.not_false, beq_self_eq_true, bnd, bindP, bindL, plain_s, plain_i, plain_n, plain_b, eqD_s, eqD_i, eqD_b, bAbs, bInt, bMax, bMin, bAll, bAny, Bool.and_true, Bool.true_and, Bool.and_false, Bool.false_and, Nat.sub_self, Nat.zero_add, Nat.reduceAdd, Nat.reduceSub, Nat.reduceBEq, s2]) (by omega) (by omega)) ⟨_, rfl⟩ (by
        rintro x hx ρ ⟨t, rfl⟩
        rw [rngL_map2] at hx
        obtain ⟨p, hp, rfl⟩ := List.mem_map.mp hx
        have hp := List.mem_range'_1.mp hp
        have c1 : cut w (some (p : Int)) none = w.drop p := cut_fromN (by omega)
        have s1 : (w.length : Int) - (p : Int) = ((w.length - p : Nat) : Int) := by omega
        have c2 : cut w none (some ((w.length - p : Nat) : Int)) = w.take (w.length - p) := cut_toN
        refine ⟨_, ?_, some (.shr, .int p), rfl⟩
        cases q : perB w p with
        | true =>
          have q' : (w.drop p == w.take (w.length - p)) = true := q
          simp only [runF, Int.cast_ofNat_Int, blsD, List.all, id, startE, fill, cellsOf, endF, ioOf, eSs_nil, eSs_cons, eS_ret, eS_exp, eS_set, eS_setP, eS_put, eS_app, eS_ife, eS_pass, eS_brk, eS_cnt, evT, eE_cst, eE_var, eE_bin, eE_not, eE_cmp, eE_cmp2, eE_and, eE_or, eE_ite, eE_tup, eE_lst, eE_idx, eE_slc, eE_rev, eE_nil, eE_call, eE_calli, eE_bi, eE_me, eE_lrg1, eE_isi, pk, evEs, evPs, evRs, rdE, rdP, rdL, get, put, sto, stoL, bind_ok, M.bind, callN, callIo, retE, fin, finS, finB, biD, bLen, lenD, ofO, truth, partI, slcV, revV, idxV, isNew, List.replicate, cmpD, ltD, isD, binD, Option.map, if_true, if_false, Bool.false_eq_true, Bool.true_eq_false, decide_true, decide_false, List.length_cons, List.length_nil, List.append_nil, List.cons_append, List.nil_append, List.drop_nil, chg, putV, appV, tst, Bool.not_true, Bool.not_false, beq_self_eq_true, bnd, bindP, bindL, plain_s, plain_i, plain_n, plain_b, eqD_s, eqD_i, eqD_b, bAbs, bInt, bMax, bMin, bAll, bAny, Bool.and_true, Bool.true_and, Bool.and_false, Bool.false_and, Nat.sub_self, Nat.zero_add, Nat.reduceAdd, Nat.reduceSub, Nat.reduceBEq, clr, numG, c1, s1, c2, q', q, Int.toNat_natCast]
        | false =>
          have q' : (w.drop p == w.take (w.length - p)) = false := q
          simp only [runF, Int.cast_ofNat_Int, blsD, List.all, id, startE, fill, cellsOf, endF, ioOf, eSs_nil, eSs_cons, eS_ret, eS_exp, eS_set, eS_setP, eS_put, eS_app, eS_ife, eS_pass, eS_brk, eS_cnt, evT, eE_cst, eE_var, eE_bin, eE_not, eE_cmp, eE_cmp2, eE_and, eE_or, eE_ite, eE_tup, eE_lst, eE_idx, eE_slc, eE_rev, eE_nil, eE_call, eE_calli, eE_bi, eE_me, eE_lrg1, eE_isi, pk, evEs, evPs, evRs, rdE, rdP, rdL, get, put, sto, stoL, bind_ok, M.bind, callN, callIo, retE, fin, finS, finB, biD, bLen, lenD, ofO, truth, partI, slcV, revV, idxV, isNew, List.replicate, cmpD, ltD, isD, binD, Option.map, if_true, if_false, Bool.false_eq_true, Bool.true_eq_false, decide_true, decide_false, List.length_cons, List.length_nil, List.append_nil, List.cons_append, List.nil_append, List.drop_nil, chg, putV, appV, tst, Bool.not_true, Bool.not_false, beq_self_eq_true, bnd, bindP, bindL, plain_s, plain_i, plain_n, plain_b, eqD_s, eqD_i, eqD_b, bAbs, bInt, bMax, bMin, bAll, bAny, Bool.and_true, Bool.true_and, Bool.and_false, Bool.false_and, Nat.sub_self, Nat.zero_add, Nat.reduceAdd, Nat.reduceSub, Nat.reduceBEq, clr, numG, c1, s1, c2, q', q, Int.toNat_natCast]) (by rintro ρ ⟨t, rfl⟩; rfl) rfl (lenOk_of (by rw [rngL_map2, List.length_map, List.length_range']; omega))]
    rw [rngL_map2, show w.length + 1 - 1 = w.length by omega, fm_filter (fun (k : Nat) => D.int k) (perB w) (List.range' 1 w.length) (fun (k : Nat) => D.int k) _ (fun x _ => rfl)]
    rfl
  simp only [runF, Int.cast_ofNat_Int, blsD, List.all, id, startE, fill, cellsOf, endF, ioOf, eSs_nil, eSs_cons, eS_ret, eS_exp, eS_set, eS_setP, eS_put, eS_app, eS_ife, eS_pass, eS_brk, eS_cnt, evT, eE_cst, eE_var, eE_bin, eE_not, eE_cmp, eE_cmp2, eE_and, eE_or, eE_ite, eE_tup, eE_lst, eE_idx, eE_slc, eE_rev, eE_nil, eE_call, eE_calli, eE_bi, eE_me, eE_lrg1, eE_isi, pk, evEs, evPs, evRs, rdE, rdP, rdL, get, put, sto, stoL, bind_ok, M.bind, callN, callIo, retE, fin, finS, finB, biD, bLen, lenD, ofO, truth, partI, slcV, revV, idxV, isNew, List.replicate, cmpD, ltD, isD, binD, Option.map, if_true, if_false, Bool.false_eq_true, Bool.true_eq_false, decide_true, decide_false, List.length_cons, List.length_nil, List.append_nil, List.cons_append, List.nil_append, List.drop_nil, chg, putV, appV, tst, Bool.not_true, Bool.not_false, beq_self_eq_true, bnd, bindP, bindL, plain_s, plain_i, plain_n, plain_b, eqD_s, eqD_i, eqD_b, bAbs, bInt, bMax, bMin, bAll, bAny, Bool.and_true, Bool.true_and, Bool.and_false, Bool.false_and, Nat.sub_self, Nat.zero_add, Nat.reduceAdd, Nat.reduceSub, Nat.reduceBEq, f1006, W1, bTuple]
theorem gcd_ok (d : Nat) {a b : Nat} (ha : a ≤ 1000) (hb : b ≤ 1000) : (clOf T (d + 1)).run 1007 [.int a, .int b] = .ok false (.int (Nat.gcd a b : Nat)) none := by
  rw [run_def hT.h1007]
  obtain ⟨ρ2, W3, rfl⟩ := whl_ok (t := evT (clOf T d) (.cmp .ne (.var 1) (.cst (.int 0)))) (f := evSs (clOf T d) [(.setP [0, 1] [(.var 1), (.bin .mod (.bi .int [(.var 0)]) (.var 1))])]) (Q := fun ρ => ρ = [some (.shr, .int (Nat.gcd a b : Nat)), some (.shr, .int (0 : Nat))])
    (fun k ρ => ∃ x y : Nat, k = y ∧ x ≤ 1000 ∧ y ≤ 1000 ∧ Nat.gcd x y = Nat.gcd a b ∧ ρ = [some (.shr, .int (x : Nat)), some (.shr, .int (y : Nat))]) (by
      rintro k ρ ⟨x, y, rfl, hx, hy, hg, rfl⟩
      by_cases q : k = 0
      · left
        subst q
        rw [Nat.gcd_zero_right] at hg
        subst hg
        exact ⟨_, by simp only [runF, Int.cast_ofNat_Int, blsD, List.all, id, startE, fill, cellsOf, endF, ioOf, eSs_nil, eSs_cons, eS_ret, eS_exp, eS_set, eS_setP, eS_put, eS_app, eS_ife, eS_pass, eS_brk, eS_cnt, evT, eE_cst, eE_var, eE_bin, eE_not, eE_cmp, eE_cmp2, eE_and, eE_or, eE_ite, eE_tup, eE_lst, eE_idx, eE_slc, eE_rev, eE_nil, eE_call, eE_calli, eE_bi, eE_me, eE_lrg1, eE_isi, pk, evEs, evPs, evRs, rdE, rdP, rdL, get, put, sto, stoL, bind_ok, M.bind, callN, callIo, retE, fin, finS, finB, biD, bLen, lenD, ofO, truth, partI, slcV, revV, idxV, isNew, List.replicate, cmpD, ltD, isD, binD, Option.map, if_true, if_false, Bool.false_eq_true, Bool.true_eq_false, decide_true, decide_false, List.length_cons, List.length_nil, List.append_nil, List.cons_append, List.nil_append, List.drop_nil, chg, putV, appV, tst, Bool.not_true, Bool.not_false, beq_self_eq_true, bnd, bindP, bindL, plain_s, plain_i, plain_n, plain_b, eqD_s, eqD_i, eqD_b, bAbs, bInt, bMax, bMin, bAll, bAny, Bool.and_true, Bool.true_and, Bool.and_false, Bool.false_and, Nat.sub_self, Nat.zero_add, Nat.reduceAdd, Nat.reduceSub, Nat.reduceBEq], rfl⟩
      · right
        have z : ((k : Int) == 0) = false := beq_eq_false_iff_ne.mpr (by omega)
        have fm := fmodN x k
        have hlt := Nat.mod_lt x (show k > 0 by omega)
        refine ⟨[some (.shr, .int (x : Nat)), some (.shr, .int (k : Nat))], _, x % k, by simp only [runF, Int.cast_ofNat_Int, blsD, List.all, id, startE, fill, cellsOf, endF, ioOf, eSs_nil, eSs_cons, eS_ret, eS_exp, eS_set, eS_setP, eS_put, eS_app, eS_ife, eS_pass, eS_brk, eS_cnt, evT, eE_cst, eE_var, eE_bin, eE_not, eE_cmp, eE_cmp2, eE_and, eE_or, eE_ite, eE_tup, eE_lst, eE_idx, eE_slc, eE_rev, eE_nil, eE_call, eE_calli, eE_bi, eE_me, eE_lrg1, eE_isi, pk, evEs, evPs, evRs, rdE, rdP, rdL, get, put, sto, stoL, bind_ok, M.bind, callN, callIo, retE, fin, finS, finB, biD, bLen, lenD, ofO, truth, partI, slcV, revV, idxV, isNew, List.replicate, cmpD, ltD, isD, binD, Option.map, if_true, if_false, Bool.false_eq_true, Bool.true_eq_false, decide_true, decide_false, List.length_cons, List.length_nil, List.append_nil, List.cons_append, List.nil_append, List.drop_nil, chg, putV, appV, tst, Bool.not_true, Bool.not_false, beq_self_eq_true, bnd, bindP, bindL, plain_s, plain_i, plain_n, plain_b, eqD_s, eqD_i, eqD_b, bAbs, bInt, bMax, bMin, bAll, bAny, Bool.and_true, Bool.true_and, Bool.and_false, Bool.false_and, Nat.sub_self, Nat.zero_add, Nat.reduceAdd, Nat.reduceSub, Nat.reduceBEq, z], ?_, hlt, k, x % k, rfl, hy, by omega, ?_, rfl⟩
        · simp only [runF, Int.cast_ofNat_Int, blsD, List.all, id, startE, fill, cellsOf, endF, ioOf, eSs_nil, eSs_cons, eS_ret, eS_exp, eS_set, eS_setP, eS_put, eS_app, eS_ife, eS_pass, eS_brk, eS_cnt, evT, eE_cst, eE_var, eE_bin, eE_not, eE_cmp, eE_cmp2, eE_and, eE_or, eE_ite, eE_tup, eE_lst, eE_idx, eE_slc, eE_rev, eE_nil, eE_call, eE_calli, eE_bi, eE_me, eE_lrg1, eE_isi, pk, evEs, evPs, evRs, rdE, rdP, rdL, get, put, sto, stoL, bind_ok, M.bind, callN, callIo, retE, fin, finS, finB, biD, bLen, lenD, ofO, truth, partI, slcV, revV, idxV, isNew, List.replicate, cmpD, ltD, isD, binD, Option.map, if_true, if_false, Bool.false_eq_true, Bool.true_eq_false, decide_true, decide_false, List.length_cons, List.length_nil, List.append_nil, List.cons_append, List.nil_append, List.drop_nil, chg, putV, appV, tst, Bool.not_true, Bool.not_false, beq_self_eq_true, bnd, bindP, bindL, plain_s, plain_i, plain_n, plain_b, eqD_s, eqD_i, eqD_b, bAbs, bInt, bMax, bMin, bAll, bAny, Bool.and_true, Bool.true_and, Bool.and_false, Bool.false_and, Nat.sub_self, Nat.zero_add, Nat.reduceAdd, Nat.reduceSub, Nat.reduceBEq, z, fm]
        · rw [← hg, Nat.gcd_comm x k, Nat.gcd_rec k x, Nat.gcd_comm]) T.N b [some (.shr, .int (a : Nat)), some (.shr, .int (b : Nat))] (by have := hR.hN; omega) ⟨a, b, rfl, ha, hb, rfl, rfl⟩
  have hF : evS (clOf T d) (.whl (.cmp .ne (.var 1) (.cst (.int 0))) [(.setP [0, 1] [(.var 1), (.bin .mod (.bi .int [(.var 0)]) (.var 1))])]) [some (.shr, .int (a : Nat)), some (.shr, .int (b : Nat))] = .ok .nx [some (.shr, .int (Nat.gcd a b : Nat)), some (.shr, .int (0 : Nat))] := by
    rw [eS_whl, clN]; exact W3
  simp only [runF, Int.cast_ofNat_Int, blsD, List.all, id, startE, fill, cellsOf, endF, ioOf, eSs_nil, eSs_cons, eS_ret, eS_exp, eS_set, eS_setP, eS_put, eS_app, eS_ife, eS_pass, eS_brk, eS_cnt, evT, eE_cst, eE_var, eE_bin, eE_not, eE_cmp, eE_cmp2, eE_and, eE_or, eE_ite, eE_tup, eE_lst, eE_idx, eE_slc, eE_rev, eE_nil, eE_call, eE_calli, eE_bi, eE_me, eE_lrg1, eE_isi, pk, evEs, evPs, evRs, rdE, rdP, rdL, get, put, sto, stoL, bind_ok, M.bind, callN, callIo, retE, fin, finS, finB, biD, bLen, lenD, ofO, truth, partI, slcV, revV, idxV, isNew, List.replicate, cmpD, ltD, isD, binD, Option.map, if_true, if_false, Bool.false_eq_true, Bool.true_eq_false, decide_true, decide_false, List.length_cons, List.length_nil, List.append_nil, List.cons_append, List.nil_append, List.drop_nil, chg, putV, appV, tst, Bool.not_true, Bool.not_false, beq_self_eq_true, bnd, bindP, bindL, plain_s, plain_i, plain_n, plain_b, eqD_s, eqD_i, eqD_b, bAbs, bInt, bMax, bMin, bAll, bAny, Bool.and_true, Bool.true_and, Bool.and_false, Bool.false_and, Nat.sub_self, Nat.zero_add, Nat.reduceAdd, Nat.reduceSub, Nat.reduceBEq, f1007, hF]
end
end Py

/-! k03: rows; a drawn word. -/
namespace Py
theorem eqD_le {l : List D} : eqD (.lst l) (.lst []) = l.isEmpty := by cases l <;> rfl
theorem fm_none : ∀ (l : List D), l.filterMap (fun _ => (none : Option D)) = []
  | [] => rfl
  | x :: l => by simp only [List.filterMap_cons, fm_none l]
theorem rngG_down : ∀ (n : Nat), rngG (-1) (n + 1) (n : Int) = ((List.range (n + 1)).reverse).map fun (j : Nat) => D.int (j : Int)
  | 0 => rfl
  | n + 1 => by
    rw [List.range_succ, List.reverse_append]
    have e : rngG (-1) (n + 1 + 1) ((n + 1 : Nat) : Int) = .int ((n + 1 : Nat) : Int) :: rngG (-1) (n + 1) (((n + 1 : Nat) : Int) + -1) := rfl
    rw [e, show ((n + 1 : Nat) : Int) + -1 = (n : Int) by omega, rngG_down n]
    rfl
theorem rngL_down (n : Nat) : rngL (n : Int) (-1) (-1) = ((List.range (n + 1)).reverse).map fun (j : Nat) => D.int (j : Int) := by
  have e : rngN (n : Int) (-1) (-1) = n + 1 := by
    unfold rngN
    rw [if_neg (by decide), if_pos (by decide), show (0 : Int) - -1 = 1 by decide, Int.ediv_one]
    omega
  unfold rngL
  rw [e, rngG_down]
def boP (w : List Nat) (s j : Nat) : Bool := w.take j == (w.drop (s - j)).take j
theorem boP_iff {w : List Nat} {s j : Nat} (hs : s ≤ w.length) (hj : j < s) : boP w s j = true ↔ Bo (fnL w) s j := by
  unfold boP
  rw [beq_iff_eq]
  constructor
  · intro e
    refine ⟨hj, fun i hi => ?_⟩
    have h1 := take_get (l := w) (n := j) (i := i) hi (by omega)
    have h2 := take_get (l := w.drop (s - j)) (n := j) (i := i) hi (by rw [List.length_drop]; omega)
    rw [drop_get (by omega)] at h2
    show w[i]! = w[s - j + i]!
    rw [← h1, e, h2]
  · intro h
    refine ext_get (by rw [List.length_take, List.length_take, List.length_drop]; omega) fun i hi => ?_
    rw [List.length_take] at hi
    rw [take_get (by omega) (by omega), take_get (by omega) (by rw [List.length_drop]; omega), drop_get (by omega)]
    exact h.2 i (by omega)
theorem max_head {f : Nat → Nat} {s : Nat} (p : Nat → Bool) (hs : 0 < s) (hp : ∀ j, j < s → (p j = true ↔ Bo f s j)) : ∃ b l, IsMax f s b ∧ ((List.range s).reverse).filter p = b :: l := by
  have key : ∀ n, n ≤ s → (∀ j, n ≤ j → j < s → p j = false) → ∃ b l, IsMax f s b ∧ ((List.range n).reverse).filter p = b :: l := by
    intro n
    induction n with
    | zero =>
      intro _ h
      have := h 0 (by omega) hs
      rw [(hp 0 hs).mpr (bo_zero hs)] at this
      exact absurd this (by decide)
    | succ n ih =>
      intro h1 h2
      rw [List.range_succ, List.reverse_append]
      show ∃ b l, IsMax f s b ∧ (n :: (List.range n).reverse).filter p = b :: l
      rw [List.filter_cons]
      cases q : p n with
      | true =>
        refine ⟨n, _, ⟨(hp n (by omega)).mp q, fun j hj => ?_⟩, rfl⟩
        apply Classical.byContradiction
        intro h3
        have hjs := hj.1
        have := h2 j (by omega) hjs
        rw [(hp j hjs).mpr hj] at this
        exact absurd this (by decide)
      | false =>
        refine ih (by omega) fun j h3 h4 => ?_
        by_cases e : j = n
        · subst e; exact q
        · exact h2 j (by omega) h4
  exact key s (Nat.le_refl _) (fun j h1 h2 => by omega)
theorem rng3_it {C : Cl} {e g h : E} {ρ : Env} {a b : Int} {s t u : Bool} (h1 : evE C e ρ = .ok (s, .int a) ρ) (h2 : evE C g ρ = .ok (t, .int b) ρ) (h3 : evE C h ρ = .ok (u, .int (-1)) ρ) (ha : smallI a = true) (hb : smallI b = true) : (evE C (.rng3 e g h) ρ).bind itI = .ok (rngL a b (-1)) ρ := by
  have e0 : evE C (.rng3 e g h) ρ = (evE C e ρ).bind fun x ρ => (evE C g ρ).bind fun y ρ => (evE C h ρ).bind fun z ρ => finS ρ (rngV3 x.2 y.2 z.2) := rfl
  have e1 : rngV3 (.int a) (.int b) (.int (-1)) = some (.itr (rngL a b (-1))) := by
    show (if smallI a && smallI b && ((-1 : Int) == -1) then some (D.itr (rngL a b (-1))) else none) = _
    rw [ha, hb]; rfl
  rw [e0, h1]
  simp only [bind_ok, h2, h3, e1, finS, itI]
section
variable {T : Tb} (hT : Has T) (hR : HasS T)
include hT hR
theorem rows_ok (d : Nat) {w : List Nat} (hl : w.length ≤ 200) (hw : LetOk 8 w) (hne : w ≠ []) : (clOf T (d + 8)).run 1009 [.str w] = .ok false (.bl true) none := by
  have hn := List.length_pos_iff.mpr hne
  rw [run_def hT.h1009]
  have s2 : (w.length : Int) + 1 = ((w.length + 1 : Nat) : Int) := rfl
  obtain ⟨ρ1, L1, row, t4, hrl, hrm, rfl⟩ := for_inv (f := fun x ρ => (bnd (.nm 4) x ρ).bind fun _ ρ => evSs (clOf T (d + 7)) [(.app 2 (.idx (.comp [5] (.nm 5) (.rng3 (.bin .sub (.var 4) (.cst (.int 1))) (.cst (.int (-1))) (.cst (.int (-1)))) (.cmp .eq (.slc (.var 0) .nil (.var 5)) (.slc (.var 0) (.bin .sub (.var 4) (.var 5)) (.var 4))) (.var 5)) (.cst (.int 0))))] ρ) (rngL (1 : Nat) (w.length + 1 : Nat) 1)
    (fun k ρ => ∃ (row : List Nat) (t4 : Cell), row.length = k ∧ (∀ j, j < k → IsMax (fnL w) (j + 1) row[j]!) ∧ ρ = [some (.shr, .str w), some (.shr, .int w.length), some (.own, .lst (natL (row))), some (.own, .lst []), t4, none, none, none]) [some (.shr, .str w), some (.shr, .int w.length), some (.own, .lst (natL ([]))), some (.own, .lst []), none, none, none, none] (by
      rintro k x ρ hx ⟨row, t4, hrl, hrm, rfl⟩
      have hk : k < w.length ∧ x = .int ((k + 1 : Nat) : Int) := by
        rw [rngL_map2, List.getElem?_map] at hx
        cases q : (List.range' 1 (w.length + 1 - 1))[k]? with
        | none => rw [q] at hx; simp at hx
        | some y =>
          rw [q] at hx
          obtain ⟨h1, h2⟩ := List.getElem?_eq_some_iff.mp q
          rw [List.length_range'] at h1
          rw [List.getElem_range'] at h2
          refine ⟨by omega, ?_⟩
          simp only [Option.map, Option.some.injEq] at hx
          rw [← hx, ← h2]
          congr 1; omega
      obtain ⟨hk, rfl⟩ := hk
      obtain ⟨b, l, hb, hbl⟩ := max_head (f := fnL w) (s := k + 1) (boP w (k + 1)) (by omega) (fun j hj => boP_iff (by omega) hj)
      have s1 : ((k + 1 : Nat) : Int) - 1 = (k : Int) := by omega
      have W1 : evE (clOf T (d + 7)) (.comp [5] (.nm 5) (.rng3 (.bin .sub (.var 4) (.cst (.int 1))) (.cst (.int (-1))) (.cst (.int (-1)))) (.cmp .eq (.slc (.var 0) .nil (.var 5)) (.slc (.var 0) (.bin .sub (.var 4) (.var 5)) (.var 4))) (.var 5)) [some (.shr, .str w), some (.shr, .int w.length), some (.own, .lst (natL (row))), some (.own, .lst []), some (.shr, .int ((k + 1 : Nat) : Int)), none, none, none] = .ok (true, .lst (natL (b :: l))) [some (.shr, .str w), some (.shr, .int w.length), some (.own, .lst (natL (row))), some (.own, .lst []), some (.shr, .int ((k + 1 : Nat) : Int)), none, none, none] := by
        rw [comp_ok (ρ1 := [some (.shr, .str w), some (.shr, .int w.length), some (.own, .lst (natL (row))), some (.own, .lst []), some (.shr, .int ((k + 1 : Nat) : Int)), none, none, none]) (ds := rngL (k : Nat) (-1) (-1)) (fun ρ => ∃ t, ρ = [some (.shr, .str w), some (.shr, .int w.length), some (.own, .lst (natL row)), some (.own, .lst []), some (.shr, .int ((k + 1 : Nat) : Int)), t, none, none]) (numG (boP w (k + 1)) fun j => .int j)
          (rng3_it (s := false) (t := false) (u := false) (by simp only [runF, Int.cast_ofNat_Int, blsD, List.all, id, startE, fill, cellsOf, endF, ioOf, eSs_nil, eSs_cons, eS_ret, eS_exp, eS_set, eS_setP, eS_put, eS_app, eS_ife, eS_pass, eS_brk, eS_cnt, evT, eE_cst, eE_var, eE_bin, eE_not, eE_cmp, eE_cmp2, eE_and, eE_or, eE_ite, eE_tup, eE_lst, eE_idx, eE_slc, eE_rev, eE_nil, eE_call, eE_calli, eE_bi, eE_me, eE_lrg1, eE_isi, pk, evEs, evPs, evRs, rdE, rdP, rdL, get, put, sto, stoL, bind_ok, M.bind, callN, callIo, retE, fin, finS, finB, biD, bLen, lenD, ofO, truth, partI, slcV, revV, idxV, isNew, List.replicate, cmpD, ltD, isD, binD, Option.map, if_true, if_false, Bool.false_eq_true, Bool.true_eq_false, decide_true, decide_false, List.length_cons, List.length_nil, List.append_nil, List.cons_append, List.nil_append, List.drop_nil, chg, putV, appV, tst, Bool.not_true, Bool.not_false, beq_self_eq_true, bnd, bindP, bindL, plain_s, plain_i, plain_n, plain_b, eqD_s, eqD_i, eqD_b, bAbs, bInt, bMax, bMin, bAll, bAny, Bool.and_true, Bool.true_and, Bool.and_false, Bool.false_and, Nat.sub_self, Nat.zero_add, Nat.reduceAdd, Nat.reduceSub, Nat.reduceBEq, s1]) rfl rfl (small_nat (by omega)) rfl) ⟨_, rfl⟩ (by
            rintro x hx ρ ⟨t, rfl⟩
            rw [rngL_down] at hx
            obtain ⟨j, hj, rfl⟩ := List.mem_map.mp hx
            have hj := List.mem_range.mp (List.mem_reverse.mp hj)
            have c1 : cut w none (some (j : Int)) = w.take j := cut_toN
            have s3 : ((k + 1 : Nat) : Int) - (j : Int) = ((k + 1 - j : Nat) : Int) := by omega
            have c2 : cut w (some ((k + 1 - j : Nat) : Int)) (some ((k + 1 : Nat) : Int)) = (w.drop (k + 1 - j)).take j := by
              rw [cut_nat (by omega) (by omega), show k + 1 - (k + 1 - j) = j by omega]
            refine ⟨_, ?_, some (.shr, .int j), rfl⟩
            cases q : boP w (k + 1) j with
            | true =>
              have q' : (w.take j == (w.drop (k + 1 - j)).take j) = true := q
              simp only [runF, Int.cast_ofNat_Int, blsD, List.all, id, startE, fill, cellsOf, endF, ioOf, eSs_nil, eSs_cons, eS_ret, eS_exp, eS_set, eS_setP, eS_put, eS_app, eS_ife, eS_pass, eS_brk, eS_cnt, evT, eE_cst, eE_var, eE_bin, eE_not, eE_cmp, eE_cmp2, eE_and, eE_or, eE_ite, eE_tup, eE_lst, eE_idx, eE_slc, eE_rev, eE_nil, eE_call, eE_calli, eE_bi, eE_me, eE_lrg1, eE_isi, pk, evEs, evPs, evRs, rdE, rdP, rdL, get, put, sto, stoL, bind_ok, M.bind, callN, callIo, retE, fin, finS, finB, biD, bLen, lenD, ofO, truth, partI, slcV, revV, idxV, isNew, List.replicate, cmpD, ltD, isD, binD, Option.map, if_true, if_false, Bool.false_eq_true, Bool.true_eq_false, decide_true, decide_false, List.length_cons, List.length_nil, List.append_nil, List.cons_append, List.nil_append, List.drop_nil, chg, putV, appV, tst, Bool.not_true, Bool.not_false, beq_self_eq_true, bnd, bindP, bindL, plain_s, plain_i, plain_n, plain_b, eqD_s, eqD_i, eqD_b, bAbs, bInt, bMax, bMin, bAll, bAny, Bool.and_true, Bool.true_and, Bool.and_false, Bool.false_and, Nat.sub_self, Nat.zero_add, Nat.reduceAdd, Nat.reduceSub, Nat.reduceBEq, clr, numG, c1, s3, c2, q', q, Int.toNat_natCast]
            | false =>
              have q' : (w.take j == (w.drop (k + 1 - j)).take j) = false := q
              simp only [runF, Int.cast_ofNat_Int, blsD, List.all, id, startE, fill, cellsOf, endF, ioOf, eSs_nil, eSs_cons, eS_ret, eS_exp, eS_set, eS_setP, eS_put, eS_app, eS_ife, eS_pass, eS_brk, eS_cnt, evT, eE_cst, eE_var, eE_bin, eE_not, eE_cmp, eE_cmp2, eE_and, eE_or, eE_ite, eE_tup, eE_lst, eE_idx, eE_slc, eE_rev, eE_nil, eE_call, eE_calli, eE_bi, eE_me, eE_lrg1, eE_isi, pk, evEs, evPs, evRs, rdE, rdP, rdL, get, put, sto, stoL, bind_ok, M.bind, callN, callIo, retE, fin, finS, finB, biD, bLen, lenD, ofO, truth, partI, slcV, revV, idxV, isNew, List.replicate, cmpD, ltD, isD, binD, Option.map, if_true, if_false, Bool.false_eq_true, Bool.true_eq_false, decide_true, decide_false, List.length_cons, List.length_nil, List.append_nil, List.cons_append, List.nil_append, List.drop_nil, chg, putV, appV, tst, Bool.not_true, Bool.not_false, beq_self_eq_true, bnd, bindP, bindL, plain_s, plain_i, plain_n, plain_b, eqD_s, eqD_i, eqD_b, bAbs, bInt, bMax, bMin, bAll, bAny, Bool.and_true, Bool.true_and, Bool.and_false, Bool.false_and, Nat.sub_self, Nat.zero_add, Nat.reduceAdd, Nat.reduceSub, Nat.reduceBEq, clr, numG, c1, s3, c2, q', q, Int.toNat_natCast]) (by rintro ρ ⟨t, rfl⟩; rfl) rfl (lenOk_of (by rw [rngL_down, List.length_map, List.length_reverse, List.length_range]; omega))]
        rw [rngL_down, fm_filter (fun (j : Nat) => D.int j) (boP w (k + 1)) _ (fun (k : Nat) => D.int k) _ (fun x _ => rfl), hbl]
        rfl
      have a0 : atD (natL (b :: l)) 0 = some (.int b) := atD_zero
      have blt : Nat.blt row.length sz = true := by
        have : row.length < sz := by unfold sz; omega
        exact Nat.blt_eq.mpr this
      refine ⟨_, ?_, row ++ [b], some (.shr, .int ((k + 1 : Nat) : Int)), by rw [List.length_append, hrl]; rfl, snoc_at (P := fun j x => IsMax (fnL w) (j + 1) x) hrl hrm hb, rfl⟩
      simp only [runF, Int.cast_ofNat_Int, blsD, List.all, id, startE, fill, cellsOf, endF, ioOf, eSs_nil, eSs_cons, eS_ret, eS_exp, eS_set, eS_setP, eS_put, eS_app, eS_ife, eS_pass, eS_brk, eS_cnt, evT, eE_cst, eE_var, eE_bin, eE_not, eE_cmp, eE_cmp2, eE_and, eE_or, eE_ite, eE_tup, eE_lst, eE_idx, eE_slc, eE_rev, eE_nil, eE_call, eE_calli, eE_bi, eE_me, eE_lrg1, eE_isi, pk, evEs, evPs, evRs, rdE, rdP, rdL, get, put, sto, stoL, bind_ok, M.bind, callN, callIo, retE, fin, finS, finB, biD, bLen, lenD, ofO, truth, partI, slcV, revV, idxV, isNew, List.replicate, cmpD, ltD, isD, binD, Option.map, if_true, if_false, Bool.false_eq_true, Bool.true_eq_false, decide_true, decide_false, List.length_cons, List.length_nil, List.append_nil, List.cons_append, List.nil_append, List.drop_nil, chg, putV, appV, tst, Bool.not_true, Bool.not_false, beq_self_eq_true, bnd, bindP, bindL, plain_s, plain_i, plain_n, plain_b, eqD_s, eqD_i, eqD_b, bAbs, bInt, bMax, bMin, bAll, bAny, Bool.and_true, Bool.true_and, Bool.and_false, Bool.false_and, Nat.sub_self, Nat.zero_add, Nat.reduceAdd, Nat.reduceSub, Nat.reduceBEq, W1, a0, natL_len, blt, natL_app]) ⟨[], none, rfl, fun j hj => by omega, rfl⟩
  have hlen : (rngL (1 : Nat) (w.length + 1 : Nat) 1).length = w.length := by rw [rngL_map2, List.length_map, List.length_range']; omega
  rw [hlen] at hrl hrm
  have hF1 := for_ok (C := clOf T (d + 7)) (p := (.nm 4)) (it := (.rng2 (.cst (.int 1)) (.bin .add (.var 1) (.cst (.int 1))))) (ρ := [some (.shr, .str w), some (.shr, .int w.length), some (.own, .lst (natL ([]))), some (.own, .lst []), none, none, none, none]) (ρ1 := [some (.shr, .str w), some (.shr, .int w.length), some (.own, .lst (natL ([]))), some (.own, .lst []), none, none, none, none]) (rng2_it (a := 1) (b := w.length + 1) (s := false) (t := false) (ρ1 := [some (.shr, .str w), some (.shr, .int w.length), some (.own, .lst (natL ([]))), some (.own, .lst []), none, none, none, none]) (by simp only [runF, Int.cast_ofNat_Int, blsD, List.all, id, startE, fill, cellsOf, endF, ioOf, eSs_nil, eSs_cons, eS_ret, eS_exp, eS_set, eS_setP, eS_put, eS_app, eS_ife, eS_pass, eS_brk, eS_cnt, evT, eE_cst, eE_var, eE_bin, eE_not, eE_cmp, eE_cmp2, eE_and, eE_or, eE_ite, eE_tup, eE_lst, eE_idx, eE_slc, eE_rev, eE_nil, eE_call, eE_calli, eE_bi, eE_me, eE_lrg1, eE_isi, pk, evEs, evPs, evRs, rdE, rdP, rdL, get, put, sto, stoL, bind_ok, M.bind, callN, callIo, retE, fin, finS, finB, biD, bLen, lenD, ofO, truth, partI, slcV, revV, idxV, isNew, List.replicate, cmpD, ltD, isD, binD, Option.map, if_true, if_false, Bool.false_eq_true, Bool.true_eq_false, decide_true, decide_false, List.length_cons, List.length_nil, List.append_nil, List.cons_append, List.nil_append, List.drop_nil, chg, putV, appV, tst, Bool.not_true, Bool.not_false, beq_self_eq_true, bnd, bindP, bindL, plain_s, plain_i, plain_n, plain_b, eqD_s, eqD_i, eqD_b, bAbs, bInt, bMax, bMin, bAll, bAny, Bool.and_true, Bool.true_and, Bool.and_false, Bool.false_and, Nat.sub_self, Nat.zero_add, Nat.reduceAdd, Nat.reduceSub, Nat.reduceBEq]) (by simp only [runF, Int.cast_ofNat_Int, blsD, List.all, id, startE, fill, cellsOf, endF, ioOf, eSs_nil, eSs_cons, eS_ret, eS_exp, eS_set, eS_setP, eS_put, eS_app, eS_ife, eS_pass, eS_brk, eS_cnt, evT, eE_cst, eE_var, eE_bin, eE_not, eE_cmp, eE_cmp2, eE_and, eE_or, eE_ite, eE_tup, eE_lst, eE_idx, eE_slc, eE_rev, eE_nil, eE_call, eE_calli, eE_bi, eE_me, eE_lrg1, eE_isi, pk, evEs, evPs, evRs, rdE, rdP, rdL, get, put, sto, stoL, bind_ok, M.bind, callN, callIo, retE, fin, finS, finB, biD, bLen, lenD, ofO, truth, partI, slcV, revV, idxV, isNew, List.replicate, cmpD, ltD, isD, binD, Option.map, if_true, if_false, Bool.false_eq_true, Bool.true_eq_false, decide_true, decide_false, List.length_cons, List.length_nil, List.append_nil, List.cons_append, List.nil_append, List.drop_nil, chg, putV, appV, tst, Bool.not_true, Bool.not_false, beq_self_eq_true, bnd, bindP, bindL, plain_s, plain_i, plain_n, plain_b, eqD_s, eqD_i, eqD_b, bAbs, bInt, bMax, bMin, bAll, bAny, Bool.and_true, Bool.true_and, Bool.and_false, Bool.false_and, Nat.sub_self, Nat.zero_add, Nat.reduceAdd, Nat.reduceSub, Nat.reduceBEq, s2]) (by omega) (by omega)) L1
  have hF1' : evS (clOf T (d + 7)) (.fors (.nm 4) (.rng2 (.cst (.int 1)) (.bin .add (.var 1) (.cst (.int 1)))) [(.app 2 (.idx (.comp [5] (.nm 5) (.rng3 (.bin .sub (.var 4) (.cst (.int 1))) (.cst (.int (-1))) (.cst (.int (-1)))) (.cmp .eq (.slc (.var 0) .nil (.var 5)) (.slc (.var 0) (.bin .sub (.var 4) (.var 5)) (.var 4))) (.var 5)) (.cst (.int 0))))]) [some (.shr, .str w), some (.shr, .int w.length), some (.own, .lst []), some (.own, .lst []), none, none, none, none] = _ := hF1
  obtain ⟨ρ2, L2, al, t6, t7, hal, haz, ht6, rfl⟩ := for_inv (f := fun x ρ => (bnd (.nm 6) x ρ).bind fun _ ρ => evSs (clOf T (d + 7)) [(.set 7 (.var 6)), (.whl (.and (.cmp .lt (.var 7) (.var 1)) (.cmp .eq (.idx (.var 0) (.var 7)) (.idx (.var 0) (.bin .sub (.var 7) (.var 6))))) [(.set 7 (.bin .add (.var 7) (.cst (.int 1))))]), (.app 3 (.bin .sub (.var 7) (.var 6)))] ρ) (rngL 0 (w.length : Nat) 1)
    (fun k ρ => ∃ (al : List Nat) (t6 t7 : Cell), al.length = k ∧ (∀ j, j < k → IsZ (fnL w) w.length j al[j]!) ∧ (t6 = none ∨ ∃ x, t6 = some (.shr, x)) ∧ ρ = [some (.shr, .str w), some (.shr, .int w.length), some (.own, .lst (natL row)), some (.own, .lst (natL (al))), t4, none, t6, t7]) [some (.shr, .str w), some (.shr, .int w.length), some (.own, .lst (natL row)), some (.own, .lst (natL ([]))), t4, none, none, none] (by
      rintro k x ρ hx ⟨al, t6, t7, hal, haz, ht6, rfl⟩
      obtain ⟨rfl, hk⟩ := rngL_at hx
      have hk : k < w.length := by omega
      obtain ⟨ρ3, W, m, hz, rfl⟩ := whl_ok (t := evT (clOf T (d + 7)) (.and (.cmp .lt (.var 7) (.var 1)) (.cmp .eq (.idx (.var 0) (.var 7)) (.idx (.var 0) (.bin .sub (.var 7) (.var 6)))))) (f := evSs (clOf T (d + 7)) [(.set 7 (.bin .add (.var 7) (.cst (.int 1))))]) (Q := fun ρ => ∃ m, IsZ (fnL w) w.length k m ∧ ρ = [some (.shr, .str w), some (.shr, .int w.length), some (.own, .lst (natL row)), some (.own, .lst (natL (al))), t4, none, some (.shr, .int (k : Nat)), some (.shr, .int (k + m : Nat))])
        (fun q ρ => ∃ m, q = w.length - (k + m) ∧ k + m ≤ w.length ∧ (∀ i, i < m → fnL w i = fnL w (k + i)) ∧ ρ = [some (.shr, .str w), some (.shr, .int w.length), some (.own, .lst (natL row)), some (.own, .lst (natL (al))), t4, none, some (.shr, .int (k : Nat)), some (.shr, .int (k + m : Nat))]) (by
          rintro q ρ ⟨m, rfl, hm1, hm2, rfl⟩
          have s1 : ((k + m : Nat) : Int) - (k : Int) = (m : Int) := by omega
          by_cases q1 : k + m < w.length
          · have q1' : (((k + m : Nat) : Int) < (w.length : Int)) := by omega
            have a1 := atD_nat (l := w) (k := m) (by omega)
            have a2 := atD_nat (l := w) (k := k + m) q1
            by_cases ew : w[k + m]! = w[m]!
            · right
              have e' : (w[k + m]! == w[m]!) = true := by rw [ew]; exact beq_self_eq_true _
              have s3 : ((k + m : Nat) : Int) + 1 = ((k + (m + 1) : Nat) : Int) := by omega
              refine ⟨[some (.shr, .str w), some (.shr, .int w.length), some (.own, .lst (natL row)), some (.own, .lst (natL (al))), t4, none, some (.shr, .int (k : Nat)), some (.shr, .int (k + m : Nat))], [some (.shr, .str w), some (.shr, .int w.length), some (.own, .lst (natL row)), some (.own, .lst (natL (al))), t4, none, some (.shr, .int (k : Nat)), some (.shr, .int (k + (m + 1) : Nat))], w.length - (k + (m + 1)), by simp only [runF, Int.cast_ofNat_Int, blsD, List.all, id, startE, fill, cellsOf, endF, ioOf, eSs_nil, eSs_cons, eS_ret, eS_exp, eS_set, eS_setP, eS_put, eS_app, eS_ife, eS_pass, eS_brk, eS_cnt, evT, eE_cst, eE_var, eE_bin, eE_not, eE_cmp, eE_cmp2, eE_and, eE_or, eE_ite, eE_tup, eE_lst, eE_idx, eE_slc, eE_rev, eE_nil, eE_call, eE_calli, eE_bi, eE_me, eE_lrg1, eE_isi, pk, evEs, evPs, evRs, rdE, rdP, rdL, get, put, sto, stoL, bind_ok, M.bind, callN, callIo, retE, fin, finS, finB, biD, bLen, lenD, ofO, truth, partI, slcV, revV, idxV, isNew, List.replicate, cmpD, ltD, isD, binD, Option.map, if_true, if_false, Bool.false_eq_true, Bool.true_eq_false, decide_true, decide_false, List.length_cons, List.length_nil, List.append_nil, List.cons_append, List.nil_append, List.drop_nil, chg, putV, appV, tst, Bool.not_true, Bool.not_false, beq_self_eq_true, bnd, bindP, bindL, plain_s, plain_i, plain_n, plain_b, eqD_s, eqD_i, eqD_b, bAbs, bInt, bMax, bMin, bAll, bAny, Bool.and_true, Bool.true_and, Bool.and_false, Bool.false_and, Nat.sub_self, Nat.zero_add, Nat.reduceAdd, Nat.reduceSub, Nat.reduceBEq, q1', s1, a1, a2, beq1, e'], ?_, by omega, m + 1, rfl, by omega, fun i hi => ?_, rfl⟩
              · simp only [runF, Int.cast_ofNat_Int, blsD, List.all, id, startE, fill, cellsOf, endF, ioOf, eSs_nil, eSs_cons, eS_ret, eS_exp, eS_set, eS_setP, eS_put, eS_app, eS_ife, eS_pass, eS_brk, eS_cnt, evT, eE_cst, eE_var, eE_bin, eE_not, eE_cmp, eE_cmp2, eE_and, eE_or, eE_ite, eE_tup, eE_lst, eE_idx, eE_slc, eE_rev, eE_nil, eE_call, eE_calli, eE_bi, eE_me, eE_lrg1, eE_isi, pk, evEs, evPs, evRs, rdE, rdP, rdL, get, put, sto, stoL, bind_ok, M.bind, callN, callIo, retE, fin, finS, finB, biD, bLen, lenD, ofO, truth, partI, slcV, revV, idxV, isNew, List.replicate, cmpD, ltD, isD, binD, Option.map, if_true, if_false, Bool.false_eq_true, Bool.true_eq_false, decide_true, decide_false, List.length_cons, List.length_nil, List.append_nil, List.cons_append, List.nil_append, List.drop_nil, chg, putV, appV, tst, Bool.not_true, Bool.not_false, beq_self_eq_true, bnd, bindP, bindL, plain_s, plain_i, plain_n, plain_b, eqD_s, eqD_i, eqD_b, bAbs, bInt, bMax, bMin, bAll, bAny, Bool.and_true, Bool.true_and, Bool.and_false, Bool.false_and, Nat.sub_self, Nat.zero_add, Nat.reduceAdd, Nat.reduceSub, Nat.reduceBEq, s3]
              · by_cases z : i < m
                · exact hm2 i z
                · have : i = m := by omega
                  subst this
                  exact ew.symm
            · left
              have e' : (w[k + m]! == w[m]!) = false := beq_eq_false_iff_ne.mpr ew
              exact ⟨[some (.shr, .str w), some (.shr, .int w.length), some (.own, .lst (natL row)), some (.own, .lst (natL (al))), t4, none, some (.shr, .int (k : Nat)), some (.shr, .int (k + m : Nat))], by simp only [runF, Int.cast_ofNat_Int, blsD, List.all, id, startE, fill, cellsOf, endF, ioOf, eSs_nil, eSs_cons, eS_ret, eS_exp, eS_set, eS_setP, eS_put, eS_app, eS_ife, eS_pass, eS_brk, eS_cnt, evT, eE_cst, eE_var, eE_bin, eE_not, eE_cmp, eE_cmp2, eE_and, eE_or, eE_ite, eE_tup, eE_lst, eE_idx, eE_slc, eE_rev, eE_nil, eE_call, eE_calli, eE_bi, eE_me, eE_lrg1, eE_isi, pk, evEs, evPs, evRs, rdE, rdP, rdL, get, put, sto, stoL, bind_ok, M.bind, callN, callIo, retE, fin, finS, finB, biD, bLen, lenD, ofO, truth, partI, slcV, revV, idxV, isNew, List.replicate, cmpD, ltD, isD, binD, Option.map, if_true, if_false, Bool.false_eq_true, Bool.true_eq_false, decide_true, decide_false, List.length_cons, List.length_nil, List.append_nil, List.cons_append, List.nil_append, List.drop_nil, chg, putV, appV, tst, Bool.not_true, Bool.not_false, beq_self_eq_true, bnd, bindP, bindL, plain_s, plain_i, plain_n, plain_b, eqD_s, eqD_i, eqD_b, bAbs, bInt, bMax, bMin, bAll, bAny, Bool.and_true, Bool.true_and, Bool.and_false, Bool.false_and, Nat.sub_self, Nat.zero_add, Nat.reduceAdd, Nat.reduceSub, Nat.reduceBEq, q1', s1, a1, a2, beq1, e'], m, ⟨hm1, hm2, fun _ h => ew h.symm⟩, rfl⟩
          · left
            have q1' : ¬ (((k + m : Nat) : Int) < (w.length : Int)) := by omega
            exact ⟨[some (.shr, .str w), some (.shr, .int w.length), some (.own, .lst (natL row)), some (.own, .lst (natL (al))), t4, none, some (.shr, .int (k : Nat)), some (.shr, .int (k + m : Nat))], by simp only [runF, Int.cast_ofNat_Int, blsD, List.all, id, startE, fill, cellsOf, endF, ioOf, eSs_nil, eSs_cons, eS_ret, eS_exp, eS_set, eS_setP, eS_put, eS_app, eS_ife, eS_pass, eS_brk, eS_cnt, evT, eE_cst, eE_var, eE_bin, eE_not, eE_cmp, eE_cmp2, eE_and, eE_or, eE_ite, eE_tup, eE_lst, eE_idx, eE_slc, eE_rev, eE_nil, eE_call, eE_calli, eE_bi, eE_me, eE_lrg1, eE_isi, pk, evEs, evPs, evRs, rdE, rdP, rdL, get, put, sto, stoL, bind_ok, M.bind, callN, callIo, retE, fin, finS, finB, biD, bLen, lenD, ofO, truth, partI, slcV, revV, idxV, isNew, List.replicate, cmpD, ltD, isD, binD, Option.map, if_true, if_false, Bool.false_eq_true, Bool.true_eq_false, decide_true, decide_false, List.length_cons, List.length_nil, List.append_nil, List.cons_append, List.nil_append, List.drop_nil, chg, putV, appV, tst, Bool.not_true, Bool.not_false, beq_self_eq_true, bnd, bindP, bindL, plain_s, plain_i, plain_n, plain_b, eqD_s, eqD_i, eqD_b, bAbs, bInt, bMax, bMin, bAll, bAny, Bool.and_true, Bool.true_and, Bool.and_false, Bool.false_and, Nat.sub_self, Nat.zero_add, Nat.reduceAdd, Nat.reduceSub, Nat.reduceBEq, q1'], m, ⟨hm1, hm2, fun h => absurd h q1⟩, rfl⟩) T.N (w.length - (k + 0)) [some (.shr, .str w), some (.shr, .int w.length), some (.own, .lst (natL row)), some (.own, .lst (natL (al))), t4, none, some (.shr, .int (k : Nat)), some (.shr, .int (k + 0 : Nat))] (by have := hR.hN; omega) ⟨0, rfl, by omega, fun i hi => by omega, rfl⟩
      have hF : evS (clOf T (d + 7)) (.whl (.and (.cmp .lt (.var 7) (.var 1)) (.cmp .eq (.idx (.var 0) (.var 7)) (.idx (.var 0) (.bin .sub (.var 7) (.var 6))))) [(.set 7 (.bin .add (.var 7) (.cst (.int 1))))]) [some (.shr, .str w), some (.shr, .int w.length), some (.own, .lst (natL row)), some (.own, .lst (natL (al))), t4, none, some (.shr, .int (k : Nat)), some (.shr, .int (k : Nat))] = .ok .nx [some (.shr, .str w), some (.shr, .int w.length), some (.own, .lst (natL row)), some (.own, .lst (natL (al))), t4, none, some (.shr, .int (k : Nat)), some (.shr, .int (k + m : Nat))] := by
        rw [eS_whl, clN]; exact W
      have s1 : ((k + m : Nat) : Int) - (k : Int) = (m : Int) := by omega
      have blt : Nat.blt al.length sz = true := by
        have : al.length < sz := by unfold sz; omega
        exact Nat.blt_eq.mpr this
      refine ⟨_, ?_, al ++ [m], some (.shr, .int (k : Nat)), some (.shr, .int (k + m : Nat)), by rw [List.length_append, hal]; rfl, snoc_at (P := fun j x => IsZ (fnL w) w.length j x) hal haz hz, .inr ⟨_, rfl⟩, rfl⟩
      simp only [runF, Int.cast_ofNat_Int, blsD, List.all, id, startE, fill, cellsOf, endF, ioOf, eSs_nil, eSs_cons, eS_ret, eS_exp, eS_set, eS_setP, eS_put, eS_app, eS_ife, eS_pass, eS_brk, eS_cnt, evT, eE_cst, eE_var, eE_bin, eE_not, eE_cmp, eE_cmp2, eE_and, eE_or, eE_ite, eE_tup, eE_lst, eE_idx, eE_slc, eE_rev, eE_nil, eE_call, eE_calli, eE_bi, eE_me, eE_lrg1, eE_isi, pk, evEs, evPs, evRs, rdE, rdP, rdL, get, put, sto, stoL, bind_ok, M.bind, callN, callIo, retE, fin, finS, finB, biD, bLen, lenD, ofO, truth, partI, slcV, revV, idxV, isNew, List.replicate, cmpD, ltD, isD, binD, Option.map, if_true, if_false, Bool.false_eq_true, Bool.true_eq_false, decide_true, decide_false, List.length_cons, List.length_nil, List.append_nil, List.cons_append, List.nil_append, List.drop_nil, chg, putV, appV, tst, Bool.not_true, Bool.not_false, beq_self_eq_true, bnd, bindP, bindL, plain_s, plain_i, plain_n, plain_b, eqD_s, eqD_i, eqD_b, bAbs, bInt, bMax, bMin, bAll, bAny, Bool.and_true, Bool.true_and, Bool.and_false, Bool.false_and, Nat.sub_self, Nat.zero_add, Nat.reduceAdd, Nat.reduceSub, Nat.reduceBEq, hF, s1, natL_len, blt, natL_app]) ⟨[], none, none, rfl, fun j hj => by omega, .inl rfl, rfl⟩
  rw [rngL_len, Int.toNat_natCast] at hal haz
  have hF2 := for_ok (C := clOf T (d + 7)) (p := (.nm 6)) (it := (.rng1 (.var 1))) (ρ := [some (.shr, .str w), some (.shr, .int w.length), some (.own, .lst (natL row)), some (.own, .lst (natL ([]))), t4, none, none, none]) (ρ1 := [some (.shr, .str w), some (.shr, .int w.length), some (.own, .lst (natL row)), some (.own, .lst (natL ([]))), t4, none, none, none]) (rng_it (n := w.length) (b := false) (by simp only [runF, Int.cast_ofNat_Int, blsD, List.all, id, startE, fill, cellsOf, endF, ioOf, eSs_nil, eSs_cons, eS_ret, eS_exp, eS_set, eS_setP, eS_put, eS_app, eS_ife, eS_pass, eS_brk, eS_cnt, evT, eE_cst, eE_var, eE_bin, eE_not, eE_cmp, eE_cmp2, eE_and, eE_or, eE_ite, eE_tup, eE_lst, eE_idx, eE_slc, eE_rev, eE_nil, eE_call, eE_calli, eE_bi, eE_me, eE_lrg1, eE_isi, pk, evEs, evPs, evRs, rdE, rdP, rdL, get, put, sto, stoL, bind_ok, M.bind, callN, callIo, retE, fin, finS, finB, biD, bLen, lenD, ofO, truth, partI, slcV, revV, idxV, isNew, List.replicate, cmpD, ltD, isD, binD, Option.map, if_true, if_false, Bool.false_eq_true, Bool.true_eq_false, decide_true, decide_false, List.length_cons, List.length_nil, List.append_nil, List.cons_append, List.nil_append, List.drop_nil, chg, putV, appV, tst, Bool.not_true, Bool.not_false, beq_self_eq_true, bnd, bindP, bindL, plain_s, plain_i, plain_n, plain_b, eqD_s, eqD_i, eqD_b, bAbs, bInt, bMax, bMin, bAll, bAny, Bool.and_true, Bool.true_and, Bool.and_false, Bool.false_and, Nat.sub_self, Nat.zero_add, Nat.reduceAdd, Nat.reduceSub, Nat.reduceBEq]) (by omega)) L2
  have hF2' : evS (clOf T (d + 7)) (.fors (.nm 6) (.rng1 (.var 1)) [(.set 7 (.var 6)), (.whl (.and (.cmp .lt (.var 7) (.var 1)) (.cmp .eq (.idx (.var 0) (.var 7)) (.idx (.var 0) (.bin .sub (.var 7) (.var 6))))) [(.set 7 (.bin .add (.var 7) (.cst (.int 1))))]), (.app 3 (.bin .sub (.var 7) (.var 6)))]) [some (.shr, .str w), some (.shr, .int w.length), some (.own, .lst (natL row)), some (.own, .lst []), t4, none, none, none] = _ := hF2
  obtain ⟨row', hrow, g1⟩ := d46_ok hT hR (d + 3) hl hw hne
  obtain ⟨al', hzr, g2⟩ := d47_ok hT hR (d + 3) hl hw hne
  have e1 : row' = row := hrow.uniq ⟨hrl, hrm⟩
  have e2 : al' = al := hzr.uniq ⟨hal, haz⟩
  subst e1 e2
  have lk : lkOk 2 (.lst [.tup (natL row'), .tup (natL al')]) = true := by
    have k1 := lk_natT (n := 0) row' (by omega)
    have k2 := lk_natT (n := 0) al' (by omega)
    show (decide (2 ≤ 100000) && (lkOk 1 (.tup (natL row')) && (lkOk 1 (.tup (natL al')) && true))) = true
    rw [k1, k2]; rfl
  have g3 := like_self hT.h1003 hT.h1004 (d + 3) 2 lk
  have g4 := lper_ok hT (d + 6) (w := w) (by omega)
  have W2 : evE (clOf T (d + 7)) (.comp [6] (.nm 6) (.rng2 (.cst (.int 1)) (.var 1)) (.cmp .ne (.cmp .eq (.bin .add (.var 6) (.idx (.var 3) (.var 6))) (.var 1)) (.cmp .isin (.var 6) (.call 1006 [(.var 0)]))) (.var 6)) [some (.shr, .str w), some (.shr, .int w.length), some (.own, .lst (natL row')), some (.own, .lst (natL al')), t4, none, t6, t7] = .ok (true, .lst []) [some (.shr, .str w), some (.shr, .int w.length), some (.own, .lst (natL row')), some (.own, .lst (natL al')), t4, none, t6, t7] := by
    rw [comp_ok (ρ1 := [some (.shr, .str w), some (.shr, .int w.length), some (.own, .lst (natL row')), some (.own, .lst (natL al')), t4, none, t6, t7]) (ds := rngL (1 : Nat) (w.length : Nat) 1) (fun ρ => ∃ t, ρ = [some (.shr, .str w), some (.shr, .int w.length), some (.own, .lst (natL row')), some (.own, .lst (natL al')), t4, none, t, t7]) (fun _ => none)
      (rng2_it (a := 1) (b := w.length) (s := false) (t := false) (ρ1 := [some (.shr, .str w), some (.shr, .int w.length), some (.own, .lst (natL row')), some (.own, .lst (natL al')), t4, none, t6, t7]) (by simp only [runF, Int.cast_ofNat_Int, blsD, List.all, id, startE, fill, cellsOf, endF, ioOf, eSs_nil, eSs_cons, eS_ret, eS_exp, eS_set, eS_setP, eS_put, eS_app, eS_ife, eS_pass, eS_brk, eS_cnt, evT, eE_cst, eE_var, eE_bin, eE_not, eE_cmp, eE_cmp2, eE_and, eE_or, eE_ite, eE_tup, eE_lst, eE_idx, eE_slc, eE_rev, eE_nil, eE_call, eE_calli, eE_bi, eE_me, eE_lrg1, eE_isi, pk, evEs, evPs, evRs, rdE, rdP, rdL, get, put, sto, stoL, bind_ok, M.bind, callN, callIo, retE, fin, finS, finB, biD, bLen, lenD, ofO, truth, partI, slcV, revV, idxV, isNew, List.replicate, cmpD, ltD, isD, binD, Option.map, if_true, if_false, Bool.false_eq_true, Bool.true_eq_false, decide_true, decide_false, List.length_cons, List.length_nil, List.append_nil, List.cons_append, List.nil_append, List.drop_nil, chg, putV, appV, tst, Bool.not_true, Bool.not_false, beq_self_eq_true, bnd, bindP, bindL, plain_s, plain_i, plain_n, plain_b, eqD_s, eqD_i, eqD_b, bAbs, bInt, bMax, bMin, bAll, bAny, Bool.and_true, Bool.true_and, Bool.and_false, Bool.false_and, Nat.sub_self, Nat.zero_add, Nat.reduceAdd, Nat.reduceSub, Nat.reduceBEq]) (by simp only [runF, Int.cast_ofNat_Int, blsD, List.all, id, startE, fill, cellsOf, endF, ioOf, eSs_nil, eSs_cons, eS_ret, eS_exp, eS_set, eS_setP, eS_put, eS_app, eS_ife, eS_pass, eS_brk, eS_cnt, evT, eE_cst, eE_var, eE_bin, eE_not, eE_cmp, eE_cmp2, eE_and, eE_or, eE_ite, eE_tup, eE_lst, eE_idx, eE_slc, eE_rev, eE_nil, eE_call, eE_calli, eE_bi, eE_me, eE_lrg1, eE_isi, pk, evEs, evPs, evRs, rdE, rdP, rdL, get, put, sto, stoL, bind_ok, M.bind, callN, callIo, retE, fin, finS, finB, biD, bLen, lenD, ofO, truth, partI, slcV, revV, idxV, isNew, List.replicate, cmpD, ltD, isD, binD, Option.map, if_true, if_false, Bool.false_eq_true, Bool.true_eq_false, decide_true, decide_false, List.length_cons, List.length_nil, List.append_nil, List.cons_append, List.nil_append, List.drop_nil, chg, putV, appV, tst, Bool.not_true, Bool.not_false, beq_self_eq_true, bnd, bindP, bindL, plain_s, plain_i, plain_n, plain_b, eqD_s, eqD_i, eqD_b, bAbs, bInt, bMax, bMin, bAll, bAny, Bool.and_true, Bool.true_and, Bool.and_false, Bool.false_and, Nat.sub_self, Nat.zero_add, Nat.reduceAdd, Nat.reduceSub, Nat.reduceBEq]) (by omega) (by omega)) ⟨_, rfl⟩ (by
        rintro x hx ρ ⟨t, rfl⟩
        rw [rngL_map2] at hx
        obtain ⟨p, hp, rfl⟩ := List.mem_map.mp hx
        have hp := List.mem_range'_1.mp hp
        have aL := natL_at (l := al') (k := p) (by omega)
        have s3 : (p : Int) + ((al'[p]! : Nat) : Int) = ((p + al'[p]! : Nat) : Int) := by omega
        have hzp := z_per (haz p (by omega))
        have mem : inD (.int p) (.tup (natL (perL w))) = some ((p + al'[p]! == w.length)) := by
          have h1 : inD (.int p) (.tup (natL (perL w))) = if plain (.int p) && plainL (natL (perL w)) then some (memD (.int p) (natL (perL w))) else none := rfl
          rw [h1, plainL_nat, memD_nat]
          show some ((perL w).any fun x => x == p) = _
          congr 1
          cases a : (p + al'[p]! == w.length) with
          | true =>
            rw [List.any_eq_true]
            have := hzp.mp (beq_iff_eq.mp a)
            exact ⟨p, mem_perL.mpr ⟨by omega, this.1, this.2⟩, beq_self_eq_true _⟩
          | false =>
            rw [List.any_eq_false]
            intro y hy
            rw [beq_iff_eq]
            intro e
            rw [e] at hy
            have := mem_perL.mp hy
            have := hzp.mpr ⟨this.2.1, this.2.2⟩
            rw [beq_eq_false_iff_ne] at a
            exact a this
        refine ⟨_, ?_, some (.shr, .int p), rfl⟩
        cases q : (p + al'[p]! == w.length) with
        | true =>
          rw [q] at mem
          simp only [runF, Int.cast_ofNat_Int, blsD, List.all, id, startE, fill, cellsOf, endF, ioOf, eSs_nil, eSs_cons, eS_ret, eS_exp, eS_set, eS_setP, eS_put, eS_app, eS_ife, eS_pass, eS_brk, eS_cnt, evT, eE_cst, eE_var, eE_bin, eE_not, eE_cmp, eE_cmp2, eE_and, eE_or, eE_ite, eE_tup, eE_lst, eE_idx, eE_slc, eE_rev, eE_nil, eE_call, eE_calli, eE_bi, eE_me, eE_lrg1, eE_isi, pk, evEs, evPs, evRs, rdE, rdP, rdL, get, put, sto, stoL, bind_ok, M.bind, callN, callIo, retE, fin, finS, finB, biD, bLen, lenD, ofO, truth, partI, slcV, revV, idxV, isNew, List.replicate, cmpD, ltD, isD, binD, Option.map, if_true, if_false, Bool.false_eq_true, Bool.true_eq_false, decide_true, decide_false, List.length_cons, List.length_nil, List.append_nil, List.cons_append, List.nil_append, List.drop_nil, chg, putV, appV, tst, Bool.not_true, Bool.not_false, beq_self_eq_true, bnd, bindP, bindL, plain_s, plain_i, plain_n, plain_b, eqD_s, eqD_i, eqD_b, bAbs, bInt, bMax, bMin, bAll, bAny, Bool.and_true, Bool.true_and, Bool.and_false, Bool.false_and, Nat.sub_self, Nat.zero_add, Nat.reduceAdd, Nat.reduceSub, Nat.reduceBEq, clr, aL, s3, castbeq, q, g4, mem]
        | false =>
          rw [q] at mem
          simp only [runF, Int.cast_ofNat_Int, blsD, List.all, id, startE, fill, cellsOf, endF, ioOf, eSs_nil, eSs_cons, eS_ret, eS_exp, eS_set, eS_setP, eS_put, eS_app, eS_ife, eS_pass, eS_brk, eS_cnt, evT, eE_cst, eE_var, eE_bin, eE_not, eE_cmp, eE_cmp2, eE_and, eE_or, eE_ite, eE_tup, eE_lst, eE_idx, eE_slc, eE_rev, eE_nil, eE_call, eE_calli, eE_bi, eE_me, eE_lrg1, eE_isi, pk, evEs, evPs, evRs, rdE, rdP, rdL, get, put, sto, stoL, bind_ok, M.bind, callN, callIo, retE, fin, finS, finB, biD, bLen, lenD, ofO, truth, partI, slcV, revV, idxV, isNew, List.replicate, cmpD, ltD, isD, binD, Option.map, if_true, if_false, Bool.false_eq_true, Bool.true_eq_false, decide_true, decide_false, List.length_cons, List.length_nil, List.append_nil, List.cons_append, List.nil_append, List.drop_nil, chg, putV, appV, tst, Bool.not_true, Bool.not_false, beq_self_eq_true, bnd, bindP, bindL, plain_s, plain_i, plain_n, plain_b, eqD_s, eqD_i, eqD_b, bAbs, bInt, bMax, bMin, bAll, bAny, Bool.and_true, Bool.true_and, Bool.and_false, Bool.false_and, Nat.sub_self, Nat.zero_add, Nat.reduceAdd, Nat.reduceSub, Nat.reduceBEq, clr, aL, s3, castbeq, q, g4, mem]) (by rintro ρ ⟨t, rfl⟩; rfl) (by rcases ht6 with rfl | ⟨x, rfl⟩ <;> rfl) (lenOk_of (by rw [rngL_map2, List.length_map, List.length_range']; omega))]
    rw [fm_none]
  simp only [runF, Int.cast_ofNat_Int, blsD, List.all, id, startE, fill, cellsOf, endF, ioOf, eSs_nil, eSs_cons, eS_ret, eS_exp, eS_set, eS_setP, eS_put, eS_app, eS_ife, eS_pass, eS_brk, eS_cnt, evT, eE_cst, eE_var, eE_bin, eE_not, eE_cmp, eE_cmp2, eE_and, eE_or, eE_ite, eE_tup, eE_lst, eE_idx, eE_slc, eE_rev, eE_nil, eE_call, eE_calli, eE_bi, eE_me, eE_lrg1, eE_isi, pk, evEs, evPs, evRs, rdE, rdP, rdL, get, put, sto, stoL, bind_ok, M.bind, callN, callIo, retE, fin, finS, finB, biD, bLen, lenD, ofO, truth, partI, slcV, revV, idxV, isNew, List.replicate, cmpD, ltD, isD, binD, Option.map, if_true, if_false, Bool.false_eq_true, Bool.true_eq_false, decide_true, decide_false, List.length_cons, List.length_nil, List.append_nil, List.cons_append, List.nil_append, List.drop_nil, chg, putV, appV, tst, Bool.not_true, Bool.not_false, beq_self_eq_true, bnd, bindP, bindL, plain_s, plain_i, plain_n, plain_b, eqD_s, eqD_i, eqD_b, bAbs, bInt, bMax, bMin, bAll, bAny, Bool.and_true, Bool.true_and, Bool.and_false, Bool.false_and, Nat.sub_self, Nat.zero_add, Nat.reduceAdd, Nat.reduceSub, Nat.reduceBEq, f1009, hF1', hF2', bTuple, g1, g2, g3, W2, plain_ln, eqD_ln]
end
end Py

/-! k03: a drawn word, whole. -/
namespace Py
section
variable {T : Tb} (hT : Has T) (hR : HasS T)
include hT hR
omit hR in
theorem c5_ok (d : Nat) {w : List Nat} (hl : w.length ≤ 200) {c : D} : evE (clOf T d) (.comp [5] (.nm 5) (.rev (.var 3)) .yes (.bin .sub (.var 2) (.var 5))) [some (.io, c), some (.shr, .str w), some (.shr, .int w.length), some (.shr, .tup (natL (perL w))), none, none, none, none, none, none, none, none, none, none] = .ok (true, .lst (natL (bordL w))) [some (.io, c), some (.shr, .str w), some (.shr, .int w.length), some (.shr, .tup (natL (perL w))), none, none, none, none, none, none, none, none, none, none] := by
  have r1 : (natL (perL w)).reverse = natL (perL w).reverse := by unfold natL; rw [List.map_reverse]
  have pl := per_len w
  rw [comp_ok (ρ1 := [some (.io, c), some (.shr, .str w), some (.shr, .int w.length), some (.shr, .tup (natL (perL w))), none, none, none, none, none, none, none, none, none, none]) (ds := natL (perL w).reverse) (fun ρ => ∃ t, ρ = [some (.io, c), some (.shr, .str w), some (.shr, .int w.length), some (.shr, .tup (natL (perL w))), none, t, none, none, none, none, none, none, none, none]) (numF fun j => .int (w.length - j : Nat))
    (by simp only [runF, Int.cast_ofNat_Int, blsD, List.all, id, startE, fill, cellsOf, endF, ioOf, eSs_nil, eSs_cons, eS_ret, eS_exp, eS_set, eS_setP, eS_put, eS_app, eS_ife, eS_pass, eS_brk, eS_cnt, evT, eE_cst, eE_var, eE_bin, eE_not, eE_cmp, eE_cmp2, eE_and, eE_or, eE_ite, eE_tup, eE_lst, eE_idx, eE_slc, eE_rev, eE_nil, eE_call, eE_calli, eE_bi, eE_me, eE_lrg1, eE_isi, pk, evEs, evPs, evRs, rdE, rdP, rdL, get, put, sto, stoL, bind_ok, M.bind, callN, callIo, retE, fin, finS, finB, biD, bLen, lenD, ofO, truth, partI, slcV, revV, idxV, isNew, List.replicate, cmpD, ltD, isD, binD, Option.map, if_true, if_false, Bool.false_eq_true, Bool.true_eq_false, decide_true, decide_false, List.length_cons, List.length_nil, List.append_nil, List.cons_append, List.nil_append, List.drop_nil, chg, putV, appV, tst, Bool.not_true, Bool.not_false, beq_self_eq_true, bnd, bindP, bindL, plain_s, plain_i, plain_n, plain_b, eqD_s, eqD_i, eqD_b, bAbs, bInt, bMax, bMin, bAll, bAny, Bool.and_true, Bool.true_and, Bool.and_false, Bool.false_and, Nat.sub_self, Nat.zero_add, Nat.reduceAdd, Nat.reduceSub, Nat.reduceBEq, r1, itI]) ⟨_, rfl⟩ (by
      rintro x hx ρ ⟨t, rfl⟩
      obtain ⟨j, hj, rfl⟩ := List.mem_map.mp hx
      have hj := (mem_perL.mp (List.mem_reverse.mp hj)).2.1
      have s1 : (w.length : Int) - (j : Int) = ((w.length - j : Nat) : Int) := by omega
      refine ⟨_, ?_, some (.shr, .int j), rfl⟩
      simp only [runF, Int.cast_ofNat_Int, blsD, List.all, id, startE, fill, cellsOf, endF, ioOf, eSs_nil, eSs_cons, eS_ret, eS_exp, eS_set, eS_setP, eS_put, eS_app, eS_ife, eS_pass, eS_brk, eS_cnt, evT, eE_cst, eE_var, eE_bin, eE_not, eE_cmp, eE_cmp2, eE_and, eE_or, eE_ite, eE_tup, eE_lst, eE_idx, eE_slc, eE_rev, eE_nil, eE_call, eE_calli, eE_bi, eE_me, eE_lrg1, eE_isi, pk, evEs, evPs, evRs, rdE, rdP, rdL, get, put, sto, stoL, bind_ok, M.bind, callN, callIo, retE, fin, finS, finB, biD, bLen, lenD, ofO, truth, partI, slcV, revV, idxV, isNew, List.replicate, cmpD, ltD, isD, binD, Option.map, if_true, if_false, Bool.false_eq_true, Bool.true_eq_false, decide_true, decide_false, List.length_cons, List.length_nil, List.append_nil, List.cons_append, List.nil_append, List.drop_nil, chg, putV, appV, tst, Bool.not_true, Bool.not_false, beq_self_eq_true, bnd, bindP, bindL, plain_s, plain_i, plain_n, plain_b, eqD_s, eqD_i, eqD_b, bAbs, bInt, bMax, bMin, bAll, bAny, Bool.and_true, Bool.true_and, Bool.and_false, Bool.false_and, Nat.sub_self, Nat.zero_add, Nat.reduceAdd, Nat.reduceSub, Nat.reduceBEq, clr, numF, s1, Int.toNat_natCast]) (by rintro ρ ⟨t, rfl⟩; rfl) rfl (lenOk_of (by rw [natL_len, List.length_reverse]; omega))]
  rw [← bord_per]
  unfold natL
  rw [fm_some (fun (j : Nat) => D.int (w.length - j : Nat)) (perL w).reverse (fun (k : Nat) => D.int k) _ (fun x _ => rfl), List.map_map]
  rfl
theorem c7_ok (d : Nat) {w : List Nat} (hl : w.length ≤ 200) (hw : LetOk 8 w) {c : D} {t6 : Cell} : evE (clOf T (d + 5)) (.comp [7] (.nm 7) (.var 4) (.or (.cmp .isnot (.call 34 [(.var 1), (.slc (.var 1) .nil (.var 7))]) (.cst (.bl true))) (.cmp .isnot (.call 35 [(.var 1), (.slc (.var 1) .nil (.var 7))]) (.cst (.bl true)))) (.var 7)) [some (.io, c), some (.shr, .str w), some (.shr, .int w.length), some (.shr, .tup (natL (perL w))), some (.shr, .tup (natL (bordL w))), none, t6, none, none, none, none, none, none, none] = .ok (true, .lst []) [some (.io, c), some (.shr, .str w), some (.shr, .int w.length), some (.shr, .tup (natL (perL w))), some (.shr, .tup (natL (bordL w))), none, t6, none, none, none, none, none, none, none] := by
  have bl := bord_len w
  rw [comp_ok (ρ1 := [some (.io, c), some (.shr, .str w), some (.shr, .int w.length), some (.shr, .tup (natL (perL w))), some (.shr, .tup (natL (bordL w))), none, t6, none, none, none, none, none, none, none]) (ds := natL (bordL w)) (fun ρ => ∃ t, ρ = [some (.io, c), some (.shr, .str w), some (.shr, .int w.length), some (.shr, .tup (natL (perL w))), some (.shr, .tup (natL (bordL w))), none, t6, t, none, none, none, none, none, none]) (fun _ => none)
    (by simp only [runF, Int.cast_ofNat_Int, blsD, List.all, id, startE, fill, cellsOf, endF, ioOf, eSs_nil, eSs_cons, eS_ret, eS_exp, eS_set, eS_setP, eS_put, eS_app, eS_ife, eS_pass, eS_brk, eS_cnt, evT, eE_cst, eE_var, eE_bin, eE_not, eE_cmp, eE_cmp2, eE_and, eE_or, eE_ite, eE_tup, eE_lst, eE_idx, eE_slc, eE_rev, eE_nil, eE_call, eE_calli, eE_bi, eE_me, eE_lrg1, eE_isi, pk, evEs, evPs, evRs, rdE, rdP, rdL, get, put, sto, stoL, bind_ok, M.bind, callN, callIo, retE, fin, finS, finB, biD, bLen, lenD, ofO, truth, partI, slcV, revV, idxV, isNew, List.replicate, cmpD, ltD, isD, binD, Option.map, if_true, if_false, Bool.false_eq_true, Bool.true_eq_false, decide_true, decide_false, List.length_cons, List.length_nil, List.append_nil, List.cons_append, List.nil_append, List.drop_nil, chg, putV, appV, tst, Bool.not_true, Bool.not_false, beq_self_eq_true, bnd, bindP, bindL, plain_s, plain_i, plain_n, plain_b, eqD_s, eqD_i, eqD_b, bAbs, bInt, bMax, bMin, bAll, bAny, Bool.and_true, Bool.true_and, Bool.and_false, Bool.false_and, Nat.sub_self, Nat.zero_add, Nat.reduceAdd, Nat.reduceSub, Nat.reduceBEq, itI]) ⟨_, rfl⟩ (by
      rintro x hx ρ ⟨t, rfl⟩
      obtain ⟨j, hj, rfl⟩ := List.mem_map.mp hx
      have hj2 := (List.mem_filter.mp hj).2
      have hj := List.mem_range.mp (List.mem_filter.mp hj).1
      have e1 := begin_ok hT hR d hl hw (j := j) (by omega)
      have e2 := end_ok hT hR d hl hw hj hj2
      have c1 : cut w none (some (j : Int)) = w.take j := cut_toN
      refine ⟨_, ?_, some (.shr, .int j), rfl⟩
      simp only [runF, Int.cast_ofNat_Int, blsD, List.all, id, startE, fill, cellsOf, endF, ioOf, eSs_nil, eSs_cons, eS_ret, eS_exp, eS_set, eS_setP, eS_put, eS_app, eS_ife, eS_pass, eS_brk, eS_cnt, evT, eE_cst, eE_var, eE_bin, eE_not, eE_cmp, eE_cmp2, eE_and, eE_or, eE_ite, eE_tup, eE_lst, eE_idx, eE_slc, eE_rev, eE_nil, eE_call, eE_calli, eE_bi, eE_me, eE_lrg1, eE_isi, pk, evEs, evPs, evRs, rdE, rdP, rdL, get, put, sto, stoL, bind_ok, M.bind, callN, callIo, retE, fin, finS, finB, biD, bLen, lenD, ofO, truth, partI, slcV, revV, idxV, isNew, List.replicate, cmpD, ltD, isD, binD, Option.map, if_true, if_false, Bool.false_eq_true, Bool.true_eq_false, decide_true, decide_false, List.length_cons, List.length_nil, List.append_nil, List.cons_append, List.nil_append, List.drop_nil, chg, putV, appV, tst, Bool.not_true, Bool.not_false, beq_self_eq_true, bnd, bindP, bindL, plain_s, plain_i, plain_n, plain_b, eqD_s, eqD_i, eqD_b, bAbs, bInt, bMax, bMin, bAll, bAny, Bool.and_true, Bool.true_and, Bool.and_false, Bool.false_and, Nat.sub_self, Nat.zero_add, Nat.reduceAdd, Nat.reduceSub, Nat.reduceBEq, clr, c1, e1, e2]) (by rintro ρ ⟨t, rfl⟩; rfl) rfl (lenOk_of (by rw [natL_len]; omega)), fm_none]
omit hR in
theorem c10_ok (d : Nat) {w : List Nat} {k : Nat} (hl : w.length ≤ 200) (hk : k ≤ w.length) {c1 : D} {t6 : Cell} : evE (clOf T d) (.comp [10] (.nm 10) (.rng1 (.bin .sub (.var 2) (.var 8))) (.cmp .ne (.idx (.var 1) (.var 10)) (.idx (.var 1) (.bin .add (.var 10) (.var 8)))) (.var 10)) [some (.io, c1), some (.shr, .str w), some (.shr, .int w.length), some (.shr, .tup (natL (perL w))), some (.shr, .tup (natL (bordL w))), none, t6, none, some (.shr, .int (k : Nat)), none, none, none, none, none] = .ok (true, .lst (natL (unl w k))) [some (.io, c1), some (.shr, .str w), some (.shr, .int w.length), some (.shr, .tup (natL (perL w))), some (.shr, .tup (natL (bordL w))), none, t6, none, some (.shr, .int (k : Nat)), none, none, none, none, none] := by
  have s0 : (w.length : Int) - (k : Int) = ((w.length - k : Nat) : Int) := by omega
  rw [comp_ok (ρ1 := [some (.io, c1), some (.shr, .str w), some (.shr, .int w.length), some (.shr, .tup (natL (perL w))), some (.shr, .tup (natL (bordL w))), none, t6, none, some (.shr, .int (k : Nat)), none, none, none, none, none]) (ds := rngL 0 (w.length - k : Nat) 1) (fun ρ => ∃ t, ρ = [some (.io, c1), some (.shr, .str w), some (.shr, .int w.length), some (.shr, .tup (natL (perL w))), some (.shr, .tup (natL (bordL w))), none, t6, none, some (.shr, .int (k : Nat)), none, t, none, none, none]) (numG (fun i => w[i]! != w[i + k]!) fun i => .int i)
    (rng_it (n := w.length - k) (b := false) (by simp only [runF, Int.cast_ofNat_Int, blsD, List.all, id, startE, fill, cellsOf, endF, ioOf, eSs_nil, eSs_cons, eS_ret, eS_exp, eS_set, eS_setP, eS_put, eS_app, eS_ife, eS_pass, eS_brk, eS_cnt, evT, eE_cst, eE_var, eE_bin, eE_not, eE_cmp, eE_cmp2, eE_and, eE_or, eE_ite, eE_tup, eE_lst, eE_idx, eE_slc, eE_rev, eE_nil, eE_call, eE_calli, eE_bi, eE_me, eE_lrg1, eE_isi, pk, evEs, evPs, evRs, rdE, rdP, rdL, get, put, sto, stoL, bind_ok, M.bind, callN, callIo, retE, fin, finS, finB, biD, bLen, lenD, ofO, truth, partI, slcV, revV, idxV, isNew, List.replicate, cmpD, ltD, isD, binD, Option.map, if_true, if_false, Bool.false_eq_true, Bool.true_eq_false, decide_true, decide_false, List.length_cons, List.length_nil, List.append_nil, List.cons_append, List.nil_append, List.drop_nil, chg, putV, appV, tst, Bool.not_true, Bool.not_false, beq_self_eq_true, bnd, bindP, bindL, plain_s, plain_i, plain_n, plain_b, eqD_s, eqD_i, eqD_b, bAbs, bInt, bMax, bMin, bAll, bAny, Bool.and_true, Bool.true_and, Bool.and_false, Bool.false_and, Nat.sub_self, Nat.zero_add, Nat.reduceAdd, Nat.reduceSub, Nat.reduceBEq, s0]) (by omega)) ⟨_, rfl⟩ (by
      rintro x hx ρ ⟨t, rfl⟩
      rw [rngL_map] at hx
      obtain ⟨i, hi, rfl⟩ := List.mem_map.mp hx
      have hi := List.mem_range.mp hi
      have a1 := atD_nat (l := w) (k := i) (by omega)
      have a2 := atD_nat (l := w) (k := i + k) (by omega)
      have s1 : (i : Int) + (k : Int) = ((i + k : Nat) : Int) := rfl
      refine ⟨_, ?_, some (.shr, .int i), rfl⟩
      by_cases q : w[i]! = w[i + k]!
      · have q1 : (w[i]! == w[i + k]!) = true := by rw [q]; exact beq_self_eq_true _
        have q2 : (w[i]! != w[i + k]!) = false := by simp only [bne, q1]; rfl
        simp only [runF, Int.cast_ofNat_Int, blsD, List.all, id, startE, fill, cellsOf, endF, ioOf, eSs_nil, eSs_cons, eS_ret, eS_exp, eS_set, eS_setP, eS_put, eS_app, eS_ife, eS_pass, eS_brk, eS_cnt, evT, eE_cst, eE_var, eE_bin, eE_not, eE_cmp, eE_cmp2, eE_and, eE_or, eE_ite, eE_tup, eE_lst, eE_idx, eE_slc, eE_rev, eE_nil, eE_call, eE_calli, eE_bi, eE_me, eE_lrg1, eE_isi, pk, evEs, evPs, evRs, rdE, rdP, rdL, get, put, sto, stoL, bind_ok, M.bind, callN, callIo, retE, fin, finS, finB, biD, bLen, lenD, ofO, truth, partI, slcV, revV, idxV, isNew, List.replicate, cmpD, ltD, isD, binD, Option.map, if_true, if_false, Bool.false_eq_true, Bool.true_eq_false, decide_true, decide_false, List.length_cons, List.length_nil, List.append_nil, List.cons_append, List.nil_append, List.drop_nil, chg, putV, appV, tst, Bool.not_true, Bool.not_false, beq_self_eq_true, bnd, bindP, bindL, plain_s, plain_i, plain_n, plain_b, eqD_s, eqD_i, eqD_b, bAbs, bInt, bMax, bMin, bAll, bAny, Bool.and_true, Bool.true_and, Bool.and_false, Bool.false_and, Nat.sub_self, Nat.zero_add, Nat.reduceAdd, Nat.reduceSub, Nat.reduceBEq, clr, numG, s1, a1, a2, beq1, q1, q2, Int.toNat_natCast]
      · have q1 : (w[i]! == w[i + k]!) = false := beq_eq_false_iff_ne.mpr q
        have q2 : (w[i]! != w[i + k]!) = true := by simp only [bne, q1]; rfl
        simp only [runF, Int.cast_ofNat_Int, blsD, List.all, id, startE, fill, cellsOf, endF, ioOf, eSs_nil, eSs_cons, eS_ret, eS_exp, eS_set, eS_setP, eS_put, eS_app, eS_ife, eS_pass, eS_brk, eS_cnt, evT, eE_cst, eE_var, eE_bin, eE_not, eE_cmp, eE_cmp2, eE_and, eE_or, eE_ite, eE_tup, eE_lst, eE_idx, eE_slc, eE_rev, eE_nil, eE_call, eE_calli, eE_bi, eE_me, eE_lrg1, eE_isi, pk, evEs, evPs, evRs, rdE, rdP, rdL, get, put, sto, stoL, bind_ok, M.bind, callN, callIo, retE, fin, finS, finB, biD, bLen, lenD, ofO, truth, partI, slcV, revV, idxV, isNew, List.replicate, cmpD, ltD, isD, binD, Option.map, if_true, if_false, Bool.false_eq_true, Bool.true_eq_false, decide_true, decide_false, List.length_cons, List.length_nil, List.append_nil, List.cons_append, List.nil_append, List.drop_nil, chg, putV, appV, tst, Bool.not_true, Bool.not_false, beq_self_eq_true, bnd, bindP, bindL, plain_s, plain_i, plain_n, plain_b, eqD_s, eqD_i, eqD_b, bAbs, bInt, bMax, bMin, bAll, bAny, Bool.and_true, Bool.true_and, Bool.and_false, Bool.false_and, Nat.sub_self, Nat.zero_add, Nat.reduceAdd, Nat.reduceSub, Nat.reduceBEq, clr, numG, s1, a1, a2, beq1, q1, q2, Int.toNat_natCast]) (by rintro ρ ⟨t, rfl⟩; rfl) rfl (lenOk_of (by rw [rngL_len, Int.toNat_natCast]; omega))]
  rw [rngL_map, fm_filter (fun (k : Nat) => D.int k) (fun i => w[i]! != w[i + k]!) (List.range (w.length - k)) (fun (k : Nat) => D.int k) _ (fun x _ => rfl)]
  rfl
theorem inner_ok (d : Nat) {w : List Nat} {k x : Nat} (hl : w.length ≤ 200) (hx : x ∈ perL w) {c1 : D} {t6 : Cell} : ∀ (l : List Nat), (∀ y, y ∈ l → y ∈ perL w) → ∀ t12 t13 : Cell, ∃ t12' t13', forL (fun x ρ => (bnd (.nm 12) x ρ).bind fun _ ρ => evSs (clOf T (d + 1)) [(.set 13 (.call 1007 [(.var 11), (.var 12)])), (.ife (.and (.cmp .le (.bin .sub (.bin .add (.var 11) (.var 12)) (.var 13)) (.var 2)) (.cmp .notin (.var 13) (.var 3))) [(.ret (.cst (.bl false)))] [])] ρ) (natL l) [some (.io, c1), some (.shr, .str w), some (.shr, .int w.length), some (.shr, .tup (natL (perL w))), some (.shr, .tup (natL (bordL w))), none, t6, none, some (.shr, .int (k : Nat)), some (.own, .lst (natL (unl w k))), none, some (.shr, .int (x : Nat)), t12, t13] = .ok .nx [some (.io, c1), some (.shr, .str w), some (.shr, .int w.length), some (.shr, .tup (natL (perL w))), some (.shr, .tup (natL (bordL w))), none, t6, none, some (.shr, .int (k : Nat)), some (.own, .lst (natL (unl w k))), none, some (.shr, .int (x : Nat)), t12', t13']
  | [], _, t12, t13 => ⟨t12, t13, rfl⟩
  | y :: l, h, t12, t13 => by
    obtain ⟨t12', t13', e⟩ := inner_ok d hl hx l (fun z hz => h z (List.mem_cons_of_mem _ hz)) (some (.shr, .int (y : Nat))) (some (.shr, .int (Nat.gcd x y : Nat)))
    refine ⟨t12', t13', (forL_nx (ρ1 := [some (.io, c1), some (.shr, .str w), some (.shr, .int w.length), some (.shr, .tup (natL (perL w))), some (.shr, .tup (natL (bordL w))), none, t6, none, some (.shr, .int (k : Nat)), some (.own, .lst (natL (unl w k))), none, some (.shr, .int (x : Nat)), some (.shr, .int (y : Nat)), some (.shr, .int (Nat.gcd x y : Nat))]) ?_).trans e⟩
    have hy := mem_perL.mp (h y List.mem_cons_self)
    have hx' := mem_perL.mp hx
    have g := gcd_ok hT hR d (a := x) (b := y) (by omega) (by omega)
    have hgx : Nat.gcd x y ≤ x := Nat.le_of_dvd hx'.1 (Nat.gcd_dvd_left _ _)
    have hg0 : 0 < Nat.gcd x y := Nat.gcd_pos_of_pos_left _ hx'.1
    by_cases q : x + y ≤ w.length + Nat.gcd x y
    · have hp := fw _ x y w.length rfl hx'.1 hy.1 q hx'.2.2 hy.2.2
      have hm : Nat.gcd x y ∈ perL w := mem_perL.mpr ⟨hg0, by omega, hp⟩
      have mem : inD (.int (Nat.gcd x y : Nat)) (.tup (natL (perL w))) = some true := by
        have h1 : inD (.int (Nat.gcd x y : Nat)) (.tup (natL (perL w))) = if plain (.int (Nat.gcd x y : Nat)) && plainL (natL (perL w)) then some (memD (.int (Nat.gcd x y : Nat)) (natL (perL w))) else none := rfl
        rw [h1, plainL_nat, memD_nat]
        show some ((perL w).any fun z => z == Nat.gcd x y) = _
        congr 1
        rw [List.any_eq_true]
        exact ⟨_, hm, beq_self_eq_true _⟩
      have q' : ¬ ((w.length : Int) < (x : Int) + (y : Int) - ((Nat.gcd x y : Nat) : Int)) := by omega
      simp only [runF, Int.cast_ofNat_Int, blsD, List.all, id, startE, fill, cellsOf, endF, ioOf, eSs_nil, eSs_cons, eS_ret, eS_exp, eS_set, eS_setP, eS_put, eS_app, eS_ife, eS_pass, eS_brk, eS_cnt, evT, eE_cst, eE_var, eE_bin, eE_not, eE_cmp, eE_cmp2, eE_and, eE_or, eE_ite, eE_tup, eE_lst, eE_idx, eE_slc, eE_rev, eE_nil, eE_call, eE_calli, eE_bi, eE_me, eE_lrg1, eE_isi, pk, evEs, evPs, evRs, rdE, rdP, rdL, get, put, sto, stoL, bind_ok, M.bind, callN, callIo, retE, fin, finS, finB, biD, bLen, lenD, ofO, truth, partI, slcV, revV, idxV, isNew, List.replicate, cmpD, ltD, isD, binD, Option.map, if_true, if_false, Bool.false_eq_true, Bool.true_eq_false, decide_true, decide_false, List.length_cons, List.length_nil, List.append_nil, List.cons_append, List.nil_append, List.drop_nil, chg, putV, appV, tst, Bool.not_true, Bool.not_false, beq_self_eq_true, bnd, bindP, bindL, plain_s, plain_i, plain_n, plain_b, eqD_s, eqD_i, eqD_b, bAbs, bInt, bMax, bMin, bAll, bAny, Bool.and_true, Bool.true_and, Bool.and_false, Bool.false_and, Nat.sub_self, Nat.zero_add, Nat.reduceAdd, Nat.reduceSub, Nat.reduceBEq, g, q', mem]
    · have q' : ((w.length : Int) < (x : Int) + (y : Int) - ((Nat.gcd x y : Nat) : Int)) := by omega
      simp only [runF, Int.cast_ofNat_Int, blsD, List.all, id, startE, fill, cellsOf, endF, ioOf, eSs_nil, eSs_cons, eS_ret, eS_exp, eS_set, eS_setP, eS_put, eS_app, eS_ife, eS_pass, eS_brk, eS_cnt, evT, eE_cst, eE_var, eE_bin, eE_not, eE_cmp, eE_cmp2, eE_and, eE_or, eE_ite, eE_tup, eE_lst, eE_idx, eE_slc, eE_rev, eE_nil, eE_call, eE_calli, eE_bi, eE_me, eE_lrg1, eE_isi, pk, evEs, evPs, evRs, rdE, rdP, rdL, get, put, sto, stoL, bind_ok, M.bind, callN, callIo, retE, fin, finS, finB, biD, bLen, lenD, ofO, truth, partI, slcV, revV, idxV, isNew, List.replicate, cmpD, ltD, isD, binD, Option.map, if_true, if_false, Bool.false_eq_true, Bool.true_eq_false, decide_true, decide_false, List.length_cons, List.length_nil, List.append_nil, List.cons_append, List.nil_append, List.drop_nil, chg, putV, appV, tst, Bool.not_true, Bool.not_false, beq_self_eq_true, bnd, bindP, bindL, plain_s, plain_i, plain_n, plain_b, eqD_s, eqD_i, eqD_b, bAbs, bInt, bMax, bMin, bAll, bAny, Bool.and_true, Bool.true_and, Bool.and_false, Bool.false_and, Nat.sub_self, Nat.zero_add, Nat.reduceAdd, Nat.reduceSub, Nat.reduceBEq, g, q']
theorem outer_ok (d : Nat) {w : List Nat} {k : Nat} (hl : w.length ≤ 200) {c1 : D} {t6 : Cell} : ∀ (l : List Nat), (∀ y, y ∈ l → y ∈ perL w) → ∀ t11 t12 t13 : Cell, ∃ t11' t12' t13', forL (fun x ρ => (bnd (.nm 11) x ρ).bind fun _ ρ => evSs (clOf T (d + 1)) [(.fors (.nm 12) (.slc (.var 3) .nil (.cst (.int 4))) [(.set 13 (.call 1007 [(.var 11), (.var 12)])), (.ife (.and (.cmp .le (.bin .sub (.bin .add (.var 11) (.var 12)) (.var 13)) (.var 2)) (.cmp .notin (.var 13) (.var 3))) [(.ret (.cst (.bl false)))] [])])] ρ) (natL l) [some (.io, c1), some (.shr, .str w), some (.shr, .int w.length), some (.shr, .tup (natL (perL w))), some (.shr, .tup (natL (bordL w))), none, t6, none, some (.shr, .int (k : Nat)), some (.own, .lst (natL (unl w k))), none, t11, t12, t13] = .ok .nx [some (.io, c1), some (.shr, .str w), some (.shr, .int w.length), some (.shr, .tup (natL (perL w))), some (.shr, .tup (natL (bordL w))), none, t6, none, some (.shr, .int (k : Nat)), some (.own, .lst (natL (unl w k))), none, t11', t12', t13']
  | [], _, t11, t12, t13 => ⟨t11, t12, t13, rfl⟩
  | x :: l, h, t11, t12, t13 => by
    have hx := h x List.mem_cons_self
    obtain ⟨u12, u13, e1⟩ := inner_ok hT hR d (w := w) (k := k) hl hx (c1 := c1) (t6 := t6) ((perL w).take 4) (fun z hz => List.mem_of_mem_take hz) t12 t13
    obtain ⟨t11', t12', t13', e⟩ := outer_ok d hl l (fun z hz => h z (List.mem_cons_of_mem _ hz)) (some (.shr, .int (x : Nat))) u12 u13
    refine ⟨t11', t12', t13', (forL_nx (ρ1 := [some (.io, c1), some (.shr, .str w), some (.shr, .int w.length), some (.shr, .tup (natL (perL w))), some (.shr, .tup (natL (bordL w))), none, t6, none, some (.shr, .int (k : Nat)), some (.own, .lst (natL (unl w k))), none, some (.shr, .int (x : Nat)), u12, u13]) ?_).trans e⟩
    have c4 : cut (natL (perL w)) none (some (4 : Int)) = natL ((perL w).take 4) := by
      have h1 : cut (natL (perL w)) none (some (4 : Int)) = (natL (perL w)).take 4 := cut_toN (e := 4)
      rw [h1]; unfold natL; rw [List.map_take]
    have hF := for_ok (C := clOf T (d + 1)) (p := (.nm 12)) (it := (.slc (.var 3) .nil (.cst (.int 4)))) (ρ := [some (.io, c1), some (.shr, .str w), some (.shr, .int w.length), some (.shr, .tup (natL (perL w))), some (.shr, .tup (natL (bordL w))), none, t6, none, some (.shr, .int (k : Nat)), some (.own, .lst (natL (unl w k))), none, some (.shr, .int (x : Nat)), t12, t13]) (ρ1 := [some (.io, c1), some (.shr, .str w), some (.shr, .int w.length), some (.shr, .tup (natL (perL w))), some (.shr, .tup (natL (bordL w))), none, t6, none, some (.shr, .int (k : Nat)), some (.own, .lst (natL (unl w k))), none, some (.shr, .int (x : Nat)), t12, t13]) (by simp only [runF, Int.cast_ofNat_Int, blsD, List.all, id, startE, fill, cellsOf, endF, ioOf, eSs_nil, eSs_cons, eS_ret, eS_exp, eS_set, eS_setP, eS_put, eS_app, eS_ife, eS_pass, eS_brk, eS_cnt, evT, eE_cst, eE_var, eE_bin, eE_not, eE_cmp, eE_cmp2, eE_and, eE_or, eE_ite, eE_tup, eE_lst, eE_idx, eE_slc, eE_rev, eE_nil, eE_call, eE_calli, eE_bi, eE_me, eE_lrg1, eE_isi, pk, evEs, evPs, evRs, rdE, rdP, rdL, get, put, sto, stoL, bind_ok, M.bind, callN, callIo, retE, fin, finS, finB, biD, bLen, lenD, ofO, truth, partI, slcV, revV, idxV, isNew, List.replicate, cmpD, ltD, isD, binD, Option.map, if_true, if_false, Bool.false_eq_true, Bool.true_eq_false, decide_true, decide_false, List.length_cons, List.length_nil, List.append_nil, List.cons_append, List.nil_append, List.drop_nil, chg, putV, appV, tst, Bool.not_true, Bool.not_false, beq_self_eq_true, bnd, bindP, bindL, plain_s, plain_i, plain_n, plain_b, eqD_s, eqD_i, eqD_b, bAbs, bInt, bMax, bMin, bAll, bAny, Bool.and_true, Bool.true_and, Bool.and_false, Bool.false_and, Nat.sub_self, Nat.zero_add, Nat.reduceAdd, Nat.reduceSub, Nat.reduceBEq, c4, itI]) e1
    simp only [runF, Int.cast_ofNat_Int, blsD, List.all, id, startE, fill, cellsOf, endF, ioOf, eSs_nil, eSs_cons, eS_ret, eS_exp, eS_set, eS_setP, eS_put, eS_app, eS_ife, eS_pass, eS_brk, eS_cnt, evT, eE_cst, eE_var, eE_bin, eE_not, eE_cmp, eE_cmp2, eE_and, eE_or, eE_ite, eE_tup, eE_lst, eE_idx, eE_slc, eE_rev, eE_nil, eE_call, eE_calli, eE_bi, eE_me, eE_lrg1, eE_isi, pk, evEs, evPs, evRs, rdE, rdP, rdL, get, put, sto, stoL, bind_ok, M.bind, callN, callIo, retE, fin, finS, finB, biD, bLen, lenD, ofO, truth, partI, slcV, revV, idxV, isNew, List.replicate, cmpD, ltD, isD, binD, Option.map, if_true, if_false, Bool.false_eq_true, Bool.true_eq_false, decide_true, decide_false, List.length_cons, List.length_nil, List.append_nil, List.cons_append, List.nil_append, List.drop_nil, chg, putV, appV, tst, Bool.not_true, Bool.not_false, beq_self_eq_true, bnd, bindP, bindL, plain_s, plain_i, plain_n, plain_b, eqD_s, eqD_i, eqD_b, bAbs, bInt, bMax, bMin, bAll, bAny, Bool.and_true, Bool.true_and, Bool.and_false, Bool.false_and, Nat.sub_self, Nat.zero_add, Nat.reduceAdd, Nat.reduceSub, Nat.reduceBEq, hF]
theorem right_ok (d : Nat) {w : List Nat} (hl : w.length ≤ 200) (hw : LetOk 8 w) (hne : w ≠ []) {c : D} (hc : CupOk c) : ∃ c', (clOf T (d + 9)).run 1008 [c, .str w] = .ok false (.bl true) (some c') ∧ CupOk c' := by
  have hn := List.length_pos_iff.mpr hne
  rw [run_def hT.h1008]
  have g1 := lper_ok hT (d + 7) (w := w) (by omega)
  have g2 := c5_ok hT (d + 8) (w := w) hl (c := c)
  have g3 := d42_ok hT hR (d + 4) hl hw hne
  have g4 := d43_ok hT hR (d + 4) hl hw hne
  obtain ⟨b, hb, g5, g6⟩ := d4445_ok hT hR (d + 4) hl hw hne
  have g7 := backS_ok hR hT.h26 (d + 4) hl hw
  have g8 := d43_ok hT hR (d + 4) (w := w.reverse) (by rw [List.length_reverse]; exact hl) (hw.sub fun x hx => List.mem_reverse.mp hx) (by simpa using hne)
  rw [per_rev'] at g8
  obtain ⟨bl, hbl⟩ := bord_last hne hb
  obtain ⟨pl, hpl⟩ := per_first hne hb
  have a1 : atD (natL (bordL w)) (-1) = some (.int (b : Nat)) := by
    have h1 := atD_last (l := bordL w) (k := bl.length) (by rw [hbl, List.length_append]; rfl)
    rw [h1]
    have h2 : (bl ++ [b])[0 + bl.length]! = b := by rw [app_get2 (by simp)]; rfl
    rw [Nat.zero_add] at h2
    rw [hbl, h2]
  have a2 : atD (natL (perL w)) 0 = some (.int (w.length - b : Nat)) := by rw [hpl]; exact atD_zero
  have lenB := bord_len w
  have lenP := per_len w
  have lk : lkOk 2 (.lst [.tup (natL (bordL w)), .tup (natL (perL w)), .int (b : Nat), .int (w.length - b : Nat), .tup (natL (perL w))]) = true := by
    have k1 := lk_natT (n := 0) (bordL w) (by omega)
    have k2 := lk_natT (n := 0) (perL w) (by omega)
    show (decide (5 ≤ 100000) && (lkOk 1 (.tup (natL (bordL w))) && (lkOk 1 (.tup (natL (perL w))) && (true && (true && (lkOk 1 (.tup (natL (perL w))) && true)))))) = true
    rw [k1, k2]; rfl
  have g9 := like_self hT.h1003 hT.h1004 (d + 4) 2 lk
  have g10 := fun t6 => c7_ok hT hR (d + 3) hl hw (c := c) (t6 := t6)
  obtain ⟨k0, c1, e1, h0, h1, hc1⟩ := roll_ok hT.h1001 (d + 7) hc (many := (w.length : Int)) (by omega) (by omega)
  obtain ⟨k, hk⟩ := Int.eq_ofNat_of_zero_le (show 0 ≤ 1 + k0 by omega)
  have g11 := fun t6 => c10_ok hT (d + 8) (w := w) (k := k) hl (by omega) (c1 := c1) (t6 := t6)
  obtain ⟨g12, g13⟩ := d4849_ok hT hR (d + 3) hl hw hne (k := k) (by omega) (by omega)
  have mem : inD (.int (k : Nat)) (.tup (natL (perL w))) = some (unl w k).isEmpty := by
    have h1 : inD (.int (k : Nat)) (.tup (natL (perL w))) = if plain (.int (k : Nat)) && plainL (natL (perL w)) then some (memD (.int (k : Nat)) (natL (perL w))) else none := rfl
    rw [h1, plainL_nat, memD_nat, mem_unl (by omega) (by omega)]
    rfl
  have pU : plain (.lst (natL (unl w k))) = true := plain_natL _
  have eU : eqD (.lst (natL (unl w k))) (.lst []) = (natL (unl w k)).isEmpty := eqD_le
  have W9 : ∀ t6, evE (clOf T (d + 8)) (.ite (.cmp .ne (.var 9) (.lst [])) (.idx (.var 9) (.cst (.int 0))) (.cst .non)) [some (.io, c1), some (.shr, .str w), some (.shr, .int w.length), some (.shr, .tup (natL (perL w))), some (.shr, .tup (natL (bordL w))), none, t6, none, some (.shr, .int (k : Nat)), some (.own, .lst (natL (unl w k))), none, none, none, none] = .ok (false, optN (unl w k).head?) [some (.io, c1), some (.shr, .str w), some (.shr, .int w.length), some (.shr, .tup (natL (perL w))), some (.shr, .tup (natL (bordL w))), none, t6, none, some (.shr, .int (k : Nat)), some (.own, .lst (natL (unl w k))), none, none, none, none] := by
    intro t6
    cases hu : unl w k with
    | nil =>
      rw [hu] at pU eU
      have hE : (natL ([] : List Nat)).isEmpty = true := rfl
      rw [hE] at eU
      simp only [runF, Int.cast_ofNat_Int, blsD, List.all, id, startE, fill, cellsOf, endF, ioOf, eSs_nil, eSs_cons, eS_ret, eS_exp, eS_set, eS_setP, eS_put, eS_app, eS_ife, eS_pass, eS_brk, eS_cnt, evT, eE_cst, eE_var, eE_bin, eE_not, eE_cmp, eE_cmp2, eE_and, eE_or, eE_ite, eE_tup, eE_lst, eE_idx, eE_slc, eE_rev, eE_nil, eE_call, eE_calli, eE_bi, eE_me, eE_lrg1, eE_isi, pk, evEs, evPs, evRs, rdE, rdP, rdL, get, put, sto, stoL, bind_ok, M.bind, callN, callIo, retE, fin, finS, finB, biD, bLen, lenD, ofO, truth, partI, slcV, revV, idxV, isNew, List.replicate, cmpD, ltD, isD, binD, Option.map, if_true, if_false, Bool.false_eq_true, Bool.true_eq_false, decide_true, decide_false, List.length_cons, List.length_nil, List.append_nil, List.cons_append, List.nil_append, List.drop_nil, chg, putV, appV, tst, Bool.not_true, Bool.not_false, beq_self_eq_true, bnd, bindP, bindL, plain_s, plain_i, plain_n, plain_b, eqD_s, eqD_i, eqD_b, bAbs, bInt, bMax, bMin, bAll, bAny, Bool.and_true, Bool.true_and, Bool.and_false, Bool.false_and, Nat.sub_self, Nat.zero_add, Nat.reduceAdd, Nat.reduceSub, Nat.reduceBEq, pU, eU, plain_ln, List.head?_nil, optN]
    | cons a l =>
      rw [hu] at pU eU
      have hE : (natL (a :: l)).isEmpty = false := rfl
      rw [hE] at eU
      have a0 : atD (natL (a :: l)) 0 = some (.int a) := atD_zero
      generalize natL (a :: l) = al at *
      simp only [runF, Int.cast_ofNat_Int, blsD, List.all, id, startE, fill, cellsOf, endF, ioOf, eSs_nil, eSs_cons, eS_ret, eS_exp, eS_set, eS_setP, eS_put, eS_app, eS_ife, eS_pass, eS_brk, eS_cnt, evT, eE_cst, eE_var, eE_bin, eE_not, eE_cmp, eE_cmp2, eE_and, eE_or, eE_ite, eE_tup, eE_lst, eE_idx, eE_slc, eE_rev, eE_nil, eE_call, eE_calli, eE_bi, eE_me, eE_lrg1, eE_isi, pk, evEs, evPs, evRs, rdE, rdP, rdL, get, put, sto, stoL, bind_ok, M.bind, callN, callIo, retE, fin, finS, finB, biD, bLen, lenD, ofO, truth, partI, slcV, revV, idxV, isNew, List.replicate, cmpD, ltD, isD, binD, Option.map, if_true, if_false, Bool.false_eq_true, Bool.true_eq_false, decide_true, decide_false, List.length_cons, List.length_nil, List.append_nil, List.cons_append, List.nil_append, List.drop_nil, chg, putV, appV, tst, Bool.not_true, Bool.not_false, beq_self_eq_true, bnd, bindP, bindL, plain_s, plain_i, plain_n, plain_b, eqD_s, eqD_i, eqD_b, bAbs, bInt, bMax, bMin, bAll, bAny, Bool.and_true, Bool.true_and, Bool.and_false, Bool.false_and, Nat.sub_self, Nat.zero_add, Nat.reduceAdd, Nat.reduceSub, Nat.reduceBEq, pU, eU, plain_ln, a0, List.head?_cons, optN]
  have lk2 : lkOk 2 (.lst [.bl (unl w k).isEmpty, optN (unl w k).head?]) = true := by
    cases (unl w k).head? <;> rfl
  have g14 := like_self hT.h1003 hT.h1004 (d + 4) 2 lk2
  have c4 : cut (natL (perL w)) none (some (4 : Int)) = natL ((perL w).take 4) := by
    have h1 : cut (natL (perL w)) none (some (4 : Int)) = (natL (perL w)).take 4 := cut_toN (e := 4)
    rw [h1]; unfold natL; rw [List.map_take]
  obtain ⟨t11, t12, t13, o1⟩ := outer_ok hT hR (d + 7) (w := w) (k := k) hl (c1 := c1) (t6 := some (.shr, .lst [.tup (natL (bordL w)), .tup (natL (perL w)), .int (b : Nat), .int (w.length - b : Nat), .tup (natL (perL w))])) ((perL w).take 4) (fun z hz => List.mem_of_mem_take hz) none none none
  have hF := for_ok (C := clOf T (d + 8)) (p := (.nm 11)) (it := (.slc (.var 3) .nil (.cst (.int 4)))) (ρ := [some (.io, c1), some (.shr, .str w), some (.shr, .int w.length), some (.shr, .tup (natL (perL w))), some (.shr, .tup (natL (bordL w))), none, some (.shr, .lst [.tup (natL (bordL w)), .tup (natL (perL w)), .int (b : Nat), .int (w.length - b : Nat), .tup (natL (perL w))]), none, some (.shr, .int (k : Nat)), some (.own, .lst (natL (unl w k))), none, none, none, none]) (ρ1 := [some (.io, c1), some (.shr, .str w), some (.shr, .int w.length), some (.shr, .tup (natL (perL w))), some (.shr, .tup (natL (bordL w))), none, some (.shr, .lst [.tup (natL (bordL w)), .tup (natL (perL w)), .int (b : Nat), .int (w.length - b : Nat), .tup (natL (perL w))]), none, some (.shr, .int (k : Nat)), some (.own, .lst (natL (unl w k))), none, none, none, none]) (by simp only [runF, Int.cast_ofNat_Int, blsD, List.all, id, startE, fill, cellsOf, endF, ioOf, eSs_nil, eSs_cons, eS_ret, eS_exp, eS_set, eS_setP, eS_put, eS_app, eS_ife, eS_pass, eS_brk, eS_cnt, evT, eE_cst, eE_var, eE_bin, eE_not, eE_cmp, eE_cmp2, eE_and, eE_or, eE_ite, eE_tup, eE_lst, eE_idx, eE_slc, eE_rev, eE_nil, eE_call, eE_calli, eE_bi, eE_me, eE_lrg1, eE_isi, pk, evEs, evPs, evRs, rdE, rdP, rdL, get, put, sto, stoL, bind_ok, M.bind, callN, callIo, retE, fin, finS, finB, biD, bLen, lenD, ofO, truth, partI, slcV, revV, idxV, isNew, List.replicate, cmpD, ltD, isD, binD, Option.map, if_true, if_false, Bool.false_eq_true, Bool.true_eq_false, decide_true, decide_false, List.length_cons, List.length_nil, List.append_nil, List.cons_append, List.nil_append, List.drop_nil, chg, putV, appV, tst, Bool.not_true, Bool.not_false, beq_self_eq_true, bnd, bindP, bindL, plain_s, plain_i, plain_n, plain_b, eqD_s, eqD_i, eqD_b, bAbs, bInt, bMax, bMin, bAll, bAny, Bool.and_true, Bool.true_and, Bool.and_false, Bool.false_and, Nat.sub_self, Nat.zero_add, Nat.reduceAdd, Nat.reduceSub, Nat.reduceBEq, c4, itI]) o1
  have g15 := rows_ok hT hR d hl hw hne
  refine ⟨c1, ?_, hc1⟩
  simp only [runF, Int.cast_ofNat_Int, blsD, List.all, id, startE, fill, cellsOf, endF, ioOf, eSs_nil, eSs_cons, eS_ret, eS_exp, eS_set, eS_setP, eS_put, eS_app, eS_ife, eS_pass, eS_brk, eS_cnt, evT, eE_cst, eE_var, eE_bin, eE_not, eE_cmp, eE_cmp2, eE_and, eE_or, eE_ite, eE_tup, eE_lst, eE_idx, eE_slc, eE_rev, eE_nil, eE_call, eE_calli, eE_bi, eE_me, eE_lrg1, eE_isi, pk, evEs, evPs, evRs, rdE, rdP, rdL, get, put, sto, stoL, bind_ok, M.bind, callN, callIo, retE, fin, finS, finB, biD, bLen, lenD, ofO, truth, partI, slcV, revV, idxV, isNew, List.replicate, cmpD, ltD, isD, binD, Option.map, if_true, if_false, Bool.false_eq_true, Bool.true_eq_false, decide_true, decide_false, List.length_cons, List.length_nil, List.append_nil, List.cons_append, List.nil_append, List.drop_nil, chg, putV, appV, tst, Bool.not_true, Bool.not_false, beq_self_eq_true, bnd, bindP, bindL, plain_s, plain_i, plain_n, plain_b, eqD_s, eqD_i, eqD_b, bAbs, bInt, bMax, bMin, bAll, bAny, Bool.and_true, Bool.true_and, Bool.and_false, Bool.false_and, Nat.sub_self, Nat.zero_add, Nat.reduceAdd, Nat.reduceSub, Nat.reduceBEq, f1008, g1, g2, bTuple, g3, g4, g5, g6, g7, g8, a1, a2, g9, g10, plain_ln, eqD_ln, e1, hk, g11, g12, g13, mem, W9, g14, hF, g15]
end
end Py

/-! k03: made words, what is written, the law. -/
namespace Py
theorem letok' {l : List Nat} (h : l.all (fun x => decide (97 ≤ x ∧ x < 105)) = true) : LetOk 8 l := fun x hx => by
  have := List.all_eq_true.mp h x hx
  simp at this
  omega
theorem forL_nil {f : D → Env → M Fw} {ρ : Env} : forL f [] ρ = .ok .nx ρ := rfl
theorem cut_ne {l : List Nat} {n : Int} (h : l ≠ []) (hn : 1 ≤ n) : cut l none (some n) ≠ [] := by
  have hp := List.length_pos_iff.mpr h
  rw [cut_to_eq (by omega)]
  intro e
  have : (l.take n.toNat).length = 0 := by rw [e]; rfl
  rw [List.length_take] at this
  omega
theorem cut_le {l : List Nat} {n : Int} {k : Nat} (hn : 0 ≤ n) (hk : n ≤ k) : (cut l none (some n)).length ≤ k := by
  have := cut_to_len (l := l) hn
  omega
def Good (w : List Nat) : Prop := w ≠ [] ∧ w.length ≤ 200 ∧ LetOk 8 w
/-! tables by reckoning -/
def rowC (w : List Nat) : List Nat := (List.range w.length).map fun k => (((List.range (k + 1)).reverse).filter (boP w (k + 1))).headD 0
theorem rowC_is (w : List Nat) : RowIs w (rowC w) := by
  refine ⟨by unfold rowC; simp, fun j hj => ?_⟩
  have h : j < (rowC w).length := by unfold rowC; simpa using hj
  rw [getElem!_pos _ j h]
  simp only [rowC, List.getElem_map, List.getElem_range]
  obtain ⟨b, l, hb, e⟩ := max_head (f := fnL w) (s := j + 1) (boP w (j + 1)) (by omega) (fun i hi => boP_iff (by omega) hi)
  rw [e]
  exact hb
def zUp (w : List Nat) (p : Nat) : Nat → Nat → Nat
  | 0, k => k
  | n + 1, k => if p + k < w.length ∧ w[k]! = w[p + k]! then zUp w p n (k + 1) else k
theorem zUp_is {w : List Nat} {p : Nat} : ∀ (n k : Nat), w.length - (p + k) ≤ n → p + k ≤ w.length → (∀ i, i < k → fnL w i = fnL w (p + i)) → IsZ (fnL w) w.length p (zUp w p n k)
  | 0, k, h1, h2, h3 => by
    simp only [zUp]
    exact ⟨h2, h3, fun h => by omega⟩
  | n + 1, k, h1, h2, h3 => by
    simp only [zUp]
    split
    · rename_i h
      refine zUp_is n (k + 1) (by omega) (by omega) fun i hi => ?_
      by_cases q : i < k
      · exact h3 i q
      · have : i = k := by omega
        subst this
        exact h.2
    · rename_i h
      exact ⟨h2, h3, fun h4 e => h ⟨h4, e⟩⟩
def zC (w : List Nat) : List Nat := (List.range w.length).map fun p => zUp w p w.length 0
theorem zC_is (w : List Nat) : ZRow w (zC w) := by
  refine ⟨by unfold zC; simp, fun j hj => ?_⟩
  have h : j < (zC w).length := by unfold zC; simpa using hj
  rw [getElem!_pos _ j h]
  simp only [zC, List.getElem_map, List.getElem_range]
  exact zUp_is w.length 0 (by omega) (by omega) fun i hi => by omega
/-- one letter again and again -/
def wide : List Nat := repL [97] 200
theorem repL_oneN {x : Nat} : ∀ (n : Nat), repL [x] n = List.replicate n x
  | 0 => rfl
  | n + 1 => by simp only [repL, repL_oneN n, List.singleton_append, List.replicate_succ]
theorem wide_eq : wide = List.replicate 200 97 := repL_oneN 200
theorem wide_len : wide.length = 200 := by rw [wide_eq, List.length_replicate]
theorem wide_at {i : Nat} (h : i < 200) : fnL wide i = 97 := by
  show wide[i]! = 97
  have h' : i < (List.replicate 200 97).length := by rw [List.length_replicate]; exact h
  rw [wide_eq, getElem!_pos _ i h', List.getElem_replicate]
theorem wide_row : RowIs wide (List.range 200) := by
  refine ⟨by rw [wide_len, List.length_range], fun j hj => ?_⟩
  rw [wide_len] at hj
  rw [getElem!_pos _ j (by rw [List.length_range]; exact hj), List.getElem_range]
  exact ⟨⟨by omega, fun i hi => by rw [wide_at (by omega), wide_at (by omega)]⟩, fun i hi => by have := hi.1; omega⟩
theorem wide_z : ZRow wide ((List.range 200).map fun p => 200 - p) := by
  refine ⟨by rw [wide_len]; simp, fun j hj => ?_⟩
  rw [wide_len] at hj
  rw [getElem!_pos _ j (by simpa using hj), List.getElem_map, List.getElem_range, wide_len]
  exact ⟨by omega, fun i hi => by rw [wide_at (by omega), wide_at (by omega)], fun h => by omega⟩
theorem wide_per : perL wide = List.range' 1 200 := by
  unfold perL
  rw [wide_len]
  rw [List.filter_eq_self]
  intro p hp
  have hp := List.mem_range'_1.mp hp
  refine (perB_iff (by rw [wide_len]; omega)).mpr fun i hi => ?_
  rw [wide_len] at hi
  rw [wide_at (by omega), wide_at (by omega)]
def tailB : List Nat := repL [97] 199 ++ [98]
theorem tailB_bord : bordL tailB = [0] := by decide +kernel
theorem tailB_unl : (unl tailB 1).head? = some 198 := by decide +kernel
theorem eE_lrg2 {C : Cl} {ρ : Env} {tp : Bool} {a b : E} : evE C (.lrg2 tp a b) ρ = (evE C a ρ).bind fun x ρ => (evE C b ρ).bind fun y ρ => fin ρ (lrgV tp x.2 y.2) := rfl
theorem eE_lrg3 {C : Cl} {ρ : Env} {tp : Bool} {a b c : E} : evE C (.lrg3 tp a b c) ρ = (evE C a ρ).bind fun x ρ => (evE C b ρ).bind fun y ρ => (evE C c ρ).bind fun z ρ => fin ρ (lrgV3 tp x.2 y.2 z.2) := rfl
section
variable {T : Tb} (hT : Has T) (hR : HasS T)
include hT
theorem made_ok (d : Nat) {c : D} {most : Int} (hc : CupOk c) (m0 : 1 ≤ most) (m1 : most ≤ 200) : ∃ v c', (clOf T (d + 4)).run 1010 [c, .int most] = .ok false (.str v) (some c') ∧ Good v ∧ CupOk c' := by
  rw [run_def hT.h1010]
  obtain ⟨v, c1, e1, vl, vL, hc1⟩ := word_ok hT.h1001 hT.h1002 hT.h1005 d hc (most := 9) (letters := 2) (by decide) (by decide) (by decide) (by decide)
  obtain ⟨o, c2, e2, ol, oL, hc2⟩ := word_ok hT.h1001 hT.h1002 hT.h1005 d hc1 (most := 20) (letters := 3) (by decide) (by decide) (by decide) (by decide)
  have vL := vL.mono (show (2 : Int) ≤ 8 by decide)
  have oL := oL.mono (show (3 : Int) ≤ 8 by decide)
  have lo1 := lenOk_of (n := v.length + 1) (by omega)
  have aL : LetOk 8 [97] := letok' (by decide)
  have pL : LetOk 8 (v ++ [97]) := vL.app aL
  have pl : (v ++ [97]).length = v.length + 1 := by simp
  have pne : v ++ [97] ≠ [] := by simp
  generalize hp : v ++ [97] = p at *
  obtain ⟨r1, c3, e3, r10, r11, hc3⟩ := roll_ok hT.h1001 (d + 2) hc2 (many := 12) (by decide) (by decide)
  obtain ⟨m, hm⟩ := Int.eq_ofNat_of_zero_le (show 0 ≤ 1 + r1 by omega)
  have sm := small_nat (n := m) (by omega)
  have hpm : p.length * m ≤ 120 := Nat.le_trans (Nat.mul_le_mul (show p.length ≤ 10 by omega) (show m ≤ 12 by omega)) (by decide)
  have lo2 := lenOk_of (n := p.length * m) (by omega)
  obtain ⟨r2, c4, e4, r20, r21, hc4⟩ := roll_ok hT.h1001 (d + 2) hc3 (many := (p.length : Int)) (by omega) (by omega)
  have k1 := cut_len_le (l := p) (lo := none) (hi := some r2)
  have rlen : (repL p m).length ≤ 120 := by rw [repL_len, Nat.mul_comm]; exact hpm
  have lo3 : lenOk ((repL p m).length + (cut p none (some r2)).length) = true := lenOk_of (by omega)
  have wL : LetOk 8 (cut (repL p m ++ cut p none (some r2)) none (some most)) := ((pL.sub fun x hx => repL_mem hx).app (pL.sub fun x hx => cut_mem hx)).sub fun x hx => cut_mem hx
  have wne : cut (repL p m ++ cut p none (some r2)) none (some most) ≠ [] := by
    refine cut_ne ?_ m0
    intro h
    have := (List.append_eq_nil_iff.mp h).1
    have h2 : (repL p m).length = 0 := by rw [this]; rfl
    rw [repL_len] at h2
    have := Nat.mul_pos (show 0 < m by omega) (show 0 < p.length by omega)
    omega
  have wl : ((cut (repL p m ++ cut p none (some r2)) none (some most)).length : Int) ≤ most := by have := cut_to_len (l := repL p m ++ cut p none (some r2)) (show 0 ≤ most by omega); omega
  generalize hw : cut (repL p m ++ cut p none (some r2)) none (some most) = w at *
  obtain ⟨r3, c5, e5, r30, r31, hc5⟩ := roll_ok hT.h1001 (d + 2) hc4 (many := 3) (by decide) (by decide)
  by_cases q0 : r3 = 0
  · subst q0
    refine ⟨w, c5, ?_, ⟨wne, by omega, wL⟩, hc5⟩
    simp only [runF, Int.cast_ofNat_Int, blsD, List.all, id, startE, fill, cellsOf, endF, ioOf, eSs_nil, eSs_cons, eS_ret, eS_exp, eS_set, eS_setP, eS_put, eS_app, eS_ife, eS_pass, eS_brk, eS_cnt, evT, eE_cst, eE_var, eE_bin, eE_not, eE_cmp, eE_cmp2, eE_and, eE_or, eE_ite, eE_tup, eE_lst, eE_idx, eE_slc, eE_rev, eE_nil, eE_call, eE_calli, eE_bi, eE_me, eE_lrg1, eE_isi, pk, evEs, evPs, evRs, rdE, rdP, rdL, get, put, sto, stoL, bind_ok, M.bind, callN, callIo, retE, fin, finS, finB, biD, bLen, lenD, ofO, truth, partI, slcV, revV, idxV, isNew, List.replicate, cmpD, ltD, isD, binD, Option.map, if_true, if_false, Bool.false_eq_true, Bool.true_eq_false, decide_true, decide_false, List.length_cons, List.length_nil, List.append_nil, List.cons_append, List.nil_append, List.drop_nil, chg, putV, appV, tst, Bool.not_true, Bool.not_false, beq_self_eq_true, bnd, bindP, bindL, plain_s, plain_i, plain_n, plain_b, eqD_s, eqD_i, eqD_b, bAbs, bInt, bMax, bMin, bAll, bAny, Bool.and_true, Bool.true_and, Bool.and_false, Bool.false_and, Nat.sub_self, Nat.zero_add, Nat.reduceAdd, Nat.reduceSub, Nat.reduceBEq, f1010, e1, e2, lo1, hp, e3, hm, sm, Int.toNat_natCast, lo2, e4, lo3, hw, e5]
  · have q0' : (r3 == 0) = false := beq_eq_false_iff_ne.mpr q0
    by_cases q1 : r3 = 1
    · subst q1
      have k2 := cut_len_le (l := w) (lo := none) (hi := some 40)
      have lo4 : lenOk ((cut w none (some 40)).length + o.length) = true := lenOk_of (by omega)
      have lo5 : lenOk ((cut w none (some 40) ++ o).length + (cut w none (some 40)).length) = true := lenOk_of (by rw [List.length_append]; omega)
      have xL : LetOk 8 (cut w none (some 40) ++ o ++ cut w none (some 40)) := ((wL.sub fun x hx => cut_mem hx).app oL).app (wL.sub fun x hx => cut_mem hx)
      have xne : cut w none (some 40) ++ o ++ cut w none (some 40) ≠ [] := fun h => cut_ne wne (by decide) (List.append_eq_nil_iff.mp (List.append_eq_nil_iff.mp h).1).1
      refine ⟨cut (cut w none (some 40) ++ o ++ cut w none (some 40)) none (some most), c5, ?_, ⟨cut_ne xne m0, cut_le (by omega) m1, xL.sub fun x hx => cut_mem hx⟩, hc5⟩
      simp only [runF, Int.cast_ofNat_Int, blsD, List.all, id, startE, fill, cellsOf, endF, ioOf, eSs_nil, eSs_cons, eS_ret, eS_exp, eS_set, eS_setP, eS_put, eS_app, eS_ife, eS_pass, eS_brk, eS_cnt, evT, eE_cst, eE_var, eE_bin, eE_not, eE_cmp, eE_cmp2, eE_and, eE_or, eE_ite, eE_tup, eE_lst, eE_idx, eE_slc, eE_rev, eE_nil, eE_call, eE_calli, eE_bi, eE_me, eE_lrg1, eE_isi, pk, evEs, evPs, evRs, rdE, rdP, rdL, get, put, sto, stoL, bind_ok, M.bind, callN, callIo, retE, fin, finS, finB, biD, bLen, lenD, ofO, truth, partI, slcV, revV, idxV, isNew, List.replicate, cmpD, ltD, isD, binD, Option.map, if_true, if_false, Bool.false_eq_true, Bool.true_eq_false, decide_true, decide_false, List.length_cons, List.length_nil, List.append_nil, List.cons_append, List.nil_append, List.drop_nil, chg, putV, appV, tst, Bool.not_true, Bool.not_false, beq_self_eq_true, bnd, bindP, bindL, plain_s, plain_i, plain_n, plain_b, eqD_s, eqD_i, eqD_b, bAbs, bInt, bMax, bMin, bAll, bAny, Bool.and_true, Bool.true_and, Bool.and_false, Bool.false_and, Nat.sub_self, Nat.zero_add, Nat.reduceAdd, Nat.reduceSub, Nat.reduceBEq, f1010, e1, e2, lo1, hp, e3, hm, sm, Int.toNat_natCast, lo2, e4, lo3, hw, e5, q0', lo4, lo5]
    · have q1' : (r3 == 1) = false := beq_eq_false_iff_ne.mpr q1
      have wp := List.length_pos_iff.mpr wne
      obtain ⟨a, c6, e6, a0, a1, hc6⟩ := roll_ok hT.h1001 (d + 2) hc5 (many := (w.length : Int)) (by omega) (by omega)
      obtain ⟨a, rfl⟩ := Int.eq_ofNat_of_zero_le a0
      have cc1 : cut w none (some (a : Int)) = w.take a := cut_toN
      have s1 : (a : Int) + 1 = ((a + 1 : Nat) : Int) := rfl
      have cc2 : cut w (some ((a + 1 : Nat) : Int)) none = w.drop (a + 1) := cut_fromN (by omega)
      have lo4 : lenOk ((w.take a).length + 1) = true := lenOk_of (by rw [List.length_take]; omega)
      have lo5 : lenOk ((w.take a ++ [98]).length + (w.drop (a + 1)).length) = true := lenOk_of (by rw [List.length_append, List.length_take, List.length_drop]; simp only [List.length_cons, List.length_nil]; omega)
      have xL : LetOk 8 (w.take a ++ [98] ++ w.drop (a + 1)) := ((wL.sub fun x hx => List.mem_of_mem_take hx).app (letok' (by decide))).app (wL.sub fun x hx => List.mem_of_mem_drop hx)
      refine ⟨w.take a ++ [98] ++ w.drop (a + 1), c6, ?_, ⟨by simp, by rw [List.length_append, List.length_append, List.length_take, List.length_drop]; simp only [List.length_cons, List.length_nil]; omega, xL⟩, hc6⟩
      simp only [runF, Int.cast_ofNat_Int, blsD, List.all, id, startE, fill, cellsOf, endF, ioOf, eSs_nil, eSs_cons, eS_ret, eS_exp, eS_set, eS_setP, eS_put, eS_app, eS_ife, eS_pass, eS_brk, eS_cnt, evT, eE_cst, eE_var, eE_bin, eE_not, eE_cmp, eE_cmp2, eE_and, eE_or, eE_ite, eE_tup, eE_lst, eE_idx, eE_slc, eE_rev, eE_nil, eE_call, eE_calli, eE_bi, eE_me, eE_lrg1, eE_isi, pk, evEs, evPs, evRs, rdE, rdP, rdL, get, put, sto, stoL, bind_ok, M.bind, callN, callIo, retE, fin, finS, finB, biD, bLen, lenD, ofO, truth, partI, slcV, revV, idxV, isNew, List.replicate, cmpD, ltD, isD, binD, Option.map, if_true, if_false, Bool.false_eq_true, Bool.true_eq_false, decide_true, decide_false, List.length_cons, List.length_nil, List.append_nil, List.cons_append, List.nil_append, List.drop_nil, chg, putV, appV, tst, Bool.not_true, Bool.not_false, beq_self_eq_true, bnd, bindP, bindL, plain_s, plain_i, plain_n, plain_b, eqD_s, eqD_i, eqD_b, bAbs, bInt, bMax, bMin, bAll, bAny, Bool.and_true, Bool.true_and, Bool.and_false, Bool.false_and, Nat.sub_self, Nat.zero_add, Nat.reduceAdd, Nat.reduceSub, Nat.reduceBEq, f1010, e1, e2, lo1, hp, e3, hm, sm, Int.toNat_natCast, lo2, e4, lo3, hw, e5, q0', q1', e6, cc1, s1, cc2, lo4, lo5]
theorem grown_ok (d : Nat) {c : D} (hc : CupOk c) : ∃ v c', (clOf T (d + 4)).run 1011 [c] = .ok false (.str v) (some c') ∧ Good v ∧ CupOk c' := by
  rw [run_def hT.h1011]
  obtain ⟨v, c1, e1, vl, vL, hc1⟩ := word_ok hT.h1001 hT.h1002 hT.h1005 d hc (most := 4) (letters := 2) (by decide) (by decide) (by decide) (by decide)
  have vL := vL.mono (show (2 : Int) ≤ 8 by decide)
  have lo1 := lenOk_of (n := v.length + 1) (by omega)
  have g0 : Good (v ++ [97]) := ⟨by simp, by simp; omega, vL.app (letok' (by decide))⟩
  obtain ⟨n, c2, e2, n0, n1, hc2⟩ := roll_ok hT.h1001 (d + 2) hc1 (many := 5) (by decide) (by decide)
  obtain ⟨m, hm⟩ := Int.eq_ofNat_of_zero_le (show 0 ≤ 3 + n by omega)
  obtain ⟨ρ1, L1, c3, u, t2, t3, t4, hc3, gu, rfl⟩ := for_inv (f := fun x ρ => (bnd (.nm 2) x ρ).bind fun _ ρ => evSs (clOf T (d + 3)) [(.setP [3, 4] [(.calli 1005 0 [(.cst (.int 6)), (.cst (.int 2))]), (.bi .len [(.var 1)])]), (.set 1 (.ite (.cmp .eq (.calli 1001 0 [(.cst (.int 2))]) (.cst (.int 0))) (.slc (.bin .add (.bin .add (.var 1) (.var 3)) (.var 1)) .nil (.cst (.int 200))) (.slc (.bin .mul (.var 1) (.cst (.int 3))) .nil (.bi .min [(.cst (.int 200)), (.bin .add (.bin .add (.var 4) (.cst (.int 1))) (.calli 1001 0 [(.bin .mul (.cst (.int 2)) (.var 4))]))]))))] ρ) (rngL 0 (m : Nat) 1)
    (fun k ρ => ∃ (c : D) (u : List Nat) (t2 t3 t4 : Cell), CupOk c ∧ Good u ∧ ρ = [some (.io, c), some (.shr, .str u), t2, t3, t4]) [some (.io, c2), some (.shr, .str (v ++ [97])), none, none, none] (by
      rintro k x ρ hx ⟨c, u, t2, t3, t4, hc, ⟨gne, gl, gL⟩, rfl⟩
      have up := List.length_pos_iff.mpr gne
      obtain ⟨b, c', e1, bl, bL, hc'⟩ := word_ok hT.h1001 hT.h1002 hT.h1005 d hc (most := 6) (letters := 2) (by decide) (by decide) (by decide) (by decide)
      have bL := bL.mono (show (2 : Int) ≤ 8 by decide)
      obtain ⟨r, c'', e2, r0, r1, hc''⟩ := roll_ok hT.h1001 (d + 2) hc' (many := 2) (by decide) (by decide)
      by_cases q : r = 0
      · subst q
        have lo1 := lenOk_of (n := u.length + b.length) (by omega)
        have lo2 : lenOk ((u ++ b).length + u.length) = true := lenOk_of (by rw [List.length_append]; omega)
        refine ⟨_, ?_, c'', cut (u ++ b ++ u) none (some 200), some (.shr, x), some (.shr, .str b), some (.shr, .int u.length), hc'', ⟨cut_ne (by simp [gne]) (by decide), cut_le (by decide) (by decide), ((gL.app bL).app gL).sub fun x hx => cut_mem hx⟩, rfl⟩
        simp only [runF, Int.cast_ofNat_Int, blsD, List.all, id, startE, fill, cellsOf, endF, ioOf, eSs_nil, eSs_cons, eS_ret, eS_exp, eS_set, eS_setP, eS_put, eS_app, eS_ife, eS_pass, eS_brk, eS_cnt, evT, eE_cst, eE_var, eE_bin, eE_not, eE_cmp, eE_cmp2, eE_and, eE_or, eE_ite, eE_tup, eE_lst, eE_idx, eE_slc, eE_rev, eE_nil, eE_call, eE_calli, eE_bi, eE_me, eE_lrg1, eE_isi, pk, evEs, evPs, evRs, rdE, rdP, rdL, get, put, sto, stoL, bind_ok, M.bind, callN, callIo, retE, fin, finS, finB, biD, bLen, lenD, ofO, truth, partI, slcV, revV, idxV, isNew, List.replicate, cmpD, ltD, isD, binD, Option.map, if_true, if_false, Bool.false_eq_true, Bool.true_eq_false, decide_true, decide_false, List.length_cons, List.length_nil, List.append_nil, List.cons_append, List.nil_append, List.drop_nil, chg, putV, appV, tst, Bool.not_true, Bool.not_false, beq_self_eq_true, bnd, bindP, bindL, plain_s, plain_i, plain_n, plain_b, eqD_s, eqD_i, eqD_b, bAbs, bInt, bMax, bMin, bAll, bAny, Bool.and_true, Bool.true_and, Bool.and_false, Bool.false_and, Nat.sub_self, Nat.zero_add, Nat.reduceAdd, Nat.reduceSub, Nat.reduceBEq, e1, e2, lo1, lo2]
      · have q' : (r == 0) = false := beq_eq_false_iff_ne.mpr q
        have s1 : (2 : Int) * (u.length : Int) = ((2 * u.length : Nat) : Int) := by omega
        have m1 : mulOk 2 (u.length : Int) = true := mulOk_l (by decide)
        obtain ⟨r2, c4, e3, r20, r21, hc4⟩ := roll_ok hT.h1001 (d + 2) hc'' (many := (2 * u.length : Nat)) (by omega) (by omega)
        have lo1 : lenOk (u.length * Int.toNat 3) = true := lenOk_of (by show u.length * 3 ≤ _; omega)
        have sm : smallI 3 = true := rfl
        have une : repL u (Int.toNat 3) ≠ [] := by
          intro h
          have h2 : (repL u 3).length = 0 := by rw [show repL u 3 = [] from h]; rfl
          rw [repL_len] at h2
          omega
        have uL : LetOk 8 (repL u (Int.toNat 3)) := gL.sub fun x hx => repL_mem hx
        generalize hru : repL u (Int.toNat 3) = ru at *
        refine ⟨_, ?_, c4, cut ru none (some (if (u.length : Int) + 1 + r2 < 200 then (u.length : Int) + 1 + r2 else 200)), some (.shr, x), some (.shr, .str b), some (.shr, .int u.length), hc4, ⟨cut_ne une (by split <;> omega), cut_le (by split <;> omega) (by split <;> omega), uL.sub fun x hx => cut_mem hx⟩, rfl⟩
        have y3 : Int.toNat 3 = 3 := rfl
        rw [y3] at hru lo1
        simp only [runF, Int.cast_ofNat_Int, blsD, List.all, id, startE, fill, cellsOf, endF, ioOf, eSs_nil, eSs_cons, eS_ret, eS_exp, eS_set, eS_setP, eS_put, eS_app, eS_ife, eS_pass, eS_brk, eS_cnt, evT, eE_cst, eE_var, eE_bin, eE_not, eE_cmp, eE_cmp2, eE_and, eE_or, eE_ite, eE_tup, eE_lst, eE_idx, eE_slc, eE_rev, eE_nil, eE_call, eE_calli, eE_bi, eE_me, eE_lrg1, eE_isi, pk, evEs, evPs, evRs, rdE, rdP, rdL, get, put, sto, stoL, bind_ok, M.bind, callN, callIo, retE, fin, finS, finB, biD, bLen, lenD, ofO, truth, partI, slcV, revV, idxV, isNew, List.replicate, cmpD, ltD, isD, binD, Option.map, if_true, if_false, Bool.false_eq_true, Bool.true_eq_false, decide_true, decide_false, List.length_cons, List.length_nil, List.append_nil, List.cons_append, List.nil_append, List.drop_nil, chg, putV, appV, tst, Bool.not_true, Bool.not_false, beq_self_eq_true, bnd, bindP, bindL, plain_s, plain_i, plain_n, plain_b, eqD_s, eqD_i, eqD_b, bAbs, bInt, bMax, bMin, bAll, bAny, Bool.and_true, Bool.true_and, Bool.and_false, Bool.false_and, Nat.sub_self, Nat.zero_add, Nat.reduceAdd, Nat.reduceSub, Nat.reduceBEq, e1, e2, q', sm, y3, lo1, hru, s1, m1, e3]) ⟨c2, v ++ [97], none, none, none, hc2, g0, rfl⟩
  have hF := for_ok (C := clOf T (d + 3)) (p := (.nm 2)) (it := (.rng1 (.bin .add (.cst (.int 3)) (.calli 1001 0 [(.cst (.int 5))])))) (ρ := [some (.io, c1), some (.shr, .str (v ++ [97])), none, none, none]) (ρ1 := [some (.io, c2), some (.shr, .str (v ++ [97])), none, none, none]) (rng_it (n := m) (b := false) (by simp only [runF, Int.cast_ofNat_Int, blsD, List.all, id, startE, fill, cellsOf, endF, ioOf, eSs_nil, eSs_cons, eS_ret, eS_exp, eS_set, eS_setP, eS_put, eS_app, eS_ife, eS_pass, eS_brk, eS_cnt, evT, eE_cst, eE_var, eE_bin, eE_not, eE_cmp, eE_cmp2, eE_and, eE_or, eE_ite, eE_tup, eE_lst, eE_idx, eE_slc, eE_rev, eE_nil, eE_call, eE_calli, eE_bi, eE_me, eE_lrg1, eE_isi, pk, evEs, evPs, evRs, rdE, rdP, rdL, get, put, sto, stoL, bind_ok, M.bind, callN, callIo, retE, fin, finS, finB, biD, bLen, lenD, ofO, truth, partI, slcV, revV, idxV, isNew, List.replicate, cmpD, ltD, isD, binD, Option.map, if_true, if_false, Bool.false_eq_true, Bool.true_eq_false, decide_true, decide_false, List.length_cons, List.length_nil, List.append_nil, List.cons_append, List.nil_append, List.drop_nil, chg, putV, appV, tst, Bool.not_true, Bool.not_false, beq_self_eq_true, bnd, bindP, bindL, plain_s, plain_i, plain_n, plain_b, eqD_s, eqD_i, eqD_b, bAbs, bInt, bMax, bMin, bAll, bAny, Bool.and_true, Bool.true_and, Bool.and_false, Bool.false_and, Nat.sub_self, Nat.zero_add, Nat.reduceAdd, Nat.reduceSub, Nat.reduceBEq, e2, hm]) (by omega)) L1
  refine ⟨u, c3, ?_, gu, hc3⟩
  simp only [runF, Int.cast_ofNat_Int, blsD, List.all, id, startE, fill, cellsOf, endF, ioOf, eSs_nil, eSs_cons, eS_ret, eS_exp, eS_set, eS_setP, eS_put, eS_app, eS_ife, eS_pass, eS_brk, eS_cnt, evT, eE_cst, eE_var, eE_bin, eE_not, eE_cmp, eE_cmp2, eE_and, eE_or, eE_ite, eE_tup, eE_lst, eE_idx, eE_slc, eE_rev, eE_nil, eE_call, eE_calli, eE_bi, eE_me, eE_lrg1, eE_isi, pk, evEs, evPs, evRs, rdE, rdP, rdL, get, put, sto, stoL, bind_ok, M.bind, callN, callIo, retE, fin, finS, finB, biD, bLen, lenD, ofO, truth, partI, slcV, revV, idxV, isNew, List.replicate, cmpD, ltD, isD, binD, Option.map, if_true, if_false, Bool.false_eq_true, Bool.true_eq_false, decide_true, decide_false, List.length_cons, List.length_nil, List.append_nil, List.cons_append, List.nil_append, List.drop_nil, chg, putV, appV, tst, Bool.not_true, Bool.not_false, beq_self_eq_true, bnd, bindP, bindL, plain_s, plain_i, plain_n, plain_b, eqD_s, eqD_i, eqD_b, bAbs, bInt, bMax, bMin, bAll, bAny, Bool.and_true, Bool.true_and, Bool.and_false, Bool.false_and, Nat.sub_self, Nat.zero_add, Nat.reduceAdd, Nat.reduceSub, Nat.reduceBEq, f1011, e1, lo1, hF]
include hR
theorem written_ok (d : Nat) : (clOf T (d + 9)).run 1012 [] = .ok false (.bl true) none := by
  rw [run_def hT.h1012]
  have lo : ∀ l : List Nat, l.all (fun x => decide (97 ≤ x ∧ x < 105)) = true → LetOk 8 l := fun l h => letok' h
  have a1 := d42_ok hT hR (d + 4) (w := [97, 98, 97, 97, 98]) (by decide) (lo _ (by decide)) (by decide)
  rw [show bordL [97, 98, 97, 97, 98] = [0, 2] by decide] at a1
  have a2 := d43_ok hT hR (d + 4) (w := [97, 98, 97, 97, 98]) (by decide) (lo _ (by decide)) (by decide)
  rw [show perL [97, 98, 97, 97, 98] = [3, 5] by decide] at a2
  obtain ⟨b, hb, a3, a4⟩ := d4445_ok hT hR (d + 4) (w := [97, 98, 97, 97, 98]) (by decide) (lo _ (by decide)) (by decide)
  have hb2 : b = 2 := by
    have := (rowC_is [97, 98, 97, 97, 98]).mx 4 (by decide)
    rw [show (rowC [97, 98, 97, 97, 98])[4]! = 2 by decide] at this
    exact isMax_uniq hb this
  subst hb2
  obtain ⟨L5, h5, a5⟩ := d46_ok hT hR (d + 4) (w := [97, 98, 97, 97, 98]) (by decide) (lo _ (by decide)) (by decide)
  rw [h5.uniq (rowC_is _), show rowC [97, 98, 97, 97, 98] = [0, 0, 1, 1, 2] by decide] at a5
  obtain ⟨L6, h6, a6⟩ := d47_ok hT hR (d + 4) (w := [97, 98, 97, 97, 98]) (by decide) (lo _ (by decide)) (by decide)
  rw [h6.uniq (zC_is _), show zC [97, 98, 97, 97, 98] = [5, 0, 1, 2, 0] by decide] at a6
  obtain ⟨L7, h7, a7⟩ := d46_ok hT hR (d + 4) (w := [97, 98, 99, 97, 98, 98]) (by decide) (lo _ (by decide)) (by decide)
  rw [h7.uniq (rowC_is _), show rowC [97, 98, 99, 97, 98, 98] = [0, 0, 0, 1, 2, 0] by decide] at a7
  have a8 := (d4849_ok hT hR (d + 3) (w := [97, 98, 97, 97, 98]) (k := 3) (by decide) (lo _ (by decide)) (by decide) (by decide) (by decide)).1
  rw [show (unl [97, 98, 97, 97, 98] 3).isEmpty = true by decide] at a8
  have a9 := (d4849_ok hT hR (d + 3) (w := [97, 98, 97, 97, 98]) (k := 2) (by decide) (lo _ (by decide)) (by decide) (by decide) (by decide)).2
  rw [show (unl [97, 98, 97, 97, 98] 2).head? = some 1 by decide] at a9
  have a10 := (d4849_ok hT hR (d + 3) (w := [97, 98, 97, 97, 98]) (k := 3) (by decide) (lo _ (by decide)) (by decide) (by decide) (by decide)).2
  rw [show (unl [97, 98, 97, 97, 98] 3).head? = none by decide] at a10
  have a11 := d43_ok hT hR (d + 4) (w := [97, 97, 97]) (by decide) (lo _ (by decide)) (by decide)
  rw [show perL [97, 97, 97] = [1, 2, 3] by decide] at a11
  have a12 := d42_ok hT hR (d + 4) (w := [97]) (by decide) (lo _ (by decide)) (by decide)
  rw [show bordL [97] = [0] by decide] at a12
  have a13 : (clOf T (d + 8)).run 21 [.str [97, 98, 97, 97, 98]] = .ok false (.bl true) none := by
    rw [run_def hT.h21]
    have e := fits_ok hR.h5 hR.h6 (d + 5) (w := [97, 98, 97, 97, 98]) (by decide) (lo _ (by decide))
    simp only [runF, Int.cast_ofNat_Int, blsD, List.all, id, startE, fill, cellsOf, endF, ioOf, eSs_nil, eSs_cons, eS_ret, eS_exp, eS_set, eS_setP, eS_put, eS_app, eS_ife, eS_pass, eS_brk, eS_cnt, evT, eE_cst, eE_var, eE_bin, eE_not, eE_cmp, eE_cmp2, eE_and, eE_or, eE_ite, eE_tup, eE_lst, eE_idx, eE_slc, eE_rev, eE_nil, eE_call, eE_calli, eE_bi, eE_me, eE_lrg1, eE_isi, pk, evEs, evPs, evRs, rdE, rdP, rdL, get, put, sto, stoL, bind_ok, M.bind, callN, callIo, retE, fin, finS, finB, biD, bLen, lenD, ofO, truth, partI, slcV, revV, idxV, isNew, List.replicate, cmpD, ltD, isD, binD, Option.map, if_true, if_false, Bool.false_eq_true, Bool.true_eq_false, decide_true, decide_false, List.length_cons, List.length_nil, List.append_nil, List.cons_append, List.nil_append, List.drop_nil, chg, putV, appV, tst, Bool.not_true, Bool.not_false, beq_self_eq_true, bnd, bindP, bindL, plain_s, plain_i, plain_n, plain_b, eqD_s, eqD_i, eqD_b, bAbs, bInt, bMax, bMin, bAll, bAny, Bool.and_true, Bool.true_and, Bool.and_false, Bool.false_and, Nat.sub_self, Nat.zero_add, Nat.reduceAdd, Nat.reduceSub, Nat.reduceBEq, f21, e]
  have wl : wide.length ≤ 200 := by rw [wide_len]; exact Nat.le_refl _
  have wL : LetOk 8 wide := fun x hx => lo [97] (by decide) x (repL_mem hx)
  have wne : wide ≠ [] := fun h => by have := wide_len; rw [h] at this; simp at this
  have b1 := d43_ok hT hR (d + 4) wl wL wne
  have n1 : natL (perL wide) = rngL 1 201 1 := by
    rw [wide_per]; exact (rngL_map2 1 201).symm
  rw [n1] at b1
  obtain ⟨L8, h8, b2⟩ := d46_ok hT hR (d + 4) wl wL wne
  have n2 : natL (List.range 200) = rngL 0 200 1 := (rngL_map 200).symm
  rw [h8.uniq wide_row, n2] at b2
  obtain ⟨L9, h9, b3⟩ := d47_ok hT hR (d + 4) wl wL wne
  have n3 : natL ((List.range 200).map fun p => 200 - p) = rngL 200 0 (-1) := by rfl
  rw [h9.uniq wide_z, n3] at b3
  have tl : tailB.length ≤ 200 := by decide +kernel
  have tL : LetOk 8 tailB := lo _ (by decide +kernel)
  have tne : tailB ≠ [] := by decide +kernel
  have b4 := d42_ok hT hR (d + 4) tl tL tne
  rw [tailB_bord] at b4
  have b5 := (d4849_ok hT hR (d + 3) (w := tailB) (k := 1) tl tL tne (by decide) (by decide +kernel)).2
  rw [tailB_unl] at b5
  obtain ⟨L10, h10, b6⟩ := d47_ok hT hR (d + 4) (w := [104]) (by decide) (lo _ (by decide)) (by decide)
  rw [h10.uniq (zC_is _), show zC [104] = [1] by decide] at b6
  obtain ⟨L11, h11, b7⟩ := d46_ok hT hR (d + 4) (w := [104]) (by decide) (lo _ (by decide)) (by decide)
  rw [h11.uniq (rowC_is _), show rowC [104] = [0] by decide] at b7
  simp only [natL_cons, natL_nil, optN, List.length_cons, List.length_nil, Int.cast_ofNat_Int, Nat.zero_add, Nat.reduceAdd, Nat.reduceSub] at a1 a2 a3 a4 a5 a6 a7 a8 a9 a10 a11 a12 b4 b5 b6 b7
  have k1 := like_self (T := T) (a := .lst [.tup [.int 0, .int 2], .tup [.int 3, .int 5], .int 2, .int 3, .tup [.int 0, .int 0, .int 1, .int 1, .int 2], .tup [.int 5, .int 0, .int 1, .int 2, .int 0]]) hT.h1003 hT.h1004 (d + 4) 2 (by decide)
  have k2 := like_self (T := T) (a := .tup [.int 0, .int 0, .int 0, .int 1, .int 2, .int 0]) hT.h1003 hT.h1004 (d + 4) 2 (by decide)
  have k3 := like_self (T := T) (a := .lst [.bl true, .int 1, .non, .tup [.int 1, .int 2, .int 3], .tup [.int 0], .bl true]) hT.h1003 hT.h1004 (d + 4) 2 (by decide)
  have lk4 : lkOk 2 (.lst [.tup (rngL 1 201 1), .tup (rngL 0 200 1), .tup (rngL 200 0 (-1)), .tup [.int 0], .int 198, .tup [.int 1], .tup [.int 0]]) = true := by decide +kernel
  have k4 := like_self (T := T) hT.h1003 hT.h1004 (d + 4) 2 lk4
  have v1 : lrgV true (.int 1) (.int 201) = some (.tup (rngL 1 201 1)) := by
    show (if smallI 1 && smallI 201 && lenOk (rngN 1 201 1) then some (if true = true then D.tup (rngL 1 201 1) else .lst (rngL 1 201 1)) else none) = _
    rw [if_pos (by decide), if_pos rfl]
  have v2 : lrgV true (.int 0) (.int 200) = some (.tup (rngL 0 200 1)) := by
    show (if smallI 0 && smallI 200 && lenOk (rngN 0 200 1) then some (if true = true then D.tup (rngL 0 200 1) else .lst (rngL 0 200 1)) else none) = _
    rw [if_pos (by decide), if_pos rfl]
  have v3 : lrgV3 true (.int 200) (.int 0) (.int (-1)) = some (.tup (rngL 200 0 (-1))) := by
    show (if smallI 200 && smallI 0 && ((-1 : Int) == -1) && lenOk (rngN 200 0 (-1)) then some (if true = true then D.tup (rngL 200 0 (-1)) else .lst (rngL 200 0 (-1))) else none) = _
    rw [if_pos (by decide), if_pos rfl]
  have hw : repL [97] 200 = wide := rfl
  have htb : repL [97] 199 ++ [98] = tailB := rfl
  have y1 : Int.toNat 200 = 200 := rfl
  have y2 : Int.toNat 199 = 199 := rfl
  have z1 : smallI 200 = true := rfl
  have z2 : smallI 199 = true := rfl
  have x1 : lenOk 200 = true := rfl
  have x2 : lenOk 199 = true := rfl
  have x3 : lenOk ((repL [97] 199).length + 1) = true := by rw [repL_len]; rfl
  simp only [runF, Int.cast_ofNat_Int, blsD, List.all, id, startE, fill, cellsOf, endF, ioOf, eSs_nil, eSs_cons, eS_ret, eS_exp, eS_set, eS_setP, eS_put, eS_app, eS_ife, eS_pass, eS_brk, eS_cnt, evT, eE_cst, eE_var, eE_bin, eE_not, eE_cmp, eE_cmp2, eE_and, eE_or, eE_ite, eE_tup, eE_lst, eE_idx, eE_slc, eE_rev, eE_nil, eE_call, eE_calli, eE_bi, eE_me, eE_lrg1, eE_isi, pk, evEs, evPs, evRs, rdE, rdP, rdL, get, put, sto, stoL, bind_ok, M.bind, callN, callIo, retE, fin, finS, finB, biD, bLen, lenD, ofO, truth, partI, slcV, revV, idxV, isNew, List.replicate, cmpD, ltD, isD, binD, Option.map, if_true, if_false, Bool.false_eq_true, Bool.true_eq_false, decide_true, decide_false, List.length_cons, List.length_nil, List.append_nil, List.cons_append, List.nil_append, List.drop_nil, chg, putV, appV, tst, Bool.not_true, Bool.not_false, beq_self_eq_true, bnd, bindP, bindL, plain_s, plain_i, plain_n, plain_b, eqD_s, eqD_i, eqD_b, bAbs, bInt, bMax, bMin, bAll, bAny, Bool.and_true, Bool.true_and, Bool.and_false, Bool.false_and, Nat.sub_self, Nat.zero_add, Nat.reduceAdd, Nat.reduceSub, Nat.reduceBEq, f1012, a1, a2, a3, a4, a5, a6, a7, a8, a9, a10, a11, a12, a13, k1, k2, k3, Nat.one_mul, y1, y2, z1, z2, x1, x2, x3, hw, htb, b1, b2, b3, b4, b5, b6, b7, eE_lrg2, eE_lrg3, v1, v2, v3, k4]
theorem body1_ok (d : Nat) {s : List D} {most letters : Int} (m0 : 0 ≤ most) (m1 : most ≤ 60) (l0 : 1 ≤ letters) (l8 : letters ≤ 8) {c : D} (hc : CupOk c) (t2 t3 : Cell) : ∃ c', (bnd (.tp [(.nm 2), (.nm 3)]) (.tup [.int most, .int letters]) [some (.shr, .scr s), some (.own, c), t2, t3]).bind (fun _ ρ => evSs (clOf T (d + 9)) [(.ife (.not (.tru (.calli 1008 1 [(.bin .add (.calli 1005 1 [(.var 2), (.var 3)]) (.cst (.str [97])))]))) [(.ret (.cst (.bl false)))] [])] ρ) = .ok .nx [some (.shr, .scr s), some (.own, c'), some (.shr, .int most), some (.shr, .int letters)] ∧ CupOk c' := by
  obtain ⟨v, c1, e1, vl, vL, hc1⟩ := word_ok hT.h1001 hT.h1002 hT.h1005 (d + 6) hc m0 (by omega) l0 l8
  have lo1 := lenOk_of (n := v.length + 1) (by omega)
  obtain ⟨c2, e2, hc2⟩ := right_ok hT hR d (w := v ++ [97]) (by simp; omega) ((vL.mono l8).app (letok' (by decide))) (by simp) hc1
  refine ⟨c2, ?_, hc2⟩
  simp only [runF, Int.cast_ofNat_Int, blsD, List.all, id, startE, fill, cellsOf, endF, ioOf, eSs_nil, eSs_cons, eS_ret, eS_exp, eS_set, eS_setP, eS_put, eS_app, eS_ife, eS_pass, eS_brk, eS_cnt, evT, eE_cst, eE_var, eE_bin, eE_not, eE_cmp, eE_cmp2, eE_and, eE_or, eE_ite, eE_tup, eE_lst, eE_idx, eE_slc, eE_rev, eE_nil, eE_call, eE_calli, eE_bi, eE_me, eE_lrg1, eE_isi, pk, evEs, evPs, evRs, rdE, rdP, rdL, get, put, sto, stoL, bind_ok, M.bind, callN, callIo, retE, fin, finS, finB, biD, bLen, lenD, ofO, truth, partI, slcV, revV, idxV, isNew, List.replicate, cmpD, ltD, isD, binD, Option.map, if_true, if_false, Bool.false_eq_true, Bool.true_eq_false, decide_true, decide_false, List.length_cons, List.length_nil, List.append_nil, List.cons_append, List.nil_append, List.drop_nil, chg, putV, appV, tst, Bool.not_true, Bool.not_false, beq_self_eq_true, bnd, bindP, bindL, plain_s, plain_i, plain_n, plain_b, eqD_s, eqD_i, eqD_b, bAbs, bInt, bMax, bMin, bAll, bAny, Bool.and_true, Bool.true_and, Bool.and_false, Bool.false_and, Nat.sub_self, Nat.zero_add, Nat.reduceAdd, Nat.reduceSub, Nat.reduceBEq, e1, lo1, e2]
theorem body2_ok (d : Nat) {s : List D} {most : Int} (m0 : 1 ≤ most) (m1 : most ≤ 200) {c : D} (hc : CupOk c) (t2 t3 : Cell) : ∃ c', (bnd (.nm 2) (.int most) [some (.shr, .scr s), some (.own, c), t2, t3]).bind (fun _ ρ => evSs (clOf T (d + 9)) [(.ife (.not (.tru (.calli 1008 1 [(.calli 1010 1 [(.var 2)])]))) [(.ret (.cst (.bl false)))] [])] ρ) = .ok .nx [some (.shr, .scr s), some (.own, c'), some (.shr, .int most), t3] ∧ CupOk c' := by
  obtain ⟨v, c1, e1, ⟨g1, g2, g3⟩, hc1⟩ := made_ok hT (d + 5) hc m0 m1
  obtain ⟨c2, e2, hc2⟩ := right_ok hT hR d g2 g3 g1 hc1
  refine ⟨c2, ?_, hc2⟩
  simp only [runF, Int.cast_ofNat_Int, blsD, List.all, id, startE, fill, cellsOf, endF, ioOf, eSs_nil, eSs_cons, eS_ret, eS_exp, eS_set, eS_setP, eS_put, eS_app, eS_ife, eS_pass, eS_brk, eS_cnt, evT, eE_cst, eE_var, eE_bin, eE_not, eE_cmp, eE_cmp2, eE_and, eE_or, eE_ite, eE_tup, eE_lst, eE_idx, eE_slc, eE_rev, eE_nil, eE_call, eE_calli, eE_bi, eE_me, eE_lrg1, eE_isi, pk, evEs, evPs, evRs, rdE, rdP, rdL, get, put, sto, stoL, bind_ok, M.bind, callN, callIo, retE, fin, finS, finB, biD, bLen, lenD, ofO, truth, partI, slcV, revV, idxV, isNew, List.replicate, cmpD, ltD, isD, binD, Option.map, if_true, if_false, Bool.false_eq_true, Bool.true_eq_false, decide_true, decide_false, List.length_cons, List.length_nil, List.append_nil, List.cons_append, List.nil_append, List.drop_nil, chg, putV, appV, tst, Bool.not_true, Bool.not_false, beq_self_eq_true, bnd, bindP, bindL, plain_s, plain_i, plain_n, plain_b, eqD_s, eqD_i, eqD_b, bAbs, bInt, bMax, bMin, bAll, bAny, Bool.and_true, Bool.true_and, Bool.and_false, Bool.false_and, Nat.sub_self, Nat.zero_add, Nat.reduceAdd, Nat.reduceSub, Nat.reduceBEq, e1, e2]
theorem law_ok (d : Nat) (ns : List Int) (hn : ns.length ≤ 63) : (clOf T (d + 10)).run 1013 [.scr (ns.map .int)] = .ok false (.bl true) none := by
  rw [run_def hT.h1013]
  have g1 := written_ok hT hR d
  obtain ⟨c0, ec, hc0⟩ := cup_ok hT.h1000 (d + 8) ns hn
  obtain ⟨c1, b1, hc1⟩ := body1_ok hT hR d (s := ns.map .int) (most := 3) (letters := 2) (by decide) (by decide) (by decide) (by decide) hc0 none none
  obtain ⟨c2, b2, hc2⟩ := body1_ok hT hR d (s := ns.map .int) (most := 9) (letters := 2) (by decide) (by decide) (by decide) (by decide) hc1 (some (.shr, .int 3)) (some (.shr, .int 2))
  obtain ⟨c3, b3, hc3⟩ := body1_ok hT hR d (s := ns.map .int) (most := 30) (letters := 2) (by decide) (by decide) (by decide) (by decide) hc2 (some (.shr, .int 9)) (some (.shr, .int 2))
  obtain ⟨c4, b4, hc4⟩ := body1_ok hT hR d (s := ns.map .int) (most := 60) (letters := 3) (by decide) (by decide) (by decide) (by decide) hc3 (some (.shr, .int 30)) (some (.shr, .int 2))
  have L1 : forL (fun x ρ => (bnd (.tp [(.nm 2), (.nm 3)]) x ρ).bind fun _ ρ => evSs (clOf T (d + 9)) [(.ife (.not (.tru (.calli 1008 1 [(.bin .add (.calli 1005 1 [(.var 2), (.var 3)]) (.cst (.str [97])))]))) [(.ret (.cst (.bl false)))] [])] ρ) [.tup [.int 3, .int 2], .tup [.int 9, .int 2], .tup [.int 30, .int 2], .tup [.int 60, .int 3]] [some (.shr, .scr (ns.map .int)), some (.own, c0), none, none] = .ok .nx [some (.shr, .scr (ns.map .int)), some (.own, c4), some (.shr, .int 60), some (.shr, .int 3)] := by
    rw [forL_nx b1, forL_nx b2, forL_nx b3, forL_nx b4, forL_nil]
  have hF1 := for_ok (C := clOf T (d + 9)) (p := (.tp [(.nm 2), (.nm 3)])) (it := (.tup [(.tup [(.cst (.int 3)), (.cst (.int 2))]), (.tup [(.cst (.int 9)), (.cst (.int 2))]), (.tup [(.cst (.int 30)), (.cst (.int 2))]), (.tup [(.cst (.int 60)), (.cst (.int 3))])])) (ρ := [some (.shr, .scr (ns.map .int)), some (.own, c0), none, none]) (ρ1 := [some (.shr, .scr (ns.map .int)), some (.own, c0), none, none]) (by simp only [runF, Int.cast_ofNat_Int, blsD, List.all, id, startE, fill, cellsOf, endF, ioOf, eSs_nil, eSs_cons, eS_ret, eS_exp, eS_set, eS_setP, eS_put, eS_app, eS_ife, eS_pass, eS_brk, eS_cnt, evT, eE_cst, eE_var, eE_bin, eE_not, eE_cmp, eE_cmp2, eE_and, eE_or, eE_ite, eE_tup, eE_lst, eE_idx, eE_slc, eE_rev, eE_nil, eE_call, eE_calli, eE_bi, eE_me, eE_lrg1, eE_isi, pk, evEs, evPs, evRs, rdE, rdP, rdL, get, put, sto, stoL, bind_ok, M.bind, callN, callIo, retE, fin, finS, finB, biD, bLen, lenD, ofO, truth, partI, slcV, revV, idxV, isNew, List.replicate, cmpD, ltD, isD, binD, Option.map, if_true, if_false, Bool.false_eq_true, Bool.true_eq_false, decide_true, decide_false, List.length_cons, List.length_nil, List.append_nil, List.cons_append, List.nil_append, List.drop_nil, chg, putV, appV, tst, Bool.not_true, Bool.not_false, beq_self_eq_true, bnd, bindP, bindL, plain_s, plain_i, plain_n, plain_b, eqD_s, eqD_i, eqD_b, bAbs, bInt, bMax, bMin, bAll, bAny, Bool.and_true, Bool.true_and, Bool.and_false, Bool.false_and, Nat.sub_self, Nat.zero_add, Nat.reduceAdd, Nat.reduceSub, Nat.reduceBEq, itI]) L1
  obtain ⟨c5, b5, hc5⟩ := body2_ok hT hR d (s := ns.map .int) (most := 12) (by decide) (by decide) hc4 (some (.shr, .int 60)) (some (.shr, .int 3))
  obtain ⟨c6, b6, hc6⟩ := body2_ok hT hR d (s := ns.map .int) (most := 60) (by decide) (by decide) hc5 (some (.shr, .int 12)) (some (.shr, .int 3))
  obtain ⟨c7, b7, hc7⟩ := body2_ok hT hR d (s := ns.map .int) (most := 200) (by decide) (by decide) hc6 (some (.shr, .int 60)) (some (.shr, .int 3))
  have L2 : forL (fun x ρ => (bnd (.nm 2) x ρ).bind fun _ ρ => evSs (clOf T (d + 9)) [(.ife (.not (.tru (.calli 1008 1 [(.calli 1010 1 [(.var 2)])]))) [(.ret (.cst (.bl false)))] [])] ρ) [.int 12, .int 60, .int 200] [some (.shr, .scr (ns.map .int)), some (.own, c4), some (.shr, .int 60), some (.shr, .int 3)] = .ok .nx [some (.shr, .scr (ns.map .int)), some (.own, c7), some (.shr, .int 200), some (.shr, .int 3)] := by
    rw [forL_nx b5, forL_nx b6, forL_nx b7, forL_nil]
  have hF2 := for_ok (C := clOf T (d + 9)) (p := (.nm 2)) (it := (.tup [(.cst (.int 12)), (.cst (.int 60)), (.cst (.int 200))])) (ρ := [some (.shr, .scr (ns.map .int)), some (.own, c4), some (.shr, .int 60), some (.shr, .int 3)]) (ρ1 := [some (.shr, .scr (ns.map .int)), some (.own, c4), some (.shr, .int 60), some (.shr, .int 3)]) (by simp only [runF, Int.cast_ofNat_Int, blsD, List.all, id, startE, fill, cellsOf, endF, ioOf, eSs_nil, eSs_cons, eS_ret, eS_exp, eS_set, eS_setP, eS_put, eS_app, eS_ife, eS_pass, eS_brk, eS_cnt, evT, eE_cst, eE_var, eE_bin, eE_not, eE_cmp, eE_cmp2, eE_and, eE_or, eE_ite, eE_tup, eE_lst, eE_idx, eE_slc, eE_rev, eE_nil, eE_call, eE_calli, eE_bi, eE_me, eE_lrg1, eE_isi, pk, evEs, evPs, evRs, rdE, rdP, rdL, get, put, sto, stoL, bind_ok, M.bind, callN, callIo, retE, fin, finS, finB, biD, bLen, lenD, ofO, truth, partI, slcV, revV, idxV, isNew, List.replicate, cmpD, ltD, isD, binD, Option.map, if_true, if_false, Bool.false_eq_true, Bool.true_eq_false, decide_true, decide_false, List.length_cons, List.length_nil, List.append_nil, List.cons_append, List.nil_append, List.drop_nil, chg, putV, appV, tst, Bool.not_true, Bool.not_false, beq_self_eq_true, bnd, bindP, bindL, plain_s, plain_i, plain_n, plain_b, eqD_s, eqD_i, eqD_b, bAbs, bInt, bMax, bMin, bAll, bAny, Bool.and_true, Bool.true_and, Bool.and_false, Bool.false_and, Nat.sub_self, Nat.zero_add, Nat.reduceAdd, Nat.reduceSub, Nat.reduceBEq, itI]) L2
  obtain ⟨v, c8, e8, ⟨h1, h2, h3⟩, hc8⟩ := grown_ok hT (d + 5) hc7
  obtain ⟨c9, e9, hc9⟩ := right_ok hT hR d h2 h3 h1 hc8
  simp only [runF, Int.cast_ofNat_Int, blsD, List.all, id, startE, fill, cellsOf, endF, ioOf, eSs_nil, eSs_cons, eS_ret, eS_exp, eS_set, eS_setP, eS_put, eS_app, eS_ife, eS_pass, eS_brk, eS_cnt, evT, eE_cst, eE_var, eE_bin, eE_not, eE_cmp, eE_cmp2, eE_and, eE_or, eE_ite, eE_tup, eE_lst, eE_idx, eE_slc, eE_rev, eE_nil, eE_call, eE_calli, eE_bi, eE_me, eE_lrg1, eE_isi, pk, evEs, evPs, evRs, rdE, rdP, rdL, get, put, sto, stoL, bind_ok, M.bind, callN, callIo, retE, fin, finS, finB, biD, bLen, lenD, ofO, truth, partI, slcV, revV, idxV, isNew, List.replicate, cmpD, ltD, isD, binD, Option.map, if_true, if_false, Bool.false_eq_true, Bool.true_eq_false, decide_true, decide_false, List.length_cons, List.length_nil, List.append_nil, List.cons_append, List.nil_append, List.drop_nil, chg, putV, appV, tst, Bool.not_true, Bool.not_false, beq_self_eq_true, bnd, bindP, bindL, plain_s, plain_i, plain_n, plain_b, eqD_s, eqD_i, eqD_b, bAbs, bInt, bMax, bMin, bAll, bAny, Bool.and_true, Bool.true_and, Bool.and_false, Bool.false_and, Nat.sub_self, Nat.zero_add, Nat.reduceAdd, Nat.reduceSub, Nat.reduceBEq, f1013, g1, ec, hF1, hF2, e8, e9]
end
theorem plainLaw' {T : Tb} (hT : Has T) (hR : HasS T) (ns : List Int) (h : ns.length ≤ 63) : (clOf T 60).run 1013 [.scr (ns.map .int)] = .ok false (.bl true) none := law_ok hT hR 50 ns h
end Py

namespace Py
theorem hasS_tb : HasS tb := ⟨rfl, rfl, rfl, rfl, rfl, rfl, by decide⟩
theorem plainLaw (ns : List Int) (h : ns.length ≤ 63) : (clOf tb 60).run 1013 [.scr (ns.map .int)] = .ok false (.bl true) none := plainLaw' has_tb hasS_tb ns h
end Py

namespace Py
open PySem PySem.Spec PyProof.Rows L2
theorem okT : lay.L.map (fun p => tb.fd p.1) = lay.L.map fun p => some p.2.fd := by kernel_rfl
theorem okC : (lay.L.all fun p => diC lay.gl p.2 && decide (p.2.d.at_ = (p.2.d.name, none))) = true := by kernel_rfl
theorem okS' : (lay.cS.all fun p => okSB p.2) = true := by kernel_rfl
theorem okB : lay.L.map (fun p => p.2.fd.body) = lay.L.map fun p => trSs 400 (scOf lay.gl p.2) p.2.d.body := by kernel_rfl
theorem layOk : lay.Ok tb := ⟨okT, okC, okB, okS', bindAll⟩
abbrev R : PySem.W.OpenRow := PySem.W.OpenLaw.row PySem.Challenge.rw_wordslaid_k03_whole_borders_and_periods
abbrev hk : PySem.W.Hook := He.hookD 4 lay.fa lay.fn
def ob (s : PySem.W.SharedT) : He.AlD := He.obsDG 4 lay.fa lay.fn (HandSHeadRun.getT s)
theorem ob_eq (s : PySem.W.SharedT) : ob s = hk.obs s.abs := He.obsDG_eq (HandSHeadRun.getT_eq s)
def loose : List PySem.Str := (["WordError", "InvalidWord", "InvalidNumber", "LETTERS", "MOST", "is_integer", "is_whole", "need_whole", "is_string_of", "fits_word", "need_word", "need_words", "need_bare_word", "is_word", "backwards", "is_beginning", "is_end", "border_row_in", "borders_in", "periods_in", "alike_row_in", "break_in", "need_period", "borders_of", "periods_of", "greatest_border", "least_period", "border_row", "alike_row", "has_period"] : List PySem.Str) ++ (["period_break", "_law_cup", "_law_roll", "_law_some", "_law_sort", "_law_like", "_law_word", "_law_periods", "_law_part", "_law_right", "_law_rows_right", "_law_made", "_law_grown", "_law_written"] : List PySem.Str)
theorem run (w : World) : HandSHeadRun.RunEq R (PySem.W.view R.prog [48]) hk ob 20000 loose w := by
  intro os
  kernel_rfl
end Py

namespace Py
theorem lawIn : (1013, e1013) ∈ lay.L := by unfold lay; simp
theorem pureLaw (ns : List Int) (h : ns.length ≤ 63) : evCall tb 60 1013 [.scr (ns.map .int)] = .ok false (.bl true) none := plainLaw ns h
end Py

open PySem PySem.W PySem.Calls PyProof.Rows
theorem PySem.Challenge.cw_wordslaid_k03_whole_borders_and_periods_holds : PySem.Challenge.rw_wordslaid_k03_whole_borders_and_periods.Holds := by
  w_on; o_law
  refine HandSHeadRun.head_any (r := OpenLaw.row PySem.Challenge.rw_wordslaid_k03_whole_borders_and_periods) (q := view (OpenLaw.row PySem.Challenge.rw_wordslaid_k03_whole_borders_and_periods).prog [48]) (H := Py.hk) (ob := Py.ob) (M := 20000) (loose := Py.loose) (d := HandSHeadRun.topDef (OpenLaw.row PySem.Challenge.rw_wordslaid_k03_whole_borders_and_periods).prog 48) (kwd := []) Py.ob_eq
    (by kernel_rfl) (fun s => by kernel_rfl) Py.run (by kernel_rfl) (by kernel_rfl) (by kernel_rfl) (by rfl) (by first | assumption | decide +kernel) (by decide +kernel) ⟨rfl, rfl, rfl, rfl, rfl, by decide +kernel⟩ ?hw ?hc
  case hw => w_witness2
  case hc =>
    refine L2.walk_ofE (l := PySem.Challenge.rw_wordslaid_k03_whole_borders_and_periods) (n := 63) (k := 60) (x := "script") (CX := C8.CX0) rfl (by decide) (by kernel_rfl) ⟨rfl, by decide, by decide⟩ ?F (fun _ _ _ _ z => z)
    intro w mg fa h Y G hmg0
    obtain ⟨K, KX, c⟩ := Y
    have hmg : mg ("law" : PySem.Str) = some (.ref fa) := by
      have e : (HandSHeadRun.topDef (OpenLaw.row PySem.Challenge.rw_wordslaid_k03_whole_borders_and_periods).prog 48).name = ("law" : PySem.Str) := by kernel_rfl
      rw [← e]
      exact hmg0
    obtain ⟨fd, hb, hm, F⟩ := Py.Lay.law (P := (OpenLaw.row PySem.Challenge.rw_wordslaid_k03_whole_borders_and_periods).prog) (w := w) (d := 60) (law := 1013) (i := Py.e1013) (n := 63) Py.layOk KX G c Py.lawIn rfl rfl rfl Py.pureLaw
    have e := hm.symm.trans hmg
    have e : He.fAd K Py.e1013.d.at_ = fa := by cases e; rfl
    subst e
    exact ⟨K, fd, Py.spLaw K 63, KX, hb, fun H a ns hl _ hS => ⟨a, ns, rfl, hS, hl, fun _ => rfl⟩, fun base _ _ => F base⟩
